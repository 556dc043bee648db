import Derived.Test.YtehbnnmokbgiiaaGreatDie
import Derived.Test.YtehbnnmokbgiiaaGreatProg
import Derived.KernelRfl
import Derived.Laws.Externs
/- Numbers: told by functions on data. No conditions. -/
/-! The seat's program, for the interpreter: its types, and that its tables are right. -/
set_option linter.unusedVariables false
namespace Go.DI.S
open Go.Proofs

noncomputable def eqT : TypeId → Option (List (TypeId × Nat))
  | 24 => some [(22, 0), (22, 1)]
  | 39 => some [(3,0),(24,1),(22,3),(24,4),(24,6)]
  | 95 => some [(3,0),(3,1),(22,2)]
  | _ => none
noncomputable def isFnT (g : Nat) : Bool := Nat.blt g 334 && !(Nat.beq g 220 || (Nat.beq g 278 || Nat.blt g 2))
/-- With so many blocks that keep their names. -/
noncomputable def CTp (p : Nat) : Cfg := ⟨Tryz.prog, isFnT, eqT, p⟩
noncomputable abbrev CT : Cfg := CTp 0
abbrev I := Ty.int .i64
abbrev tVec : Ty := .pair I I
abbrev tBody : Ty := .pair I (.pair tVec (.pair I (.pair tVec tVec)))
abbrev tJoint : Ty := .pair I (.pair I I)
abbrev tThing : Ty := .pair I (.pair I (.pair tBody (.pair tJoint (.list I))))
abbrev tScene : Ty := .pair tVec (.pair I (.list tThing))
abbrev tWorld : Ty := .pair tVec (.pair (.list tBody) (.list tJoint))
abbrev tHit : Ty := .pair tVec I
abbrev tBox : Ty := .pair tVec tVec
abbrev tPair : Ty := .pair I I
abbrev Vec := tVec.El
abbrev Body := tBody.El
abbrev Joint := tJoint.El
abbrev Thing := tThing.El
abbrev Scene := tScene.El
abbrev World' := tWorld.El
abbrev Hit := tHit.El
abbrev Box := tBox.El
abbrev Pair := tPair.El
noncomputable def tyT : TypeId → Option Ty
  | 3 => some I
  | 4 => some .bool
  | 5 => some (.int .u8)
  | 24 => some tVec
  | 39 => some tBody
  | 95 => some tJoint
  | 98 => some tThing
  | 131 => some tBox
  | 204 => some tPair
  | _ => none
noncomputable def mpT : TypeId → Option (Ty × Ty)
  | 188 => some (I, I)
  | 247 => some (I, .bool)
  | _ => none
def slotR (s : AS) (t : Nat) : Nat := match s.r[t]? with
  | some (.ptr k _) => k
  | some (.map k) => k
  | some (.orow _ k) => k
  | _ => 0
/-- The block that a variable's cell names. -/
def slotC (s : AS) (t o : Nat) : Nat := match s.r[t]? with
  | some (.ptr k _) => match s.h[k]? with
    | some (some (.cells _ cs)) => match cs[o]? with
      | some (.orow _ j) => j
      | some (.map j) => j
      | some (.ptr j _) => j
      | _ => 0
    | _ => 0
  | _ => 0
/-- The block that a cell of a block names. -/
def slotH (s : AS) (k o : Nat) : Nat := match s.h[k]? with
  | some (some (.cells _ cs)) => match cs[o]? with
    | some (.orow _ j) => j
    | some (.map j) => j
    | some (.ptr j _) => j
    | _ => 0
  | _ => 0
/-- The block that a closure's first captured address names, and the one that its cell names. -/
def slotF (s : AS) (t : Nat) : Nat := match s.r[t]? with
  | some (.func _ _ (.ptr k _ :: _)) => k
  | _ => 0
def slotG (s : AS) (t : Nat) : Nat := slotH s (slotF s t) 0
def slotFk (s : AS) (t k : Nat) : Nat := match s.r[t]? with
  | some (.func _ _ caps) => match caps[k]? with
    | some (.ptr j _) => j
    | _ => 0
  | _ => 0
def fuel : Nat := 18446744073709551616
def atLoop (c : Code) (k : Nat) : Code := match (loopsOf c).find? (fun p => Nat.beq p.1 k) with
  | some p => p.2
  | none => .skip
noncomputable def fnGood (g : Nat) : Bool := match Tryz.prog.funcs[g]? with
  | some f => !(f.name == "runtime.NumGoroutine") && !f.body.isNone
  | none => false
theorem fnGood_all : (List.range 334).all (fun g => (Nat.beq g 220 || (Nat.beq g 278 || Nat.blt g 2)) || fnGood g) = true := by kernel_rfl
theorem eqP : ∀ t ∈ [24, 39, 95], (Tryz.prog.stoodInHeld t = false ∧ Tryz.prog.eqGuardType Tryz.prog.depth t = false ∧ Tryz.prog.underlying t = some (.struct (Tryz.prog.fieldsOf t)) ∧
    some (((Tryz.prog.fieldsOf t).toList.filter (fun f => decide (f.name ≠ "_"))).map (fun f => (f.type, f.offset))) = eqT t) := by
  intro t ht
  simp only [List.mem_cons, List.mem_nil_iff, or_false] at ht
  rcases ht with rfl | rfl | rfl
  · exact ⟨by kernel_rfl, by kernel_rfl, by kernel_rfl, by kernel_rfl⟩
  · exact ⟨by kernel_rfl, by kernel_rfl, by kernel_rfl, by kernel_rfl⟩
  · exact ⟨by kernel_rfl, by kernel_rfl, by kernel_rfl, by kernel_rfl⟩
theorem CTp_ok (p : Nat) : (CTp p).Ok where
  fn := by
    intro g hg
    have hg : (g < 334) ∧ (Nat.beq g 220 || (Nat.beq g 278 || Nat.blt g 2)) = false := by
      have hg : (Nat.blt g 334 && !(Nat.beq g 220 || (Nat.beq g 278 || Nat.blt g 2))) = true := hg
      rw [Bool.and_eq_true, Nat.blt_eq] at hg
      exact ⟨hg.1, by simpa using hg.2⟩
    have h := List.all_eq_true.1 fnGood_all g (List.mem_range.2 hg.1)
    rw [hg.2, Bool.false_or] at h
    unfold fnGood at h
    show ∃ f, Tryz.prog.funcs[g]? = some f ∧ _
    split at h
    · rename_i f hf
      refine ⟨f, hf, ?_⟩
      simpa using h
    · cases h
  eq := by
    intro t l h
    have ht : t ∈ [24, 39, 95] := by
      have h : eqT t = some l := h
      unfold eqT at h
      split at h <;> first | (simp; done) | cases h
    obtain ⟨h1, h2, h3, h4⟩ := eqP t ht
    refine ⟨h1, h2, h3, ?_⟩
    have h : eqT t = some l := h
    rw [h] at h4
    exact Option.some.inj h4
  mixed := by kernel_rfl
theorem CT_ok : CT.Ok := CTp_ok 0
end Go.DI.S

/-! math/bits.Add64: the machine stands in for it. -/
set_option linter.unusedVariables false
set_option linter.unusedSimpArgs false
namespace Go.DI.S
open Go.Proofs
def add64A {β : Type} (args : List AV) (K : AV → Option β) : Option β := match args with
  | [.int .u64 x, .int .u64 y, .int .u64 c] => bif decide (0 ≤ x ∧ 0 ≤ y ∧ 0 ≤ c ∧ c ≤ 1) then K (.tup [.int .u64 ((x + y + c) % 18446744073709551616), .int .u64 ((x + y + c) / 18446744073709551616)]) else none
  | _ => none
noncomputable def E_220 : Ent := .ext 220 ⟨fun args K => add64A args K⟩
theorem e_220 : E_220.Ok CT.P := by
  intro β args K z h
  have h : add64A args K = some z := h
  unfold add64A at h
  split at h
  · rename_i x y c _
    cases hc : decide (0 ≤ x ∧ 0 ≤ y ∧ 0 ≤ c ∧ c ≤ 1) with
    | false => rw [hc] at h; cases h
    | true =>
      rw [hc] at h
      have hc := of_decide_eq_true hc
      refine ⟨_, h, fun w R ρ us hv => ?_⟩
      obtain ⟨u1, us1, e1, v1, k1⟩ := hv.cons_inv
      obtain ⟨u2, us2, rfl, v2, k2⟩ := k1.cons_inv
      obtain ⟨u3, us3, rfl, v3, k3⟩ := k2.cons_inv
      obtain rfl := k3.nil_inv
      cases v1
      cases v2
      cases v3
      have hu : us = #[.int .u64 x, .int .u64 y, .int .u64 c] := Array.toList_inj.1 (by simpa using e1)
      subst hu
      refine ⟨_, ?_, .tup' (us := #[_, _]) (.cons (.int _ _) (.cons (.int _ _) .nil))⟩
      show (callFunc 220 _).run Tryz.prog w = _
      rw [run_callFunc_extern Tryz.func220 (by kernel_rfl) (by kernel_rfl) (by kernel_rfl) (e := add64Entry) (by kernel_rfl), run_add64 x y c hc.1 hc.2.1 hc.2.2.1 hc.2.2.2]
      rfl
  · cases h
end Go.DI.S

/-! The program's functions, told by functions on data. -/
set_option linter.unusedVariables false
set_option maxRecDepth 100000
set_option maxHeartbeats 0
namespace Go.DI.S
open Go.Proofs
/-- How many bits a byte has. -/
noncomputable def tab8 : List UInt8 := [0, 1, 2, 2, 3, 3, 3, 3, 4, 4, 4, 4, 4, 4, 4, 4, 5, 5, 5, 5, 5, 5, 5, 5, 5, 5, 5, 5, 5, 5, 5, 5, 6, 6, 6, 6, 6, 6, 6, 6, 6, 6, 6, 6, 6, 6, 6, 6, 6, 6, 6, 6, 6, 6, 6, 6, 6, 6, 6, 6, 6, 6, 6, 6, 7, 7, 7, 7, 7, 7, 7, 7, 7, 7, 7, 7, 7, 7, 7, 7, 7, 7, 7, 7, 7, 7, 7, 7, 7, 7, 7, 7, 7, 7, 7, 7, 7, 7, 7, 7, 7, 7, 7, 7, 7, 7, 7, 7, 7, 7, 7, 7, 7, 7, 7, 7, 7, 7, 7, 7, 7, 7, 7, 7, 7, 7, 7, 7, 8, 8, 8, 8, 8, 8, 8, 8, 8, 8, 8, 8, 8, 8, 8, 8, 8, 8, 8, 8, 8, 8, 8, 8, 8, 8, 8, 8, 8, 8, 8, 8, 8, 8, 8, 8, 8, 8, 8, 8, 8, 8, 8, 8, 8, 8, 8, 8, 8, 8, 8, 8, 8, 8, 8, 8, 8, 8, 8, 8, 8, 8, 8, 8, 8, 8, 8, 8, 8, 8, 8, 8, 8, 8, 8, 8, 8, 8, 8, 8, 8, 8, 8, 8, 8, 8, 8, 8, 8, 8, 8, 8, 8, 8, 8, 8, 8, 8, 8, 8, 8, 8, 8, 8, 8, 8, 8, 8, 8, 8, 8, 8, 8, 8, 8, 8, 8, 8, 8, 8, 8, 8, 8, 8, 8, 8, 8, 8]
/-! ### 216: maquette/calc.must -/
noncomputable def c_216 : Code := Tryz.f216.body.getD .skip
theorem hb_216 : Tryz.f216.body = some c_216 := by kernel_rfl
theorem hf_216 : CT.P.funcs[216]? = some Tryz.f216 := by kernel_rfl
noncomputable def T_216 : Tb := mkTb tyT mpT []
theorem T_216_ok : T_216.Ok CT.P := mkTb_ok (trivial)
noncomputable def lp_216 {β : Type} : LpT β := fun _ _ _ => none
theorem lp_216_ok {β : Type} : LpTOk CT (lp_216 (β := β)) (loopsOf c_216) := by
  have h : loopsOf c_216 = [] := by kernel_rfl
  rw [h]
  exact LpTOk.nil
noncomputable def F_216 (a1 : Ty.El I) (a2 : Ty.El I) : Option (Els [I] ⊕ Int) := bif a2 != (0 : Int) then Option.some (Sum.inr a2) else Option.some (Sum.inl (a1, ()))
theorem f_216 (x : Ps [.ty I, .ty I]) : funcP CT T_216 251 [I] (drT CT T_216) lp_216 Tryz.f216 c_216 (encPs [.ty I, .ty I] x) = F_216 x.1 x.2.1 := by kernel_rfl
noncomputable def E_216 : Ent := .mkFnP 216 [] ⟨251, [.ty I, .ty I], [I], fun x => F_216 x.1 x.2.1, false⟩
theorem e_216 : E_216.Ok CT.P := Ent.ofFnP CT_ok T_216_ok hf_216 hb_216 lp_216_ok f_216
noncomputable def E_216h : Ent := .mkFnP 216 [] ⟨251, [.ty I, .ty I], [I], fun x => F_216 x.1 x.2.1, true⟩
/-! ### 217: maquette/fix.Add -/
noncomputable def c_217 : Code := Tryz.f217.body.getD .skip
theorem hb_217 : Tryz.f217.body = some c_217 := by kernel_rfl
theorem hf_217 : CT.P.funcs[217]? = some Tryz.f217 := by kernel_rfl
noncomputable def T_217 : Tb := mkTb tyT mpT []
theorem T_217_ok : T_217.Ok CT.P := mkTb_ok (trivial)
noncomputable def lp_217 {β : Type} : LpT β := fun _ _ _ => none
theorem lp_217_ok {β : Type} : LpTOk CT (lp_217 (β := β)) (loopsOf c_217) := by
  have h : loopsOf c_217 = [] := by kernel_rfl
  rw [h]
  exact LpTOk.nil
noncomputable def F_217 (a1 : Ty.El I) (a2 : Ty.El I) : Option (Els [I, I]) := bif Decidable.decide (a1 < (0 : Int)) == Decidable.decide (a2 < (0 : Int)) then bif !Decidable.decide (Go.IntKind.i64.wrap (a1 + a2) < (0 : Int)) == Decidable.decide (a1 < (0 : Int)) then Option.some ((0 : Int), (3 : Int), ()) else Option.some (Go.IntKind.i64.wrap (a1 + a2), (0 : Int), ()) else Option.some (Go.IntKind.i64.wrap (a1 + a2), (0 : Int), ())
theorem f_217 (x : Ps [.ty I, .ty I]) : funcT CT T_217 [I, I] (drT CT T_217) lp_217 Tryz.f217 c_217 (encPs [.ty I, .ty I] x) = F_217 x.1 x.2.1 := by kernel_rfl
noncomputable def E_217 : Ent := .fn 217 [] ⟨[.ty I, .ty I], [I, I], fun x => F_217 x.1 x.2.1, false⟩
theorem e_217 : E_217.Ok CT.P := Ent.ofFn CT_ok T_217_ok hf_217 hb_217 lp_217_ok f_217
noncomputable def E_217h : Ent := .fn 217 [] ⟨[.ty I, .ty I], [I, I], fun x => F_217 x.1 x.2.1, true⟩
/-! ### 284: maquette/fix.Sub -/
noncomputable def c_284 : Code := Tryz.f284.body.getD .skip
theorem hb_284 : Tryz.f284.body = some c_284 := by kernel_rfl
theorem hf_284 : CT.P.funcs[284]? = some Tryz.f284 := by kernel_rfl
noncomputable def T_284 : Tb := mkTb tyT mpT []
theorem T_284_ok : T_284.Ok CT.P := mkTb_ok (trivial)
noncomputable def lp_284 {β : Type} : LpT β := fun _ _ _ => none
theorem lp_284_ok {β : Type} : LpTOk CT (lp_284 (β := β)) (loopsOf c_284) := by
  have h : loopsOf c_284 = [] := by kernel_rfl
  rw [h]
  exact LpTOk.nil
noncomputable def F_284 (a1 : Ty.El I) (a2 : Ty.El I) : Option (Els [I, I]) := bif !Decidable.decide (a1 < (0 : Int)) == Decidable.decide (a2 < (0 : Int)) then bif !Decidable.decide (Go.IntKind.i64.wrap (a1 - a2) < (0 : Int)) == Decidable.decide (a1 < (0 : Int)) then Option.some ((0 : Int), (3 : Int), ()) else Option.some (Go.IntKind.i64.wrap (a1 - a2), (0 : Int), ()) else Option.some (Go.IntKind.i64.wrap (a1 - a2), (0 : Int), ())
theorem f_284 (x : Ps [.ty I, .ty I]) : funcT CT T_284 [I, I] (drT CT T_284) lp_284 Tryz.f284 c_284 (encPs [.ty I, .ty I] x) = F_284 x.1 x.2.1 := by kernel_rfl
noncomputable def E_284 : Ent := .fn 284 [] ⟨[.ty I, .ty I], [I, I], fun x => F_284 x.1 x.2.1, false⟩
theorem e_284 : E_284.Ok CT.P := Ent.ofFn CT_ok T_284_ok hf_284 hb_284 lp_284_ok f_284
noncomputable def E_284h : Ent := .fn 284 [] ⟨[.ty I, .ty I], [I, I], fun x => F_284 x.1 x.2.1, true⟩
/-! ### 306: maquette/fix.parts -/
noncomputable def c_306 : Code := Tryz.f306.body.getD .skip
theorem hb_306 : Tryz.f306.body = some c_306 := by kernel_rfl
theorem hf_306 : CT.P.funcs[306]? = some Tryz.f306 := by kernel_rfl
noncomputable def T_306 : Tb := mkTb tyT mpT []
theorem T_306_ok : T_306.Ok CT.P := mkTb_ok (trivial)
noncomputable def lp_306 {β : Type} : LpT β := fun _ _ _ => none
theorem lp_306_ok {β : Type} : LpTOk CT (lp_306 (β := β)) (loopsOf c_306) := by
  have h : loopsOf c_306 = [] := by kernel_rfl
  rw [h]
  exact LpTOk.nil
noncomputable def F_306 (a1 : Ty.El I) : Option (Els [.bool, .int .u64]) := bif Decidable.decide (a1 < (0 : Int)) then Option.some (Bool.true, Go.IntKind.u64.wrap ((0 : Int) - Go.IntKind.u64.wrap a1), ()) else Option.some (Bool.false, Go.IntKind.u64.wrap a1, ())
theorem f_306 (x : Ps [.ty I]) : funcT CT T_306 [.bool, .int .u64] (drT CT T_306) lp_306 Tryz.f306 c_306 (encPs [.ty I] x) = F_306 x.1 := by kernel_rfl
noncomputable def E_306 : Ent := .fn 306 [] ⟨[.ty I], [.bool, .int .u64], fun x => F_306 x.1, false⟩
theorem e_306 : E_306.Ok CT.P := Ent.ofFn CT_ok T_306_ok hf_306 hb_306 lp_306_ok f_306
noncomputable def E_306h : Ent := .fn 306 [] ⟨[.ty I], [.bool, .int .u64], fun x => F_306 x.1, true⟩
/-! ### 307: maquette/fix.whole -/
noncomputable def c_307 : Code := Tryz.f307.body.getD .skip
theorem hb_307 : Tryz.f307.body = some c_307 := by kernel_rfl
theorem hf_307 : CT.P.funcs[307]? = some Tryz.f307 := by kernel_rfl
noncomputable def T_307 : Tb := mkTb tyT mpT []
theorem T_307_ok : T_307.Ok CT.P := mkTb_ok (trivial)
noncomputable def lp_307 {β : Type} : LpT β := fun _ _ _ => none
theorem lp_307_ok {β : Type} : LpTOk CT (lp_307 (β := β)) (loopsOf c_307) := by
  have h : loopsOf c_307 = [] := by kernel_rfl
  rw [h]
  exact LpTOk.nil
noncomputable def F_307 (a1 : Ty.El .bool) (a2 : Ty.El (.int .u64)) : Option (Els [I, I]) := bif a1 then bif Decidable.decide (a2 ≤ (9223372036854775808 : Int)) then Option.some (Go.IntKind.i64.wrap (Go.IntKind.u64.wrap ((0 : Int) - a2)), (0 : Int), ()) else bif !a1 then bif Decidable.decide (a2 < (9223372036854775808 : Int)) then Option.some (Go.IntKind.i64.wrap a2, (0 : Int), ()) else Option.some ((0 : Int), (3 : Int), ()) else Option.some ((0 : Int), (3 : Int), ()) else bif !a1 then bif Decidable.decide (a2 < (9223372036854775808 : Int)) then Option.some (Go.IntKind.i64.wrap a2, (0 : Int), ()) else Option.some ((0 : Int), (3 : Int), ()) else Option.some ((0 : Int), (3 : Int), ())
theorem f_307 (x : Ps [.ty .bool, .ty (.int .u64)]) : funcT CT T_307 [I, I] (drT CT T_307) lp_307 Tryz.f307 c_307 (encPs [.ty .bool, .ty (.int .u64)] x) = F_307 x.1 x.2.1 := by kernel_rfl
noncomputable def E_307 : Ent := .fn 307 [] ⟨[.ty .bool, .ty (.int .u64)], [I, I], fun x => F_307 x.1 x.2.1, false⟩
theorem e_307 : E_307.Ok CT.P := Ent.ofFn CT_ok T_307_ok hf_307 hb_307 lp_307_ok f_307
noncomputable def E_307h : Ent := .fn 307 [] ⟨[.ty .bool, .ty (.int .u64)], [I, I], fun x => F_307 x.1 x.2.1, true⟩
/-! ### 218: math/bits.Mul64 -/
noncomputable def c_218 : Code := Tryz.f218.body.getD .skip
theorem hb_218 : Tryz.f218.body = some c_218 := by kernel_rfl
theorem hf_218 : CT.P.funcs[218]? = some Tryz.f218 := by kernel_rfl
noncomputable def T_218 : Tb := mkTb tyT mpT []
theorem T_218_ok : T_218.Ok CT.P := mkTb_ok (trivial)
noncomputable def lp_218 {β : Type} : LpT β := fun _ _ _ => none
theorem lp_218_ok {β : Type} : LpTOk CT (lp_218 (β := β)) (loopsOf c_218) := by
  have h : loopsOf c_218 = [] := by kernel_rfl
  rw [h]
  exact LpTOk.nil
noncomputable def F_218 (a1 : Ty.El (.int .u64)) (a2 : Ty.El (.int .u64)) : Option (Els [.int .u64, .int .u64]) := Option.some (Go.IntKind.u64.wrap (Go.IntKind.u64.wrap (Go.IntKind.u64.wrap (Int.fdiv a1 (4294967296 : Int) * Int.fdiv a2 (4294967296 : Int)) + (Go.IntKind.u64.wrap (Go.IntKind.u64.wrap (Int.fdiv a1 (4294967296 : Int) * Go.DI.bAnd Go.IntKind.u64 a2 (4294967295 : Int)) + (Go.IntKind.u64.wrap (Go.DI.bAnd Go.IntKind.u64 a1 (4294967295 : Int) * Go.DI.bAnd Go.IntKind.u64 a2 (4294967295 : Int))).fdiv (4294967296 : Int))).fdiv (4294967296 : Int)) + (Go.IntKind.u64.wrap (Go.DI.bAnd Go.IntKind.u64 (Go.IntKind.u64.wrap (Go.IntKind.u64.wrap (Int.fdiv a1 (4294967296 : Int) * Go.DI.bAnd Go.IntKind.u64 a2 (4294967295 : Int)) + (Go.IntKind.u64.wrap (Go.DI.bAnd Go.IntKind.u64 a1 (4294967295 : Int) * Go.DI.bAnd Go.IntKind.u64 a2 (4294967295 : Int))).fdiv (4294967296 : Int))) (4294967295 : Int) + Go.IntKind.u64.wrap (Go.DI.bAnd Go.IntKind.u64 a1 (4294967295 : Int) * Int.fdiv a2 (4294967296 : Int)))).fdiv (4294967296 : Int)), Go.IntKind.u64.wrap (a1 * a2), ())
theorem f_218 (x : Ps [.ty (.int .u64), .ty (.int .u64)]) : funcT CT T_218 [.int .u64, .int .u64] (drT CT T_218) lp_218 Tryz.f218 c_218 (encPs [.ty (.int .u64), .ty (.int .u64)] x) = F_218 x.1 x.2.1 := by kernel_rfl
noncomputable def E_218 : Ent := .fn 218 [] ⟨[.ty (.int .u64), .ty (.int .u64)], [.int .u64, .int .u64], fun x => F_218 x.1 x.2.1, false⟩
theorem e_218 : E_218.Ok CT.P := Ent.ofFn CT_ok T_218_ok hf_218 hb_218 lp_218_ok f_218
noncomputable def E_218h : Ent := .fn 218 [] ⟨[.ty (.int .u64), .ty (.int .u64)], [.int .u64, .int .u64], fun x => F_218 x.1 x.2.1, true⟩
/-! ### 254: math/bits.Len32 -/
noncomputable def c_254 : Code := Tryz.f254.body.getD .skip
theorem hb_254 : Tryz.f254.body = some c_254 := by kernel_rfl
theorem hf_254 : CT.P.funcs[254]? = some Tryz.f254 := by kernel_rfl
noncomputable def T_254 : Tb := mkTb tyT mpT []
theorem T_254_ok : T_254.Ok CT.P := mkTb_ok (trivial)
noncomputable def lp_254 {β : Type} : LpT β := fun _ _ _ => none
theorem lp_254_ok {β : Type} : LpTOk CT (lp_254 (β := β)) (loopsOf c_254) := by
  have h : loopsOf c_254 = [] := by kernel_rfl
  rw [h]
  exact LpTOk.nil
noncomputable def len8 (n x : Int) : Option (Els [I]) :=
  bif Decidable.decide ((0 : Int) ≤ Go.IntKind.u8.wrap x ∧ Go.IntKind.u8.wrap x < (256 : Int)) then
    Option.some (Go.IntKind.i64.wrap (n + Go.IntKind.i64.wrap (((tab8.getD (Go.IntKind.u8.wrap x).toNat (0 : UInt8)).toBitVec.toFin.1 : Nat) : Int)), ())
  else Option.none
noncomputable def len16 (n x : Int) : Option (Els [I]) := bif Decidable.decide (x ≥ (256 : Int)) then len8 (Go.IntKind.i64.wrap (n + 8)) (Int.fdiv x (256 : Int)) else len8 n x
noncomputable def len32 (n x : Int) : Option (Els [I]) := bif Decidable.decide (x ≥ (65536 : Int)) then len16 (Go.IntKind.i64.wrap (n + 16)) (Int.fdiv x (65536 : Int)) else len16 n x
noncomputable def F_254 (a1 : Ty.El (.int .u32)) : Option (Els [I]) := bif Decidable.decide (a1 ≥ (65536 : Int)) then len16 16 (Int.fdiv a1 (65536 : Int)) else len16 0 a1
theorem f_254 (x : Ps [.ty (.int .u32)]) : funcT CT T_254 [I] (drT CT T_254) lp_254 Tryz.f254 c_254 (encPs [.ty (.int .u32)] x) = F_254 x.1 := by kernel_rfl
noncomputable def E_254 : Ent := .fn 254 [] ⟨[.ty (.int .u32)], [I], fun x => F_254 x.1, false⟩
theorem e_254 : E_254.Ok CT.P := Ent.ofFn CT_ok T_254_ok hf_254 hb_254 lp_254_ok f_254
noncomputable def E_254h : Ent := .fn 254 [] ⟨[.ty (.int .u32)], [I], fun x => F_254 x.1, true⟩
/-! ### 255: math/bits.Len64 -/
noncomputable def c_255 : Code := Tryz.f255.body.getD .skip
theorem hb_255 : Tryz.f255.body = some c_255 := by kernel_rfl
theorem hf_255 : CT.P.funcs[255]? = some Tryz.f255 := by kernel_rfl
noncomputable def T_255 : Tb := mkTb tyT mpT []
theorem T_255_ok : T_255.Ok CT.P := mkTb_ok (trivial)
noncomputable def lp_255 {β : Type} : LpT β := fun _ _ _ => none
theorem lp_255_ok {β : Type} : LpTOk CT (lp_255 (β := β)) (loopsOf c_255) := by
  have h : loopsOf c_255 = [] := by kernel_rfl
  rw [h]
  exact LpTOk.nil
noncomputable def F_255 (a1 : Ty.El (.int .u64)) : Option (Els [I]) := bif Decidable.decide (a1 ≥ (4294967296 : Int)) then len32 32 (Int.fdiv a1 (4294967296 : Int)) else len32 0 a1
theorem f_255 (x : Ps [.ty (.int .u64)]) : funcT CT T_255 [I] (drT CT T_255) lp_255 Tryz.f255 c_255 (encPs [.ty (.int .u64)] x) = F_255 x.1 := by kernel_rfl
noncomputable def E_255 : Ent := .fn 255 [] ⟨[.ty (.int .u64)], [I], fun x => F_255 x.1, false⟩
theorem e_255 : E_255.Ok CT.P := Ent.ofFn CT_ok T_255_ok hf_255 hb_255 lp_255_ok f_255
noncomputable def E_255h : Ent := .fn 255 [] ⟨[.ty (.int .u64)], [I], fun x => F_255 x.1, true⟩
/-! ### 305: math/bits.LeadingZeros64 -/
noncomputable def c_305 : Code := Tryz.f305.body.getD .skip
theorem hb_305 : Tryz.f305.body = some c_305 := by kernel_rfl
theorem hf_305 : CT.P.funcs[305]? = some Tryz.f305 := by kernel_rfl
noncomputable def T_305 : Tb := mkTb tyT mpT [E_255]
theorem T_305_ok : T_305.Ok CT.P := mkTb_ok (⟨e_255, trivial⟩)
noncomputable def lp_305 {β : Type} : LpT β := fun _ _ _ => none
theorem lp_305_ok {β : Type} : LpTOk CT (lp_305 (β := β)) (loopsOf c_305) := by
  have h : loopsOf c_305 = [] := by kernel_rfl
  rw [h]
  exact LpTOk.nil
noncomputable def F_305 (a1 : Ty.El (.int .u64)) : Option (Els [I]) := (F_255 a1).bind fun v2 => Option.some (Go.IntKind.i64.wrap ((64 : Int) - v2.fst), ())
theorem f_305 (x : Ps [.ty (.int .u64)]) : funcT CT T_305 [I] (drT CT T_305) lp_305 Tryz.f305 c_305 (encPs [.ty (.int .u64)] x) = F_305 x.1 := by kernel_rfl
noncomputable def E_305 : Ent := .fn 305 [] ⟨[.ty (.int .u64)], [I], fun x => F_305 x.1, false⟩
theorem e_305 : E_305.Ok CT.P := Ent.ofFn CT_ok T_305_ok hf_305 hb_305 lp_305_ok f_305
noncomputable def E_305h : Ent := .fn 305 [] ⟨[.ty (.int .u64)], [I], fun x => F_305 x.1, true⟩
/-! ### 280: math/bits.Div64 -/
noncomputable def c_280 : Code := Tryz.f280.body.getD .skip
theorem hb_280 : Tryz.f280.body = some c_280 := by kernel_rfl
theorem hf_280 : CT.P.funcs[280]? = some Tryz.f280 := by kernel_rfl
noncomputable def T_280 : Tb := mkTb tyT mpT [E_305]
theorem T_280_ok : T_280.Ok CT.P := mkTb_ok (⟨e_305, trivial⟩)
noncomputable def l_280_24 : Code := atLoop c_280 24
noncomputable def l_280_17 : Code := atLoop c_280 17
noncomputable abbrev LD_280_17 : LayD := ⟨135, [(2, .data (.int .u64)), (8, .data (.int .u64)), (9, .data (.int .u64)), (10, .data (.int .u64)), (11, .data (.int .u64)), (13, .data (.int .u64)), (14, .data (.int .u64)), (15, .data (.int .u64)), (16, .data (.int .u64))], [], fun _ => []⟩
noncomputable abbrev LA_280_17 : LayD := ⟨135, [(2, .data (.int .u64)), (8, .data (.int .u64)), (9, .data (.int .u64)), (10, .data (.int .u64)), (11, .data (.int .u64)), (13, .data (.int .u64)), (14, .data (.int .u64)), (15, .data (.int .u64))], [], fun _ => []⟩
noncomputable abbrev LB_280_17 : LayD := ⟨135, [], [], fun _ => []⟩
noncomputable def EX_280_17 : Exits 0 LA_280_17.El LB_280_17.El := ⟨.exit 0, LA_280_17.lay [], .ret, LB_280_17.lay []⟩

noncomputable def lpi_280_17 {β : Type} : LpT β := fun _ _ _ => none
theorem lpi_280_17_ok {β : Type} : LpTOk CT (lpi_280_17 (β := β)) (loopsOf l_280_17) := by
  have h : loopsOf l_280_17 = [] := by kernel_rfl
  rw [h]
  exact LpTOk.nil
noncomputable def G_280_17 (r2 : Ty.El (.int .u64)) (r8 : Ty.El (.int .u64)) (r9 : Ty.El (.int .u64)) (r10 : Ty.El (.int .u64)) (r11 : Ty.El (.int .u64)) (r13 : Ty.El (.int .u64)) (r14 : Ty.El (.int .u64)) (r15 : Ty.El (.int .u64)) (r16 : Ty.El (.int .u64)) : Option (LD_280_17.El ⊕ (LA_280_17.El ⊕ LB_280_17.El)) := bif Decidable.decide (r15 ≥ (4294967296 : Int)) then bif Decidable.decide (Go.IntKind.u64.wrap (r16 + r9) ≥ (4294967296 : Int)) then Option.some (Sum.inr (Sum.inl ((r2, r8, r9, r10, r11, r13, r14, Go.IntKind.u64.wrap (r15 - (1 : Int)), ()), ()))) else Option.some (Sum.inl ((r2, r8, r9, r10, r11, r13, r14, Go.IntKind.u64.wrap (r15 - (1 : Int)), Go.IntKind.u64.wrap (r16 + r9), ()), ())) else bif Decidable.decide (Go.IntKind.u64.wrap (r15 * r10) > Go.IntKind.u64.wrap (Go.IntKind.u64.wrap ((4294967296 : Int) * r16) + r13)) then bif Decidable.decide (Go.IntKind.u64.wrap (r16 + r9) ≥ (4294967296 : Int)) then Option.some (Sum.inr (Sum.inl ((r2, r8, r9, r10, r11, r13, r14, Go.IntKind.u64.wrap (r15 - (1 : Int)), ()), ()))) else Option.some (Sum.inl ((r2, r8, r9, r10, r11, r13, r14, Go.IntKind.u64.wrap (r15 - (1 : Int)), Go.IntKind.u64.wrap (r16 + r9), ()), ())) else Option.some (Sum.inr (Sum.inl ((r2, r8, r9, r10, r11, r13, r14, r15, ()), ())))
theorem g_280_17 (x : LD_280_17.El) : codeT CT T_280 (drT CT T_280) lpi_280_17 l_280_17 (LD_280_17.enc x) (bodyK (LD_280_17.lay []) EX_280_17) = G_280_17 x.1.1 x.1.2.1 x.1.2.2.1 x.1.2.2.2.1 x.1.2.2.2.2.1 x.1.2.2.2.2.2.1 x.1.2.2.2.2.2.2.1 x.1.2.2.2.2.2.2.2.1 x.1.2.2.2.2.2.2.2.2.1 := by kernel_rfl
noncomputable def R_280_17 : LD_280_17.El → Option (LA_280_17.El ⊕ LB_280_17.El) := roundsT (fun x => G_280_17 x.1.1 x.1.2.1 x.1.2.2.1 x.1.2.2.2.1 x.1.2.2.2.2.1 x.1.2.2.2.2.2.1 x.1.2.2.2.2.2.2.1 x.1.2.2.2.2.2.2.2.1 x.1.2.2.2.2.2.2.2.2.1) fuel
theorem r_280_17 : ∀ x y, R_280_17 x = some y → CL CT l_280_17 (LD_280_17.enc x) (Sum.elim (fun _ => EX_280_17.xa) (fun _ => EX_280_17.xb) y) (Sum.elim EX_280_17.la.enc EX_280_17.lb.enc y) :=
  rounds_ok (L := LD_280_17.lay []) (E := EX_280_17) CT_ok T_280_ok (drT_ok CT_ok T_280_ok) lpi_280_17_ok g_280_17 rfl rfl (fun v h => by have hh : (.exit 0 : AX) = .pan v := h; cases hh) (fun v h => by have hh : (.ret : AX) = .pan v := h; cases hh) fuel
noncomputable abbrev LD_280_24 : LayD := ⟨135, [(2, .data (.int .u64)), (8, .data (.int .u64)), (9, .data (.int .u64)), (10, .data (.int .u64)), (14, .data (.int .u64)), (15, .data (.int .u64)), (16, .data (.int .u64)), (17, .data (.int .u64)), (18, .data (.int .u64))], [], fun _ => []⟩
noncomputable abbrev LA_280_24 : LayD := ⟨135, [(2, .data (.int .u64)), (8, .data (.int .u64)), (14, .data (.int .u64)), (15, .data (.int .u64)), (17, .data (.int .u64)), (18, .data (.int .u64))], [], fun _ => []⟩
noncomputable abbrev LB_280_24 : LayD := ⟨135, [], [], fun _ => []⟩
noncomputable def EX_280_24 : Exits 0 LA_280_24.El LB_280_24.El := ⟨.exit 2, LA_280_24.lay [], .ret, LB_280_24.lay []⟩

noncomputable def lpi_280_24 {β : Type} : LpT β := fun _ _ _ => none
theorem lpi_280_24_ok {β : Type} : LpTOk CT (lpi_280_24 (β := β)) (loopsOf l_280_24) := by
  have h : loopsOf l_280_24 = [] := by kernel_rfl
  rw [h]
  exact LpTOk.nil
noncomputable def G_280_24 (r2 : Ty.El (.int .u64)) (r8 : Ty.El (.int .u64)) (r9 : Ty.El (.int .u64)) (r10 : Ty.El (.int .u64)) (r14 : Ty.El (.int .u64)) (r15 : Ty.El (.int .u64)) (r16 : Ty.El (.int .u64)) (r17 : Ty.El (.int .u64)) (r18 : Ty.El (.int .u64)) : Option (LD_280_24.El ⊕ (LA_280_24.El ⊕ LB_280_24.El)) := bif Decidable.decide (r18 ≥ (4294967296 : Int)) then bif Decidable.decide (Go.IntKind.u64.wrap (r16 + r9) ≥ (4294967296 : Int)) then Option.some (Sum.inr (Sum.inl ((r2, r8, r14, r15, r17, Go.IntKind.u64.wrap (r18 - (1 : Int)), ()), ()))) else Option.some (Sum.inl ((r2, r8, r9, r10, r14, r15, Go.IntKind.u64.wrap (r16 + r9), r17, Go.IntKind.u64.wrap (r18 - (1 : Int)), ()), ())) else bif Decidable.decide (Go.IntKind.u64.wrap (r18 * r10) > Go.IntKind.u64.wrap (Go.IntKind.u64.wrap ((4294967296 : Int) * r16) + r14)) then bif Decidable.decide (Go.IntKind.u64.wrap (r16 + r9) ≥ (4294967296 : Int)) then Option.some (Sum.inr (Sum.inl ((r2, r8, r14, r15, r17, Go.IntKind.u64.wrap (r18 - (1 : Int)), ()), ()))) else Option.some (Sum.inl ((r2, r8, r9, r10, r14, r15, Go.IntKind.u64.wrap (r16 + r9), r17, Go.IntKind.u64.wrap (r18 - (1 : Int)), ()), ())) else Option.some (Sum.inr (Sum.inl ((r2, r8, r14, r15, r17, r18, ()), ())))
theorem g_280_24 (x : LD_280_24.El) : codeT CT T_280 (drT CT T_280) lpi_280_24 l_280_24 (LD_280_24.enc x) (bodyK (LD_280_24.lay []) EX_280_24) = G_280_24 x.1.1 x.1.2.1 x.1.2.2.1 x.1.2.2.2.1 x.1.2.2.2.2.1 x.1.2.2.2.2.2.1 x.1.2.2.2.2.2.2.1 x.1.2.2.2.2.2.2.2.1 x.1.2.2.2.2.2.2.2.2.1 := by kernel_rfl
noncomputable def R_280_24 : LD_280_24.El → Option (LA_280_24.El ⊕ LB_280_24.El) := roundsT (fun x => G_280_24 x.1.1 x.1.2.1 x.1.2.2.1 x.1.2.2.2.1 x.1.2.2.2.2.1 x.1.2.2.2.2.2.1 x.1.2.2.2.2.2.2.1 x.1.2.2.2.2.2.2.2.1 x.1.2.2.2.2.2.2.2.2.1) fuel
theorem r_280_24 : ∀ x y, R_280_24 x = some y → CL CT l_280_24 (LD_280_24.enc x) (Sum.elim (fun _ => EX_280_24.xa) (fun _ => EX_280_24.xb) y) (Sum.elim EX_280_24.la.enc EX_280_24.lb.enc y) :=
  rounds_ok (L := LD_280_24.lay []) (E := EX_280_24) CT_ok T_280_ok (drT_ok CT_ok T_280_ok) lpi_280_24_ok g_280_24 rfl rfl (fun v h => by have hh : (.exit 2 : AX) = .pan v := h; cases hh) (fun v h => by have hh : (.ret : AX) = .pan v := h; cases hh) fuel
noncomputable def lp_280 {β : Type} : LpT β := fun k s K => if Nat.beq k 17 then lpOne (LD_280_17.lay []) EX_280_17 R_280_17 s K else if Nat.beq k 24 then lpOne (LD_280_24.lay []) EX_280_24 R_280_24 s K else none
theorem lp_280_ok {β : Type} : LpTOk CT (lp_280 (β := β)) (loopsOf c_280) := by
  have h : loopsOf c_280 = [(17, l_280_17), (24, l_280_24)] := by kernel_rfl
  rw [h]
  exact LpTOk.cons (fun s K z h => lpOne_ok r_280_17 h) (LpTOk.cons (fun s K z h => lpOne_ok r_280_24 h) (LpTOk.nil))
noncomputable def F_280 (a1 : Ty.El (.int .u64)) (a2 : Ty.El (.int .u64)) (a3 : Ty.El (.int .u64)) : Option (Els [.int .u64, .int .u64]) := bif a3 == (0 : Int) then Option.none else bif Decidable.decide (a3 ≤ a1) then Option.none else bif a1 == (0 : Int) then bif Decidable.decide (a3 = (0 : Int)) then Option.none else bif Decidable.decide (a3 = (0 : Int)) then Option.none else Option.some (Go.IntKind.u64.wrap (Int.tdiv a2 a3), Int.tmod a2 a3, ()) else (F_305 a3).bind fun v2 => bif Decidable.decide (Go.IntKind.u64.wrap v2.fst < (0 : Int)) then Option.none else bif Decidable.decide (Go.IntKind.u64.wrap v2.fst < (0 : Int)) then Option.none else bif Decidable.decide (Go.IntKind.u64.wrap ((64 : Int) - Go.IntKind.u64.wrap v2.fst) < (0 : Int)) then Option.none else bif Decidable.decide (Go.IntKind.u64.wrap v2.fst < (0 : Int)) then Option.none else bif Decidable.decide ((Go.IntKind.u64.wrap (a3 * (2 : Int) ^ Min.min (Go.IntKind.u64.wrap v2.fst).toNat (64 : Nat))).fdiv (4294967296 : Int) = (0 : Int)) then Option.none else (R_280_17 ((Go.IntKind.u64.wrap (a3 * (2 : Int) ^ Min.min (Go.IntKind.u64.wrap v2.fst).toNat (64 : Nat)), Go.IntKind.u64.wrap v2.fst, (Go.IntKind.u64.wrap (a3 * (2 : Int) ^ Min.min (Go.IntKind.u64.wrap v2.fst).toNat (64 : Nat))).fdiv (4294967296 : Int), Go.DI.bAnd Go.IntKind.u64 (Go.IntKind.u64.wrap (a3 * (2 : Int) ^ Min.min (Go.IntKind.u64.wrap v2.fst).toNat (64 : Nat))) (4294967295 : Int), Go.DI.bOr Go.IntKind.u64 (Go.IntKind.u64.wrap (a1 * (2 : Int) ^ Min.min (Go.IntKind.u64.wrap v2.fst).toNat (64 : Nat))) (Int.fdiv a2 ((2 : Int) ^ Min.min (Go.IntKind.u64.wrap ((64 : Int) - Go.IntKind.u64.wrap v2.fst)).toNat (64 : Nat))), (Go.IntKind.u64.wrap (a2 * (2 : Int) ^ Min.min (Go.IntKind.u64.wrap v2.fst).toNat (64 : Nat))).fdiv (4294967296 : Int), Go.DI.bAnd Go.IntKind.u64 (Go.IntKind.u64.wrap (a2 * (2 : Int) ^ Min.min (Go.IntKind.u64.wrap v2.fst).toNat (64 : Nat))) (4294967295 : Int), Go.IntKind.u64.wrap ((Go.DI.bOr Go.IntKind.u64 (Go.IntKind.u64.wrap (a1 * (2 : Int) ^ Min.min (Go.IntKind.u64.wrap v2.fst).toNat (64 : Nat))) (Int.fdiv a2 ((2 : Int) ^ Min.min (Go.IntKind.u64.wrap ((64 : Int) - Go.IntKind.u64.wrap v2.fst)).toNat (64 : Nat)))).tdiv ((Go.IntKind.u64.wrap (a3 * (2 : Int) ^ Min.min (Go.IntKind.u64.wrap v2.fst).toNat (64 : Nat))).fdiv (4294967296 : Int))), Go.IntKind.u64.wrap (Go.DI.bOr Go.IntKind.u64 (Go.IntKind.u64.wrap (a1 * (2 : Int) ^ Min.min (Go.IntKind.u64.wrap v2.fst).toNat (64 : Nat))) (Int.fdiv a2 ((2 : Int) ^ Min.min (Go.IntKind.u64.wrap ((64 : Int) - Go.IntKind.u64.wrap v2.fst)).toNat (64 : Nat))) - Go.IntKind.u64.wrap (Go.IntKind.u64.wrap ((Go.DI.bOr Go.IntKind.u64 (Go.IntKind.u64.wrap (a1 * (2 : Int) ^ Min.min (Go.IntKind.u64.wrap v2.fst).toNat (64 : Nat))) (Int.fdiv a2 ((2 : Int) ^ Min.min (Go.IntKind.u64.wrap ((64 : Int) - Go.IntKind.u64.wrap v2.fst)).toNat (64 : Nat)))).tdiv ((Go.IntKind.u64.wrap (a3 * (2 : Int) ^ Min.min (Go.IntKind.u64.wrap v2.fst).toNat (64 : Nat))).fdiv (4294967296 : Int))) * (Go.IntKind.u64.wrap (a3 * (2 : Int) ^ Min.min (Go.IntKind.u64.wrap v2.fst).toNat (64 : Nat))).fdiv (4294967296 : Int))), ()), ())).bind fun v3 => Sum.elim (fun v4 => bif Decidable.decide (v4.fst.snd.snd.fst = (0 : Int)) then Option.none else (R_280_24 ((v4.fst.fst, v4.fst.snd.fst, v4.fst.snd.snd.fst, v4.fst.snd.snd.snd.fst, v4.fst.snd.snd.snd.snd.snd.snd.fst, v4.fst.snd.snd.snd.snd.snd.snd.snd.fst, Go.IntKind.u64.wrap (Go.IntKind.u64.wrap (Go.IntKind.u64.wrap (Go.IntKind.u64.wrap (v4.fst.snd.snd.snd.snd.fst * (4294967296 : Int)) + v4.fst.snd.snd.snd.snd.snd.fst) - Go.IntKind.u64.wrap (v4.fst.snd.snd.snd.snd.snd.snd.snd.fst * v4.fst.fst)) - Go.IntKind.u64.wrap (Go.IntKind.u64.wrap ((Go.IntKind.u64.wrap (Go.IntKind.u64.wrap (Go.IntKind.u64.wrap (v4.fst.snd.snd.snd.snd.fst * (4294967296 : Int)) + v4.fst.snd.snd.snd.snd.snd.fst) - Go.IntKind.u64.wrap (v4.fst.snd.snd.snd.snd.snd.snd.snd.fst * v4.fst.fst))).tdiv v4.fst.snd.snd.fst) * v4.fst.snd.snd.fst)), Go.IntKind.u64.wrap (Go.IntKind.u64.wrap (Go.IntKind.u64.wrap (v4.fst.snd.snd.snd.snd.fst * (4294967296 : Int)) + v4.fst.snd.snd.snd.snd.snd.fst) - Go.IntKind.u64.wrap (v4.fst.snd.snd.snd.snd.snd.snd.snd.fst * v4.fst.fst)), Go.IntKind.u64.wrap ((Go.IntKind.u64.wrap (Go.IntKind.u64.wrap (Go.IntKind.u64.wrap (v4.fst.snd.snd.snd.snd.fst * (4294967296 : Int)) + v4.fst.snd.snd.snd.snd.snd.fst) - Go.IntKind.u64.wrap (v4.fst.snd.snd.snd.snd.snd.snd.snd.fst * v4.fst.fst))).tdiv v4.fst.snd.snd.fst), ()), ())).bind fun v5 => Sum.elim (fun v6 => bif Decidable.decide (v6.fst.snd.fst < (0 : Int)) then Option.none else Option.some (Go.IntKind.u64.wrap (Go.IntKind.u64.wrap (v6.fst.snd.snd.snd.fst * (4294967296 : Int)) + v6.fst.snd.snd.snd.snd.snd.fst), (Go.IntKind.u64.wrap (Go.IntKind.u64.wrap (Go.IntKind.u64.wrap (v6.fst.snd.snd.snd.snd.fst * (4294967296 : Int)) + v6.fst.snd.snd.fst) - Go.IntKind.u64.wrap (v6.fst.snd.snd.snd.snd.snd.fst * v6.fst.fst))).fdiv ((2 : Int) ^ Min.min (Int.toNat v6.fst.snd.fst) (64 : Nat)), ())) (fun v7 => Option.none) v5) (fun v8 => Option.none) v3
theorem f_280 (x : Ps [.ty (.int .u64), .ty (.int .u64), .ty (.int .u64)]) : funcT CT T_280 [.int .u64, .int .u64] (drT CT T_280) lp_280 Tryz.f280 c_280 (encPs [.ty (.int .u64), .ty (.int .u64), .ty (.int .u64)] x) = F_280 x.1 x.2.1 x.2.2.1 := by kernel_rfl
noncomputable def E_280 : Ent := .fn 280 [] ⟨[.ty (.int .u64), .ty (.int .u64), .ty (.int .u64)], [.int .u64, .int .u64], fun x => F_280 x.1 x.2.1 x.2.2.1, false⟩
theorem e_280 : E_280.Ok CT.P := Ent.ofFn CT_ok T_280_ok hf_280 hb_280 lp_280_ok f_280
noncomputable def E_280h : Ent := .fn 280 [] ⟨[.ty (.int .u64), .ty (.int .u64), .ty (.int .u64)], [.int .u64, .int .u64], fun x => F_280 x.1 x.2.1 x.2.2.1, true⟩
/-! ### 281: maquette/fix.Mul -/
noncomputable def c_281 : Code := Tryz.f281.body.getD .skip
theorem hb_281 : Tryz.f281.body = some c_281 := by kernel_rfl
theorem hf_281 : CT.P.funcs[281]? = some Tryz.f281 := by kernel_rfl
noncomputable def T_281 : Tb := mkTb tyT mpT [E_218, E_306, E_307]
theorem T_281_ok : T_281.Ok CT.P := mkTb_ok (⟨e_218, e_306, e_307, trivial⟩)
noncomputable def lp_281 {β : Type} : LpT β := fun _ _ _ => none
theorem lp_281_ok {β : Type} : LpTOk CT (lp_281 (β := β)) (loopsOf c_281) := by
  have h : loopsOf c_281 = [] := by kernel_rfl
  rw [h]
  exact LpTOk.nil
noncomputable def F_281 (a1 : Ty.El I) (a2 : Ty.El I) : Option (Els [I, I]) := (F_306 a1).bind fun v2 => (F_306 a2).bind fun v4 => (F_218 v2.snd.fst v4.snd.fst).bind fun v6 => bif Decidable.decide (v6.fst ≥ (4294967296 : Int)) then Option.some ((0 : Int), (3 : Int), ()) else (F_307 (!v2.fst == v4.fst) (Go.DI.bOr Go.IntKind.u64 (Go.IntKind.u64.wrap (v6.fst * (4294967296 : Int))) (Int.fdiv v6.snd.fst (4294967296 : Int)))).bind fun v8 => Option.some (v8.fst, v8.snd.fst, ())
theorem f_281 (x : Ps [.ty I, .ty I]) : funcT CT T_281 [I, I] (drT CT T_281) lp_281 Tryz.f281 c_281 (encPs [.ty I, .ty I] x) = F_281 x.1 x.2.1 := by kernel_rfl
noncomputable def E_281 : Ent := .fn 281 [] ⟨[.ty I, .ty I], [I, I], fun x => F_281 x.1 x.2.1, false⟩
theorem e_281 : E_281.Ok CT.P := Ent.ofFn CT_ok T_281_ok hf_281 hb_281 lp_281_ok f_281
noncomputable def E_281h : Ent := .fn 281 [] ⟨[.ty I, .ty I], [I, I], fun x => F_281 x.1 x.2.1, true⟩
/-! ### 285: maquette/fix.Div -/
noncomputable def c_285 : Code := Tryz.f285.body.getD .skip
theorem hb_285 : Tryz.f285.body = some c_285 := by kernel_rfl
theorem hf_285 : CT.P.funcs[285]? = some Tryz.f285 := by kernel_rfl
noncomputable def T_285 : Tb := mkTb tyT mpT [E_280, E_306, E_307]
theorem T_285_ok : T_285.Ok CT.P := mkTb_ok (⟨e_280, e_306, e_307, trivial⟩)
noncomputable def lp_285 {β : Type} : LpT β := fun _ _ _ => none
theorem lp_285_ok {β : Type} : LpTOk CT (lp_285 (β := β)) (loopsOf c_285) := by
  have h : loopsOf c_285 = [] := by kernel_rfl
  rw [h]
  exact LpTOk.nil
noncomputable def F_285 (a1 : Ty.El I) (a2 : Ty.El I) : Option (Els [I, I]) := (F_306 a1).bind fun v2 => (F_306 a2).bind fun v4 => bif v4.snd.fst == (0 : Int) then Option.some ((0 : Int), (4 : Int), ()) else bif Decidable.decide (Int.fdiv v2.snd.fst (4294967296 : Int) ≥ v4.snd.fst) then Option.some ((0 : Int), (3 : Int), ()) else (F_280 (Int.fdiv v2.snd.fst (4294967296 : Int)) (Go.IntKind.u64.wrap (v2.snd.fst * (4294967296 : Int))) v4.snd.fst).bind fun v6 => (F_307 (!v2.fst == v4.fst) v6.fst).bind fun v8 => Option.some (v8.fst, v8.snd.fst, ())
theorem f_285 (x : Ps [.ty I, .ty I]) : funcT CT T_285 [I, I] (drT CT T_285) lp_285 Tryz.f285 c_285 (encPs [.ty I, .ty I] x) = F_285 x.1 x.2.1 := by kernel_rfl
noncomputable def E_285 : Ent := .fn 285 [] ⟨[.ty I, .ty I], [I, I], fun x => F_285 x.1 x.2.1, false⟩
theorem e_285 : E_285.Ok CT.P := Ent.ofFn CT_ok T_285_ok hf_285 hb_285 lp_285_ok f_285
noncomputable def E_285h : Ent := .fn 285 [] ⟨[.ty I, .ty I], [I, I], fun x => F_285 x.1 x.2.1, true⟩
/-! ### 154: maquette/calc.Add -/
noncomputable def c_154 : Code := Tryz.f154.body.getD .skip
theorem hb_154 : Tryz.f154.body = some c_154 := by kernel_rfl
theorem hf_154 : CT.P.funcs[154]? = some Tryz.f154 := by kernel_rfl
noncomputable def T_154 : Tb := mkTb tyT mpT [E_216, E_217]
theorem T_154_ok : T_154.Ok CT.P := mkTb_ok (⟨e_216, e_217, trivial⟩)
noncomputable def lp_154 {β : Type} : LpT β := fun _ _ _ => none
theorem lp_154_ok {β : Type} : LpTOk CT (lp_154 (β := β)) (loopsOf c_154) := by
  have h : loopsOf c_154 = [] := by kernel_rfl
  rw [h]
  exact LpTOk.nil
noncomputable def F_154 (a1 : Ty.El I) (a2 : Ty.El I) : Option (Els [I] ⊕ Int) := (F_217 a1 a2).bind fun v2 => (F_216 v2.fst v2.snd.fst).bind fun v4 => Sum.elim (fun v6 => Option.some (Sum.inl (v6.fst, ()))) (fun v7 => Option.some (Sum.inr v7)) v4
theorem f_154 (x : Ps [.ty I, .ty I]) : funcP CT T_154 251 [I] (drT CT T_154) lp_154 Tryz.f154 c_154 (encPs [.ty I, .ty I] x) = F_154 x.1 x.2.1 := by kernel_rfl
noncomputable def E_154 : Ent := .mkFnP 154 [] ⟨251, [.ty I, .ty I], [I], fun x => F_154 x.1 x.2.1, false⟩
theorem e_154 : E_154.Ok CT.P := Ent.ofFnP CT_ok T_154_ok hf_154 hb_154 lp_154_ok f_154
noncomputable def E_154h : Ent := .mkFnP 154 [] ⟨251, [.ty I, .ty I], [I], fun x => F_154 x.1 x.2.1, true⟩
/-! ### 230: maquette/calc.Sub -/
noncomputable def c_230 : Code := Tryz.f230.body.getD .skip
theorem hb_230 : Tryz.f230.body = some c_230 := by kernel_rfl
theorem hf_230 : CT.P.funcs[230]? = some Tryz.f230 := by kernel_rfl
noncomputable def T_230 : Tb := mkTb tyT mpT [E_216, E_284]
theorem T_230_ok : T_230.Ok CT.P := mkTb_ok (⟨e_216, e_284, trivial⟩)
noncomputable def lp_230 {β : Type} : LpT β := fun _ _ _ => none
theorem lp_230_ok {β : Type} : LpTOk CT (lp_230 (β := β)) (loopsOf c_230) := by
  have h : loopsOf c_230 = [] := by kernel_rfl
  rw [h]
  exact LpTOk.nil
noncomputable def F_230 (a1 : Ty.El I) (a2 : Ty.El I) : Option (Els [I] ⊕ Int) := (F_284 a1 a2).bind fun v2 => (F_216 v2.fst v2.snd.fst).bind fun v4 => Sum.elim (fun v6 => Option.some (Sum.inl (v6.fst, ()))) (fun v7 => Option.some (Sum.inr v7)) v4
theorem f_230 (x : Ps [.ty I, .ty I]) : funcP CT T_230 251 [I] (drT CT T_230) lp_230 Tryz.f230 c_230 (encPs [.ty I, .ty I] x) = F_230 x.1 x.2.1 := by kernel_rfl
noncomputable def E_230 : Ent := .mkFnP 230 [] ⟨251, [.ty I, .ty I], [I], fun x => F_230 x.1 x.2.1, false⟩
theorem e_230 : E_230.Ok CT.P := Ent.ofFnP CT_ok T_230_ok hf_230 hb_230 lp_230_ok f_230
noncomputable def E_230h : Ent := .mkFnP 230 [] ⟨251, [.ty I, .ty I], [I], fun x => F_230 x.1 x.2.1, true⟩
/-! ### 225: maquette/calc.Mul -/
noncomputable def c_225 : Code := Tryz.f225.body.getD .skip
theorem hb_225 : Tryz.f225.body = some c_225 := by kernel_rfl
theorem hf_225 : CT.P.funcs[225]? = some Tryz.f225 := by kernel_rfl
noncomputable def T_225 : Tb := mkTb tyT mpT [E_216, E_281]
theorem T_225_ok : T_225.Ok CT.P := mkTb_ok (⟨e_216, e_281, trivial⟩)
noncomputable def lp_225 {β : Type} : LpT β := fun _ _ _ => none
theorem lp_225_ok {β : Type} : LpTOk CT (lp_225 (β := β)) (loopsOf c_225) := by
  have h : loopsOf c_225 = [] := by kernel_rfl
  rw [h]
  exact LpTOk.nil
noncomputable def F_225 (a1 : Ty.El I) (a2 : Ty.El I) : Option (Els [I] ⊕ Int) := (F_281 a1 a2).bind fun v2 => (F_216 v2.fst v2.snd.fst).bind fun v4 => Sum.elim (fun v6 => Option.some (Sum.inl (v6.fst, ()))) (fun v7 => Option.some (Sum.inr v7)) v4
theorem f_225 (x : Ps [.ty I, .ty I]) : funcP CT T_225 251 [I] (drT CT T_225) lp_225 Tryz.f225 c_225 (encPs [.ty I, .ty I] x) = F_225 x.1 x.2.1 := by kernel_rfl
noncomputable def E_225 : Ent := .mkFnP 225 [] ⟨251, [.ty I, .ty I], [I], fun x => F_225 x.1 x.2.1, false⟩
theorem e_225 : E_225.Ok CT.P := Ent.ofFnP CT_ok T_225_ok hf_225 hb_225 lp_225_ok f_225
noncomputable def E_225h : Ent := .mkFnP 225 [] ⟨251, [.ty I, .ty I], [I], fun x => F_225 x.1 x.2.1, true⟩
/-! ### 231: maquette/calc.Div -/
noncomputable def c_231 : Code := Tryz.f231.body.getD .skip
theorem hb_231 : Tryz.f231.body = some c_231 := by kernel_rfl
theorem hf_231 : CT.P.funcs[231]? = some Tryz.f231 := by kernel_rfl
noncomputable def T_231 : Tb := mkTb tyT mpT [E_216, E_285]
theorem T_231_ok : T_231.Ok CT.P := mkTb_ok (⟨e_216, e_285, trivial⟩)
noncomputable def lp_231 {β : Type} : LpT β := fun _ _ _ => none
theorem lp_231_ok {β : Type} : LpTOk CT (lp_231 (β := β)) (loopsOf c_231) := by
  have h : loopsOf c_231 = [] := by kernel_rfl
  rw [h]
  exact LpTOk.nil
noncomputable def F_231 (a1 : Ty.El I) (a2 : Ty.El I) : Option (Els [I] ⊕ Int) := (F_285 a1 a2).bind fun v2 => (F_216 v2.fst v2.snd.fst).bind fun v4 => Sum.elim (fun v6 => Option.some (Sum.inl (v6.fst, ()))) (fun v7 => Option.some (Sum.inr v7)) v4
theorem f_231 (x : Ps [.ty I, .ty I]) : funcP CT T_231 251 [I] (drT CT T_231) lp_231 Tryz.f231 c_231 (encPs [.ty I, .ty I] x) = F_231 x.1 x.2.1 := by kernel_rfl
noncomputable def E_231 : Ent := .mkFnP 231 [] ⟨251, [.ty I, .ty I], [I], fun x => F_231 x.1 x.2.1, false⟩
theorem e_231 : E_231.Ok CT.P := Ent.ofFnP CT_ok T_231_ok hf_231 hb_231 lp_231_ok f_231
noncomputable def E_231h : Ent := .mkFnP 231 [] ⟨251, [.ty I, .ty I], [I], fun x => F_231 x.1 x.2.1, true⟩
/-! ### 62: maquette/vec.Add -/
noncomputable def c_62 : Code := Tryz.f62.body.getD .skip
theorem hb_62 : Tryz.f62.body = some c_62 := by kernel_rfl
theorem hf_62 : CT.P.funcs[62]? = some Tryz.f62 := by kernel_rfl
noncomputable def T_62 : Tb := mkTb tyT mpT [E_154]
theorem T_62_ok : T_62.Ok CT.P := mkTb_ok (⟨e_154, trivial⟩)
noncomputable def lp_62 {β : Type} : LpT β := fun _ _ _ => none
theorem lp_62_ok {β : Type} : LpTOk CT (lp_62 (β := β)) (loopsOf c_62) := by
  have h : loopsOf c_62 = [] := by kernel_rfl
  rw [h]
  exact LpTOk.nil
noncomputable def F_62 (a1 : Ty.El tVec) (a2 : Ty.El tVec) : Option (Els [tVec] ⊕ Int) := (F_154 a1.fst a2.fst).bind fun v2 => Sum.elim (fun v4 => (F_154 a1.snd a2.snd).bind fun v6 => Sum.elim (fun v8 => Option.some (Sum.inl ((v4.fst, v8.fst), ()))) (fun v9 => Option.some (Sum.inr v9)) v6) (fun v10 => Option.some (Sum.inr v10)) v2
theorem f_62 (x : Ps [.ty tVec, .ty tVec]) : funcP CT T_62 251 [tVec] (drT CT T_62) lp_62 Tryz.f62 c_62 (encPs [.ty tVec, .ty tVec] x) = F_62 x.1 x.2.1 := by kernel_rfl
noncomputable def E_62 : Ent := .mkFnP 62 [] ⟨251, [.ty tVec, .ty tVec], [tVec], fun x => F_62 x.1 x.2.1, false⟩
theorem e_62 : E_62.Ok CT.P := Ent.ofFnP CT_ok T_62_ok hf_62 hb_62 lp_62_ok f_62
noncomputable def E_62h : Ent := .mkFnP 62 [] ⟨251, [.ty tVec, .ty tVec], [tVec], fun x => F_62 x.1 x.2.1, true⟩
/-! ### 227: maquette/vec.Sub -/
noncomputable def c_227 : Code := Tryz.f227.body.getD .skip
theorem hb_227 : Tryz.f227.body = some c_227 := by kernel_rfl
theorem hf_227 : CT.P.funcs[227]? = some Tryz.f227 := by kernel_rfl
noncomputable def T_227 : Tb := mkTb tyT mpT [E_230]
theorem T_227_ok : T_227.Ok CT.P := mkTb_ok (⟨e_230, trivial⟩)
noncomputable def lp_227 {β : Type} : LpT β := fun _ _ _ => none
theorem lp_227_ok {β : Type} : LpTOk CT (lp_227 (β := β)) (loopsOf c_227) := by
  have h : loopsOf c_227 = [] := by kernel_rfl
  rw [h]
  exact LpTOk.nil
noncomputable def F_227 (a1 : Ty.El tVec) (a2 : Ty.El tVec) : Option (Els [tVec] ⊕ Int) := (F_230 a1.fst a2.fst).bind fun v2 => Sum.elim (fun v4 => (F_230 a1.snd a2.snd).bind fun v6 => Sum.elim (fun v8 => Option.some (Sum.inl ((v4.fst, v8.fst), ()))) (fun v9 => Option.some (Sum.inr v9)) v6) (fun v10 => Option.some (Sum.inr v10)) v2
theorem f_227 (x : Ps [.ty tVec, .ty tVec]) : funcP CT T_227 251 [tVec] (drT CT T_227) lp_227 Tryz.f227 c_227 (encPs [.ty tVec, .ty tVec] x) = F_227 x.1 x.2.1 := by kernel_rfl
noncomputable def E_227 : Ent := .mkFnP 227 [] ⟨251, [.ty tVec, .ty tVec], [tVec], fun x => F_227 x.1 x.2.1, false⟩
theorem e_227 : E_227.Ok CT.P := Ent.ofFnP CT_ok T_227_ok hf_227 hb_227 lp_227_ok f_227
noncomputable def E_227h : Ent := .mkFnP 227 [] ⟨251, [.ty tVec, .ty tVec], [tVec], fun x => F_227 x.1 x.2.1, true⟩
/-! ### 162: maquette/vec.Scale -/
noncomputable def c_162 : Code := Tryz.f162.body.getD .skip
theorem hb_162 : Tryz.f162.body = some c_162 := by kernel_rfl
theorem hf_162 : CT.P.funcs[162]? = some Tryz.f162 := by kernel_rfl
noncomputable def T_162 : Tb := mkTb tyT mpT [E_225]
theorem T_162_ok : T_162.Ok CT.P := mkTb_ok (⟨e_225, trivial⟩)
noncomputable def lp_162 {β : Type} : LpT β := fun _ _ _ => none
theorem lp_162_ok {β : Type} : LpTOk CT (lp_162 (β := β)) (loopsOf c_162) := by
  have h : loopsOf c_162 = [] := by kernel_rfl
  rw [h]
  exact LpTOk.nil
noncomputable def F_162 (a1 : Ty.El tVec) (a2 : Ty.El I) : Option (Els [tVec] ⊕ Int) := (F_225 a1.fst a2).bind fun v2 => Sum.elim (fun v4 => (F_225 a1.snd a2).bind fun v6 => Sum.elim (fun v8 => Option.some (Sum.inl ((v4.fst, v8.fst), ()))) (fun v9 => Option.some (Sum.inr v9)) v6) (fun v10 => Option.some (Sum.inr v10)) v2
theorem f_162 (x : Ps [.ty tVec, .ty I]) : funcP CT T_162 251 [tVec] (drT CT T_162) lp_162 Tryz.f162 c_162 (encPs [.ty tVec, .ty I] x) = F_162 x.1 x.2.1 := by kernel_rfl
noncomputable def E_162 : Ent := .mkFnP 162 [] ⟨251, [.ty tVec, .ty I], [tVec], fun x => F_162 x.1 x.2.1, false⟩
theorem e_162 : E_162.Ok CT.P := Ent.ofFnP CT_ok T_162_ok hf_162 hb_162 lp_162_ok f_162
noncomputable def E_162h : Ent := .mkFnP 162 [] ⟨251, [.ty tVec, .ty I], [tVec], fun x => F_162 x.1 x.2.1, true⟩
/-! ### 244: maquette/vec.Over -/
noncomputable def c_244 : Code := Tryz.f244.body.getD .skip
theorem hb_244 : Tryz.f244.body = some c_244 := by kernel_rfl
theorem hf_244 : CT.P.funcs[244]? = some Tryz.f244 := by kernel_rfl
noncomputable def T_244 : Tb := mkTb tyT mpT [E_231]
theorem T_244_ok : T_244.Ok CT.P := mkTb_ok (⟨e_231, trivial⟩)
noncomputable def lp_244 {β : Type} : LpT β := fun _ _ _ => none
theorem lp_244_ok {β : Type} : LpTOk CT (lp_244 (β := β)) (loopsOf c_244) := by
  have h : loopsOf c_244 = [] := by kernel_rfl
  rw [h]
  exact LpTOk.nil
noncomputable def F_244 (a1 : Ty.El tVec) (a2 : Ty.El I) : Option (Els [tVec] ⊕ Int) := (F_231 a1.fst a2).bind fun v2 => Sum.elim (fun v4 => (F_231 a1.snd a2).bind fun v6 => Sum.elim (fun v8 => Option.some (Sum.inl ((v4.fst, v8.fst), ()))) (fun v9 => Option.some (Sum.inr v9)) v6) (fun v10 => Option.some (Sum.inr v10)) v2
theorem f_244 (x : Ps [.ty tVec, .ty I]) : funcP CT T_244 251 [tVec] (drT CT T_244) lp_244 Tryz.f244 c_244 (encPs [.ty tVec, .ty I] x) = F_244 x.1 x.2.1 := by kernel_rfl
noncomputable def E_244 : Ent := .mkFnP 244 [] ⟨251, [.ty tVec, .ty I], [tVec], fun x => F_244 x.1 x.2.1, false⟩
theorem e_244 : E_244.Ok CT.P := Ent.ofFnP CT_ok T_244_ok hf_244 hb_244 lp_244_ok f_244
noncomputable def E_244h : Ent := .mkFnP 244 [] ⟨251, [.ty tVec, .ty I], [tVec], fun x => F_244 x.1 x.2.1, true⟩
/-! ### 283: maquette/vec.Dot -/
noncomputable def c_283 : Code := Tryz.f283.body.getD .skip
theorem hb_283 : Tryz.f283.body = some c_283 := by kernel_rfl
theorem hf_283 : CT.P.funcs[283]? = some Tryz.f283 := by kernel_rfl
noncomputable def T_283 : Tb := mkTb tyT mpT [E_154, E_225]
theorem T_283_ok : T_283.Ok CT.P := mkTb_ok (⟨e_154, e_225, trivial⟩)
noncomputable def lp_283 {β : Type} : LpT β := fun _ _ _ => none
theorem lp_283_ok {β : Type} : LpTOk CT (lp_283 (β := β)) (loopsOf c_283) := by
  have h : loopsOf c_283 = [] := by kernel_rfl
  rw [h]
  exact LpTOk.nil
noncomputable def F_283 (a1 : Ty.El tVec) (a2 : Ty.El tVec) : Option (Els [I] ⊕ Int) := (F_225 a1.fst a2.fst).bind fun v2 => Sum.elim (fun v4 => (F_225 a1.snd a2.snd).bind fun v6 => Sum.elim (fun v8 => (F_154 v4.fst v8.fst).bind fun v10 => Sum.elim (fun v12 => Option.some (Sum.inl (v12.fst, ()))) (fun v13 => Option.some (Sum.inr v13)) v10) (fun v14 => Option.some (Sum.inr v14)) v6) (fun v15 => Option.some (Sum.inr v15)) v2
theorem f_283 (x : Ps [.ty tVec, .ty tVec]) : funcP CT T_283 251 [I] (drT CT T_283) lp_283 Tryz.f283 c_283 (encPs [.ty tVec, .ty tVec] x) = F_283 x.1 x.2.1 := by kernel_rfl
noncomputable def E_283 : Ent := .mkFnP 283 [] ⟨251, [.ty tVec, .ty tVec], [I], fun x => F_283 x.1 x.2.1, false⟩
theorem e_283 : E_283.Ok CT.P := Ent.ofFnP CT_ok T_283_ok hf_283 hb_283 lp_283_ok f_283
noncomputable def E_283h : Ent := .mkFnP 283 [] ⟨251, [.ty tVec, .ty tVec], [I], fun x => F_283 x.1 x.2.1, true⟩
/-! ### 224: maquette/vec.share -/
noncomputable def c_224 : Code := Tryz.f224.body.getD .skip
theorem hb_224 : Tryz.f224.body = some c_224 := by kernel_rfl
theorem hf_224 : CT.P.funcs[224]? = some Tryz.f224 := by kernel_rfl
noncomputable def T_224 : Tb := mkTb tyT mpT []
theorem T_224_ok : T_224.Ok CT.P := mkTb_ok (trivial)
noncomputable def lp_224 {β : Type} : LpT β := fun _ _ _ => none
theorem lp_224_ok {β : Type} : LpTOk CT (lp_224 (β := β)) (loopsOf c_224) := by
  have h : loopsOf c_224 = [] := by kernel_rfl
  rw [h]
  exact LpTOk.nil
noncomputable def F_224 (a1 : Ty.El I) (a2 : Ty.El I) : Option (Els [I] ⊕ Int) := bif a2 == (0 : Int) then Option.some (Sum.inr (4 : Int)) else bif a2 == (-1 : Int) then bif a1 == (-9223372036854775808 : Int) then Option.some (Sum.inr (3 : Int)) else bif Decidable.decide (a2 = (0 : Int)) then Option.none else Option.some (Sum.inl (Go.IntKind.i64.wrap (Int.tdiv a1 a2), ())) else bif Decidable.decide (a2 = (0 : Int)) then Option.none else Option.some (Sum.inl (Go.IntKind.i64.wrap (Int.tdiv a1 a2), ()))
theorem f_224 (x : Ps [.ty I, .ty I]) : funcP CT T_224 251 [I] (drT CT T_224) lp_224 Tryz.f224 c_224 (encPs [.ty I, .ty I] x) = F_224 x.1 x.2.1 := by kernel_rfl
noncomputable def E_224 : Ent := .mkFnP 224 [] ⟨251, [.ty I, .ty I], [I], fun x => F_224 x.1 x.2.1, false⟩
theorem e_224 : E_224.Ok CT.P := Ent.ofFnP CT_ok T_224_ok hf_224 hb_224 lp_224_ok f_224
noncomputable def E_224h : Ent := .mkFnP 224 [] ⟨251, [.ty I, .ty I], [I], fun x => F_224 x.1 x.2.1, true⟩
/-! ### 161: maquette/vec.Share -/
noncomputable def c_161 : Code := Tryz.f161.body.getD .skip
theorem hb_161 : Tryz.f161.body = some c_161 := by kernel_rfl
theorem hf_161 : CT.P.funcs[161]? = some Tryz.f161 := by kernel_rfl
noncomputable def T_161 : Tb := mkTb tyT mpT [E_224]
theorem T_161_ok : T_161.Ok CT.P := mkTb_ok (⟨e_224, trivial⟩)
noncomputable def lp_161 {β : Type} : LpT β := fun _ _ _ => none
theorem lp_161_ok {β : Type} : LpTOk CT (lp_161 (β := β)) (loopsOf c_161) := by
  have h : loopsOf c_161 = [] := by kernel_rfl
  rw [h]
  exact LpTOk.nil
noncomputable def F_161 (a1 : Ty.El tVec) (a2 : Ty.El I) : Option (Els [tVec] ⊕ Int) := (F_224 a1.fst a2).bind fun v2 => Sum.elim (fun v4 => (F_224 a1.snd a2).bind fun v6 => Sum.elim (fun v8 => Option.some (Sum.inl ((v4.fst, v8.fst), ()))) (fun v9 => Option.some (Sum.inr v9)) v6) (fun v10 => Option.some (Sum.inr v10)) v2
theorem f_161 (x : Ps [.ty tVec, .ty I]) : funcP CT T_161 251 [tVec] (drT CT T_161) lp_161 Tryz.f161 c_161 (encPs [.ty tVec, .ty I] x) = F_161 x.1 x.2.1 := by kernel_rfl
noncomputable def E_161 : Ent := .mkFnP 161 [] ⟨251, [.ty tVec, .ty I], [tVec], fun x => F_161 x.1 x.2.1, false⟩
theorem e_161 : E_161.Ok CT.P := Ent.ofFnP CT_ok T_161_ok hf_161 hb_161 lp_161_ok f_161
noncomputable def E_161h : Ent := .mkFnP 161 [] ⟨251, [.ty tVec, .ty I], [tVec], fun x => F_161 x.1 x.2.1, true⟩
/-! ### 330: maquette/root.above -/
noncomputable def c_330 : Code := Tryz.f330.body.getD .skip
theorem hb_330 : Tryz.f330.body = some c_330 := by kernel_rfl
theorem hf_330 : CT.P.funcs[330]? = some Tryz.f330 := by kernel_rfl
noncomputable def T_330 : Tb := mkTb tyT mpT [E_218]
theorem T_330_ok : T_330.Ok CT.P := mkTb_ok (⟨e_218, trivial⟩)
noncomputable def lp_330 {β : Type} : LpT β := fun _ _ _ => none
theorem lp_330_ok {β : Type} : LpTOk CT (lp_330 (β := β)) (loopsOf c_330) := by
  have h : loopsOf c_330 = [] := by kernel_rfl
  rw [h]
  exact LpTOk.nil
noncomputable def F_330 (a1 : Ty.El (.int .u64)) (a2 : Ty.El (.int .u64)) (a3 : Ty.El (.int .u64)) : Option (Els [.bool]) := (F_218 a1 a1).bind fun v2 => bif Decidable.decide (v2.fst > a2) then Option.some (Bool.true, ()) else bif v2.fst == a2 then Option.some (Decidable.decide (v2.snd.fst > a3), ()) else Option.some (Bool.false, ())
theorem f_330 (x : Ps [.ty (.int .u64), .ty (.int .u64), .ty (.int .u64)]) : funcT CT T_330 [.bool] (drT CT T_330) lp_330 Tryz.f330 c_330 (encPs [.ty (.int .u64), .ty (.int .u64), .ty (.int .u64)] x) = F_330 x.1 x.2.1 x.2.2.1 := by kernel_rfl
noncomputable def E_330 : Ent := .fn 330 [] ⟨[.ty (.int .u64), .ty (.int .u64), .ty (.int .u64)], [.bool], fun x => F_330 x.1 x.2.1 x.2.2.1, false⟩
theorem e_330 : E_330.Ok CT.P := Ent.ofFn CT_ok T_330_ok hf_330 hb_330 lp_330_ok f_330
noncomputable def E_330h : Ent := .fn 330 [] ⟨[.ty (.int .u64), .ty (.int .u64), .ty (.int .u64)], [.bool], fun x => F_330 x.1 x.2.1 x.2.2.1, true⟩
/-! ### 324: maquette/root.long -/
noncomputable def c_324 : Code := Tryz.f324.body.getD .skip
theorem hb_324 : Tryz.f324.body = some c_324 := by kernel_rfl
theorem hf_324 : CT.P.funcs[324]? = some Tryz.f324 := by kernel_rfl
noncomputable def T_324 : Tb := mkTb tyT mpT [E_330]
theorem T_324_ok : T_324.Ok CT.P := mkTb_ok (⟨e_330, trivial⟩)
noncomputable def l_324_3 : Code := atLoop c_324 3
noncomputable abbrev LD_324_3 : LayD := ⟨22, [(0, .data (.int .u64)), (1, .data (.int .u64)), (5, .data (.int .u64)), (6, .data (.int .u64))], [], fun _ => []⟩
noncomputable abbrev LA_324_3 : LayD := ⟨22, [(5, .data (.int .u64))], [], fun _ => []⟩
noncomputable abbrev LB_324_3 : LayD := ⟨22, [], [], fun _ => []⟩
noncomputable def EX_324_3 : Exits 0 LA_324_3.El LB_324_3.El := ⟨.exit 0, LA_324_3.lay [], .ret, LB_324_3.lay []⟩

noncomputable def lpi_324_3 {β : Type} : LpT β := fun _ _ _ => none
theorem lpi_324_3_ok {β : Type} : LpTOk CT (lpi_324_3 (β := β)) (loopsOf l_324_3) := by
  have h : loopsOf l_324_3 = [] := by kernel_rfl
  rw [h]
  exact LpTOk.nil
noncomputable def G_324_3 (r0 : Ty.El (.int .u64)) (r1 : Ty.El (.int .u64)) (r5 : Ty.El (.int .u64)) (r6 : Ty.El (.int .u64)) : Option (LD_324_3.El ⊕ (LA_324_3.El ⊕ LB_324_3.El)) := bif Decidable.decide (r6 > (0 : Int)) then (F_330 (Go.DI.bOr Go.IntKind.u64 r5 r6) r0 r1).bind fun v2 => bif !v2.fst then Option.some (Sum.inl ((r0, r1, Go.DI.bOr Go.IntKind.u64 r5 r6, Int.fdiv r6 (2 : Int), ()), ())) else Option.some (Sum.inl ((r0, r1, r5, Int.fdiv r6 (2 : Int), ()), ())) else Option.some (Sum.inr (Sum.inl ((r5, ()), ())))
theorem g_324_3 (x : LD_324_3.El) : codeT CT T_324 (drT CT T_324) lpi_324_3 l_324_3 (LD_324_3.enc x) (bodyK (LD_324_3.lay []) EX_324_3) = G_324_3 x.1.1 x.1.2.1 x.1.2.2.1 x.1.2.2.2.1 := by kernel_rfl
noncomputable def R_324_3 : LD_324_3.El → Option (LA_324_3.El ⊕ LB_324_3.El) := roundsT (fun x => G_324_3 x.1.1 x.1.2.1 x.1.2.2.1 x.1.2.2.2.1) fuel
theorem r_324_3 : ∀ x y, R_324_3 x = some y → CL CT l_324_3 (LD_324_3.enc x) (Sum.elim (fun _ => EX_324_3.xa) (fun _ => EX_324_3.xb) y) (Sum.elim EX_324_3.la.enc EX_324_3.lb.enc y) :=
  rounds_ok (L := LD_324_3.lay []) (E := EX_324_3) CT_ok T_324_ok (drT_ok CT_ok T_324_ok) lpi_324_3_ok g_324_3 rfl rfl (fun v h => by have hh : (.exit 0 : AX) = .pan v := h; cases hh) (fun v h => by have hh : (.ret : AX) = .pan v := h; cases hh) fuel
noncomputable def lp_324 {β : Type} : LpT β := fun k s K => if Nat.beq k 3 then lpOne (LD_324_3.lay []) EX_324_3 R_324_3 s K else none
theorem lp_324_ok {β : Type} : LpTOk CT (lp_324 (β := β)) (loopsOf c_324) := by
  have h : loopsOf c_324 = [(3, l_324_3)] := by kernel_rfl
  rw [h]
  exact LpTOk.cons (fun s K z h => lpOne_ok r_324_3 h) (LpTOk.nil)
noncomputable def F_324 (a1 : Ty.El (.int .u64)) (a2 : Ty.El (.int .u64)) : Option (Els [.int .u64]) := (R_324_3 ((a1, a2, (0 : Int), (9223372036854775808 : Int), ()), ())).bind fun v1 => Sum.elim (fun v2 => Option.some (v2.fst.fst, ())) (fun v3 => Option.none) v1
theorem f_324 (x : Ps [.ty (.int .u64), .ty (.int .u64)]) : funcT CT T_324 [.int .u64] (drT CT T_324) lp_324 Tryz.f324 c_324 (encPs [.ty (.int .u64), .ty (.int .u64)] x) = F_324 x.1 x.2.1 := by kernel_rfl
noncomputable def E_324 : Ent := .fn 324 [] ⟨[.ty (.int .u64), .ty (.int .u64)], [.int .u64], fun x => F_324 x.1 x.2.1, false⟩
theorem e_324 : E_324.Ok CT.P := Ent.ofFn CT_ok T_324_ok hf_324 hb_324 lp_324_ok f_324
noncomputable def E_324h : Ent := .fn 324 [] ⟨[.ty (.int .u64), .ty (.int .u64)], [.int .u64], fun x => F_324 x.1 x.2.1, true⟩
/-! ### 323: maquette/root.size -/
noncomputable def c_323 : Code := Tryz.f323.body.getD .skip
theorem hb_323 : Tryz.f323.body = some c_323 := by kernel_rfl
theorem hf_323 : CT.P.funcs[323]? = some Tryz.f323 := by kernel_rfl
noncomputable def T_323 : Tb := mkTb tyT mpT []
theorem T_323_ok : T_323.Ok CT.P := mkTb_ok (trivial)
noncomputable def lp_323 {β : Type} : LpT β := fun _ _ _ => none
theorem lp_323_ok {β : Type} : LpTOk CT (lp_323 (β := β)) (loopsOf c_323) := by
  have h : loopsOf c_323 = [] := by kernel_rfl
  rw [h]
  exact LpTOk.nil
noncomputable def F_323 (a1 : Ty.El I) : Option (Els [.int .u64]) := bif Decidable.decide (a1 < (0 : Int)) then Option.some (Go.IntKind.u64.wrap ((0 : Int) - Go.IntKind.u64.wrap a1), ()) else Option.some (Go.IntKind.u64.wrap a1, ())
theorem f_323 (x : Ps [.ty I]) : funcT CT T_323 [.int .u64] (drT CT T_323) lp_323 Tryz.f323 c_323 (encPs [.ty I] x) = F_323 x.1 := by kernel_rfl
noncomputable def E_323 : Ent := .fn 323 [] ⟨[.ty I], [.int .u64], fun x => F_323 x.1, false⟩
theorem e_323 : E_323.Ok CT.P := Ent.ofFn CT_ok T_323_ok hf_323 hb_323 lp_323_ok f_323
noncomputable def E_323h : Ent := .fn 323 [] ⟨[.ty I], [.int .u64], fun x => F_323 x.1, true⟩
end Go.DI.S

