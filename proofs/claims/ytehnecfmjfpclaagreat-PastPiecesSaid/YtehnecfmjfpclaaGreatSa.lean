import Derived.Test.YtehnecfmjfpclaaGreatDie
import Derived.Test.YtehnecfmjfpclaaGreatProg
import Derived.KernelRfl
/- The functions of the program below scenes, each told by a function on data. No conditions. -/
set_option linter.unusedVariables false
namespace Go.DI.S
open Go.Proofs
noncomputable def eqT : TypeId → Option (List (TypeId × Nat))
  | 27 => some [(25, 0), (25, 1)]
  | 47 => some [(3,0),(27,1),(25,3),(27,4),(27,6)]
  | 49 => some [(3,0),(3,1),(25,2)]
  | 108 => some [(3,0),(9,1),(9,2)]
  | 86 => some [(3,0),(9,1)]
  | _ => none
def noCode : List Nat := [0, 1, 156, 235]
noncomputable def isFnT (g : Nat) : Bool := Nat.blt g 251 && !(noCode.any (Nat.beq g))
noncomputable def CTp (p : Nat) : Cfg := ⟨Tryz.prog, isFnT, eqT, p⟩
noncomputable abbrev CT : Cfg := CTp 0
abbrev I := Ty.int .i64
abbrev tVec : Ty := .pair I I
abbrev tBody : Ty := .pair I (.pair tVec (.pair I (.pair tVec tVec)))
abbrev tJoint : Ty := .pair I (.pair I I)
abbrev tThing : Ty := .pair I (.pair I (.pair tBody (.pair tJoint (.list I))))
abbrev tScene : Ty := .pair tVec (.pair I (.list tThing))
abbrev tWorld : Ty := .pair tVec (.pair (.list tBody) (.list tJoint))
abbrev tPair : Ty := .pair I I
abbrev Vec := tVec.El
abbrev Body := tBody.El
abbrev Joint := tJoint.El
abbrev Thing := tThing.El
abbrev Scene := tScene.El
abbrev World' := tWorld.El
abbrev tDelta : Ty := .pair I (.pair .str .str)
abbrev tEntry : Ty := .pair (.list tDelta) (.pair .bool (.pair tVec (.pair tVec (.pair I I))))
abbrev tPast : Ty := .pair (.list tEntry) (.list tEntry)
abbrev tRec : Ty := .pair I .str
noncomputable def tyT : TypeId → Option Ty
  | 3 => some I
  | 4 => some .bool
  | 5 => some (.int .u8)
  | 27 => some tVec
  | 47 => some tBody
  | 49 => some tJoint
  | 52 => some tThing
  | 56 => some tEntry
  | 108 => some tDelta
  | 184 => some tPair
  | 86 => some tRec
  | _ => none
noncomputable def mpT : TypeId → Option (Ty × Ty)
  | 128 => some (I, I)
  | 168 => some (I, .bool)
  | 231 => some (I, .str)
  | _ => none
def slotR (s : AS) (t : Nat) : Nat := match s.r[t]? with
  | some (.ptr k _) => k
  | some (.map k) => k
  | some (.orow _ k) => k
  | some (.own _ k _ _) => k
  | _ => 0
def slotC (s : AS) (t o : Nat) : Nat := match s.r[t]? with
  | some (.ptr k _) => match s.h[k]? with
    | some (some (.cells _ cs)) => match cs[o]? with
      | some (.orow _ j) => j
      | some (.map j) => j
      | some (.ptr j _) => j
      | _ => 0
    | _ => 0
  | _ => 0
def slotH (s : AS) (k o : Nat) : Nat := match s.h[k]? with
  | some (some (.cells _ cs)) => match cs[o]? with
    | some (.orow _ j) => j
    | some (.map j) => j
    | some (.ptr j _) => j
    | _ => 0
  | _ => 0
def fuel : Nat := 18446744073709551616
def atLoop (c : Code) (k : Nat) : Code := match (loopsOf c).find? (fun p => Nat.beq p.1 k) with
  | some p => p.2
  | none => .skip
noncomputable def fnGood (g : Nat) : Bool := match Tryz.prog.funcs[g]? with
  | some f => !(f.name == "runtime.NumGoroutine") && !f.body.isNone
  | none => false
theorem fnGood_all : (List.range 251).all (fun g => noCode.any (Nat.beq g) || fnGood g) = true := by kernel_rfl
theorem eqP : ∀ t ∈ [27, 47, 49, 108, 86], (Tryz.prog.stoodInHeld t = false ∧ Tryz.prog.eqGuardType Tryz.prog.depth t = false ∧ Tryz.prog.underlying t = some (.struct (Tryz.prog.fieldsOf t)) ∧
    some (((Tryz.prog.fieldsOf t).toList.filter (fun f => decide (f.name ≠ "_"))).map (fun f => (f.type, f.offset))) = eqT t) := by
  intro t ht
  simp only [List.mem_cons, List.mem_nil_iff, or_false] at ht
  rcases ht with rfl | rfl | rfl | rfl | rfl
  · exact ⟨by kernel_rfl, by kernel_rfl, by kernel_rfl, by kernel_rfl⟩
  · exact ⟨by kernel_rfl, by kernel_rfl, by kernel_rfl, by kernel_rfl⟩
  · exact ⟨by kernel_rfl, by kernel_rfl, by kernel_rfl, by kernel_rfl⟩
  · exact ⟨by kernel_rfl, by kernel_rfl, by kernel_rfl, by kernel_rfl⟩
  · exact ⟨by kernel_rfl, by kernel_rfl, by kernel_rfl, by kernel_rfl⟩
theorem CTp_ok (p : Nat) : (CTp p).Ok where
  fn := by
    intro g hg
    have hg : (g < 251) ∧ (noCode.any (Nat.beq g)) = false := by
      have hg : (Nat.blt g 251 && !(noCode.any (Nat.beq g))) = true := hg
      rw [Bool.and_eq_true, Nat.blt_eq] at hg
      exact ⟨hg.1, by simpa only [Bool.not_eq_true'] using hg.2⟩
    have h := List.all_eq_true.1 fnGood_all g (List.mem_range.2 hg.1)
    rw [hg.2, Bool.false_or] at h
    unfold fnGood at h
    show ∃ f, Tryz.prog.funcs[g]? = some f ∧ _
    split at h
    · rename_i f hf
      refine ⟨f, hf, ?_⟩
      simpa using h
    · cases h
  eq := by
    intro t l h
    have ht : t ∈ [27, 47, 49, 108, 86] := by
      have h : eqT t = some l := h
      unfold eqT at h
      split at h <;> first | (simp; done) | cases h
    obtain ⟨h1, h2, h3, h4⟩ := eqP t ht
    refine ⟨h1, h2, h3, ?_⟩
    have h : eqT t = some l := h
    rw [h] at h4
    exact Option.some.inj h4
  mixed := by kernel_rfl
theorem CT_ok : CT.Ok := CTp_ok 0
end Go.DI.S
set_option linter.unusedVariables false
set_option maxRecDepth 100000
set_option maxHeartbeats 0
namespace Go.DI.S
open Go.Proofs
noncomputable def c_17 : Code := Tryz.f14.body.getD .skip
theorem hb_17 : Tryz.f14.body = some c_17 := by kernel_rfl
theorem hf_17 : CT.P.funcs[14]? = some Tryz.f14 := by kernel_rfl
noncomputable def T_17 : Tb := mkTb tyT mpT []
theorem T_17_ok : T_17.Ok CT.P := mkTb_ok (trivial)
noncomputable def lp_17 {β : Type} : LpT β := fun _ _ _ => none
theorem lp_17_ok {β : Type} : LpTOk CT (lp_17 (β := β)) (loopsOf c_17) := by
  have h : loopsOf c_17 = [] := by kernel_rfl
  rw [h]
  exact LpTOk.nil
noncomputable def F_17 (a1 : Ty.El I) (a2 : Ty.El I) (a3 : Ty.El I) (a4 : Ty.El I) : Option (Els [tThing]) := Option.some ((a1, (1 : Int), ((1 : Int), ((4294967296 : Int), (0 : Int)), a4, (a2, a3), (0 : Int), (0 : Int)), ((0 : Int), (0 : Int), (0 : Int)), []), ())
theorem f_17 (x : Ps [.ty I, .ty I, .ty I, .ty I]) : funcT CT T_17 [tThing] (drT CT T_17) lp_17 Tryz.f14 c_17 (encPs [.ty I, .ty I, .ty I, .ty I] x) = F_17 x.1 x.2.1 x.2.2.1 x.2.2.2.1 := by kernel_rfl
noncomputable def E_17 : Ent := .fn 14 [] ⟨[.ty I, .ty I, .ty I, .ty I], [tThing], fun x => F_17 x.1 x.2.1 x.2.2.1 x.2.2.2.1, false⟩
theorem e_17 : E_17.Ok CT.P := Ent.ofFn CT_ok T_17_ok hf_17 hb_17 lp_17_ok f_17
noncomputable def c_19 : Code := Tryz.f13.body.getD .skip
theorem hb_19 : Tryz.f13.body = some c_19 := by kernel_rfl
theorem hf_19 : CT.P.funcs[13]? = some Tryz.f13 := by kernel_rfl
noncomputable def T_19 : Tb := mkTb tyT mpT []
theorem T_19_ok : T_19.Ok CT.P := mkTb_ok (trivial)
noncomputable def lp_19 {β : Type} : LpT β := fun _ _ _ => none
theorem lp_19_ok {β : Type} : LpTOk CT (lp_19 (β := β)) (loopsOf c_19) := by
  have h : loopsOf c_19 = [] := by kernel_rfl
  rw [h]
  exact LpTOk.nil
noncomputable def F_19  : Option (Els [tScene]) := Option.some ((((0 : Int), (0 : Int)), (1 : Int), []), ())
theorem f_19 (x : Ps []) : funcT CT T_19 [tScene] (drT CT T_19) lp_19 Tryz.f13 c_19 (encPs [] x) = F_19 := by kernel_rfl
noncomputable def E_19 : Ent := .fn 13 [] ⟨[], [tScene], fun x => F_19, false⟩
theorem e_19 : E_19.Ok CT.P := Ent.ofFn CT_ok T_19_ok hf_19 hb_19 lp_19_ok f_19
noncomputable def c_86 : Code := Tryz.f98.body.getD .skip
theorem hb_86 : Tryz.f98.body = some c_86 := by kernel_rfl
theorem hf_86 : CT.P.funcs[98]? = some Tryz.f98 := by kernel_rfl
noncomputable def T_86 : Tb := mkTb tyT mpT []
theorem T_86_ok : T_86.Ok CT.P := mkTb_ok (trivial)
noncomputable def lp_86 {β : Type} : LpT β := fun _ _ _ => none
theorem lp_86_ok {β : Type} : LpTOk CT (lp_86 (β := β)) (loopsOf c_86) := by
  have h : loopsOf c_86 = [] := by kernel_rfl
  rw [h]
  exact LpTOk.nil
noncomputable def F_86 (a1 : Ty.El I) : Option (Els [.bool]) := bif Decidable.decide (a1 ≥ (1 : Int)) then Option.some (Decidable.decide (a1 ≤ (1000000 : Int)), ()) else Option.some (Bool.false, ())
theorem f_86 (x : Ps [.ty I]) : funcT CT T_86 [.bool] (drT CT T_86) lp_86 Tryz.f98 c_86 (encPs [.ty I] x) = F_86 x.1 := by kernel_rfl
noncomputable def E_86 : Ent := .fn 98 [] ⟨[.ty I], [.bool], fun x => F_86 x.1, false⟩
theorem e_86 : E_86.Ok CT.P := Ent.ofFn CT_ok T_86_ok hf_86 hb_86 lp_86_ok f_86
noncomputable def c_87 : Code := Tryz.f151.body.getD .skip
theorem hb_87 : Tryz.f151.body = some c_87 := by kernel_rfl
theorem hf_87 : CT.P.funcs[151]? = some Tryz.f151 := by kernel_rfl
noncomputable def T_87 : Tb := mkTb tyT mpT []
theorem T_87_ok : T_87.Ok CT.P := mkTb_ok (trivial)
noncomputable def lp_87 {β : Type} : LpT β := fun _ _ _ => none
theorem lp_87_ok {β : Type} : LpTOk CT (lp_87 (β := β)) (loopsOf c_87) := by
  have h : loopsOf c_87 = [] := by kernel_rfl
  rw [h]
  exact LpTOk.nil
noncomputable def F_87 (a1 : Ty.El tThing) : Option (Els [.bool]) := bif a1.snd.fst == (1 : Int) then bif a1.snd.snd.snd.fst.fst == (0 : Int) && (a1.snd.snd.snd.fst.snd.fst == (0 : Int) && (a1.snd.snd.snd.fst.snd.snd == (0 : Int) && Bool.true)) then Option.some (↑(List.length a1.snd.snd.snd.snd) == (0 : Int), ()) else Option.some (Bool.false, ()) else bif a1.snd.fst == (2 : Int) then bif a1.snd.snd.fst.fst == (0 : Int) && (a1.snd.snd.fst.snd.fst.fst == (0 : Int) && (a1.snd.snd.fst.snd.fst.snd == (0 : Int) && Bool.true) && (a1.snd.snd.fst.snd.snd.fst == (0 : Int) && (a1.snd.snd.fst.snd.snd.snd.fst.fst == (0 : Int) && (a1.snd.snd.fst.snd.snd.snd.fst.snd == (0 : Int) && Bool.true) && (a1.snd.snd.fst.snd.snd.snd.snd.fst == (0 : Int) && (a1.snd.snd.fst.snd.snd.snd.snd.snd == (0 : Int) && Bool.true) && Bool.true)))) then Option.some (↑(List.length a1.snd.snd.snd.snd) == (0 : Int), ()) else Option.some (Bool.false, ()) else bif a1.snd.snd.fst.fst == (0 : Int) && (a1.snd.snd.fst.snd.fst.fst == (0 : Int) && (a1.snd.snd.fst.snd.fst.snd == (0 : Int) && Bool.true) && (a1.snd.snd.fst.snd.snd.fst == (0 : Int) && (a1.snd.snd.fst.snd.snd.snd.fst.fst == (0 : Int) && (a1.snd.snd.fst.snd.snd.snd.fst.snd == (0 : Int) && Bool.true) && (a1.snd.snd.fst.snd.snd.snd.snd.fst == (0 : Int) && (a1.snd.snd.fst.snd.snd.snd.snd.snd == (0 : Int) && Bool.true) && Bool.true)))) then Option.some (a1.snd.snd.snd.fst.fst == (0 : Int) && (a1.snd.snd.snd.fst.snd.fst == (0 : Int) && (a1.snd.snd.snd.fst.snd.snd == (0 : Int) && Bool.true)), ()) else Option.some (Bool.false, ())
theorem f_87 (x : Ps [.ty tThing]) : funcT CT T_87 [.bool] (drT CT T_87) lp_87 Tryz.f151 c_87 (encPs [.ty tThing] x) = F_87 x.1 := by kernel_rfl
noncomputable def E_87 : Ent := .fn 151 [] ⟨[.ty tThing], [.bool], fun x => F_87 x.1, false⟩
theorem e_87 : E_87.Ok CT.P := Ent.ofFn CT_ok T_87_ok hf_87 hb_87 lp_87_ok f_87
noncomputable def c_125 : Code := Tryz.f158.body.getD .skip
theorem hb_125 : Tryz.f158.body = some c_125 := by kernel_rfl
theorem hf_125 : CT.P.funcs[158]? = some Tryz.f158 := by kernel_rfl
noncomputable def T_125 : Tb := mkTb tyT mpT []
theorem T_125_ok : T_125.Ok CT.P := mkTb_ok (trivial)
noncomputable def lp_125 {β : Type} : LpT β := fun _ _ _ => none
theorem lp_125_ok {β : Type} : LpTOk CT (lp_125 (β := β)) (loopsOf c_125) := by
  have h : loopsOf c_125 = [] := by kernel_rfl
  rw [h]
  exact LpTOk.nil
noncomputable def F_125 (a1 : Ty.El I) : Option (Els [.str]) := bif a1 == (1 : Int) then Option.some ([OfNat.ofNat (98 : Nat), OfNat.ofNat (97 : Nat), OfNat.ofNat (108 : Nat), OfNat.ofNat (108 : Nat)], ()) else bif a1 == (2 : Int) then Option.some ([OfNat.ofNat (99 : Nat), OfNat.ofNat (114 : Nat), OfNat.ofNat (97 : Nat), OfNat.ofNat (116 : Nat), OfNat.ofNat (101 : Nat)], ()) else Option.some ([], ())
theorem f_125 (x : Ps [.ty I]) : funcT CT T_125 [.str] (drT CT T_125) lp_125 Tryz.f158 c_125 (encPs [.ty I] x) = F_125 x.1 := by kernel_rfl
noncomputable def E_125 : Ent := .fn 158 [] ⟨[.ty I], [.str], fun x => F_125 x.1, false⟩
theorem e_125 : E_125.Ok CT.P := Ent.ofFn CT_ok T_125_ok hf_125 hb_125 lp_125_ok f_125
noncomputable def c_126 : Code := Tryz.f159.body.getD .skip
theorem hb_126 : Tryz.f159.body = some c_126 := by kernel_rfl
theorem hf_126 : CT.P.funcs[159]? = some Tryz.f159 := by kernel_rfl
noncomputable def T_126 : Tb := mkTb tyT mpT []
theorem T_126_ok : T_126.Ok CT.P := mkTb_ok (trivial)
noncomputable def lp_126 {β : Type} : LpT β := fun _ _ _ => none
theorem lp_126_ok {β : Type} : LpTOk CT (lp_126 (β := β)) (loopsOf c_126) := by
  have h : loopsOf c_126 = [] := by kernel_rfl
  rw [h]
  exact LpTOk.nil
noncomputable def F_126 (a1 : Ty.El I) (a2 : Ty.El I) (a3 : Ty.El I) : Option (Els [.bool]) := bif Decidable.decide (a1 ≥ a2) then Option.some (Decidable.decide (a1 ≤ a3), ()) else Option.some (Bool.false, ())
theorem f_126 (x : Ps [.ty I, .ty I, .ty I]) : funcT CT T_126 [.bool] (drT CT T_126) lp_126 Tryz.f159 c_126 (encPs [.ty I, .ty I, .ty I] x) = F_126 x.1 x.2.1 x.2.2.1 := by kernel_rfl
noncomputable def E_126 : Ent := .fn 159 [] ⟨[.ty I, .ty I, .ty I], [.bool], fun x => F_126 x.1 x.2.1 x.2.2.1, false⟩
theorem e_126 : E_126.Ok CT.P := Ent.ofFn CT_ok T_126_ok hf_126 hb_126 lp_126_ok f_126
noncomputable def c_127 : Code := Tryz.f160.body.getD .skip
theorem hb_127 : Tryz.f160.body = some c_127 := by kernel_rfl
theorem hf_127 : CT.P.funcs[160]? = some Tryz.f160 := by kernel_rfl
noncomputable def T_127 : Tb := mkTb tyT mpT [E_126]
theorem T_127_ok : T_127.Ok CT.P := mkTb_ok (⟨e_126, trivial⟩)
noncomputable def lp_127 {β : Type} : LpT β := fun _ _ _ => none
theorem lp_127_ok {β : Type} : LpTOk CT (lp_127 (β := β)) (loopsOf c_127) := by
  have h : loopsOf c_127 = [] := by kernel_rfl
  rw [h]
  exact LpTOk.nil
noncomputable def F_127 (a1 : Ty.El tVec) (a2 : Ty.El I) : Option (Els [.bool]) := (F_126 a1.fst (Go.IntKind.i64.wrap ((0 : Int) - a2)) a2).bind fun v1 => bif v1.fst then (F_126 a1.snd (Go.IntKind.i64.wrap ((0 : Int) - a2)) a2).bind fun v3 => Option.some (v3.fst, ()) else Option.some (Bool.false, ())
theorem f_127 (x : Ps [.ty tVec, .ty I]) : funcT CT T_127 [.bool] (drT CT T_127) lp_127 Tryz.f160 c_127 (encPs [.ty tVec, .ty I] x) = F_127 x.1 x.2.1 := by kernel_rfl
noncomputable def E_127 : Ent := .fn 160 [] ⟨[.ty tVec, .ty I], [.bool], fun x => F_127 x.1 x.2.1, false⟩
theorem e_127 : E_127.Ok CT.P := Ent.ofFn CT_ok T_127_ok hf_127 hb_127 lp_127_ok f_127
noncomputable def c_88 : Code := Tryz.f110.body.getD .skip
theorem hb_88 : Tryz.f110.body = some c_88 := by kernel_rfl
theorem hf_88 : CT.P.funcs[110]? = some Tryz.f110 := by kernel_rfl
noncomputable def T_88 : Tb := mkTb tyT mpT [E_125, E_126, E_127]
theorem T_88_ok : T_88.Ok CT.P := mkTb_ok (⟨e_125, e_126, e_127, trivial⟩)
noncomputable def lp_88 {β : Type} : LpT β := fun _ _ _ => none
theorem lp_88_ok {β : Type} : LpTOk CT (lp_88 (β := β)) (loopsOf c_88) := by
  have h : loopsOf c_88 = [] := by kernel_rfl
  rw [h]
  exact LpTOk.nil
noncomputable def F_88 (a1 : Ty.El tBody) : Option (Els [.bool]) := (F_125 a1.fst).bind fun v1 => bif v1.fst == [] then Option.some (Bool.false, ()) else (F_126 a1.snd.fst.fst (67108864 : Int) (4294967296000 : Int)).bind fun v3 => bif !v3.fst then Option.some (Bool.false, ()) else bif a1.fst == (1 : Int) then bif a1.snd.fst.snd != (0 : Int) then Option.some (Bool.false, ()) else bif a1.fst == (2 : Int) then (F_126 a1.snd.fst.snd (67108864 : Int) (4294967296000 : Int)).bind fun v8 => bif !v8.fst then Option.some (Bool.false, ()) else bif a1.snd.snd.fst == (0 : Int) then bif !(a1.snd.snd.snd.snd.fst == (0 : Int) && (a1.snd.snd.snd.snd.snd == (0 : Int) && Bool.true)) then Option.some (Bool.false, ()) else bif a1.snd.snd.fst != (0 : Int) then (F_126 a1.snd.snd.fst (67108864 : Int) (42949672960000 : Int)).bind fun v13 => bif !v13.fst then Option.some (Bool.false, ()) else (F_127 a1.snd.snd.snd.fst (42949672960000 : Int)).bind fun v15 => bif v15.fst then (F_127 a1.snd.snd.snd.snd (4294967296000000 : Int)).bind fun v17 => Option.some (v17.fst, ()) else Option.some (Bool.false, ()) else (F_127 a1.snd.snd.snd.fst (42949672960000 : Int)).bind fun v18 => bif v18.fst then (F_127 a1.snd.snd.snd.snd (4294967296000000 : Int)).bind fun v20 => Option.some (v20.fst, ()) else Option.some (Bool.false, ()) else bif a1.snd.snd.fst != (0 : Int) then (F_126 a1.snd.snd.fst (67108864 : Int) (42949672960000 : Int)).bind fun v22 => bif !v22.fst then Option.some (Bool.false, ()) else (F_127 a1.snd.snd.snd.fst (42949672960000 : Int)).bind fun v24 => bif v24.fst then (F_127 a1.snd.snd.snd.snd (4294967296000000 : Int)).bind fun v26 => Option.some (v26.fst, ()) else Option.some (Bool.false, ()) else (F_127 a1.snd.snd.snd.fst (42949672960000 : Int)).bind fun v27 => bif v27.fst then (F_127 a1.snd.snd.snd.snd (4294967296000000 : Int)).bind fun v29 => Option.some (v29.fst, ()) else Option.some (Bool.false, ()) else bif a1.snd.snd.fst == (0 : Int) then bif !(a1.snd.snd.snd.snd.fst == (0 : Int) && (a1.snd.snd.snd.snd.snd == (0 : Int) && Bool.true)) then Option.some (Bool.false, ()) else bif a1.snd.snd.fst != (0 : Int) then (F_126 a1.snd.snd.fst (67108864 : Int) (42949672960000 : Int)).bind fun v33 => bif !v33.fst then Option.some (Bool.false, ()) else (F_127 a1.snd.snd.snd.fst (42949672960000 : Int)).bind fun v35 => bif v35.fst then (F_127 a1.snd.snd.snd.snd (4294967296000000 : Int)).bind fun v37 => Option.some (v37.fst, ()) else Option.some (Bool.false, ()) else (F_127 a1.snd.snd.snd.fst (42949672960000 : Int)).bind fun v38 => bif v38.fst then (F_127 a1.snd.snd.snd.snd (4294967296000000 : Int)).bind fun v40 => Option.some (v40.fst, ()) else Option.some (Bool.false, ()) else bif a1.snd.snd.fst != (0 : Int) then (F_126 a1.snd.snd.fst (67108864 : Int) (42949672960000 : Int)).bind fun v42 => bif !v42.fst then Option.some (Bool.false, ()) else (F_127 a1.snd.snd.snd.fst (42949672960000 : Int)).bind fun v44 => bif v44.fst then (F_127 a1.snd.snd.snd.snd (4294967296000000 : Int)).bind fun v46 => Option.some (v46.fst, ()) else Option.some (Bool.false, ()) else (F_127 a1.snd.snd.snd.fst (42949672960000 : Int)).bind fun v47 => bif v47.fst then (F_127 a1.snd.snd.snd.snd (4294967296000000 : Int)).bind fun v49 => Option.some (v49.fst, ()) else Option.some (Bool.false, ()) else bif a1.fst == (2 : Int) then (F_126 a1.snd.fst.snd (67108864 : Int) (4294967296000 : Int)).bind fun v51 => bif !v51.fst then Option.some (Bool.false, ()) else bif a1.snd.snd.fst == (0 : Int) then bif !(a1.snd.snd.snd.snd.fst == (0 : Int) && (a1.snd.snd.snd.snd.snd == (0 : Int) && Bool.true)) then Option.some (Bool.false, ()) else bif a1.snd.snd.fst != (0 : Int) then (F_126 a1.snd.snd.fst (67108864 : Int) (42949672960000 : Int)).bind fun v56 => bif !v56.fst then Option.some (Bool.false, ()) else (F_127 a1.snd.snd.snd.fst (42949672960000 : Int)).bind fun v58 => bif v58.fst then (F_127 a1.snd.snd.snd.snd (4294967296000000 : Int)).bind fun v60 => Option.some (v60.fst, ()) else Option.some (Bool.false, ()) else (F_127 a1.snd.snd.snd.fst (42949672960000 : Int)).bind fun v61 => bif v61.fst then (F_127 a1.snd.snd.snd.snd (4294967296000000 : Int)).bind fun v63 => Option.some (v63.fst, ()) else Option.some (Bool.false, ()) else bif a1.snd.snd.fst != (0 : Int) then (F_126 a1.snd.snd.fst (67108864 : Int) (42949672960000 : Int)).bind fun v65 => bif !v65.fst then Option.some (Bool.false, ()) else (F_127 a1.snd.snd.snd.fst (42949672960000 : Int)).bind fun v67 => bif v67.fst then (F_127 a1.snd.snd.snd.snd (4294967296000000 : Int)).bind fun v69 => Option.some (v69.fst, ()) else Option.some (Bool.false, ()) else (F_127 a1.snd.snd.snd.fst (42949672960000 : Int)).bind fun v70 => bif v70.fst then (F_127 a1.snd.snd.snd.snd (4294967296000000 : Int)).bind fun v72 => Option.some (v72.fst, ()) else Option.some (Bool.false, ()) else bif a1.snd.snd.fst == (0 : Int) then bif !(a1.snd.snd.snd.snd.fst == (0 : Int) && (a1.snd.snd.snd.snd.snd == (0 : Int) && Bool.true)) then Option.some (Bool.false, ()) else bif a1.snd.snd.fst != (0 : Int) then (F_126 a1.snd.snd.fst (67108864 : Int) (42949672960000 : Int)).bind fun v76 => bif !v76.fst then Option.some (Bool.false, ()) else (F_127 a1.snd.snd.snd.fst (42949672960000 : Int)).bind fun v78 => bif v78.fst then (F_127 a1.snd.snd.snd.snd (4294967296000000 : Int)).bind fun v80 => Option.some (v80.fst, ()) else Option.some (Bool.false, ()) else (F_127 a1.snd.snd.snd.fst (42949672960000 : Int)).bind fun v81 => bif v81.fst then (F_127 a1.snd.snd.snd.snd (4294967296000000 : Int)).bind fun v83 => Option.some (v83.fst, ()) else Option.some (Bool.false, ()) else bif a1.snd.snd.fst != (0 : Int) then (F_126 a1.snd.snd.fst (67108864 : Int) (42949672960000 : Int)).bind fun v85 => bif !v85.fst then Option.some (Bool.false, ()) else (F_127 a1.snd.snd.snd.fst (42949672960000 : Int)).bind fun v87 => bif v87.fst then (F_127 a1.snd.snd.snd.snd (4294967296000000 : Int)).bind fun v89 => Option.some (v89.fst, ()) else Option.some (Bool.false, ()) else (F_127 a1.snd.snd.snd.fst (42949672960000 : Int)).bind fun v90 => bif v90.fst then (F_127 a1.snd.snd.snd.snd (4294967296000000 : Int)).bind fun v92 => Option.some (v92.fst, ()) else Option.some (Bool.false, ())
theorem f_88 (x : Ps [.ty tBody]) : funcT CT T_88 [.bool] (drT CT T_88) lp_88 Tryz.f110 c_88 (encPs [.ty tBody] x) = F_88 x.1 := by kernel_rfl
noncomputable def E_88 : Ent := .fn 110 [] ⟨[.ty tBody], [.bool], fun x => F_88 x.1, false⟩
theorem e_88 : E_88.Ok CT.P := Ent.ofFn CT_ok T_88_ok hf_88 hb_88 lp_88_ok f_88
noncomputable def c_89 : Code := Tryz.f152.body.getD .skip
theorem hb_89 : Tryz.f152.body = some c_89 := by kernel_rfl
theorem hf_89 : CT.P.funcs[152]? = some Tryz.f152 := by kernel_rfl
noncomputable def T_89 : Tb := mkTb tyT mpT [E_86]
theorem T_89_ok : T_89.Ok CT.P := mkTb_ok (⟨e_86, trivial⟩)
noncomputable def l_89_3 : Code := atLoop c_89 3
noncomputable abbrev LD_89_3 : LayD := ⟨39, [(1, .ptr 0), (3, .data I), (7, .data (.list I)), (8, .data I), (9, .data I)], [.var 52 [.data tThing]], fun s => [slotR s 1]⟩
noncomputable abbrev LA_89_3 : LayD := ⟨39, [(1, .ptr 0)], [.var 52 [.data tThing]], fun s => [slotR s 1]⟩
noncomputable abbrev LB_89_3 : LayD := ⟨39, [(2, .data .bool)], [], fun _ => []⟩
noncomputable def EX_89_3 : Exits 0 LA_89_3.El LB_89_3.El := ⟨.exit 0, LA_89_3.lay [], .ret, LB_89_3.lay []⟩
noncomputable def lpi_89_3 {β : Type} : LpT β := fun _ _ _ => none
theorem lpi_89_3_ok {β : Type} : LpTOk CT (lpi_89_3 (β := β)) (loopsOf l_89_3) := by
  have h : loopsOf l_89_3 = [] := by kernel_rfl
  rw [h]
  exact LpTOk.nil
noncomputable def G_89_3 (r3 : Ty.El I) (r7 : Ty.El (.list I)) (r8 : Ty.El I) (r9 : Ty.El I) (b0 : Ty.El tThing × Unit) : Option (LD_89_3.El ⊕ (LA_89_3.El ⊕ LB_89_3.El)) := bif Decidable.decide (r9 < r8) then bif Decidable.decide ((0 : Int) ≤ r9 ∧ r9 < ↑(List.length r7)) then bif Decidable.decide (List.getD r7 (Int.toNat r9) (0 : Int) ≤ r3) then Option.some (Sum.inr (Sum.inr ((Bool.false, ()), ()))) else (F_86 (List.getD r7 (Int.toNat r9) (0 : Int))).bind fun v4 => bif !v4.fst then Option.some (Sum.inr (Sum.inr ((Bool.false, ()), ()))) else bif List.getD r7 (Int.toNat r9) (0 : Int) == b0.fst.fst then Option.some (Sum.inr (Sum.inr ((Bool.false, ()), ()))) else Option.some (Sum.inl (((), List.getD r7 (Int.toNat r9) (0 : Int), r7, r8, Go.IntKind.i64.wrap (r9 + (1 : Int)), ()), (b0.fst, ()), ())) else Option.none else Option.some (Sum.inr (Sum.inl (((), ()), (b0.fst, ()), ())))
theorem g_89_3 (x : LD_89_3.El) : codeT CT T_89 (drT CT T_89) lpi_89_3 l_89_3 (LD_89_3.enc x) (bodyK (LD_89_3.lay []) EX_89_3) = G_89_3 x.1.2.1 x.1.2.2.1 x.1.2.2.2.1 x.1.2.2.2.2.1 x.2.1 := by kernel_rfl
noncomputable def R_89_3 : LD_89_3.El → Option (LA_89_3.El ⊕ LB_89_3.El) := roundsT (fun x => G_89_3 x.1.2.1 x.1.2.2.1 x.1.2.2.2.1 x.1.2.2.2.2.1 x.2.1) fuel
theorem r_89_3 : ∀ x y, R_89_3 x = some y → CL CT l_89_3 (LD_89_3.enc x) (Sum.elim (fun _ => EX_89_3.xa) (fun _ => EX_89_3.xb) y) (Sum.elim EX_89_3.la.enc EX_89_3.lb.enc y) :=
  rounds_ok (L := LD_89_3.lay []) (E := EX_89_3) CT_ok T_89_ok (drT_ok CT_ok T_89_ok) lpi_89_3_ok g_89_3 rfl rfl (fun v h => by have hh : (.exit 0 : AX) = .pan v := h; cases hh) (fun v h => by have hh : (.ret : AX) = .pan v := h; cases hh) fuel
noncomputable def lp_89 {β : Type} : LpT β := fun k s K => if Nat.beq k 3 then lpOne (LD_89_3.lay []) EX_89_3 R_89_3 s K else none
theorem lp_89_ok {β : Type} : LpTOk CT (lp_89 (β := β)) (loopsOf c_89) := by
  have h : loopsOf c_89 = [(3, l_89_3)] := by kernel_rfl
  rw [h]
  exact LpTOk.cons (fun s K z h => lpOne_ok r_89_3 h) (LpTOk.nil)
noncomputable def F_89 (a1 : Ty.El tThing) : Option (Els [.bool]) := (R_89_3 (((), (0 : Int), a1.snd.snd.snd.snd, ↑(List.length a1.snd.snd.snd.snd), (0 : Int), ()), (a1, ()), ())).bind fun v1 => Sum.elim (fun v2 => bif Decidable.decide (↑(List.length v2.snd.fst.fst.snd.snd.snd.snd) ≥ (1 : Int)) then Option.some (Decidable.decide (↑(List.length v2.snd.fst.fst.snd.snd.snd.snd) ≤ (8 : Int)), ()) else Option.some (Bool.false, ())) (fun v4 => Option.some (v4.fst.fst, ())) v1
theorem f_89 (x : Ps [.ty tThing]) : funcT CT T_89 [.bool] (drT CT T_89) lp_89 Tryz.f152 c_89 (encPs [.ty tThing] x) = F_89 x.1 := by kernel_rfl
noncomputable def E_89 : Ent := .fn 152 [] ⟨[.ty tThing], [.bool], fun x => F_89 x.1, false⟩
theorem e_89 : E_89.Ok CT.P := Ent.ofFn CT_ok T_89_ok hf_89 hb_89 lp_89_ok f_89
noncomputable def c_45 : Code := Tryz.f102.body.getD .skip
theorem hb_45 : Tryz.f102.body = some c_45 := by kernel_rfl
theorem hf_45 : CT.P.funcs[102]? = some Tryz.f102 := by kernel_rfl
noncomputable def T_45 : Tb := mkTb tyT mpT [E_86, E_87, E_88, E_89]
theorem T_45_ok : T_45.Ok CT.P := mkTb_ok (⟨e_86, e_87, e_88, e_89, trivial⟩)
noncomputable def lp_45 {β : Type} : LpT β := fun _ _ _ => none
theorem lp_45_ok {β : Type} : LpTOk CT (lp_45 (β := β)) (loopsOf c_45) := by
  have h : loopsOf c_45 = [] := by kernel_rfl
  rw [h]
  exact LpTOk.nil
noncomputable def F_45 (a1 : Ty.El tThing) : Option (Els [.bool]) := (F_86 a1.fst).bind fun v1 => bif !v1.fst then Option.some (Bool.false, ()) else (F_87 a1).bind fun v3 => bif !v3.fst then Option.some (Bool.false, ()) else bif a1.snd.fst == (1 : Int) then (F_88 a1.snd.snd.fst).bind fun v6 => Option.some (v6.fst, ()) else bif a1.snd.fst == (2 : Int) then (F_86 a1.snd.snd.snd.fst.fst).bind fun v8 => bif v8.fst then (F_86 a1.snd.snd.snd.fst.snd.fst).bind fun v10 => bif v10.fst then bif a1.snd.snd.snd.fst.fst != a1.snd.snd.snd.fst.snd.fst then bif Decidable.decide (a1.snd.snd.snd.fst.snd.snd ≥ (0 : Int)) then Option.some (Decidable.decide (a1.snd.snd.snd.fst.snd.snd ≤ (4294967296000 : Int)), ()) else Option.some (Bool.false, ()) else Option.some (Bool.false, ()) else Option.some (Bool.false, ()) else Option.some (Bool.false, ()) else bif a1.snd.fst == (3 : Int) then (F_89 a1).bind fun v15 => Option.some (v15.fst, ()) else Option.some (Bool.false, ())
theorem f_45 (x : Ps [.ty tThing]) : funcT CT T_45 [.bool] (drT CT T_45) lp_45 Tryz.f102 c_45 (encPs [.ty tThing] x) = F_45 x.1 := by kernel_rfl
noncomputable def E_45 : Ent := .fn 102 [] ⟨[.ty tThing], [.bool], fun x => F_45 x.1, false⟩
theorem e_45 : E_45.Ok CT.P := Ent.ofFn CT_ok T_45_ok hf_45 hb_45 lp_45_ok f_45
noncomputable def c_130 : Code := Tryz.f116.body.getD .skip
theorem hb_130 : Tryz.f116.body = some c_130 := by kernel_rfl
theorem hf_130 : CT.P.funcs[116]? = some Tryz.f116 := by kernel_rfl
noncomputable def T_130 : Tb := mkTb tyT mpT []
theorem T_130_ok : T_130.Ok CT.P := mkTb_ok (trivial)
noncomputable def lp_130 {β : Type} : LpT β := fun _ _ _ => none
theorem lp_130_ok {β : Type} : LpTOk CT (lp_130 (β := β)) (loopsOf c_130) := by
  have h : loopsOf c_130 = [] := by kernel_rfl
  rw [h]
  exact LpTOk.nil
noncomputable def F_130 (a1 : Ty.El I) : Option (Els [.bool]) := bif Decidable.decide (a1 ≥ (-4294967296000 : Int)) then Option.some (Decidable.decide (a1 ≤ (4294967296000 : Int)), ()) else Option.some (Bool.false, ())
theorem f_130 (x : Ps [.ty I]) : funcT CT T_130 [.bool] (drT CT T_130) lp_130 Tryz.f116 c_130 (encPs [.ty I] x) = F_130 x.1 := by kernel_rfl
noncomputable def E_130 : Ent := .fn 116 [] ⟨[.ty I], [.bool], fun x => F_130 x.1, false⟩
theorem e_130 : E_130.Ok CT.P := Ent.ofFn CT_ok T_130_ok hf_130 hb_130 lp_130_ok f_130
noncomputable def c_99 : Code := Tryz.f67.body.getD .skip
theorem hb_99 : Tryz.f67.body = some c_99 := by kernel_rfl
theorem hf_99 : CT.P.funcs[67]? = some Tryz.f67 := by kernel_rfl
noncomputable def T_99 : Tb := mkTb tyT mpT [E_88, E_130]
theorem T_99_ok : T_99.Ok CT.P := mkTb_ok (⟨e_88, e_130, trivial⟩)
noncomputable def l_99_8 : Code := atLoop c_99 8
noncomputable def l_99_2 : Code := atLoop c_99 2
noncomputable abbrev LD_99_2 : LayD := ⟨70, [(1, .ptr 0), (8, .data (.list tBody)), (9, .data I), (10, .data I)], [.var 74 [.data tWorld]], fun s => [slotR s 1]⟩
noncomputable abbrev LA_99_2 : LayD := ⟨70, [(1, .ptr 0)], [.var 74 [.data tWorld]], fun s => [slotR s 1]⟩
noncomputable abbrev LB_99_2 : LayD := ⟨70, [(2, .data .bool)], [], fun _ => []⟩
noncomputable def EX_99_2 : Exits 0 LA_99_2.El LB_99_2.El := ⟨.exit 0, LA_99_2.lay [], .ret, LB_99_2.lay []⟩
noncomputable def lpi_99_2 {β : Type} : LpT β := fun _ _ _ => none
theorem lpi_99_2_ok {β : Type} : LpTOk CT (lpi_99_2 (β := β)) (loopsOf l_99_2) := by
  have h : loopsOf l_99_2 = [] := by kernel_rfl
  rw [h]
  exact LpTOk.nil
noncomputable def G_99_2 (r8 : Ty.El (.list tBody)) (r9 : Ty.El I) (r10 : Ty.El I) (b0 : Ty.El tWorld × Unit) : Option (LD_99_2.El ⊕ (LA_99_2.El ⊕ LB_99_2.El)) := bif Decidable.decide (r10 < r9) then bif Decidable.decide ((0 : Int) ≤ r10 ∧ r10 < ↑(List.length r8)) then (F_88 (List.getD r8 (Int.toNat r10) Go.DI.S.tBody.dflt)).bind fun v3 => bif !v3.fst then Option.some (Sum.inr (Sum.inr ((Bool.false, ()), ()))) else Option.some (Sum.inl (((), r8, r9, Go.IntKind.i64.wrap (r10 + (1 : Int)), ()), (b0.fst, ()), ())) else Option.none else Option.some (Sum.inr (Sum.inl (((), ()), (b0.fst, ()), ())))
theorem g_99_2 (x : LD_99_2.El) : codeT CT T_99 (drT CT T_99) lpi_99_2 l_99_2 (LD_99_2.enc x) (bodyK (LD_99_2.lay []) EX_99_2) = G_99_2 x.1.2.1 x.1.2.2.1 x.1.2.2.2.1 x.2.1 := by kernel_rfl
noncomputable def R_99_2 : LD_99_2.El → Option (LA_99_2.El ⊕ LB_99_2.El) := roundsT (fun x => G_99_2 x.1.2.1 x.1.2.2.1 x.1.2.2.2.1 x.2.1) fuel
theorem r_99_2 : ∀ x y, R_99_2 x = some y → CL CT l_99_2 (LD_99_2.enc x) (Sum.elim (fun _ => EX_99_2.xa) (fun _ => EX_99_2.xb) y) (Sum.elim EX_99_2.la.enc EX_99_2.lb.enc y) :=
  rounds_ok (L := LD_99_2.lay []) (E := EX_99_2) CT_ok T_99_ok (drT_ok CT_ok T_99_ok) lpi_99_2_ok g_99_2 rfl rfl (fun v h => by have hh : (.exit 0 : AX) = .pan v := h; cases hh) (fun v h => by have hh : (.ret : AX) = .pan v := h; cases hh) fuel
noncomputable abbrev LD_99_8 : LayD := ⟨70, [(1, .ptr 0), (19, .data (.list tJoint)), (20, .data I), (21, .data I)], [.var 74 [.data tWorld]], fun s => [slotR s 1]⟩
noncomputable abbrev LA_99_8 : LayD := ⟨70, [(1, .ptr 0)], [.var 74 [.data tWorld]], fun s => [slotR s 1]⟩
noncomputable abbrev LB_99_8 : LayD := ⟨70, [(2, .data .bool)], [], fun _ => []⟩
noncomputable def EX_99_8 : Exits 0 LA_99_8.El LB_99_8.El := ⟨.exit 2, LA_99_8.lay [], .ret, LB_99_8.lay []⟩
noncomputable def lpi_99_8 {β : Type} : LpT β := fun _ _ _ => none
theorem lpi_99_8_ok {β : Type} : LpTOk CT (lpi_99_8 (β := β)) (loopsOf l_99_8) := by
  have h : loopsOf l_99_8 = [] := by kernel_rfl
  rw [h]
  exact LpTOk.nil
noncomputable def G_99_8 (r19 : Ty.El (.list tJoint)) (r20 : Ty.El I) (r21 : Ty.El I) (b0 : Ty.El tWorld × Unit) : Option (LD_99_8.El ⊕ (LA_99_8.El ⊕ LB_99_8.El)) := bif Decidable.decide (r21 < r20) then bif Decidable.decide ((0 : Int) ≤ r21 ∧ r21 < ↑(List.length r19)) then bif Decidable.decide ((if (List.getD r19 (Int.toNat r21) Go.DI.S.tJoint.dflt).snd.fst < (List.getD r19 (Int.toNat r21) Go.DI.S.tJoint.dflt).fst then (List.getD r19 (Int.toNat r21) Go.DI.S.tJoint.dflt).snd.fst else (List.getD r19 (Int.toNat r21) Go.DI.S.tJoint.dflt).fst) < (0 : Int)) then Option.some (Sum.inr (Sum.inr ((Bool.false, ()), ()))) else bif Decidable.decide ((if (List.getD r19 (Int.toNat r21) Go.DI.S.tJoint.dflt).snd.fst > (List.getD r19 (Int.toNat r21) Go.DI.S.tJoint.dflt).fst then (List.getD r19 (Int.toNat r21) Go.DI.S.tJoint.dflt).snd.fst else (List.getD r19 (Int.toNat r21) Go.DI.S.tJoint.dflt).fst) ≥ ↑(List.length b0.fst.snd.fst)) then Option.some (Sum.inr (Sum.inr ((Bool.false, ()), ()))) else bif (List.getD r19 (Int.toNat r21) Go.DI.S.tJoint.dflt).fst == (List.getD r19 (Int.toNat r21) Go.DI.S.tJoint.dflt).snd.fst then Option.some (Sum.inr (Sum.inr ((Bool.false, ()), ()))) else bif Decidable.decide ((List.getD r19 (Int.toNat r21) Go.DI.S.tJoint.dflt).snd.snd < (0 : Int)) then Option.some (Sum.inr (Sum.inr ((Bool.false, ()), ()))) else bif Decidable.decide ((List.getD r19 (Int.toNat r21) Go.DI.S.tJoint.dflt).snd.snd > (4294967296000 : Int)) then Option.some (Sum.inr (Sum.inr ((Bool.false, ()), ()))) else Option.some (Sum.inl (((), r19, r20, Go.IntKind.i64.wrap (r21 + (1 : Int)), ()), (b0.fst, ()), ())) else Option.none else Option.some (Sum.inr (Sum.inl (((), ()), (b0.fst, ()), ())))
theorem g_99_8 (x : LD_99_8.El) : codeT CT T_99 (drT CT T_99) lpi_99_8 l_99_8 (LD_99_8.enc x) (bodyK (LD_99_8.lay []) EX_99_8) = G_99_8 x.1.2.1 x.1.2.2.1 x.1.2.2.2.1 x.2.1 := by kernel_rfl
noncomputable def R_99_8 : LD_99_8.El → Option (LA_99_8.El ⊕ LB_99_8.El) := roundsT (fun x => G_99_8 x.1.2.1 x.1.2.2.1 x.1.2.2.2.1 x.2.1) fuel
theorem r_99_8 : ∀ x y, R_99_8 x = some y → CL CT l_99_8 (LD_99_8.enc x) (Sum.elim (fun _ => EX_99_8.xa) (fun _ => EX_99_8.xb) y) (Sum.elim EX_99_8.la.enc EX_99_8.lb.enc y) :=
  rounds_ok (L := LD_99_8.lay []) (E := EX_99_8) CT_ok T_99_ok (drT_ok CT_ok T_99_ok) lpi_99_8_ok g_99_8 rfl rfl (fun v h => by have hh : (.exit 2 : AX) = .pan v := h; cases hh) (fun v h => by have hh : (.ret : AX) = .pan v := h; cases hh) fuel
noncomputable def lp_99 {β : Type} : LpT β := fun k s K => if Nat.beq k 2 then lpOne (LD_99_2.lay []) EX_99_2 R_99_2 s K else if Nat.beq k 8 then lpOne (LD_99_8.lay []) EX_99_8 R_99_8 s K else none
theorem lp_99_ok {β : Type} : LpTOk CT (lp_99 (β := β)) (loopsOf c_99) := by
  have h : loopsOf c_99 = [(2, l_99_2), (8, l_99_8)] := by kernel_rfl
  rw [h]
  exact LpTOk.cons (fun s K z h => lpOne_ok r_99_2 h) (LpTOk.cons (fun s K z h => lpOne_ok r_99_8 h) (LpTOk.nil))
noncomputable def F_99 (a1 : Ty.El tWorld) : Option (Els [.bool]) := (R_99_2 (((), a1.snd.fst, ↑(List.length a1.snd.fst), (0 : Int), ()), (a1, ()), ())).bind fun v1 => Sum.elim (fun v2 => (R_99_8 (((), v2.snd.fst.fst.snd.snd, ↑(List.length v2.snd.fst.fst.snd.snd), (0 : Int), ()), (v2.snd.fst.fst, ()), ())).bind fun v3 => Sum.elim (fun v4 => (F_130 v4.snd.fst.fst.fst.fst).bind fun v5 => bif v5.fst then (F_130 v4.snd.fst.fst.fst.snd).bind fun v7 => Option.some (v7.fst, ()) else Option.some (Bool.false, ())) (fun v8 => Option.some (v8.fst.fst, ())) v3) (fun v9 => Option.some (v9.fst.fst, ())) v1
theorem f_99 (x : Ps [.ty tWorld]) : funcT CT T_99 [.bool] (drT CT T_99) lp_99 Tryz.f67 c_99 (encPs [.ty tWorld] x) = F_99 x.1 := by kernel_rfl
noncomputable def E_99 : Ent := .fn 67 [] ⟨[.ty tWorld], [.bool], fun x => F_99 x.1, false⟩
theorem e_99 : E_99.Ok CT.P := Ent.ofFn CT_ok T_99_ok hf_99 hb_99 lp_99_ok f_99
noncomputable def c_54 : Code := Tryz.f63.body.getD .skip
theorem hb_54 : Tryz.f63.body = some c_54 := by kernel_rfl
theorem hf_54 : CT.P.funcs[63]? = some Tryz.f63 := by kernel_rfl
noncomputable def T_54 : Tb := mkTb tyT mpT [E_45, E_99]
theorem T_54_ok : T_54.Ok CT.P := mkTb_ok (⟨e_45, e_99, trivial⟩)
noncomputable def l_54_3 : Code := atLoop c_54 3
noncomputable abbrev LD_54_3 : LayD := ⟨52, [(1, .ptr 0), (3, .data I), (7, .data (.list tThing)), (8, .data I), (9, .data I)], [.var 30 [.data tScene]], fun s => [slotR s 1]⟩
noncomputable abbrev LA_54_3 : LayD := ⟨52, [(1, .ptr 0)], [.var 30 [.data tScene]], fun s => [slotR s 1]⟩
noncomputable abbrev LB_54_3 : LayD := ⟨52, [(2, .data .bool)], [], fun _ => []⟩
noncomputable def EX_54_3 : Exits 0 LA_54_3.El LB_54_3.El := ⟨.exit 0, LA_54_3.lay [], .ret, LB_54_3.lay []⟩
noncomputable def lpi_54_3 {β : Type} : LpT β := fun _ _ _ => none
theorem lpi_54_3_ok {β : Type} : LpTOk CT (lpi_54_3 (β := β)) (loopsOf l_54_3) := by
  have h : loopsOf l_54_3 = [] := by kernel_rfl
  rw [h]
  exact LpTOk.nil
noncomputable def G_54_3 (r3 : Ty.El I) (r7 : Ty.El (.list tThing)) (r8 : Ty.El I) (r9 : Ty.El I) (b0 : Ty.El tScene × Unit) : Option (LD_54_3.El ⊕ (LA_54_3.El ⊕ LB_54_3.El)) := bif Decidable.decide (r9 < r8) then bif Decidable.decide ((0 : Int) ≤ r9 ∧ r9 < ↑(List.length r7)) then (F_45 (List.getD r7 (Int.toNat r9) (Go.DI.S.I.pair (Go.DI.S.I.pair (Go.DI.S.tBody.pair (Go.DI.S.tJoint.pair Go.DI.S.I.list)))).dflt)).bind fun v3 => bif !v3.fst then Option.some (Sum.inr (Sum.inr ((Bool.false, ()), ()))) else bif Decidable.decide ((List.getD r7 (Int.toNat r9) (Go.DI.S.I.pair (Go.DI.S.I.pair (Go.DI.S.tBody.pair (Go.DI.S.tJoint.pair Go.DI.S.I.list)))).dflt).fst ≤ r3) then Option.some (Sum.inr (Sum.inr ((Bool.false, ()), ()))) else bif Decidable.decide ((List.getD r7 (Int.toNat r9) (Go.DI.S.I.pair (Go.DI.S.I.pair (Go.DI.S.tBody.pair (Go.DI.S.tJoint.pair Go.DI.S.I.list)))).dflt).fst ≥ b0.fst.snd.fst) then Option.some (Sum.inr (Sum.inr ((Bool.false, ()), ()))) else Option.some (Sum.inl (((), (List.getD r7 (Int.toNat r9) (Go.DI.S.I.pair (Go.DI.S.I.pair (Go.DI.S.tBody.pair (Go.DI.S.tJoint.pair Go.DI.S.I.list)))).dflt).fst, r7, r8, Go.IntKind.i64.wrap (r9 + (1 : Int)), ()), (b0.fst, ()), ())) else Option.none else Option.some (Sum.inr (Sum.inl (((), ()), (b0.fst, ()), ())))
theorem g_54_3 (x : LD_54_3.El) : codeT CT T_54 (drT CT T_54) lpi_54_3 l_54_3 (LD_54_3.enc x) (bodyK (LD_54_3.lay []) EX_54_3) = G_54_3 x.1.2.1 x.1.2.2.1 x.1.2.2.2.1 x.1.2.2.2.2.1 x.2.1 := by kernel_rfl
noncomputable def R_54_3 : LD_54_3.El → Option (LA_54_3.El ⊕ LB_54_3.El) := roundsT (fun x => G_54_3 x.1.2.1 x.1.2.2.1 x.1.2.2.2.1 x.1.2.2.2.2.1 x.2.1) fuel
theorem r_54_3 : ∀ x y, R_54_3 x = some y → CL CT l_54_3 (LD_54_3.enc x) (Sum.elim (fun _ => EX_54_3.xa) (fun _ => EX_54_3.xb) y) (Sum.elim EX_54_3.la.enc EX_54_3.lb.enc y) :=
  rounds_ok (L := LD_54_3.lay []) (E := EX_54_3) CT_ok T_54_ok (drT_ok CT_ok T_54_ok) lpi_54_3_ok g_54_3 rfl rfl (fun v h => by have hh : (.exit 0 : AX) = .pan v := h; cases hh) (fun v h => by have hh : (.ret : AX) = .pan v := h; cases hh) fuel
noncomputable def lp_54 {β : Type} : LpT β := fun k s K => if Nat.beq k 3 then lpOne (LD_54_3.lay []) EX_54_3 R_54_3 s K else none
theorem lp_54_ok {β : Type} : LpTOk CT (lp_54 (β := β)) (loopsOf c_54) := by
  have h : loopsOf c_54 = [(3, l_54_3)] := by kernel_rfl
  rw [h]
  exact LpTOk.cons (fun s K z h => lpOne_ok r_54_3 h) (LpTOk.nil)
noncomputable def F_54 (a1 : Ty.El tScene) : Option (Els [.bool]) := (R_54_3 (((), (0 : Int), a1.snd.snd, ↑(List.length a1.snd.snd), (0 : Int), ()), (a1, ()), ())).bind fun v1 => Sum.elim (fun v2 => bif Decidable.decide (↑(List.length v2.snd.fst.fst.snd.snd) ≤ (40 : Int)) then bif Decidable.decide (v2.snd.fst.fst.snd.fst ≥ (1 : Int)) then bif Decidable.decide (v2.snd.fst.fst.snd.fst ≤ (1000001 : Int)) then (F_99 (v2.snd.fst.fst.fst, [], [])).bind fun v6 => Option.some (v6.fst, ()) else Option.some (Bool.false, ()) else Option.some (Bool.false, ()) else Option.some (Bool.false, ())) (fun v7 => Option.some (v7.fst.fst, ())) v1
theorem f_54 (x : Ps [.ty tScene]) : funcT CT T_54 [.bool] (drT CT T_54) lp_54 Tryz.f63 c_54 (encPs [.ty tScene] x) = F_54 x.1 := by kernel_rfl
noncomputable def E_54 : Ent := .fn 63 [] ⟨[.ty tScene], [.bool], fun x => F_54 x.1, false⟩
theorem e_54 : E_54.Ok CT.P := Ent.ofFn CT_ok T_54_ok hf_54 hb_54 lp_54_ok f_54
end Go.DI.S
set_option linter.unusedVariables false
set_option maxRecDepth 100000
set_option maxHeartbeats 0
namespace Go.DI.S
open Go.Proofs
noncomputable def c_51 : Code := Tryz.f65.body.getD .skip
theorem hb_51 : Tryz.f65.body = some c_51 := by kernel_rfl
theorem hf_51 : CT.P.funcs[65]? = some Tryz.f65 := by kernel_rfl
noncomputable def T_51 : Tb := mkTb tyT mpT []
theorem T_51_ok : T_51.Ok CT.P := mkTb_ok (trivial)
noncomputable def l_51_3 : Code := atLoop c_51 3
noncomputable def l_51_6 : Code := atLoop l_51_3 6
noncomputable abbrev LD_51_6 : LayD := ⟨30, [(3, .map 0), (10, .data (.list tThing)), (11, .data I), (12, .data I), (17, .data (.list I)), (18, .data I), (19, .data I)], [.tmap I .bool], fun s => [slotR s 3]⟩
noncomputable abbrev LA_51_6 : LayD := ⟨30, [(3, .map 0), (10, .data (.list tThing)), (11, .data I), (12, .data I)], [.tmap I .bool], fun s => [slotR s 3]⟩
noncomputable abbrev LB_51_6 : LayD := ⟨30, [(2, .data .bool)], [], fun _ => []⟩
noncomputable def EX_51_6 : Exits 0 LA_51_6.El LB_51_6.El := ⟨.exit 2, LA_51_6.lay [], .ret, LB_51_6.lay []⟩
noncomputable def lpi_51_6 {β : Type} : LpT β := fun _ _ _ => none
theorem lpi_51_6_ok {β : Type} : LpTOk CT (lpi_51_6 (β := β)) (loopsOf l_51_6) := by
  have h : loopsOf l_51_6 = [] := by kernel_rfl
  rw [h]
  exact LpTOk.nil
noncomputable def G_51_6 (r10 : Ty.El (.list tThing)) (r11 : Ty.El I) (r12 : Ty.El I) (r17 : Ty.El (.list I)) (r18 : Ty.El I) (r19 : Ty.El I) (b0 : List (Ty.El I × Ty.El (.bool))) : Option (LD_51_6.El ⊕ (LA_51_6.El ⊕ LB_51_6.El)) := bif Decidable.decide (r19 < r18) then bif Decidable.decide ((0 : Int) ≤ r19 ∧ r19 < ↑(List.length r17)) then bif (Go.DI.tget (Go.DI.Ty.int Go.IntKind.i64) Go.DI.Ty.bool (List.getD r17 (Int.toNat r19) (0 : Int)) b0).getD Bool.false then Option.some (Sum.inr (Sum.inr ((Bool.false, ()), ()))) else Option.some (Sum.inl (((), r10, r11, r12, r17, r18, Go.IntKind.i64.wrap (r19 + (1 : Int)), ()), Go.DI.tput (Go.DI.Ty.int Go.IntKind.i64) Go.DI.Ty.bool (List.getD r17 (Int.toNat r19) (0 : Int)) Bool.true b0, ())) else Option.none else Option.some (Sum.inr (Sum.inl (((), r10, r11, r12, ()), b0, ())))
theorem g_51_6 (x : LD_51_6.El) : codeT CT T_51 (drT CT T_51) lpi_51_6 l_51_6 (LD_51_6.enc x) (bodyK (LD_51_6.lay []) EX_51_6) = G_51_6 x.1.2.1 x.1.2.2.1 x.1.2.2.2.1 x.1.2.2.2.2.1 x.1.2.2.2.2.2.1 x.1.2.2.2.2.2.2.1 x.2.1 := by kernel_rfl
noncomputable def R_51_6 : LD_51_6.El → Option (LA_51_6.El ⊕ LB_51_6.El) := roundsT (fun x => G_51_6 x.1.2.1 x.1.2.2.1 x.1.2.2.2.1 x.1.2.2.2.2.1 x.1.2.2.2.2.2.1 x.1.2.2.2.2.2.2.1 x.2.1) fuel
theorem r_51_6 : ∀ x y, R_51_6 x = some y → CL CT l_51_6 (LD_51_6.enc x) (Sum.elim (fun _ => EX_51_6.xa) (fun _ => EX_51_6.xb) y) (Sum.elim EX_51_6.la.enc EX_51_6.lb.enc y) :=
  rounds_ok (L := LD_51_6.lay []) (E := EX_51_6) CT_ok T_51_ok (drT_ok CT_ok T_51_ok) lpi_51_6_ok g_51_6 rfl rfl (fun v h => by have hh : (.exit 2 : AX) = .pan v := h; cases hh) (fun v h => by have hh : (.ret : AX) = .pan v := h; cases hh) fuel
noncomputable abbrev LD_51_3 : LayD := ⟨30, [(3, .map 0), (10, .data (.list tThing)), (11, .data I), (12, .data I)], [.tmap I .bool], fun s => [slotR s 3]⟩
noncomputable abbrev LA_51_3 : LayD := ⟨30, [], [], fun _ => []⟩
noncomputable abbrev LB_51_3 : LayD := ⟨30, [(2, .data .bool)], [], fun _ => []⟩
noncomputable def EX_51_3 : Exits 0 LA_51_3.El LB_51_3.El := ⟨.exit 0, LA_51_3.lay [], .ret, LB_51_3.lay []⟩
noncomputable def lpi_51_3 {β : Type} : LpT β := fun k s K => if Nat.beq k 6 then lpOne (LD_51_6.lay []) EX_51_6 R_51_6 s K else none
theorem lpi_51_3_ok {β : Type} : LpTOk CT (lpi_51_3 (β := β)) (loopsOf l_51_3) := by
  have h : loopsOf l_51_3 = [(6, l_51_6)] := by kernel_rfl
  rw [h]
  exact LpTOk.cons (fun s K z h => lpOne_ok r_51_6 h) (LpTOk.nil)
noncomputable def G_51_3 (r10 : Ty.El (.list tThing)) (r11 : Ty.El I) (r12 : Ty.El I) (b0 : List (Ty.El I × Ty.El (.bool))) : Option (LD_51_3.El ⊕ (LA_51_3.El ⊕ LB_51_3.El)) := bif Decidable.decide (r12 < r11) then bif Decidable.decide ((0 : Int) ≤ r12 ∧ r12 < ↑(List.length r10)) then (R_51_6 (((), r10, r11, r12, (List.getD r10 (Int.toNat r12) (Go.DI.S.I.pair (Go.DI.S.I.pair (Go.DI.S.tBody.pair (Go.DI.S.tJoint.pair Go.DI.S.I.list)))).dflt).snd.snd.snd.snd, ↑(List.length (List.getD r10 (Int.toNat r12) (Go.DI.S.I.pair (Go.DI.S.I.pair (Go.DI.S.tBody.pair (Go.DI.S.tJoint.pair Go.DI.S.I.list)))).dflt).snd.snd.snd.snd), (0 : Int), ()), b0, ())).bind fun v3 => Sum.elim (fun v4 => Option.some (Sum.inl (((), v4.fst.snd.fst, v4.fst.snd.snd.fst, Go.IntKind.i64.wrap (v4.fst.snd.snd.snd.fst + (1 : Int)), ()), v4.snd.fst, ()))) (fun v5 => Option.some (Sum.inr (Sum.inr ((v5.fst.fst, ()), ())))) v3 else Option.none else Option.some (Sum.inr (Sum.inl ((), ())))
theorem g_51_3 (x : LD_51_3.El) : codeT CT T_51 (drT CT T_51) lpi_51_3 l_51_3 (LD_51_3.enc x) (bodyK (LD_51_3.lay []) EX_51_3) = G_51_3 x.1.2.1 x.1.2.2.1 x.1.2.2.2.1 x.2.1 := by kernel_rfl
noncomputable def R_51_3 : LD_51_3.El → Option (LA_51_3.El ⊕ LB_51_3.El) := roundsT (fun x => G_51_3 x.1.2.1 x.1.2.2.1 x.1.2.2.2.1 x.2.1) fuel
theorem r_51_3 : ∀ x y, R_51_3 x = some y → CL CT l_51_3 (LD_51_3.enc x) (Sum.elim (fun _ => EX_51_3.xa) (fun _ => EX_51_3.xb) y) (Sum.elim EX_51_3.la.enc EX_51_3.lb.enc y) :=
  rounds_ok (L := LD_51_3.lay []) (E := EX_51_3) CT_ok T_51_ok (drT_ok CT_ok T_51_ok) lpi_51_3_ok g_51_3 rfl rfl (fun v h => by have hh : (.exit 0 : AX) = .pan v := h; cases hh) (fun v h => by have hh : (.ret : AX) = .pan v := h; cases hh) fuel
noncomputable def lp_51 {β : Type} : LpT β := fun k s K => if Nat.beq k 3 then lpOne (LD_51_3.lay []) EX_51_3 R_51_3 s K else none
theorem lp_51_ok {β : Type} : LpTOk CT (lp_51 (β := β)) (loopsOf c_51) := by
  have h : loopsOf c_51 = [(3, l_51_3)] := by kernel_rfl
  rw [h]
  exact LpTOk.cons (fun s K z h => lpOne_ok r_51_3 h) (LpTOk.nil)
noncomputable def F_51 (a1 : Ty.El tScene) : Option (Els [.bool]) := (R_51_3 (((), a1.snd.snd, ↑(List.length a1.snd.snd), (0 : Int), ()), [], ())).bind fun v1 => Sum.elim (fun v2 => Option.some (Bool.true, ())) (fun v3 => Option.some (v3.fst.fst, ())) v1
theorem f_51 (x : Ps [.ty tScene]) : funcT CT T_51 [.bool] (drT CT T_51) lp_51 Tryz.f65 c_51 (encPs [.ty tScene] x) = F_51 x.1 := by kernel_rfl
noncomputable def E_51 : Ent := .fn 65 [] ⟨[.ty tScene], [.bool], fun x => F_51 x.1, false⟩
theorem e_51 : E_51.Ok CT.P := Ent.ofFn CT_ok T_51_ok hf_51 hb_51 lp_51_ok f_51
noncomputable def c_128 : Code := Tryz.f189.body.getD .skip
theorem hb_128 : Tryz.f189.body = some c_128 := by kernel_rfl
theorem hf_128 : CT.P.funcs[189]? = some Tryz.f189 := by kernel_rfl
noncomputable def T_128 : Tb := mkTb tyT mpT []
theorem T_128_ok : T_128.Ok CT.P := mkTb_ok (trivial)
noncomputable def lp_128 {β : Type} : LpT β := fun _ _ _ => none
theorem lp_128_ok {β : Type} : LpTOk CT (lp_128 (β := β)) (loopsOf c_128) := by
  have h : loopsOf c_128 = [] := by kernel_rfl
  rw [h]
  exact LpTOk.nil
noncomputable def F_128 (a1 : Ty.El I) : Option (Els [.bool]) := Option.some (a1 != a1, ())
theorem f_128 (x : Ps [.ty I]) : funcT CT T_128 [.bool] (drT CT T_128) lp_128 Tryz.f189 c_128 (encPs [.ty I] x) = F_128 x.1 := by kernel_rfl
noncomputable def E_128 : Ent := .fn 189 [] ⟨[.ty I], [.bool], fun x => F_128 x.1, false⟩
theorem e_128 : E_128.Ok CT.P := Ent.ofFn CT_ok T_128_ok hf_128 hb_128 lp_128_ok f_128
noncomputable def c_93 : Code := Tryz.f155.body.getD .skip
theorem hb_93 : Tryz.f155.body = some c_93 := by kernel_rfl
theorem hf_93 : CT.P.funcs[155]? = some Tryz.f155 := by kernel_rfl
noncomputable def T_93 : Tb := mkTb tyT mpT [E_128]
theorem T_93_ok : T_93.Ok CT.P := mkTb_ok (⟨e_128, trivial⟩)
noncomputable def lp_93 {β : Type} : LpT β := fun _ _ _ => none
theorem lp_93_ok {β : Type} : LpTOk CT (lp_93 (β := β)) (loopsOf c_93) := by
  have h : loopsOf c_93 = [] := by kernel_rfl
  rw [h]
  exact LpTOk.nil
noncomputable def F_93 (a1 : Ty.El I) (a2 : Ty.El I) : Option (Els [I]) := (F_128 a1).bind fun v1 => (F_128 a2).bind fun v2 => bif v1.fst then bif v2.fst then Option.some ((0 : Int), ()) else Option.some ((-1 : Int), ()) else bif v2.fst then Option.some ((1 : Int), ()) else bif Decidable.decide (a1 < a2) then Option.some ((-1 : Int), ()) else bif Decidable.decide (a1 > a2) then Option.some ((1 : Int), ()) else Option.some ((0 : Int), ())
theorem f_93 (x : Ps [.ty I, .ty I]) : funcT CT T_93 [I] (drT CT T_93) lp_93 Tryz.f155 c_93 (encPs [.ty I, .ty I] x) = F_93 x.1 x.2.1 := by kernel_rfl
noncomputable def E_93 : Ent := .fn 155 [] ⟨[.ty I, .ty I], [I], fun x => F_93 x.1 x.2.1, false⟩
theorem e_93 : E_93.Ok CT.P := Ent.ofFn CT_ok T_93_ok hf_93 hb_93 lp_93_ok f_93
noncomputable def c_92 : Code := Tryz.f154.body.getD .skip
theorem hb_92 : Tryz.f154.body = some c_92 := by kernel_rfl
theorem hf_92 : CT.P.funcs[154]? = some Tryz.f154 := by kernel_rfl
noncomputable def T_92 : Tb := mkTb tyT mpT [E_93]
theorem T_92_ok : T_92.Ok CT.P := mkTb_ok (⟨e_93, trivial⟩)
noncomputable def lp_92 {β : Type} : LpT β := fun _ _ _ => none
theorem lp_92_ok {β : Type} : LpTOk CT (lp_92 (β := β)) (loopsOf c_92) := by
  have h : loopsOf c_92 = [] := by kernel_rfl
  rw [h]
  exact LpTOk.nil
noncomputable def F_92 (a1 : Ty.El tThing) (a2 : Ty.El I) : Option (Els [I]) := (F_93 a1.fst a2).bind fun v1 => Option.some (v1.fst, ())
theorem f_92 (x : Ps [.ty tThing, .ty I]) : funcT CT T_92 [I] (drT CT T_92) lp_92 Tryz.f154 c_92 (encPs [.ty tThing, .ty I] x) = F_92 x.1 x.2.1 := by kernel_rfl
noncomputable def E_92 : Ent := .fn 154 [] ⟨[.ty tThing, .ty I], [I], fun x => F_92 x.1 x.2.1, false⟩
theorem e_92 : E_92.Ok CT.P := Ent.ofFn CT_ok T_92_ok hf_92 hb_92 lp_92_ok f_92
noncomputable def c_91 : Code := Tryz.f153.body.getD .skip
theorem hb_91 : Tryz.f153.body = some c_91 := by kernel_rfl
theorem hf_91 : CT.P.funcs[153]? = some Tryz.f153 := by kernel_rfl
noncomputable def T_91 : Tb := mkTb tyT mpT [E_92]
theorem T_91_ok : T_91.Ok CT.P := mkTb_ok (⟨e_92, trivial⟩)
noncomputable def l_91_3 : Code := atLoop c_91 3
noncomputable abbrev LD_91_3 : LayD := ⟨49, [(0, .data (.list tThing)), (1, .data I), (2, .clo 154 []), (8, .data I), (9, .data I), (10, .data I)], [], fun _ => []⟩
noncomputable abbrev LA_91_3 : LayD := ⟨49, [(0, .data (.list tThing)), (1, .data I), (2, .clo 154 []), (8, .data I), (9, .data I)], [], fun _ => []⟩
noncomputable abbrev LB_91_3 : LayD := ⟨49, [], [], fun _ => []⟩
noncomputable def EX_91_3 : Exits 0 LA_91_3.El LB_91_3.El := ⟨.exit 0, LA_91_3.lay [], .ret, LB_91_3.lay []⟩
noncomputable def lpi_91_3 {β : Type} : LpT β := fun _ _ _ => none
theorem lpi_91_3_ok {β : Type} : LpTOk CT (lpi_91_3 (β := β)) (loopsOf l_91_3) := by
  have h : loopsOf l_91_3 = [] := by kernel_rfl
  rw [h]
  exact LpTOk.nil
noncomputable def G_91_3 (r0 : Ty.El (.list tThing)) (r1 : Ty.El I) (r2 : Els []) (r8 : Ty.El I) (r9 : Ty.El I) (r10 : Ty.El I) : Option (LD_91_3.El ⊕ (LA_91_3.El ⊕ LB_91_3.El)) := bif Decidable.decide (r9 < r10) then bif Decidable.decide ((0 : Int) ≤ Go.IntKind.i64.wrap ((Go.IntKind.u64.wrap (Go.IntKind.i64.wrap (r9 + r10))).fdiv (2 : Int)) ∧ Go.IntKind.i64.wrap ((Go.IntKind.u64.wrap (Go.IntKind.i64.wrap (r9 + r10))).fdiv (2 : Int)) < ↑(List.length r0)) then (F_92 (List.getD r0 (Go.IntKind.i64.wrap ((Go.IntKind.u64.wrap (Go.IntKind.i64.wrap (r9 + r10))).fdiv (2 : Int))).toNat (Go.DI.S.I.pair (Go.DI.S.I.pair (Go.DI.S.tBody.pair (Go.DI.S.tJoint.pair Go.DI.S.I.list)))).dflt) r1).bind fun v3 => bif Decidable.decide (v3.fst < (0 : Int)) then Option.some (Sum.inl ((r0, r1, (), r8, Go.IntKind.i64.wrap (Go.IntKind.i64.wrap ((Go.IntKind.u64.wrap (Go.IntKind.i64.wrap (r9 + r10))).fdiv (2 : Int)) + (1 : Int)), r10, ()), ())) else Option.some (Sum.inl ((r0, r1, (), r8, r9, Go.IntKind.i64.wrap ((Go.IntKind.u64.wrap (Go.IntKind.i64.wrap (r9 + r10))).fdiv (2 : Int)), ()), ())) else Option.none else Option.some (Sum.inr (Sum.inl ((r0, r1, (), r8, r9, ()), ())))
theorem g_91_3 (x : LD_91_3.El) : codeT CT T_91 (drT CT T_91) lpi_91_3 l_91_3 (LD_91_3.enc x) (bodyK (LD_91_3.lay []) EX_91_3) = G_91_3 x.1.1 x.1.2.1 x.1.2.2.1 x.1.2.2.2.1 x.1.2.2.2.2.1 x.1.2.2.2.2.2.1 := by kernel_rfl
noncomputable def R_91_3 : LD_91_3.El → Option (LA_91_3.El ⊕ LB_91_3.El) := roundsT (fun x => G_91_3 x.1.1 x.1.2.1 x.1.2.2.1 x.1.2.2.2.1 x.1.2.2.2.2.1 x.1.2.2.2.2.2.1) fuel
theorem r_91_3 : ∀ x y, R_91_3 x = some y → CL CT l_91_3 (LD_91_3.enc x) (Sum.elim (fun _ => EX_91_3.xa) (fun _ => EX_91_3.xb) y) (Sum.elim EX_91_3.la.enc EX_91_3.lb.enc y) :=
  rounds_ok (L := LD_91_3.lay []) (E := EX_91_3) CT_ok T_91_ok (drT_ok CT_ok T_91_ok) lpi_91_3_ok g_91_3 rfl rfl (fun v h => by have hh : (.exit 0 : AX) = .pan v := h; cases hh) (fun v h => by have hh : (.ret : AX) = .pan v := h; cases hh) fuel
noncomputable def lp_91 {β : Type} : LpT β := fun k s K => if Nat.beq k 3 then lpOne (LD_91_3.lay []) EX_91_3 R_91_3 s K else none
theorem lp_91_ok {β : Type} : LpTOk CT (lp_91 (β := β)) (loopsOf c_91) := by
  have h : loopsOf c_91 = [(3, l_91_3)] := by kernel_rfl
  rw [h]
  exact LpTOk.cons (fun s K z h => lpOne_ok r_91_3 h) (LpTOk.nil)
noncomputable def F_91 (a1 : Ty.El (.list tThing)) (a2 : Ty.El I) (a3 : Els []) : Option (Els [I, .bool]) := (R_91_3 ((a1, a2, (), ↑(List.length a1), (0 : Int), ↑(List.length a1), ()), ())).bind fun v1 => Sum.elim (fun v2 => bif Decidable.decide (v2.fst.snd.snd.snd.snd.fst < v2.fst.snd.snd.snd.fst) then bif Decidable.decide ((0 : Int) ≤ v2.fst.snd.snd.snd.snd.fst ∧ v2.fst.snd.snd.snd.snd.fst < ↑(List.length v2.fst.fst)) then (F_92 (List.getD v2.fst.fst (Int.toNat v2.fst.snd.snd.snd.snd.fst) (Go.DI.S.I.pair (Go.DI.S.I.pair (Go.DI.S.tBody.pair (Go.DI.S.tJoint.pair Go.DI.S.I.list)))).dflt) v2.fst.snd.fst).bind fun v5 => Option.some (v2.fst.snd.snd.snd.snd.fst, v5.fst == (0 : Int), ()) else Option.none else Option.some (v2.fst.snd.snd.snd.snd.fst, Bool.false, ())) (fun v6 => Option.none) v1
theorem f_91 (x : Ps [.ty (.list tThing), .ty I, .clo 154 []]) : funcT CT T_91 [I, .bool] (drT CT T_91) lp_91 Tryz.f153 c_91 (encPs [.ty (.list tThing), .ty I, .clo 154 []] x) = F_91 x.1 x.2.1 x.2.2.1 := by kernel_rfl
noncomputable def E_91 : Ent := .fn 153 [154] ⟨[.ty (.list tThing), .ty I, .clo 154 []], [I, .bool], fun x => F_91 x.1 x.2.1 x.2.2.1, false⟩
theorem e_91 : E_91.Ok CT.P := Ent.ofFn CT_ok T_91_ok hf_91 hb_91 lp_91_ok f_91
noncomputable def c_48 : Code := Tryz.f105.body.getD .skip
theorem hb_48 : Tryz.f105.body = some c_48 := by kernel_rfl
theorem hf_48 : CT.P.funcs[105]? = some Tryz.f105 := by kernel_rfl
noncomputable def T_48 : Tb := mkTb tyT mpT [E_91]
theorem T_48_ok : T_48.Ok CT.P := mkTb_ok (⟨e_91, trivial⟩)
noncomputable def lp_48 {β : Type} : LpT β := fun _ _ _ => none
theorem lp_48_ok {β : Type} : LpTOk CT (lp_48 (β := β)) (loopsOf c_48) := by
  have h : loopsOf c_48 = [] := by kernel_rfl
  rw [h]
  exact LpTOk.nil
noncomputable def F_48 (a1 : Ty.El tScene) (a2 : Ty.El I) : Option (Els [I, .bool]) := (F_91 a1.snd.snd a2 ()).bind fun v1 => Option.some (v1.fst, v1.snd.fst, ())
theorem f_48 (x : Ps [.ty tScene, .ty I]) : funcT CT T_48 [I, .bool] (drT CT T_48) lp_48 Tryz.f105 c_48 (encPs [.ty tScene, .ty I] x) = F_48 x.1 x.2.1 := by kernel_rfl
noncomputable def E_48 : Ent := .fn 105 [] ⟨[.ty tScene, .ty I], [I, .bool], fun x => F_48 x.1 x.2.1, false⟩
theorem e_48 : E_48.Ok CT.P := Ent.ofFn CT_ok T_48_ok hf_48 hb_48 lp_48_ok f_48
noncomputable def c_56 : Code := Tryz.f148.body.getD .skip
theorem hb_56 : Tryz.f148.body = some c_56 := by kernel_rfl
theorem hf_56 : CT.P.funcs[148]? = some Tryz.f148 := by kernel_rfl
noncomputable def T_56 : Tb := mkTb tyT mpT []
theorem T_56_ok : T_56.Ok CT.P := mkTb_ok (trivial)
noncomputable def lp_56 {β : Type} : LpT β := fun _ _ _ => none
theorem lp_56_ok {β : Type} : LpTOk CT (lp_56 (β := β)) (loopsOf c_56) := by
  have h : loopsOf c_56 = [] := by kernel_rfl
  rw [h]
  exact LpTOk.nil
noncomputable def F_56 (a1 : Ty.El tThing) (a2 : Ty.El I) : Option (Els [.bool]) := Option.some (a1.fst == a2, ())
theorem f_56 (x : Ps [.ty tThing, .roa I]) : funcT CT T_56 [.bool] (drT CT T_56) lp_56 Tryz.f148 c_56 (encPs [.ty tThing, .roa I] x) = F_56 x.1 x.2.1 := by kernel_rfl
noncomputable def E_56 : Ent := .fn 148 [] ⟨[.ty tThing, .roa I], [.bool], fun x => F_56 x.1 x.2.1, false⟩
theorem e_56 : E_56.Ok CT.P := Ent.ofFn CT_ok T_56_ok hf_56 hb_56 lp_56_ok f_56
noncomputable def c_55a : Code := Tryz.f147.body.getD .skip
theorem hb_55a : Tryz.f147.body = some c_55a := by kernel_rfl
theorem hf_55a : CT.P.funcs[147]? = some Tryz.f147 := by kernel_rfl
noncomputable def T_55a : Tb := mkTb tyT mpT [E_56]
theorem T_55a_ok : T_55a.Ok CT.P := mkTb_ok (⟨e_56, trivial⟩)
noncomputable def l_55a_2 : Code := atLoop c_55a 2
noncomputable abbrev LD_55a_2 : LayD := ⟨19, [(0, .data (.list tThing)), (1, .clo 148 [I]), (7, .data I), (8, .data I)], [], fun _ => []⟩
noncomputable abbrev LA_55a_2 : LayD := ⟨19, [], [], fun _ => []⟩
noncomputable abbrev LB_55a_2 : LayD := ⟨19, [(4, .data I)], [], fun _ => []⟩
noncomputable def EX_55a_2 : Exits 0 LA_55a_2.El LB_55a_2.El := ⟨.exit 0, LA_55a_2.lay [], .ret, LB_55a_2.lay []⟩
noncomputable def lpi_55a_2 {β : Type} : LpT β := fun _ _ _ => none
theorem lpi_55a_2_ok {β : Type} : LpTOk CT (lpi_55a_2 (β := β)) (loopsOf l_55a_2) := by
  have h : loopsOf l_55a_2 = [] := by kernel_rfl
  rw [h]
  exact LpTOk.nil
noncomputable def G_55a_2 (r0 : Ty.El (.list tThing)) (r1 : Els [I]) (r7 : Ty.El I) (r8 : Ty.El I) : Option (LD_55a_2.El ⊕ (LA_55a_2.El ⊕ LB_55a_2.El)) := bif Decidable.decide (r8 < r7) then bif Decidable.decide ((0 : Int) ≤ r8 ∧ r8 < ↑(List.length r0)) then (F_56 (List.getD r0 (Int.toNat r8) (Go.DI.S.I.pair (Go.DI.S.I.pair (Go.DI.S.tBody.pair (Go.DI.S.tJoint.pair Go.DI.S.I.list)))).dflt) r1.fst).bind fun v3 => bif v3.fst then Option.some (Sum.inr (Sum.inr ((r8, ()), ()))) else Option.some (Sum.inl ((r0, (r1.fst, ()), r7, Go.IntKind.i64.wrap (r8 + (1 : Int)), ()), ())) else Option.none else Option.some (Sum.inr (Sum.inl ((), ())))
theorem g_55a_2 (x : LD_55a_2.El) : codeT CT T_55a (drT CT T_55a) lpi_55a_2 l_55a_2 (LD_55a_2.enc x) (bodyK (LD_55a_2.lay []) EX_55a_2) = G_55a_2 x.1.1 x.1.2.1 x.1.2.2.1 x.1.2.2.2.1 := by kernel_rfl
noncomputable def R_55a_2 : LD_55a_2.El → Option (LA_55a_2.El ⊕ LB_55a_2.El) := roundsT (fun x => G_55a_2 x.1.1 x.1.2.1 x.1.2.2.1 x.1.2.2.2.1) fuel
theorem r_55a_2 : ∀ x y, R_55a_2 x = some y → CL CT l_55a_2 (LD_55a_2.enc x) (Sum.elim (fun _ => EX_55a_2.xa) (fun _ => EX_55a_2.xb) y) (Sum.elim EX_55a_2.la.enc EX_55a_2.lb.enc y) :=
  rounds_ok (L := LD_55a_2.lay []) (E := EX_55a_2) CT_ok T_55a_ok (drT_ok CT_ok T_55a_ok) lpi_55a_2_ok g_55a_2 rfl rfl (fun v h => by have hh : (.exit 0 : AX) = .pan v := h; cases hh) (fun v h => by have hh : (.ret : AX) = .pan v := h; cases hh) fuel
noncomputable def lp_55a {β : Type} : LpT β := fun k s K => if Nat.beq k 2 then lpOne (LD_55a_2.lay []) EX_55a_2 R_55a_2 s K else none
theorem lp_55a_ok {β : Type} : LpTOk CT (lp_55a (β := β)) (loopsOf c_55a) := by
  have h : loopsOf c_55a = [(2, l_55a_2)] := by kernel_rfl
  rw [h]
  exact LpTOk.cons (fun s K z h => lpOne_ok r_55a_2 h) (LpTOk.nil)
noncomputable def F_55a (a1 : Ty.El (.list tThing)) (a2 : Els [I]) : Option (Els [I]) := (R_55a_2 ((a1, (a2.fst, ()), ↑(List.length a1), (0 : Int), ()), ())).bind fun v1 => Sum.elim (fun v2 => Option.some ((-1 : Int), ())) (fun v3 => Option.some (v3.fst.fst, ())) v1
theorem f_55a (x : Ps [.ty (.list tThing), .clo 148 [I]]) : funcT CT T_55a [I] (drT CT T_55a) lp_55a Tryz.f147 c_55a (encPs [.ty (.list tThing), .clo 148 [I]] x) = F_55a x.1 x.2.1 := by kernel_rfl
noncomputable def E_55a : Ent := .fn 147 [148] ⟨[.ty (.list tThing), .clo 148 [I]], [I], fun x => F_55a x.1 x.2.1, false⟩
theorem e_55a : E_55a.Ok CT.P := Ent.ofFn CT_ok T_55a_ok hf_55a hb_55a lp_55a_ok f_55a
noncomputable def c_98 : Code := Tryz.f115.body.getD .skip
theorem hb_98 : Tryz.f115.body = some c_98 := by kernel_rfl
theorem hf_98 : CT.P.funcs[115]? = some Tryz.f115 := by kernel_rfl
noncomputable def T_98 : Tb := mkTb tyT mpT []
theorem T_98_ok : T_98.Ok CT.P := mkTb_ok (trivial)
noncomputable def l_98_13 : Code := atLoop c_98 13
noncomputable def l_98_3 : Code := atLoop c_98 3
noncomputable def l_98_6 : Code := atLoop l_98_3 6
noncomputable abbrev LD_98_6 : LayD := ⟨47, [(1, .data I), (2, .ptr 0), (5, .map 1), (7, .ptr 2), (13, .data (.list tThing)), (14, .data I), (15, .data I), (20, .data (.list I)), (21, .data I), (22, .data I)], [.var 30 [.data tScene], .tmap I I, .var 52 [.data tThing]], fun s => [slotR s 2, slotR s 5, slotR s 7]⟩
noncomputable abbrev LA_98_6 : LayD := ⟨47, [(1, .data I), (2, .ptr 0), (5, .map 1), (13, .data (.list tThing)), (14, .data I), (15, .data I)], [.var 30 [.data tScene], .tmap I I], fun s => [slotR s 2, slotR s 5]⟩
noncomputable abbrev LB_98_6 : LayD := ⟨47, [], [], fun _ => []⟩
noncomputable def EX_98_6 : Exits 0 LA_98_6.El LB_98_6.El := ⟨.exit 2, LA_98_6.lay [], .ret, LB_98_6.lay []⟩
noncomputable def lpi_98_6 {β : Type} : LpT β := fun _ _ _ => none
theorem lpi_98_6_ok {β : Type} : LpTOk CT (lpi_98_6 (β := β)) (loopsOf l_98_6) := by
  have h : loopsOf l_98_6 = [] := by kernel_rfl
  rw [h]
  exact LpTOk.nil
noncomputable def G_98_6 (r1 : Ty.El I) (r13 : Ty.El (.list tThing)) (r14 : Ty.El I) (r15 : Ty.El I) (r20 : Ty.El (.list I)) (r21 : Ty.El I) (r22 : Ty.El I) (b0 : Ty.El tScene × Unit) (b1 : List (Ty.El I × Ty.El I)) (b2 : Ty.El tThing × Unit) : Option (LD_98_6.El ⊕ (LA_98_6.El ⊕ LB_98_6.El)) := bif Decidable.decide (r22 < r21) then bif Decidable.decide ((0 : Int) ≤ r22 ∧ r22 < ↑(List.length r20)) then Option.some (Sum.inl ((r1, (), (), (), r13, r14, r15, r20, r21, Go.IntKind.i64.wrap (r22 + (1 : Int)), ()), (b0.fst, ()), Go.DI.tput (Go.DI.Ty.int Go.IntKind.i64) (Go.DI.Ty.int Go.IntKind.i64) (List.getD r20 (Int.toNat r22) (0 : Int)) b2.fst.fst b1, (b2.fst, ()), ())) else Option.none else Option.some (Sum.inr (Sum.inl ((r1, (), (), r13, r14, r15, ()), (b0.fst, ()), b1, ())))
theorem g_98_6 (x : LD_98_6.El) : codeT CT T_98 (drT CT T_98) lpi_98_6 l_98_6 (LD_98_6.enc x) (bodyK (LD_98_6.lay []) EX_98_6) = G_98_6 x.1.1 x.1.2.2.2.2.1 x.1.2.2.2.2.2.1 x.1.2.2.2.2.2.2.1 x.1.2.2.2.2.2.2.2.1 x.1.2.2.2.2.2.2.2.2.1 x.1.2.2.2.2.2.2.2.2.2.1 x.2.1 x.2.2.1 x.2.2.2.1 := by kernel_rfl
noncomputable def R_98_6 : LD_98_6.El → Option (LA_98_6.El ⊕ LB_98_6.El) := roundsT (fun x => G_98_6 x.1.1 x.1.2.2.2.2.1 x.1.2.2.2.2.2.1 x.1.2.2.2.2.2.2.1 x.1.2.2.2.2.2.2.2.1 x.1.2.2.2.2.2.2.2.2.1 x.1.2.2.2.2.2.2.2.2.2.1 x.2.1 x.2.2.1 x.2.2.2.1) fuel
theorem r_98_6 : ∀ x y, R_98_6 x = some y → CL CT l_98_6 (LD_98_6.enc x) (Sum.elim (fun _ => EX_98_6.xa) (fun _ => EX_98_6.xb) y) (Sum.elim EX_98_6.la.enc EX_98_6.lb.enc y) :=
  rounds_ok (L := LD_98_6.lay []) (E := EX_98_6) CT_ok T_98_ok (drT_ok CT_ok T_98_ok) lpi_98_6_ok g_98_6 rfl rfl (fun v h => by have hh : (.exit 2 : AX) = .pan v := h; cases hh) (fun v h => by have hh : (.ret : AX) = .pan v := h; cases hh) fuel
noncomputable abbrev LD_98_3 : LayD := ⟨47, [(1, .data I), (2, .ptr 0), (5, .map 1), (13, .data (.list tThing)), (14, .data I), (15, .data I)], [.var 30 [.data tScene], .tmap I I], fun s => [slotR s 2, slotR s 5]⟩
noncomputable abbrev LA_98_3 : LayD := ⟨47, [(1, .data I), (2, .ptr 0), (5, .map 1)], [.var 30 [.data tScene], .tmap I I], fun s => [slotR s 2, slotR s 5]⟩
noncomputable abbrev LB_98_3 : LayD := ⟨47, [], [], fun _ => []⟩
noncomputable def EX_98_3 : Exits 0 LA_98_3.El LB_98_3.El := ⟨.exit 0, LA_98_3.lay [], .ret, LB_98_3.lay []⟩
noncomputable def lpi_98_3 {β : Type} : LpT β := fun k s K => if Nat.beq k 6 then lpOne (LD_98_6.lay []) EX_98_6 R_98_6 s K else none
theorem lpi_98_3_ok {β : Type} : LpTOk CT (lpi_98_3 (β := β)) (loopsOf l_98_3) := by
  have h : loopsOf l_98_3 = [(6, l_98_6)] := by kernel_rfl
  rw [h]
  exact LpTOk.cons (fun s K z h => lpOne_ok r_98_6 h) (LpTOk.nil)
noncomputable def G_98_3 (r1 : Ty.El I) (r13 : Ty.El (.list tThing)) (r14 : Ty.El I) (r15 : Ty.El I) (b0 : Ty.El tScene × Unit) (b1 : List (Ty.El I × Ty.El I)) : Option (LD_98_3.El ⊕ (LA_98_3.El ⊕ LB_98_3.El)) := bif Decidable.decide (r15 < r14) then bif Decidable.decide ((0 : Int) ≤ r15 ∧ r15 < ↑(List.length r13)) then (R_98_6 ((r1, (), (), (), r13, r14, r15, (List.getD r13 (Int.toNat r15) (Go.DI.S.I.pair (Go.DI.S.I.pair (Go.DI.S.tBody.pair (Go.DI.S.tJoint.pair Go.DI.S.I.list)))).dflt).snd.snd.snd.snd, ↑(List.length (List.getD r13 (Int.toNat r15) (Go.DI.S.I.pair (Go.DI.S.I.pair (Go.DI.S.tBody.pair (Go.DI.S.tJoint.pair Go.DI.S.I.list)))).dflt).snd.snd.snd.snd), (0 : Int), ()), (b0.fst, ()), b1, (List.getD r13 (Int.toNat r15) (Go.DI.S.I.pair (Go.DI.S.I.pair (Go.DI.S.tBody.pair (Go.DI.S.tJoint.pair Go.DI.S.I.list)))).dflt, ()), ())).bind fun v3 => Sum.elim (fun v4 => Option.some (Sum.inl ((v4.fst.fst, (), (), v4.fst.snd.snd.snd.fst, v4.fst.snd.snd.snd.snd.fst, Go.IntKind.i64.wrap (v4.fst.snd.snd.snd.snd.snd.fst + (1 : Int)), ()), (v4.snd.fst.fst, ()), v4.snd.snd.fst, ()))) (fun v5 => Option.some (Sum.inr (Sum.inr ((), ())))) v3 else Option.none else Option.some (Sum.inr (Sum.inl ((r1, (), (), ()), (b0.fst, ()), b1, ())))
theorem g_98_3 (x : LD_98_3.El) : codeT CT T_98 (drT CT T_98) lpi_98_3 l_98_3 (LD_98_3.enc x) (bodyK (LD_98_3.lay []) EX_98_3) = G_98_3 x.1.1 x.1.2.2.2.1 x.1.2.2.2.2.1 x.1.2.2.2.2.2.1 x.2.1 x.2.2.1 := by kernel_rfl
noncomputable def R_98_3 : LD_98_3.El → Option (LA_98_3.El ⊕ LB_98_3.El) := roundsT (fun x => G_98_3 x.1.1 x.1.2.2.2.1 x.1.2.2.2.2.1 x.1.2.2.2.2.2.1 x.2.1 x.2.2.1) fuel
theorem r_98_3 : ∀ x y, R_98_3 x = some y → CL CT l_98_3 (LD_98_3.enc x) (Sum.elim (fun _ => EX_98_3.xa) (fun _ => EX_98_3.xb) y) (Sum.elim EX_98_3.la.enc EX_98_3.lb.enc y) :=
  rounds_ok (L := LD_98_3.lay []) (E := EX_98_3) CT_ok T_98_ok (drT_ok CT_ok T_98_ok) lpi_98_3_ok g_98_3 rfl rfl (fun v h => by have hh : (.exit 0 : AX) = .pan v := h; cases hh) (fun v h => by have hh : (.ret : AX) = .pan v := h; cases hh) fuel
noncomputable abbrev LD_98_13 : LayD := ⟨47, [(1, .data I), (5, .map 0), (10, .data I), (37, .data I), (38, .data I)], [.tmap I I], fun s => [slotR s 5]⟩
noncomputable abbrev LA_98_13 : LayD := ⟨47, [], [], fun _ => []⟩
noncomputable abbrev LB_98_13 : LayD := ⟨47, [(4, .data .bool)], [], fun _ => []⟩
noncomputable def EX_98_13 : Exits 0 LA_98_13.El LB_98_13.El := ⟨.exit 4, LA_98_13.lay [], .ret, LB_98_13.lay []⟩
noncomputable def lpi_98_13 {β : Type} : LpT β := fun _ _ _ => none
theorem lpi_98_13_ok {β : Type} : LpTOk CT (lpi_98_13 (β := β)) (loopsOf l_98_13) := by
  have h : loopsOf l_98_13 = [] := by kernel_rfl
  rw [h]
  exact LpTOk.nil
noncomputable def G_98_13 (r1 : Ty.El I) (r10 : Ty.El I) (r37 : Ty.El I) (r38 : Ty.El I) (b0 : List (Ty.El I × Ty.El I)) : Option (LD_98_13.El ⊕ (LA_98_13.El ⊕ LB_98_13.El)) := bif Decidable.decide (r38 < r37) then bif r10 == r1 then Option.some (Sum.inr (Sum.inr ((Bool.true, ()), ()))) else Option.some (Sum.inl ((r1, (), (Go.DI.tget (Go.DI.Ty.int Go.IntKind.i64) (Go.DI.Ty.int Go.IntKind.i64) r10 b0).getD (0 : Int), r37, Go.IntKind.i64.wrap (r38 + (1 : Int)), ()), b0, ())) else Option.some (Sum.inr (Sum.inl ((), ())))
theorem g_98_13 (x : LD_98_13.El) : codeT CT T_98 (drT CT T_98) lpi_98_13 l_98_13 (LD_98_13.enc x) (bodyK (LD_98_13.lay []) EX_98_13) = G_98_13 x.1.1 x.1.2.2.1 x.1.2.2.2.1 x.1.2.2.2.2.1 x.2.1 := by kernel_rfl
noncomputable def R_98_13 : LD_98_13.El → Option (LA_98_13.El ⊕ LB_98_13.El) := roundsT (fun x => G_98_13 x.1.1 x.1.2.2.1 x.1.2.2.2.1 x.1.2.2.2.2.1 x.2.1) fuel
theorem r_98_13 : ∀ x y, R_98_13 x = some y → CL CT l_98_13 (LD_98_13.enc x) (Sum.elim (fun _ => EX_98_13.xa) (fun _ => EX_98_13.xb) y) (Sum.elim EX_98_13.la.enc EX_98_13.lb.enc y) :=
  rounds_ok (L := LD_98_13.lay []) (E := EX_98_13) CT_ok T_98_ok (drT_ok CT_ok T_98_ok) lpi_98_13_ok g_98_13 rfl rfl (fun v h => by have hh : (.exit 4 : AX) = .pan v := h; cases hh) (fun v h => by have hh : (.ret : AX) = .pan v := h; cases hh) fuel
noncomputable def lp_98 {β : Type} : LpT β := fun k s K => if Nat.beq k 3 then lpOne (LD_98_3.lay []) EX_98_3 R_98_3 s K else if Nat.beq k 13 then lpOne (LD_98_13.lay []) EX_98_13 R_98_13 s K else none
theorem lp_98_ok {β : Type} : LpTOk CT (lp_98 (β := β)) (loopsOf c_98) := by
  have h : loopsOf c_98 = [(3, l_98_3), (13, l_98_13)] := by kernel_rfl
  rw [h]
  exact LpTOk.cons (fun s K z h => lpOne_ok r_98_3 h) (LpTOk.cons (fun s K z h => lpOne_ok r_98_13 h) (LpTOk.nil))
noncomputable def F_98 (a1 : Ty.El tScene) (a2 : Ty.El I) : Option (Els [.bool]) := (R_98_3 ((a2, (), (), a1.snd.snd, ↑(List.length a1.snd.snd), (0 : Int), ()), (a1, ()), [], ())).bind fun v1 => Sum.elim (fun v2 => (R_98_13 ((v2.fst.fst, (), (Go.DI.tget (Go.DI.Ty.int Go.IntKind.i64) (Go.DI.Ty.int Go.IntKind.i64) v2.fst.fst v2.snd.snd.fst).getD (0 : Int), ↑(List.length v2.snd.fst.fst.snd.snd), (0 : Int), ()), v2.snd.snd.fst, ())).bind fun v3 => Sum.elim (fun v4 => Option.some (Bool.false, ())) (fun v5 => Option.some (v5.fst.fst, ())) v3) (fun v6 => Option.none) v1
theorem f_98 (x : Ps [.ty tScene, .ty I]) : funcT CT T_98 [.bool] (drT CT T_98) lp_98 Tryz.f115 c_98 (encPs [.ty tScene, .ty I] x) = F_98 x.1 x.2.1 := by kernel_rfl
noncomputable def E_98 : Ent := .fn 115 [] ⟨[.ty tScene, .ty I], [.bool], fun x => F_98 x.1 x.2.1, false⟩
theorem e_98 : E_98.Ok CT.P := Ent.ofFn CT_ok T_98_ok hf_98 hb_98 lp_98_ok f_98
noncomputable def c_97 : Code := Tryz.f114.body.getD .skip
theorem hb_97 : Tryz.f114.body = some c_97 := by kernel_rfl
theorem hf_97 : CT.P.funcs[114]? = some Tryz.f114 := by kernel_rfl
noncomputable def T_97 : Tb := mkTb tyT mpT [E_98]
theorem T_97_ok : T_97.Ok CT.P := mkTb_ok (⟨e_98, trivial⟩)
noncomputable def lp_97 {β : Type} : LpT β := fun _ _ _ => none
theorem lp_97_ok {β : Type} : LpTOk CT (lp_97 (β := β)) (loopsOf c_97) := by
  have h : loopsOf c_97 = [] := by kernel_rfl
  rw [h]
  exact LpTOk.nil
noncomputable def F_97 (a1 : Ty.El tThing) (a2 : Ty.El tScene) : Option (Els [.bool]) := (F_98 a2 a1.fst).bind fun v1 => Option.some (v1.fst, ())
theorem f_97 (x : Ps [.ty tThing, .roa tScene]) : funcT CT T_97 [.bool] (drT CT T_97) lp_97 Tryz.f114 c_97 (encPs [.ty tThing, .roa tScene] x) = F_97 x.1 x.2.1 := by kernel_rfl
noncomputable def E_97 : Ent := .fn 114 [] ⟨[.ty tThing, .roa tScene], [.bool], fun x => F_97 x.1 x.2.1, false⟩
theorem e_97 : E_97.Ok CT.P := Ent.ofFn CT_ok T_97_ok hf_97 hb_97 lp_97_ok f_97
noncomputable def c_55b : Code := Tryz.f147.body.getD .skip
theorem hb_55b : Tryz.f147.body = some c_55b := by kernel_rfl
theorem hf_55b : CT.P.funcs[147]? = some Tryz.f147 := by kernel_rfl
noncomputable def T_55b : Tb := mkTb tyT mpT [E_97]
theorem T_55b_ok : T_55b.Ok CT.P := mkTb_ok (⟨e_97, trivial⟩)
noncomputable def l_55b_2 : Code := atLoop c_55b 2
noncomputable abbrev LD_55b_2 : LayD := ⟨19, [(0, .data (.list tThing)), (1, .clo 114 [tScene]), (7, .data I), (8, .data I)], [], fun _ => []⟩
noncomputable abbrev LA_55b_2 : LayD := ⟨19, [], [], fun _ => []⟩
noncomputable abbrev LB_55b_2 : LayD := ⟨19, [(4, .data I)], [], fun _ => []⟩
noncomputable def EX_55b_2 : Exits 0 LA_55b_2.El LB_55b_2.El := ⟨.exit 0, LA_55b_2.lay [], .ret, LB_55b_2.lay []⟩
noncomputable def lpi_55b_2 {β : Type} : LpT β := fun _ _ _ => none
theorem lpi_55b_2_ok {β : Type} : LpTOk CT (lpi_55b_2 (β := β)) (loopsOf l_55b_2) := by
  have h : loopsOf l_55b_2 = [] := by kernel_rfl
  rw [h]
  exact LpTOk.nil
noncomputable def G_55b_2 (r0 : Ty.El (.list tThing)) (r1 : Els [tScene]) (r7 : Ty.El I) (r8 : Ty.El I) : Option (LD_55b_2.El ⊕ (LA_55b_2.El ⊕ LB_55b_2.El)) := bif Decidable.decide (r8 < r7) then bif Decidable.decide ((0 : Int) ≤ r8 ∧ r8 < ↑(List.length r0)) then (F_97 (List.getD r0 (Int.toNat r8) (Go.DI.S.I.pair (Go.DI.S.I.pair (Go.DI.S.tBody.pair (Go.DI.S.tJoint.pair Go.DI.S.I.list)))).dflt) r1.fst).bind fun v3 => bif v3.fst then Option.some (Sum.inr (Sum.inr ((r8, ()), ()))) else Option.some (Sum.inl ((r0, (r1.fst, ()), r7, Go.IntKind.i64.wrap (r8 + (1 : Int)), ()), ())) else Option.none else Option.some (Sum.inr (Sum.inl ((), ())))
theorem g_55b_2 (x : LD_55b_2.El) : codeT CT T_55b (drT CT T_55b) lpi_55b_2 l_55b_2 (LD_55b_2.enc x) (bodyK (LD_55b_2.lay []) EX_55b_2) = G_55b_2 x.1.1 x.1.2.1 x.1.2.2.1 x.1.2.2.2.1 := by kernel_rfl
noncomputable def R_55b_2 : LD_55b_2.El → Option (LA_55b_2.El ⊕ LB_55b_2.El) := roundsT (fun x => G_55b_2 x.1.1 x.1.2.1 x.1.2.2.1 x.1.2.2.2.1) fuel
theorem r_55b_2 : ∀ x y, R_55b_2 x = some y → CL CT l_55b_2 (LD_55b_2.enc x) (Sum.elim (fun _ => EX_55b_2.xa) (fun _ => EX_55b_2.xb) y) (Sum.elim EX_55b_2.la.enc EX_55b_2.lb.enc y) :=
  rounds_ok (L := LD_55b_2.lay []) (E := EX_55b_2) CT_ok T_55b_ok (drT_ok CT_ok T_55b_ok) lpi_55b_2_ok g_55b_2 rfl rfl (fun v h => by have hh : (.exit 0 : AX) = .pan v := h; cases hh) (fun v h => by have hh : (.ret : AX) = .pan v := h; cases hh) fuel
noncomputable def lp_55b {β : Type} : LpT β := fun k s K => if Nat.beq k 2 then lpOne (LD_55b_2.lay []) EX_55b_2 R_55b_2 s K else none
theorem lp_55b_ok {β : Type} : LpTOk CT (lp_55b (β := β)) (loopsOf c_55b) := by
  have h : loopsOf c_55b = [(2, l_55b_2)] := by kernel_rfl
  rw [h]
  exact LpTOk.cons (fun s K z h => lpOne_ok r_55b_2 h) (LpTOk.nil)
noncomputable def F_55b (a1 : Ty.El (.list tThing)) (a2 : Els [tScene]) : Option (Els [I]) := (R_55b_2 ((a1, (a2.fst, ()), ↑(List.length a1), (0 : Int), ()), ())).bind fun v1 => Sum.elim (fun v2 => Option.some ((-1 : Int), ())) (fun v3 => Option.some (v3.fst.fst, ())) v1
theorem f_55b (x : Ps [.ty (.list tThing), .clo 114 [tScene]]) : funcT CT T_55b [I] (drT CT T_55b) lp_55b Tryz.f147 c_55b (encPs [.ty (.list tThing), .clo 114 [tScene]] x) = F_55b x.1 x.2.1 := by kernel_rfl
noncomputable def E_55b : Ent := .fn 147 [114] ⟨[.ty (.list tThing), .clo 114 [tScene]], [I], fun x => F_55b x.1 x.2.1, false⟩
theorem e_55b : E_55b.Ok CT.P := Ent.ofFn CT_ok T_55b_ok hf_55b hb_55b lp_55b_ok f_55b
noncomputable def c_96 : Code := Tryz.f113.body.getD .skip
theorem hb_96 : Tryz.f113.body = some c_96 := by kernel_rfl
theorem hf_96 : CT.P.funcs[113]? = some Tryz.f113 := by kernel_rfl
noncomputable def T_96 : Tb := mkTb tyT mpT [E_55b]
theorem T_96_ok : T_96.Ok CT.P := mkTb_ok (⟨e_55b, trivial⟩)
noncomputable def lp_96 {β : Type} : LpT β := fun _ _ _ => none
theorem lp_96_ok {β : Type} : LpTOk CT (lp_96 (β := β)) (loopsOf c_96) := by
  have h : loopsOf c_96 = [] := by kernel_rfl
  rw [h]
  exact LpTOk.nil
noncomputable def F_96 (a1 : Ty.El (.list tThing)) (a2 : Els [tScene]) : Option (Els [.bool]) := (F_55b a1 (a2.fst, ())).bind fun v1 => Option.some (Decidable.decide (v1.fst ≥ (0 : Int)), ())
theorem f_96 (x : Ps [.ty (.list tThing), .clo 114 [tScene]]) : funcT CT T_96 [.bool] (drT CT T_96) lp_96 Tryz.f113 c_96 (encPs [.ty (.list tThing), .clo 114 [tScene]] x) = F_96 x.1 x.2.1 := by kernel_rfl
noncomputable def E_96 : Ent := .fn 113 [114] ⟨[.ty (.list tThing), .clo 114 [tScene]], [.bool], fun x => F_96 x.1 x.2.1, false⟩
theorem e_96 : E_96.Ok CT.P := Ent.ofFn CT_ok T_96_ok hf_96 hb_96 lp_96_ok f_96
noncomputable def c_53 : Code := Tryz.f66.body.getD .skip
theorem hb_53 : Tryz.f66.body = some c_53 := by kernel_rfl
theorem hf_53 : CT.P.funcs[66]? = some Tryz.f66 := by kernel_rfl
noncomputable def T_53 : Tb := mkTb tyT mpT [E_96]
theorem T_53_ok : T_53.Ok CT.P := mkTb_ok (⟨e_96, trivial⟩)
noncomputable def lp_53 {β : Type} : LpT β := fun _ _ _ => none
theorem lp_53_ok {β : Type} : LpTOk CT (lp_53 (β := β)) (loopsOf c_53) := by
  have h : loopsOf c_53 = [] := by kernel_rfl
  rw [h]
  exact LpTOk.nil
noncomputable def F_53 (a1 : Ty.El tScene) : Option (Els [.bool]) := (F_96 a1.snd.snd (a1, ())).bind fun v1 => Option.some (!v1.fst, ())
theorem f_53 (x : Ps [.ty tScene]) : funcT CT T_53 [.bool] (drT CT T_53) lp_53 Tryz.f66 c_53 (encPs [.ty tScene] x) = F_53 x.1 := by kernel_rfl
noncomputable def E_53 : Ent := .fn 66 [] ⟨[.ty tScene], [.bool], fun x => F_53 x.1, false⟩
theorem e_53 : E_53.Ok CT.P := Ent.ofFn CT_ok T_53_ok hf_53 hb_53 lp_53_ok f_53
end Go.DI.S
