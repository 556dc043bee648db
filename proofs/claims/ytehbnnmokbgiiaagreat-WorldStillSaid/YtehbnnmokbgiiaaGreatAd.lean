import Derived.Test.YtehbnnmokbgiiaaGreatAc
/- The quick sort: told by functions on data. No conditions. -/
/-! The program's functions, told by functions on data. -/
set_option linter.unusedVariables false
set_option maxRecDepth 100000
set_option maxHeartbeats 0
namespace Go.DI.S
open Go.Proofs
/-! ### 289: slices.pdqsortCmpFuncmaquette/api.Pair -/
noncomputable def c_289 : Code := Tryz.f289.body.getD .skip
theorem hb_289 : Tryz.f289.body = some c_289 := by kernel_rfl
theorem hf_289 : CT.P.funcs[289]? = some Tryz.f289 := by kernel_rfl
noncomputable abbrev IN_289 : LayD := ⟨5, [(0, .own tPair 0), (1, .data I), (2, .data I), (3, .data I), (4, .clo 236 [])], [.row 204 tPair], fun s => [slotR s 0]⟩
noncomputable abbrev OUT_289 : LayD := ⟨0, [], [.row 204 tPair], fun _ => [0]⟩
abbrev FT_289 := (Ty.El I) → (Ty.El I) → (Ty.El I) → (List (Ty.El tPair)) → Option OUT_289.El
noncomputable def E_289x (f : FT_289) : Ent := .mkGen 289 [236] ⟨1, [.nilReg 0 204 tPair, .rowReg 0 204 tPair], IN_289, OUT_289, fun x => f x.1.2.1 x.1.2.2.1 x.1.2.2.2.1 x.2.1⟩
noncomputable def T_289 (f : FT_289) : Tb := mkTb tyT mpT [E_311, E_312, E_313, E_314, E_315, E_316, E_317, E_318, (E_289x f), E_236]
theorem T_289_ok {f : FT_289} (hf : (E_289x f).Ok CT.P) : (T_289 f).Ok CT.P := mkTb_ok (⟨e_311, e_312, e_313, e_314, e_315, e_316, e_317, e_318, hf, e_236, trivial⟩)
noncomputable def l_289_2 : Code := atLoop c_289 2
noncomputable abbrev LD_289_2 : LayD := ⟨148, [(0, .own tPair 0), (1, .data I), (2, .data I), (3, .data I), (4, .clo 236 []), (10, .data .bool), (11, .data .bool)], [.row 204 tPair], fun s => [0]⟩
noncomputable abbrev LA_289_2 : LayD := ⟨148, [], [], fun _ => []⟩
noncomputable abbrev LB_289_2 : LayD := ⟨148, [], [.row 204 tPair], fun s => [0]⟩
noncomputable def EX_289_2 : Exits 1 LA_289_2.El LB_289_2.El := ⟨.exit 9999, LA_289_2.lay [], .ret, LB_289_2.lay []⟩

noncomputable def lpi_289_2 {β : Type} : LpT β := fun _ _ _ => none
theorem lpi_289_2_ok {β : Type} : LpTOk (CTp 1) (lpi_289_2 (β := β)) (loopsOf l_289_2) := by
  have h : loopsOf l_289_2 = [] := by kernel_rfl
  rw [h]
  exact LpTOk.nil
noncomputable abbrev Y_289 := LD_289_2.El ⊕ (LA_289_2.El ⊕ LB_289_2.El)
/-- One part of two is put in order, the other one is left for the next round. -/
noncomputable def P4_289 (f : FT_289) (r1 r2 r3 : Int) (p : Int) (b0 : List (Ty.El tPair)) : Option Y_289 :=
  (F_318 r1 r2 p b0).bind fun v =>
    bif Decidable.decide (Go.IntKind.i64.wrap (v.fst.fst - r1) < Go.IntKind.i64.wrap (r2 - v.fst.fst)) then
      (f r1 v.fst.fst r3 v.snd.fst).bind fun u => Option.some (Sum.inl (((), Go.IntKind.i64.wrap (v.fst.fst + (1 : Int)), r2, r3, (), Decidable.decide (Go.IntKind.i64.wrap (v.fst.fst - r1) ≥ Go.IntKind.i64.wrap ((Go.IntKind.i64.wrap (r2 - r1)).tdiv (8 : Int))), v.fst.snd.fst, ()), u.snd.fst, ()))
    else
      (f (Go.IntKind.i64.wrap (v.fst.fst + (1 : Int))) r2 r3 v.snd.fst).bind fun u => Option.some (Sum.inl (((), r1, v.fst.fst, r3, (), Decidable.decide (Go.IntKind.i64.wrap (r2 - v.fst.fst) ≥ Go.IntKind.i64.wrap ((Go.IntKind.i64.wrap (r2 - r1)).tdiv (8 : Int))), v.fst.snd.fst, ()), u.snd.fst, ()))
noncomputable def P3_289 (f : FT_289) (r1 r2 r3 : Int) (r10 r11 : Bool) (p : Int) (b0 : List (Ty.El tPair)) : Option Y_289 :=
  bif Decidable.decide (r1 > (0 : Int)) then
    bif Decidable.decide ((0 : Int) ≤ Go.IntKind.i64.wrap (r1 - (1 : Int)) ∧ Go.IntKind.i64.wrap (r1 - (1 : Int)) < (↑(List.length b0) : Int)) then
      bif Decidable.decide ((0 : Int) ≤ p ∧ p < (↑(List.length b0) : Int)) then
        (F_236 (List.getD b0 (Go.IntKind.i64.wrap (r1 - (1 : Int))).toNat Go.DI.S.tPair.dflt) (List.getD b0 p.toNat Go.DI.S.tPair.dflt)).bind fun v =>
          bif !Decidable.decide (v.fst < (0 : Int)) then
            (F_317 r1 r2 p b0).bind fun u => Option.some (Sum.inl (((), u.fst.fst, r2, r3, (), r10, r11, ()), u.snd.fst, ()))
          else P4_289 f r1 r2 r3 p b0
      else Option.none
    else Option.none
  else P4_289 f r1 r2 r3 p b0
noncomputable def P2_289 (f : FT_289) (r1 r2 r3 : Int) (r10 r11 : Bool) (p h : Int) (b0 : List (Ty.El tPair)) : Option Y_289 :=
  bif r10 then
    bif r11 then
      bif h == (1 : Int) then
        (F_316 r1 r2 b0).bind fun v => bif v.fst.fst then Option.some (Sum.inr (Sum.inr ((), v.snd.fst, ()))) else P3_289 f r1 r2 r3 r10 r11 p v.snd.fst
      else P3_289 f r1 r2 r3 r10 r11 p b0
    else P3_289 f r1 r2 r3 r10 r11 p b0
  else P3_289 f r1 r2 r3 r10 r11 p b0
noncomputable def P1_289 (f : FT_289) (r1 r2 r3 : Int) (r10 r11 : Bool) (b0 : List (Ty.El tPair)) : Option Y_289 :=
  (F_314 r1 r2 b0).bind fun v =>
    bif v.fst.snd.fst == (2 : Int) then
      (F_315 r1 r2 v.snd.fst).bind fun u => P2_289 f r1 r2 r3 r10 r11 (Go.IntKind.i64.wrap (Go.IntKind.i64.wrap (r2 - (1 : Int)) - Go.IntKind.i64.wrap (v.fst.fst - r1))) 1 u.snd.fst
    else P2_289 f r1 r2 r3 r10 r11 v.fst.fst v.fst.snd.fst v.snd.fst
noncomputable def G_289_2 (f : FT_289) (r1 : Ty.El I) (r2 : Ty.El I) (r3 : Ty.El I) (r10 : Ty.El .bool) (r11 : Ty.El .bool) (b0 : List (Ty.El tPair)) : Option (LD_289_2.El ⊕ (LA_289_2.El ⊕ LB_289_2.El)) := bif Decidable.decide (Go.IntKind.i64.wrap (r2 - r1) ≤ (12 : Int)) then (F_311 r1 r2 b0).bind fun v2 => Option.some (Sum.inr (Sum.inr ((), v2.snd.fst, ()))) else bif r3 == (0 : Int) then (F_312 r1 r2 b0).bind fun v6 => Option.some (Sum.inr (Sum.inr ((), v6.snd.fst, ()))) else bif !r10 then (F_313 r1 r2 b0).bind fun v10 => P1_289 f r1 r2 (Go.IntKind.i64.wrap (r3 - (1 : Int))) r10 r11 v10.snd.fst else P1_289 f r1 r2 r3 r10 r11 b0
theorem g_289_2a (f : FT_289) (r1 r2 r3 : Int) (b0 : List (Ty.El tPair)) : codeT (CTp 1) (T_289 f) (drT (CTp 1) (T_289 f)) lpi_289_2 l_289_2 (LD_289_2.enc (((), r1, r2, r3, (), true, true, ()), b0, ())) (bodyK (LD_289_2.lay []) EX_289_2) = (G_289_2 f) r1 r2 r3 true true b0 := by kernel_rfl
theorem g_289_2b (f : FT_289) (r1 r2 r3 : Int) (b0 : List (Ty.El tPair)) : codeT (CTp 1) (T_289 f) (drT (CTp 1) (T_289 f)) lpi_289_2 l_289_2 (LD_289_2.enc (((), r1, r2, r3, (), true, false, ()), b0, ())) (bodyK (LD_289_2.lay []) EX_289_2) = (G_289_2 f) r1 r2 r3 true false b0 := by kernel_rfl
theorem g_289_2c (f : FT_289) (r1 r2 r3 : Int) (r11 : Bool) (b0 : List (Ty.El tPair)) : codeT (CTp 1) (T_289 f) (drT (CTp 1) (T_289 f)) lpi_289_2 l_289_2 (LD_289_2.enc (((), r1, r2, r3, (), false, r11, ()), b0, ())) (bodyK (LD_289_2.lay []) EX_289_2) = (G_289_2 f) r1 r2 r3 false r11 b0 := by kernel_rfl
theorem g_289_2 (f : FT_289) (x : LD_289_2.El) : codeT (CTp 1) (T_289 f) (drT (CTp 1) (T_289 f)) lpi_289_2 l_289_2 (LD_289_2.enc x) (bodyK (LD_289_2.lay []) EX_289_2) = (G_289_2 f) x.1.2.1 x.1.2.2.1 x.1.2.2.2.1 x.1.2.2.2.2.2.1 x.1.2.2.2.2.2.2.1 x.2.1 := by
  obtain ⟨⟨x0, r1, r2, r3, x4, r10, r11, x7⟩, b0, x8⟩ := x
  cases r10 with
  | true => cases r11 with
    | true => exact g_289_2a f r1 r2 r3 b0
    | false => exact g_289_2b f r1 r2 r3 b0
  | false => exact g_289_2c f r1 r2 r3 r11 b0
noncomputable def R_289_2 (f : FT_289) : LD_289_2.El → Option (LA_289_2.El ⊕ LB_289_2.El) := roundsT (fun x => (G_289_2 f) x.1.2.1 x.1.2.2.1 x.1.2.2.2.1 x.1.2.2.2.2.2.1 x.1.2.2.2.2.2.2.1 x.2.1) fuel
theorem r_289_2 {f : FT_289} (hf : (E_289x f).Ok CT.P) : ∀ x y, (R_289_2 f) x = some y → CL (CTp 1) l_289_2 (LD_289_2.enc x) (Sum.elim (fun _ => EX_289_2.xa) (fun _ => EX_289_2.xb) y) (Sum.elim EX_289_2.la.enc EX_289_2.lb.enc y) :=
  rounds_ok (L := LD_289_2.lay []) (E := EX_289_2) (CTp_ok 1) (T_289_ok hf) (drT_ok (CTp_ok 1) (T_289_ok hf)) lpi_289_2_ok (g_289_2 f) rfl rfl (fun v h => by have hh : (.exit 9999 : AX) = .pan v := h; cases hh) (fun v h => by have hh : (.ret : AX) = .pan v := h; cases hh) fuel
noncomputable def lp_289 (f : FT_289) {β : Type} : LpT β := fun k s K => if Nat.beq k 2 then lpOne (LD_289_2.lay []) EX_289_2 (R_289_2 f) s K else none
theorem lp_289_ok {f : FT_289} (hf : (E_289x f).Ok CT.P) {β : Type} : LpTOk (CTp 1) (lp_289 f (β := β)) (loopsOf c_289) := by
  have h : loopsOf c_289 = [(2, l_289_2)] := by kernel_rfl
  rw [h]
  exact LpTOk.cons (fun s K z h => lpOne_ok (r_289_2 hf) h) (LpTOk.nil)
noncomputable def F_289b (f : FT_289) (a1 : Ty.El I) (a2 : Ty.El I) (a3 : Ty.El I) (b0 : List (Ty.El tPair)) : Option OUT_289.El := ((R_289_2 f) (((), a1, a2, a3, (), Bool.true, Bool.true, ()), b0, ())).bind fun v1 => Sum.elim (fun v2 => Option.none) (fun v3 => Option.some ((), v3.snd.fst, ())) v1
theorem f_289 (f : FT_289) (x : IN_289.El) : funcX (CTp 1) (T_289 f) IN_289 OUT_289 [] (drT (CTp 1) (T_289 f)) (lp_289 f) Tryz.f289 c_289 x = F_289b f x.1.2.1 x.1.2.2.1 x.1.2.2.2.1 x.2.1 := by kernel_rfl
noncomputable def F_289n : Nat → FT_289
  | 0, _, _, _, _ => none
  | n + 1, a1, a2, a3, a4 => F_289b (F_289n n) a1 a2 a3 a4
noncomputable def F_289 : FT_289 := F_289n 100
theorem e_289n : ∀ n, (E_289x (F_289n n)).Ok CT.P
  | 0 => Ent.mkGen_ok (fun x y h => by cases h)
  | n + 1 => Ent.ofGen (C := (CTp 1)) (steps := [.nilReg 0 204 tPair, .rowReg 0 204 tPair]) (osteps := []) (CTp_ok 1) (T_289_ok (e_289n n)) hf_289 hb_289 (lp_289_ok (e_289n n)) (f_289 (F_289n n))
noncomputable def E_289 : Ent := E_289x F_289
theorem e_289 : E_289.Ok CT.P := e_289n 100

end Go.DI.S

