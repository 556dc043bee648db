import Derived.Test.YtbjldjihpekhaaaGreatNe
/- kin.Drop, told by functions on data. No conditions. -/
set_option linter.unusedVariables false
set_option maxRecDepth 100000
set_option maxHeartbeats 0
namespace Go.DI.S
open Go.Proofs
noncomputable def c_119 : Code := Tryz.f223.body.getD .skip
theorem hb_119 : Tryz.f223.body = some c_119 := by kernel_rfl
theorem hf_119 : CT.P.funcs[223]? = some Tryz.f223 := by kernel_rfl
noncomputable abbrev IN_119 : LayD := ⟨2, [(0, .data I), (1, .ptr 0)], [.var 189 [.map 1], .tmap I .bool], fun s => [slotR s 1, slotC s 1 0]⟩
noncomputable abbrev OUT_119 : LayD := ⟨1, [(0, .data .bool)], [.var 189 [.map 1], .tmap I .bool], fun _ => [0, 1]⟩
noncomputable def T_119 : Tb := mkTb tyT mpT []
theorem T_119_ok : T_119.Ok CT.P := mkTb_ok (trivial)
noncomputable def lp_119 {β : Type} : LpT β := fun _ _ _ => none
theorem lp_119_ok {β : Type} : LpTOk (CTp 2) (lp_119 (β := β)) (loopsOf c_119) := by
  have h : loopsOf c_119 = [] := by kernel_rfl
  rw [h]
  exact LpTOk.nil
noncomputable def F_119 (a0 : Ty.El I) (b0 : Unit × Unit) (b1 : List (Ty.El I × Ty.El (.bool))) : Option OUT_119.El :=
  Option.some ((!(Go.DI.tget Go.DI.S.I Go.DI.Ty.bool a0 b1).getD Bool.false, ()), ((), ()), b1, ())
theorem f_119 (x : IN_119.El) : funcX (CTp 2) T_119 IN_119 OUT_119 [] (drT (CTp 2) T_119) lp_119 Tryz.f223 c_119 x = F_119 x.1.1 x.2.1 x.2.2.1 := by kernel_rfl
noncomputable def E_119 : Ent := .mkGen 223 [] ⟨2, [], IN_119, OUT_119, fun x => F_119 x.1.1 x.2.1 x.2.2.1⟩
theorem e_119 : E_119.Ok CT.P := Ent.ofGen (C := (CTp 2)) (steps := []) (osteps := []) (CTp_ok 2) T_119_ok hf_119 hb_119 lp_119_ok f_119
noncomputable def c_77 : Code := Tryz.f176.body.getD .skip
theorem hb_77 : Tryz.f176.body = some c_77 := by kernel_rfl
theorem hf_77 : CT.P.funcs[176]? = some Tryz.f176 := by kernel_rfl
noncomputable abbrev IN_77 : LayD := ⟨2, [(0, .data I), (1, .ptr 0)], [.var 189 [.map 1], .tmap I .bool], fun s => [slotR s 1, slotC s 1 0]⟩
noncomputable abbrev OUT_77 : LayD := ⟨1, [(0, .data .bool)], [.var 189 [.map 1], .tmap I .bool], fun _ => [0, 1]⟩
noncomputable def T_77 : Tb := mkTb tyT mpT []
theorem T_77_ok : T_77.Ok CT.P := mkTb_ok (trivial)
noncomputable def lp_77 {β : Type} : LpT β := fun _ _ _ => none
theorem lp_77_ok {β : Type} : LpTOk (CTp 2) (lp_77 (β := β)) (loopsOf c_77) := by
  have h : loopsOf c_77 = [] := by kernel_rfl
  rw [h]
  exact LpTOk.nil
noncomputable def F_77 (a0 : Ty.El I) (b0 : Unit × Unit) (b1 : List (Ty.El I × Ty.El (.bool))) : Option OUT_77.El :=
  Option.some (((Go.DI.tget Go.DI.S.I Go.DI.Ty.bool a0 b1).getD Bool.false, ()), ((), ()), b1, ())
theorem f_77 (x : IN_77.El) : funcX (CTp 2) T_77 IN_77 OUT_77 [] (drT (CTp 2) T_77) lp_77 Tryz.f176 c_77 x = F_77 x.1.1 x.2.1 x.2.2.1 := by kernel_rfl
noncomputable def E_77 : Ent := .mkGen 176 [] ⟨2, [], IN_77, OUT_77, fun x => F_77 x.1.1 x.2.1 x.2.2.1⟩
theorem e_77 : E_77.Ok CT.P := Ent.ofGen (C := (CTp 2)) (steps := []) (osteps := []) (CTp_ok 2) T_77_ok hf_77 hb_77 lp_77_ok f_77
noncomputable def c_120_119 : Code := Tryz.f224.body.getD .skip
theorem hb_120_119 : Tryz.f224.body = some c_120_119 := by kernel_rfl
theorem hf_120_119 : CT.P.funcs[224]? = some Tryz.f224 := by kernel_rfl
noncomputable abbrev IN_120_119 : LayD := ⟨2, [(0, .data (.list I)), (1, .cloP 223 [0])], [.var 189 [.map 1], .tmap I .bool], fun s => [slotF s 1, slotG s 1]⟩
noncomputable abbrev OUT_120_119 : LayD := ⟨1, [(0, .data I)], [.var 189 [.map 1], .tmap I .bool], fun _ => [0, 1]⟩
noncomputable def T_120_119 : Tb := mkTb tyT mpT [E_119]
theorem T_120_119_ok : T_120_119.Ok CT.P := mkTb_ok (⟨e_119, trivial⟩)
noncomputable def l_120_119_2 : Code := atLoop c_120_119 2
noncomputable abbrev LD_120_119_2 : LayD := ⟨19, [(0, .data (.list I)), (1, .cloP 223 [0]), (7, .data I), (8, .data I)], [.var 189 [.map 1], .tmap I .bool], fun s => [0, 1]⟩
noncomputable abbrev LA_120_119_2 : LayD := ⟨19, [], [.var 189 [.map 1], .tmap I .bool], fun s => [0, 1]⟩
noncomputable abbrev LB_120_119_2 : LayD := ⟨19, [(4, .data I)], [.var 189 [.map 1], .tmap I .bool], fun s => [0, 1]⟩
noncomputable def EX_120_119_2 : Exits 2 LA_120_119_2.El LB_120_119_2.El := ⟨.exit 0, LA_120_119_2.lay [], .ret, LB_120_119_2.lay []⟩
noncomputable def lpi_120_119_2 {β : Type} : LpT β := fun _ _ _ => none
theorem lpi_120_119_2_ok {β : Type} : LpTOk (CTp 2) (lpi_120_119_2 (β := β)) (loopsOf l_120_119_2) := by
  have h : loopsOf l_120_119_2 = [] := by kernel_rfl
  rw [h]
  exact LpTOk.nil
noncomputable def G_120_119_2 (r0 : Ty.El (.list I)) (r7 : Ty.El I) (r8 : Ty.El I) (b0 : Unit × Unit) (b1 : List (Ty.El I × Ty.El (.bool))) : Option (LD_120_119_2.El ⊕ (LA_120_119_2.El ⊕ LB_120_119_2.El)) :=
  bif Decidable.decide (r8 < r7) then
    bif Decidable.decide ((0 : Int) ≤ r8 ∧ r8 < (↑(List.length r0) : Int)) then
      (F_119 (List.getD r0 (Int.toNat r8) (0 : Int)) ((), ()) b1).bind fun v2 =>
        bif v2.fst.fst then Option.some (Sum.inr (Sum.inr ((r8, ()), ((), ()), v2.snd.snd.fst, ())))
        else Option.some (Sum.inl ((r0, (), r7, Go.IntKind.i64.wrap (r8 + (1 : Int)), ()), ((), ()), v2.snd.snd.fst, ()))
    else Option.none
  else Option.some (Sum.inr (Sum.inl ((), ((), ()), b1, ())))
theorem g_120_119_2 (x : LD_120_119_2.El) : codeT (CTp 2) T_120_119 (drT (CTp 2) T_120_119) lpi_120_119_2 l_120_119_2 (LD_120_119_2.enc x) (bodyK (LD_120_119_2.lay []) EX_120_119_2) = G_120_119_2 x.1.1 x.1.2.2.1 x.1.2.2.2.1 x.2.1 x.2.2.1 := by kernel_rfl
noncomputable def R_120_119_2 : LD_120_119_2.El → Option (LA_120_119_2.El ⊕ LB_120_119_2.El) := roundsT (fun x => G_120_119_2 x.1.1 x.1.2.2.1 x.1.2.2.2.1 x.2.1 x.2.2.1) fuel
theorem r_120_119_2 : ∀ x y, R_120_119_2 x = some y → CL (CTp 2) l_120_119_2 (LD_120_119_2.enc x) (Sum.elim (fun _ => EX_120_119_2.xa) (fun _ => EX_120_119_2.xb) y) (Sum.elim EX_120_119_2.la.enc EX_120_119_2.lb.enc y) :=
  rounds_ok (L := LD_120_119_2.lay []) (E := EX_120_119_2) (CTp_ok 2) T_120_119_ok (drT_ok (CTp_ok 2) T_120_119_ok) lpi_120_119_2_ok g_120_119_2 rfl rfl (fun v h => by have hh : (.exit 0 : AX) = .pan v := h; cases hh) (fun v h => by have hh : (.ret : AX) = .pan v := h; cases hh) fuel
noncomputable def lp_120_119 {β : Type} : LpT β := fun k s K => if Nat.beq k 2 then lpOne (LD_120_119_2.lay []) EX_120_119_2 R_120_119_2 s K else none
theorem lp_120_119_ok {β : Type} : LpTOk (CTp 2) (lp_120_119 (β := β)) (loopsOf c_120_119) := by
  have h : loopsOf c_120_119 = [(2, l_120_119_2)] := by kernel_rfl
  rw [h]
  exact LpTOk.cons (fun s K z h => lpOne_ok r_120_119_2 h) (LpTOk.nil)
noncomputable def F_120_119 (a0 : Ty.El (.list I)) (b0 : Unit × Unit) (b1 : List (Ty.El I × Ty.El (.bool))) : Option OUT_120_119.El :=
  (R_120_119_2 ((a0, (), (↑(List.length a0) : Int), (0 : Int), ()), ((), ()), b1, ())).bind fun v1 =>
    Sum.elim (fun v2 => Option.some (((-1 : Int), ()), ((), ()), v2.snd.snd.fst, ())) (fun v3 => Option.some ((v3.fst.fst, ()), ((), ()), v3.snd.snd.fst, ())) v1
theorem f_120_119 (x : IN_120_119.El) : funcX (CTp 2) T_120_119 IN_120_119 OUT_120_119 [] (drT (CTp 2) T_120_119) lp_120_119 Tryz.f224 c_120_119 x = F_120_119 x.1.1 x.2.1 x.2.2.1 := by kernel_rfl
noncomputable def E_120_119 : Ent := .mkGen 224 [223] ⟨2, [], IN_120_119, OUT_120_119, fun x => F_120_119 x.1.1 x.2.1 x.2.2.1⟩
theorem e_120_119 : E_120_119.Ok CT.P := Ent.ofGen (C := (CTp 2)) (steps := []) (osteps := []) (CTp_ok 2) T_120_119_ok hf_120_119 hb_120_119 lp_120_119_ok f_120_119
noncomputable def c_79_119 : Code := Tryz.f182.body.getD .skip
theorem hb_79_119 : Tryz.f182.body = some c_79_119 := by kernel_rfl
theorem hf_79_119 : CT.P.funcs[182]? = some Tryz.f182 := by kernel_rfl
noncomputable abbrev IN_79_119 : LayD := ⟨2, [(0, .data (.list I)), (1, .cloP 223 [0])], [.var 189 [.map 1], .tmap I .bool], fun s => [slotF s 1, slotG s 1]⟩
noncomputable abbrev OUT_79_119 : LayD := ⟨1, [(0, .data .bool)], [.var 189 [.map 1], .tmap I .bool], fun _ => [0, 1]⟩
noncomputable def T_79_119 : Tb := mkTb tyT mpT [E_120_119]
theorem T_79_119_ok : T_79_119.Ok CT.P := mkTb_ok (⟨e_120_119, trivial⟩)
noncomputable def lp_79_119 {β : Type} : LpT β := fun _ _ _ => none
theorem lp_79_119_ok {β : Type} : LpTOk (CTp 2) (lp_79_119 (β := β)) (loopsOf c_79_119) := by
  have h : loopsOf c_79_119 = [] := by kernel_rfl
  rw [h]
  exact LpTOk.nil
noncomputable def F_79_119 (a0 : Ty.El (.list I)) (b0 : Unit × Unit) (b1 : List (Ty.El I × Ty.El (.bool))) : Option OUT_79_119.El :=
  (F_120_119 a0 ((), ()) b1).bind fun v2 => Option.some ((Decidable.decide (v2.fst.fst ≥ (0 : Int)), ()), ((), ()), v2.snd.snd.fst, ())
theorem f_79_119 (x : IN_79_119.El) : funcX (CTp 2) T_79_119 IN_79_119 OUT_79_119 [] (drT (CTp 2) T_79_119) lp_79_119 Tryz.f182 c_79_119 x = F_79_119 x.1.1 x.2.1 x.2.2.1 := by kernel_rfl
noncomputable def E_79_119 : Ent := .mkGen 182 [223] ⟨2, [], IN_79_119, OUT_79_119, fun x => F_79_119 x.1.1 x.2.1 x.2.2.1⟩
theorem e_79_119 : E_79_119.Ok CT.P := Ent.ofGen (C := (CTp 2)) (steps := []) (osteps := []) (CTp_ok 2) T_79_119_ok hf_79_119 hb_79_119 lp_79_119_ok f_79_119
noncomputable def c_75 : Code := Tryz.f174.body.getD .skip
theorem hb_75 : Tryz.f174.body = some c_75 := by kernel_rfl
theorem hf_75 : CT.P.funcs[174]? = some Tryz.f174 := by kernel_rfl
noncomputable abbrev IN_75 : LayD := ⟨2, [(0, .data tThing), (1, .map 0)], [.tmap I .bool], fun s => [slotR s 1]⟩
noncomputable abbrev OUT_75 : LayD := ⟨1, [(0, .data .bool)], [.tmap I .bool], fun _ => [0]⟩
noncomputable def T_75 : Tb := mkTb tyT mpT [E_79_119]
theorem T_75_ok : T_75.Ok CT.P := mkTb_ok (⟨e_79_119, trivial⟩)
noncomputable def lp_75 {β : Type} : LpT β := fun _ _ _ => none
theorem lp_75_ok {β : Type} : LpTOk (CTp 1) (lp_75 (β := β)) (loopsOf c_75) := by
  have h : loopsOf c_75 = [] := by kernel_rfl
  rw [h]
  exact LpTOk.nil
noncomputable def F_75 (a0 : Ty.El tThing) (b0 : List (Ty.El I × Ty.El (.bool))) : Option OUT_75.El :=
  bif a0.snd.fst == (2 : Int) then
    bif (Go.DI.tget Go.DI.S.I Go.DI.Ty.bool a0.snd.snd.snd.fst.fst b0).getD Bool.false then Option.some ((Bool.true, ()), b0, ())
    else Option.some (((Go.DI.tget Go.DI.S.I Go.DI.Ty.bool a0.snd.snd.snd.fst.snd.fst b0).getD Bool.false, ()), b0, ())
  else
    bif a0.snd.fst == (3 : Int) then (F_79_119 a0.snd.snd.snd.snd ((), ()) b0).bind fun v2 => Option.some ((!v2.fst.fst, ()), v2.snd.snd.fst, ())
    else Option.some ((Bool.false, ()), b0, ())
theorem f_75 (x : IN_75.El) : funcX (CTp 1) T_75 IN_75 OUT_75 [] (drT (CTp 1) T_75) lp_75 Tryz.f174 c_75 x = F_75 x.1.1 x.2.1 := by kernel_rfl
noncomputable def E_75 : Ent := .mkGen 174 [] ⟨1, [], IN_75, OUT_75, fun x => F_75 x.1.1 x.2.1⟩
theorem e_75 : E_75.Ok CT.P := Ent.ofGen (C := (CTp 1)) (steps := []) (osteps := []) (CTp_ok 1) T_75_ok hf_75 hb_75 lp_75_ok f_75
noncomputable def c_120_77o : Code := Tryz.f224.body.getD .skip
theorem hb_120_77o : Tryz.f224.body = some c_120_77o := by kernel_rfl
theorem hf_120_77o : CT.P.funcs[224]? = some Tryz.f224 := by kernel_rfl
noncomputable abbrev IN_120_77o : LayD := ⟨2, [(0, .own I 2), (1, .cloP 176 [0])], [.var 189 [.map 1], .tmap I .bool, .row 3 I], fun s => [slotF s 1, slotG s 1, slotR s 0]⟩
noncomputable abbrev OUT_120_77o : LayD := ⟨1, [(0, .data I)], [.var 189 [.map 1], .tmap I .bool, .row 3 I], fun _ => [0, 1, 2]⟩
noncomputable def T_120_77o : Tb := mkTb tyT mpT [E_77]
theorem T_120_77o_ok : T_120_77o.Ok CT.P := mkTb_ok (⟨e_77, trivial⟩)
noncomputable def l_120_77o_2 : Code := atLoop c_120_77o 2
noncomputable abbrev LD_120_77o_2 : LayD := ⟨19, [(0, .own I 2), (1, .cloP 176 [0]), (7, .data I), (8, .data I)], [.var 189 [.map 1], .tmap I .bool, .row 3 I], fun s => [0, 1, 2]⟩
noncomputable abbrev LA_120_77o_2 : LayD := ⟨19, [], [.var 189 [.map 1], .tmap I .bool, .row 3 I], fun s => [0, 1, 2]⟩
noncomputable abbrev LB_120_77o_2 : LayD := ⟨19, [(4, .data I)], [.var 189 [.map 1], .tmap I .bool, .row 3 I], fun s => [0, 1, 2]⟩
noncomputable def EX_120_77o_2 : Exits 3 LA_120_77o_2.El LB_120_77o_2.El := ⟨.exit 0, LA_120_77o_2.lay [], .ret, LB_120_77o_2.lay []⟩
noncomputable def lpi_120_77o_2 {β : Type} : LpT β := fun _ _ _ => none
theorem lpi_120_77o_2_ok {β : Type} : LpTOk (CTp 3) (lpi_120_77o_2 (β := β)) (loopsOf l_120_77o_2) := by
  have h : loopsOf l_120_77o_2 = [] := by kernel_rfl
  rw [h]
  exact LpTOk.nil
noncomputable def G_120_77o_2 (r7 : Ty.El I) (r8 : Ty.El I) (b0 : Unit × Unit) (b1 : List (Ty.El I × Ty.El (.bool))) (b2 : List (Ty.El I)) : Option (LD_120_77o_2.El ⊕ (LA_120_77o_2.El ⊕ LB_120_77o_2.El)) :=
  bif Decidable.decide (r8 < r7) then
    bif Decidable.decide ((0 : Int) ≤ r8 ∧ r8 < (↑b2.length : Int)) then
      (F_77 (b2.getD (Int.toNat r8) (0 : Int)) ((), ()) b1).bind fun v2 =>
        bif v2.fst.fst then Option.some (Sum.inr (Sum.inr ((r8, ()), ((), ()), v2.snd.snd.fst, b2, ())))
        else Option.some (Sum.inl (((), (), r7, Go.IntKind.i64.wrap (r8 + (1 : Int)), ()), ((), ()), v2.snd.snd.fst, b2, ()))
    else Option.none
  else Option.some (Sum.inr (Sum.inl ((), ((), ()), b1, b2, ())))
theorem g_120_77o_2 (x : LD_120_77o_2.El) : codeT (CTp 3) T_120_77o (drT (CTp 3) T_120_77o) lpi_120_77o_2 l_120_77o_2 (LD_120_77o_2.enc x) (bodyK (LD_120_77o_2.lay []) EX_120_77o_2) = G_120_77o_2 x.1.2.2.1 x.1.2.2.2.1 x.2.1 x.2.2.1 x.2.2.2.1 := by kernel_rfl
noncomputable def R_120_77o_2 : LD_120_77o_2.El → Option (LA_120_77o_2.El ⊕ LB_120_77o_2.El) := roundsT (fun x => G_120_77o_2 x.1.2.2.1 x.1.2.2.2.1 x.2.1 x.2.2.1 x.2.2.2.1) fuel
theorem r_120_77o_2 : ∀ x y, R_120_77o_2 x = some y → CL (CTp 3) l_120_77o_2 (LD_120_77o_2.enc x) (Sum.elim (fun _ => EX_120_77o_2.xa) (fun _ => EX_120_77o_2.xb) y) (Sum.elim EX_120_77o_2.la.enc EX_120_77o_2.lb.enc y) :=
  rounds_ok (L := LD_120_77o_2.lay []) (E := EX_120_77o_2) (CTp_ok 3) T_120_77o_ok (drT_ok (CTp_ok 3) T_120_77o_ok) lpi_120_77o_2_ok g_120_77o_2 rfl rfl (fun v h => by have hh : (.exit 0 : AX) = .pan v := h; cases hh) (fun v h => by have hh : (.ret : AX) = .pan v := h; cases hh) fuel
noncomputable def lp_120_77o {β : Type} : LpT β := fun k s K => if Nat.beq k 2 then lpOne (LD_120_77o_2.lay []) EX_120_77o_2 R_120_77o_2 s K else none
theorem lp_120_77o_ok {β : Type} : LpTOk (CTp 3) (lp_120_77o (β := β)) (loopsOf c_120_77o) := by
  have h : loopsOf c_120_77o = [(2, l_120_77o_2)] := by kernel_rfl
  rw [h]
  exact LpTOk.cons (fun s K z h => lpOne_ok r_120_77o_2 h) (LpTOk.nil)
noncomputable def F_120_77o (b0 : Unit × Unit) (b1 : List (Ty.El I × Ty.El (.bool))) (b2 : List (Ty.El I)) : Option OUT_120_77o.El :=
  (R_120_77o_2 (((), (), (↑b2.length : Int), (0 : Int), ()), ((), ()), b1, b2, ())).bind fun v1 =>
    Sum.elim (fun v2 => Option.some (((-1 : Int), ()), ((), ()), v2.snd.snd.fst, v2.snd.snd.snd.fst, ()))
      (fun v3 => Option.some ((v3.fst.fst, ()), ((), ()), v3.snd.snd.fst, v3.snd.snd.snd.fst, ())) v1
theorem f_120_77o (x : IN_120_77o.El) : funcX (CTp 3) T_120_77o IN_120_77o OUT_120_77o [] (drT (CTp 3) T_120_77o) lp_120_77o Tryz.f224 c_120_77o x = F_120_77o x.2.1 x.2.2.1 x.2.2.2.1 := by kernel_rfl
noncomputable def E_120_77o : Ent := .mkGen 224 [176] ⟨3, [.nilReg 0 3 I, .rowReg 0 3 I], IN_120_77o, OUT_120_77o, fun x => F_120_77o x.2.1 x.2.2.1 x.2.2.2.1⟩
theorem e_120_77o : E_120_77o.Ok CT.P := Ent.ofGen (C := (CTp 3)) (steps := [.nilReg 0 3 I, .rowReg 0 3 I]) (osteps := []) (CTp_ok 3) T_120_77o_ok hf_120_77o hb_120_77o lp_120_77o_ok f_120_77o
noncomputable def c_76o : Code := Tryz.f175.body.getD .skip
theorem hb_76o : Tryz.f175.body = some c_76o := by kernel_rfl
theorem hf_76o : CT.P.funcs[175]? = some Tryz.f175 := by kernel_rfl
noncomputable abbrev IN_76o : LayD := ⟨2, [(0, .own I 2), (1, .cloP 176 [0])], [.var 189 [.map 1], .tmap I .bool, .row 3 I], fun s => [slotF s 1, slotG s 1, slotR s 0]⟩
noncomputable abbrev OUT_76o : LayD := ⟨1, [(0, .data (.list I))], [.var 189 [.map 1], .tmap I .bool], fun _ => [0, 1]⟩
noncomputable def T_76o : Tb := mkTb tyT mpT [E_120_77o, E_77]
theorem T_76o_ok : T_76o.Ok CT.P := mkTb_ok (⟨e_120_77o, e_77, trivial⟩)
noncomputable def l_76o_5 : Code := atLoop c_76o 5
noncomputable abbrev LD_76o_5 : LayD := ⟨42, [(0, .own I 2), (1, .cloP 176 [0]), (5, .data I), (6, .data I)], [.var 189 [.map 1], .tmap I .bool, .row 3 I], fun s => [0, 1, 2]⟩
noncomputable abbrev LA_76o_5 : LayD := ⟨42, [(0, .own I 2), (5, .data I)], [.var 189 [.map 1], .tmap I .bool, .row 3 I], fun s => [0, 1, 2]⟩
noncomputable abbrev LB_76o_5 : LayD := ⟨42, [], [], fun _ => []⟩
noncomputable def EX_76o_5 : Exits 2 LA_76o_5.El LB_76o_5.El := ⟨.exit 0, LA_76o_5.lay [], .ret, LB_76o_5.lay []⟩
noncomputable def lpi_76o_5 {β : Type} : LpT β := fun _ _ _ => none
theorem lpi_76o_5_ok {β : Type} : LpTOk (CTp 2) (lpi_76o_5 (β := β)) (loopsOf l_76o_5) := by
  have h : loopsOf l_76o_5 = [] := by kernel_rfl
  rw [h]
  exact LpTOk.nil
noncomputable def G_76o_5 (r5 : Ty.El I) (r6 : Ty.El I) (b0 : Unit × Unit) (b1 : List (Ty.El I × Ty.El (.bool))) (b2 : List (Ty.El I)) : Option (LD_76o_5.El ⊕ (LA_76o_5.El ⊕ LB_76o_5.El)) :=
  bif Decidable.decide (r6 < (↑b2.length : Int)) then
    bif Decidable.decide ((0 : Int) ≤ r6 ∧ r6 < (↑b2.length : Int)) then
      (F_77 (b2.getD (Int.toNat r6) (0 : Int)) ((), ()) b1).bind fun v2 =>
        bif !v2.fst.fst then
          bif Decidable.decide ((0 : Int) ≤ r5 ∧ r5 < (↑b2.length : Int)) then
            Option.some
              (Sum.inl
                (((), (), Go.IntKind.i64.wrap (r5 + (1 : Int)), Go.IntKind.i64.wrap (r6 + (1 : Int)), ()), ((), ()), v2.snd.snd.fst,
                  b2.set (Int.toNat r5) (b2.getD (Int.toNat r6) (0 : Int)), ()))
          else Option.none
        else Option.some (Sum.inl (((), (), r5, Go.IntKind.i64.wrap (r6 + (1 : Int)), ()), ((), ()), v2.snd.snd.fst, b2, ()))
    else Option.none
  else Option.some (Sum.inr (Sum.inl (((), r5, ()), ((), ()), b1, b2, ())))
theorem g_76o_5 (x : LD_76o_5.El) : codeT (CTp 2) T_76o (drT (CTp 2) T_76o) lpi_76o_5 l_76o_5 (LD_76o_5.enc x) (bodyK (LD_76o_5.lay []) EX_76o_5) = G_76o_5 x.1.2.2.1 x.1.2.2.2.1 x.2.1 x.2.2.1 x.2.2.2.1 := by kernel_rfl
noncomputable def R_76o_5 : LD_76o_5.El → Option (LA_76o_5.El ⊕ LB_76o_5.El) := roundsT (fun x => G_76o_5 x.1.2.2.1 x.1.2.2.2.1 x.2.1 x.2.2.1 x.2.2.2.1) fuel
theorem r_76o_5 : ∀ x y, R_76o_5 x = some y → CL (CTp 2) l_76o_5 (LD_76o_5.enc x) (Sum.elim (fun _ => EX_76o_5.xa) (fun _ => EX_76o_5.xb) y) (Sum.elim EX_76o_5.la.enc EX_76o_5.lb.enc y) :=
  rounds_ok (L := LD_76o_5.lay []) (E := EX_76o_5) (CTp_ok 2) T_76o_ok (drT_ok (CTp_ok 2) T_76o_ok) lpi_76o_5_ok g_76o_5 rfl rfl (fun v h => by have hh : (.exit 0 : AX) = .pan v := h; cases hh) (fun v h => by have hh : (.ret : AX) = .pan v := h; cases hh) fuel
noncomputable def lp_76o {β : Type} : LpT β := fun k s K => if Nat.beq k 5 then lpOne (LD_76o_5.lay []) EX_76o_5 R_76o_5 s K else none
theorem lp_76o_ok {β : Type} : LpTOk (CTp 2) (lp_76o (β := β)) (loopsOf c_76o) := by
  have h : loopsOf c_76o = [(5, l_76o_5)] := by kernel_rfl
  rw [h]
  exact LpTOk.cons (fun s K z h => lpOne_ok r_76o_5 h) (LpTOk.nil)
noncomputable def F_76o (b0 : Unit × Unit) (b1 : List (Ty.El I × Ty.El (.bool))) (b2 : List (Ty.El I)) : Option OUT_76o.El :=
  (F_120_77o ((), ()) b1 b2).bind fun v2 =>
    bif v2.fst.fst == (-1 : Int) then Option.some ((v2.snd.snd.snd.fst, ()), ((), ()), v2.snd.snd.fst, ())
    else
      (R_76o_5 (((), (), v2.fst.fst, Go.IntKind.i64.wrap (v2.fst.fst + (1 : Int)), ()), ((), ()), v2.snd.snd.fst, v2.snd.snd.snd.fst, ())).bind fun v17 =>
        Sum.elim
          (fun v18 =>
            bif Decidable.decide ((0 : Int) ≤ v18.fst.snd.fst ∧ v18.fst.snd.fst ≤ (↑(List.length v18.snd.snd.snd.fst) : Int)) then
              bif (Int.toNat v18.fst.snd.fst).blt (List.length v18.snd.snd.snd.fst) then
                bif
                    Bool.true &&
                      ((Int.toNat v18.fst.snd.fst * (1 : Nat) + (List.length v18.snd.snd.snd.fst - Int.toNat v18.fst.snd.fst)).beq (List.length v18.snd.snd.snd.fst) &&
                        (Nat.blt (0 : Nat) (List.length v18.snd.snd.snd.fst) && Bool.true)) then
                  bif
                      Decidable.decide
                        ((0 : Int) ≤ v18.fst.snd.fst ∧
                          v18.fst.snd.fst ≤
                            (↑(List.take (Int.toNat v18.fst.snd.fst * (1 : Nat)) v18.snd.snd.snd.fst ++
                                    List.replicate (List.length v18.snd.snd.snd.fst - Int.toNat v18.fst.snd.fst) (0 : Int)).length :
                              Int)) then
                    bif
                        Nat.blt (0 : Nat)
                          (List.take (Int.toNat v18.fst.snd.fst * (1 : Nat)) v18.snd.snd.snd.fst ++
                              List.replicate (List.length v18.snd.snd.snd.fst - Int.toNat v18.fst.snd.fst) (0 : Int)).length then
                      Option.some
                        ((List.take (Int.toNat v18.fst.snd.fst)
                              (List.take (Int.toNat v18.fst.snd.fst * (1 : Nat)) v18.snd.snd.snd.fst ++
                                List.replicate (List.length v18.snd.snd.snd.fst - Int.toNat v18.fst.snd.fst) (0 : Int)),
                            ()),
                          ((), ()), v18.snd.snd.fst, ())
                    else Option.none
                  else Option.none
                else Option.none
              else Option.none
            else Option.none)
          (fun v24 => Option.none) v17
theorem f_76o (x : IN_76o.El) : funcX (CTp 2) T_76o IN_76o OUT_76o [.frzReg 0 (.list I)] (drT (CTp 2) T_76o) lp_76o Tryz.f175 c_76o x = F_76o x.2.1 x.2.2.1 x.2.2.2.1 := by kernel_rfl
noncomputable def E_76o : Ent := .mkGen 175 [176] ⟨2, [.nilReg 0 3 I, .rowReg 0 3 I], IN_76o, OUT_76o, fun x => F_76o x.2.1 x.2.2.1 x.2.2.2.1⟩
theorem e_76o : E_76o.Ok CT.P := Ent.ofGen (C := (CTp 2)) (steps := [.nilReg 0 3 I, .rowReg 0 3 I]) (osteps := [.frzReg 0 (.list I)]) (CTp_ok 2) T_76o_ok hf_76o hb_76o lp_76o_ok f_76o
noncomputable def c_39 : Code := Tryz.f133.body.getD .skip
theorem hb_39 : Tryz.f133.body = some c_39 := by kernel_rfl
theorem hf_39 : CT.P.funcs[133]? = some Tryz.f133 := by kernel_rfl
noncomputable def T_39 : Tb := mkTb tyT mpT [E_20, E_23h, E_37, E_46o, E_75, E_76o]
theorem T_39_ok : T_39.Ok CT.P := mkTb_ok (⟨e_20, e_23, e_37, e_46o, e_75, e_76o, trivial⟩)
noncomputable def l_39_22 : Code := atLoop c_39 22
noncomputable def l_39_13 : Code := atLoop c_39 13
noncomputable def l_39_8 : Code := atLoop c_39 8
noncomputable def l_39_15 : Code := atLoop l_39_13 15
noncomputable abbrev LD_39_15 : LayD := ⟨93, [(2, .ptr 0), (4, .ptr 1), (8, .ptr 2), (43, .data I), (44, .data I), (47, .data (.list tThing)), (48, .data I), (49, .data I)], [.var 51 [.data tScene], .var 51 [.data tScene], .var 189 [.map 3], .tmap I .bool], fun s => [slotR s 2, slotR s 4, slotR s 8, slotC s 8 0]⟩
noncomputable abbrev LA_39_15 : LayD := ⟨93, [(2, .ptr 0), (4, .ptr 1), (8, .ptr 2), (43, .data I), (44, .data I)], [.var 51 [.data tScene], .var 51 [.data tScene], .var 189 [.map 3], .tmap I .bool], fun s => [slotR s 2, slotR s 4, slotR s 8, slotC s 8 0]⟩
noncomputable abbrev LB_39_15 : LayD := ⟨93, [], [], fun _ => []⟩
noncomputable def EX_39_15 : Exits 0 LA_39_15.El LB_39_15.El := ⟨.exit 4, LA_39_15.lay [], .ret, LB_39_15.lay []⟩
noncomputable def lpi_39_15 {β : Type} : LpT β := fun _ _ _ => none
theorem lpi_39_15_ok {β : Type} : LpTOk CT (lpi_39_15 (β := β)) (loopsOf l_39_15) := by
  have h : loopsOf l_39_15 = [] := by kernel_rfl
  rw [h]
  exact LpTOk.nil
noncomputable def G_39_15 (r43 : Ty.El I) (r44 : Ty.El I) (r47 : Ty.El (.list tThing)) (r48 : Ty.El I) (r49 : Ty.El I) (b0 : Ty.El tScene × Unit) (b1 : Ty.El tScene × Unit) (b2 : Unit × Unit) (b3 : List (Ty.El I × Ty.El (.bool))) : Option (LD_39_15.El ⊕ (LA_39_15.El ⊕ LB_39_15.El)) :=
  bif Decidable.decide (r49 < r48) then
    bif Decidable.decide ((0 : Int) ≤ r49 ∧ r49 < (↑(List.length r47) : Int)) then
      bif (Go.DI.tget Go.DI.S.I Go.DI.Ty.bool (List.getD r47 (Int.toNat r49) Go.DI.S.tThing.dflt).fst b3).getD Bool.false then
        Option.some
          (Sum.inl
            (((), (), (), r43, r44, r47, r48, Go.IntKind.i64.wrap (r49 + (1 : Int)), ()), (b0.fst, ()), (b1.fst, ()), ((), ()),
              Go.DI.tput Go.DI.S.I Go.DI.Ty.bool (List.getD r47 (Int.toNat r49) Go.DI.S.tThing.dflt).fst Bool.true b3, ()))
      else
        (F_75 (List.getD r47 (Int.toNat r49) Go.DI.S.tThing.dflt) b3).bind fun v2 =>
          Option.some
            (Sum.inl
              (((), (), (), r43, r44, r47, r48, Go.IntKind.i64.wrap (r49 + (1 : Int)), ()), (b0.fst, ()), (b1.fst, ()), ((), ()),
                Go.DI.tput Go.DI.S.I Go.DI.Ty.bool (List.getD r47 (Int.toNat r49) Go.DI.S.tThing.dflt).fst v2.fst.fst v2.snd.fst, ()))
    else Option.none
  else Option.some (Sum.inr (Sum.inl (((), (), (), r43, r44, ()), (b0.fst, ()), (b1.fst, ()), ((), ()), b3, ())))
theorem g_39_15 (x : LD_39_15.El) : codeT CT T_39 (drT CT T_39) lpi_39_15 l_39_15 (LD_39_15.enc x) (bodyK (LD_39_15.lay []) EX_39_15) = G_39_15 x.1.2.2.2.1 x.1.2.2.2.2.1 x.1.2.2.2.2.2.1 x.1.2.2.2.2.2.2.1 x.1.2.2.2.2.2.2.2.1 x.2.1 x.2.2.1 x.2.2.2.1 x.2.2.2.2.1 := by kernel_rfl
noncomputable def R_39_15 : LD_39_15.El → Option (LA_39_15.El ⊕ LB_39_15.El) := roundsT (fun x => G_39_15 x.1.2.2.2.1 x.1.2.2.2.2.1 x.1.2.2.2.2.2.1 x.1.2.2.2.2.2.2.1 x.1.2.2.2.2.2.2.2.1 x.2.1 x.2.2.1 x.2.2.2.1 x.2.2.2.2.1) fuel
theorem r_39_15 : ∀ x y, R_39_15 x = some y → CL CT l_39_15 (LD_39_15.enc x) (Sum.elim (fun _ => EX_39_15.xa) (fun _ => EX_39_15.xb) y) (Sum.elim EX_39_15.la.enc EX_39_15.lb.enc y) :=
  rounds_ok (L := LD_39_15.lay []) (E := EX_39_15) CT_ok T_39_ok (drT_ok CT_ok T_39_ok) lpi_39_15_ok g_39_15 rfl rfl (fun v h => by have hh : (.exit 4 : AX) = .pan v := h; cases hh) (fun v h => by have hh : (.ret : AX) = .pan v := h; cases hh) fuel
noncomputable abbrev LD_39_8 : LayD := ⟨93, [(2, .ptr 0), (4, .ptr 1), (8, .ptr 2), (32, .data (.list I)), (33, .data I), (34, .data I)], [.var 51 [.data tScene], .var 51 [.data tScene], .var 189 [.map 3], .tmap I .bool], fun s => [slotR s 2, slotR s 4, slotR s 8, slotC s 8 0]⟩
noncomputable abbrev LA_39_8 : LayD := ⟨93, [(2, .ptr 0), (4, .ptr 1), (8, .ptr 2)], [.var 51 [.data tScene], .var 51 [.data tScene], .var 189 [.map 3], .tmap I .bool], fun s => [slotR s 2, slotR s 4, slotR s 8, slotC s 8 0]⟩
noncomputable abbrev LB_39_8 : LayD := ⟨93, [], [], fun _ => []⟩
noncomputable def EX_39_8 : Exits 0 LA_39_8.El LB_39_8.El := ⟨.exit 0, LA_39_8.lay [], .ret, LB_39_8.lay []⟩
noncomputable def lpi_39_8 {β : Type} : LpT β := fun _ _ _ => none
theorem lpi_39_8_ok {β : Type} : LpTOk CT (lpi_39_8 (β := β)) (loopsOf l_39_8) := by
  have h : loopsOf l_39_8 = [] := by kernel_rfl
  rw [h]
  exact LpTOk.nil
noncomputable def G_39_8 (r32 : Ty.El (.list I)) (r33 : Ty.El I) (r34 : Ty.El I) (b0 : Ty.El tScene × Unit) (b1 : Ty.El tScene × Unit) (b2 : Unit × Unit) (b3 : List (Ty.El I × Ty.El (.bool))) : Option (LD_39_8.El ⊕ (LA_39_8.El ⊕ LB_39_8.El)) :=
  bif Decidable.decide (r34 < r33) then
    bif Decidable.decide ((0 : Int) ≤ r34 ∧ r34 < (↑(List.length r32) : Int)) then
      Option.some
        (Sum.inl
          (((), (), (), r32, r33, Go.IntKind.i64.wrap (r34 + (1 : Int)), ()), (b0.fst, ()), (b1.fst, ()), ((), ()),
            Go.DI.tput Go.DI.S.I Go.DI.Ty.bool (List.getD r32 (Int.toNat r34) (0 : Int)) Bool.true b3, ()))
    else Option.none
  else Option.some (Sum.inr (Sum.inl (((), (), (), ()), (b0.fst, ()), (b1.fst, ()), ((), ()), b3, ())))
theorem g_39_8 (x : LD_39_8.El) : codeT CT T_39 (drT CT T_39) lpi_39_8 l_39_8 (LD_39_8.enc x) (bodyK (LD_39_8.lay []) EX_39_8) = G_39_8 x.1.2.2.2.1 x.1.2.2.2.2.1 x.1.2.2.2.2.2.1 x.2.1 x.2.2.1 x.2.2.2.1 x.2.2.2.2.1 := by kernel_rfl
noncomputable def R_39_8 : LD_39_8.El → Option (LA_39_8.El ⊕ LB_39_8.El) := roundsT (fun x => G_39_8 x.1.2.2.2.1 x.1.2.2.2.2.1 x.1.2.2.2.2.2.1 x.2.1 x.2.2.1 x.2.2.2.1 x.2.2.2.2.1) fuel
theorem r_39_8 : ∀ x y, R_39_8 x = some y → CL CT l_39_8 (LD_39_8.enc x) (Sum.elim (fun _ => EX_39_8.xa) (fun _ => EX_39_8.xb) y) (Sum.elim EX_39_8.la.enc EX_39_8.lb.enc y) :=
  rounds_ok (L := LD_39_8.lay []) (E := EX_39_8) CT_ok T_39_ok (drT_ok CT_ok T_39_ok) lpi_39_8_ok g_39_8 rfl rfl (fun v h => by have hh : (.exit 0 : AX) = .pan v := h; cases hh) (fun v h => by have hh : (.ret : AX) = .pan v := h; cases hh) fuel
noncomputable abbrev LD_39_13 : LayD := ⟨93, [(2, .ptr 0), (4, .ptr 1), (8, .ptr 2), (43, .data I), (44, .data I)], [.var 51 [.data tScene], .var 51 [.data tScene], .var 189 [.map 3], .tmap I .bool], fun s => [slotR s 2, slotR s 4, slotR s 8, slotC s 8 0]⟩
noncomputable abbrev LA_39_13 : LayD := ⟨93, [(2, .ptr 0), (4, .ptr 1), (8, .ptr 2)], [.var 51 [.data tScene], .var 51 [.data tScene], .var 189 [.map 3], .tmap I .bool], fun s => [slotR s 2, slotR s 4, slotR s 8, slotC s 8 0]⟩
noncomputable abbrev LB_39_13 : LayD := ⟨93, [], [], fun _ => []⟩
noncomputable def EX_39_13 : Exits 0 LA_39_13.El LB_39_13.El := ⟨.exit 2, LA_39_13.lay [], .ret, LB_39_13.lay []⟩
noncomputable def lpi_39_13 {β : Type} : LpT β := fun k s K => if Nat.beq k 15 then lpOne (LD_39_15.lay []) EX_39_15 R_39_15 s K else none
theorem lpi_39_13_ok {β : Type} : LpTOk CT (lpi_39_13 (β := β)) (loopsOf l_39_13) := by
  have h : loopsOf l_39_13 = [(15, l_39_15)] := by kernel_rfl
  rw [h]
  exact LpTOk.cons (fun s K z h => lpOne_ok r_39_15 h) (LpTOk.nil)
noncomputable def G_39_13 (r43 : Ty.El I) (r44 : Ty.El I) (b0 : Ty.El tScene × Unit) (b1 : Ty.El tScene × Unit) (b2 : Unit × Unit) (b3 : List (Ty.El I × Ty.El (.bool))) : Option (LD_39_13.El ⊕ (LA_39_13.El ⊕ LB_39_13.El)) :=
  bif Decidable.decide (r44 < r43) then
    (R_39_15 (((), (), (), r43, r44, b0.fst.snd.snd, (↑(List.length b0.fst.snd.snd) : Int), (0 : Int), ()), (b0.fst, ()), (b1.fst, ()), ((), ()), b3, ())).bind fun v1 =>
      Sum.elim
        (fun v2 =>
          Option.some
            (Sum.inl
              (((), (), (), v2.fst.snd.snd.snd.fst, Go.IntKind.i64.wrap (v2.fst.snd.snd.snd.snd.fst + (1 : Int)), ()), (v2.snd.fst.fst, ()), (v2.snd.snd.fst.fst, ()), ((), ()),
                v2.snd.snd.snd.snd.fst, ())))
        (fun v3 => Option.some (Sum.inr (Sum.inr ((), ())))) v1
  else Option.some (Sum.inr (Sum.inl (((), (), (), ()), (b0.fst, ()), (b1.fst, ()), ((), ()), b3, ())))
theorem g_39_13 (x : LD_39_13.El) : codeT CT T_39 (drT CT T_39) lpi_39_13 l_39_13 (LD_39_13.enc x) (bodyK (LD_39_13.lay []) EX_39_13) = G_39_13 x.1.2.2.2.1 x.1.2.2.2.2.1 x.2.1 x.2.2.1 x.2.2.2.1 x.2.2.2.2.1 := by kernel_rfl
noncomputable def R_39_13 : LD_39_13.El → Option (LA_39_13.El ⊕ LB_39_13.El) := roundsT (fun x => G_39_13 x.1.2.2.2.1 x.1.2.2.2.2.1 x.2.1 x.2.2.1 x.2.2.2.1 x.2.2.2.2.1) fuel
theorem r_39_13 : ∀ x y, R_39_13 x = some y → CL CT l_39_13 (LD_39_13.enc x) (Sum.elim (fun _ => EX_39_13.xa) (fun _ => EX_39_13.xb) y) (Sum.elim EX_39_13.la.enc EX_39_13.lb.enc y) :=
  rounds_ok (L := LD_39_13.lay []) (E := EX_39_13) CT_ok T_39_ok (drT_ok CT_ok T_39_ok) lpi_39_13_ok g_39_13 rfl rfl (fun v h => by have hh : (.exit 2 : AX) = .pan v := h; cases hh) (fun v h => by have hh : (.ret : AX) = .pan v := h; cases hh) fuel
noncomputable abbrev LD_39_22 : LayD := ⟨93, [(2, .ptr 0), (4, .ptr 1), (8, .ptr 2), (13, .own tThing 4), (68, .data (.list tThing)), (69, .data I), (70, .data I)], [.var 51 [.data tScene], .var 51 [.data tScene], .var 189 [.map 3], .tmap I .bool, .row 68 tThing], fun s => [slotR s 2, slotR s 4, slotR s 8, slotC s 8 0, slotR s 13]⟩
noncomputable abbrev LA_39_22 : LayD := ⟨93, [(2, .ptr 0), (4, .ptr 1), (13, .own tThing 2)], [.var 51 [.data tScene], .var 51 [.data tScene], .row 68 tThing], fun s => [slotR s 2, slotR s 4, slotR s 13]⟩
noncomputable abbrev LB_39_22 : LayD := ⟨93, [], [], fun _ => []⟩
noncomputable def EX_39_22 : Exits 0 LA_39_22.El LB_39_22.El := ⟨.exit 6, LA_39_22.lay [.nilReg 13 68 tThing], .ret, LB_39_22.lay []⟩
noncomputable def lpi_39_22 {β : Type} : LpT β := fun _ _ _ => none
theorem lpi_39_22_ok {β : Type} : LpTOk CT (lpi_39_22 (β := β)) (loopsOf l_39_22) := by
  have h : loopsOf l_39_22 = [] := by kernel_rfl
  rw [h]
  exact LpTOk.nil
noncomputable def G_39_22 (r68 : Ty.El (.list tThing)) (r69 : Ty.El I) (r70 : Ty.El I) (b0 : Ty.El tScene × Unit) (b1 : Ty.El tScene × Unit) (b2 : Unit × Unit) (b3 : List (Ty.El I × Ty.El (.bool))) (b4 : List (Ty.El tThing)) : Option (LD_39_22.El ⊕ (LA_39_22.El ⊕ LB_39_22.El)) :=
  bif Decidable.decide (r70 < r69) then
    bif Decidable.decide ((0 : Int) ≤ r70 ∧ r70 < (↑(List.length r68) : Int)) then
      bif !(Go.DI.tget Go.DI.S.I Go.DI.Ty.bool (List.getD r68 (Int.toNat r70) Go.DI.S.tThing.dflt).fst b3).getD Bool.false then
        (F_46o (List.getD r68 (Int.toNat r70) Go.DI.S.tThing.dflt).snd.snd.snd.snd).bind fun v2 =>
          (F_76o ((), ()) b3 v2).bind fun v4 =>
            bif
                ((b4.length +
                        [((List.getD r68 (Int.toNat r70) Go.DI.S.tThing.dflt).fst, (List.getD r68 (Int.toNat r70) Go.DI.S.tThing.dflt).snd.fst,
                              (List.getD r68 (Int.toNat r70) Go.DI.S.tThing.dflt).snd.snd.fst, (List.getD r68 (Int.toNat r70) Go.DI.S.tThing.dflt).snd.snd.snd.fst,
                              v4.fst.fst)].length) *
                      (128 : Nat)).ble
                  (70368744177664 : Nat) then
              Option.some
                (Sum.inl
                  (((), (), (), (), r68, r69, Go.IntKind.i64.wrap (r70 + (1 : Int)), ()), (b0.fst, ()), (b1.fst, ()), ((), ()), v4.snd.snd.fst,
                    b4 ++
                      [((List.getD r68 (Int.toNat r70) Go.DI.S.tThing.dflt).fst, (List.getD r68 (Int.toNat r70) Go.DI.S.tThing.dflt).snd.fst,
                          (List.getD r68 (Int.toNat r70) Go.DI.S.tThing.dflt).snd.snd.fst, (List.getD r68 (Int.toNat r70) Go.DI.S.tThing.dflt).snd.snd.snd.fst, v4.fst.fst)],
                    ()))
            else Option.none
      else Option.some (Sum.inl (((), (), (), (), r68, r69, Go.IntKind.i64.wrap (r70 + (1 : Int)), ()), (b0.fst, ()), (b1.fst, ()), ((), ()), b3, b4, ()))
    else Option.none
  else Option.some (Sum.inr (Sum.inl (((), (), (), ()), (b0.fst, ()), (b1.fst, ()), b4, ())))
theorem g_39_22 (x : LD_39_22.El) : codeT CT T_39 (drT CT T_39) lpi_39_22 l_39_22 (LD_39_22.enc x) (bodyK (LD_39_22.lay [.nilReg 13 68 tThing]) EX_39_22) = G_39_22 x.1.2.2.2.2.1 x.1.2.2.2.2.2.1 x.1.2.2.2.2.2.2.1 x.2.1 x.2.2.1 x.2.2.2.1 x.2.2.2.2.1 x.2.2.2.2.2.1 := by kernel_rfl
noncomputable def R_39_22 : LD_39_22.El → Option (LA_39_22.El ⊕ LB_39_22.El) := roundsT (fun x => G_39_22 x.1.2.2.2.2.1 x.1.2.2.2.2.2.1 x.1.2.2.2.2.2.2.1 x.2.1 x.2.2.1 x.2.2.2.1 x.2.2.2.2.1 x.2.2.2.2.2.1) fuel
theorem r_39_22 : ∀ x y, R_39_22 x = some y → CL CT l_39_22 (LD_39_22.enc x) (Sum.elim (fun _ => EX_39_22.xa) (fun _ => EX_39_22.xb) y) (Sum.elim EX_39_22.la.enc EX_39_22.lb.enc y) :=
  rounds_ok (L := LD_39_22.lay [.nilReg 13 68 tThing]) (E := EX_39_22) CT_ok T_39_ok (drT_ok CT_ok T_39_ok) lpi_39_22_ok g_39_22 rfl rfl (fun v h => by have hh : (.exit 6 : AX) = .pan v := h; cases hh) (fun v h => by have hh : (.ret : AX) = .pan v := h; cases hh) fuel
noncomputable def lp_39 {β : Type} : LpT β := fun k s K => if Nat.beq k 8 then lpOne (LD_39_8.lay []) EX_39_8 R_39_8 s K else if Nat.beq k 13 then lpOne (LD_39_13.lay []) EX_39_13 R_39_13 s K else if Nat.beq k 22 then lpOne (LD_39_22.lay [.nilReg 13 68 tThing]) EX_39_22 R_39_22 s K else none
theorem lp_39_ok {β : Type} : LpTOk CT (lp_39 (β := β)) (loopsOf c_39) := by
  have h : loopsOf c_39 = [(8, l_39_8), (13, l_39_13), (22, l_39_22)] := by kernel_rfl
  rw [h]
  exact LpTOk.cons (fun s K z h => lpOne_ok r_39_8 h) (LpTOk.cons (fun s K z h => lpOne_ok r_39_13 h) (LpTOk.cons (fun s K z h => lpOne_ok r_39_22 h) (LpTOk.nil)))
noncomputable def F_39 (a1 : Ty.El tScene) (a2 : Ty.El I) : Option (Els [tScene, I]) :=
  (F_20 a1).bind fun v2 =>
    bif !v2.fst then Option.some ((((0 : Int), (0 : Int)), (0 : Int), []), (9 : Int), ())
    else
      (F_23 a1 a2).bind fun v4 =>
        bif !v4.snd.fst then Option.some ((((0 : Int), (0 : Int)), (0 : Int), []), (10 : Int), ())
        else
          (F_37 a1 a2).bind fun v6 =>
            (R_39_8 (((), (), (), v6.fst, (↑(List.length v6.fst) : Int), (0 : Int), ()), (a1, ()), ((((0 : Int), (0 : Int)), (0 : Int), []), ()), ((), ()), [], ())).bind fun v7 =>
              Sum.elim
                (fun v8 =>
                  (R_39_13
                        (((), (), (), (↑(List.length v8.snd.fst.fst.snd.snd) : Int), (0 : Int), ()), (v8.snd.fst.fst, ()), (v8.snd.snd.fst.fst, ()), ((), ()), v8.snd.snd.snd.snd.fst,
                          ())).bind
                    fun v9 =>
                    Sum.elim
                      (fun v10 =>
                        (R_39_22
                              (((), (), (), (), v10.snd.fst.fst.snd.snd, (↑(List.length v10.snd.fst.fst.snd.snd) : Int), (0 : Int), ()), (v10.snd.fst.fst, ()),
                                (v10.snd.snd.fst.fst, ()), ((), ()), v10.snd.snd.snd.snd.fst, [], ())).bind
                          fun v11 =>
                          Sum.elim (fun v12 => Option.some ((v12.snd.fst.fst.fst, v12.snd.fst.fst.snd.fst, v12.snd.snd.snd.fst), (0 : Int), ())) (fun v13 => Option.none) v11)
                      (fun v14 => Option.none) v9)
                (fun v15 => Option.none) v7
theorem f_39 (x : Ps [.ty tScene, .ty I]) : funcT CT T_39 [tScene, I] (drT CT T_39) lp_39 Tryz.f133 c_39 (encPs [.ty tScene, .ty I] x) = F_39 x.1 x.2.1 := by kernel_rfl
noncomputable def E_39 : Ent := .fn 133 [] ⟨[.ty tScene, .ty I], [tScene, I], fun x => F_39 x.1 x.2.1, false⟩
theorem e_39 : E_39.Ok CT.P := Ent.ofFn CT_ok T_39_ok hf_39 hb_39 lp_39_ok f_39
end Go.DI.S
