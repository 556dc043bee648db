import Derived.Test.YtmleimalginhhaaVb
import Derived.Test.YtmleimalginhhaaTa
import Derived.Test.YtmleimalginhhaaKb
import Derived.Test.YtmleimalginhhaaKa
/- kin.Copy, KinRight, KinCopies: told by functions on data. No conditions. -/
/-! The program's functions, told by functions on data. -/
set_option linter.unusedVariables false
set_option maxRecDepth 100000
set_option maxHeartbeats 0
namespace Go.DI.S
open Go.Proofs
/-! ### 41: maquette/kin.Hold -/
noncomputable def c_41w : Code := Try.f41.body.getD .skip
theorem hb_41w : Try.f41.body = some c_41w := by kernel_rfl
theorem hf_41w : CT.P.funcs[41]? = some Try.f41 := by kernel_rfl
noncomputable def T_41w : Tb := mkTb tyT mpT [E_18w, E_20, E_46o, E_74, E_78, E_79_80]
theorem T_41w_ok : T_41w.Ok CT.P := mkTb_ok (⟨e_18w, e_20, e_46o, e_74, e_78, e_79_80, trivial⟩)
noncomputable def lp_41w {β : Type} : LpT β := fun _ _ _ => none
theorem lp_41w_ok {β : Type} : LpTOk CT (lp_41w (β := β)) (loopsOf c_41w) := by
  have h : loopsOf c_41w = [] := by kernel_rfl
  rw [h]
  exact LpTOk.nil
noncomputable def F_41w (a1 : Ty.El tScene) (a2 : Ty.El (.list I)) : Option (Els [tScene, I, I]) :=
  (F_46o a2).bind fun v2 =>
    (F_74 v2).bind fun v4 =>
      (F_20 a1).bind fun v6 =>
        bif !v6.fst then Option.some ((((0 : Int), (0 : Int)), (0 : Int), []), (0 : Int), (9 : Int), ())
        else
          bif Decidable.decide ((↑(List.length v4.snd.fst) : Int) < (1 : Int)) then Option.some ((((0 : Int), (0 : Int)), (0 : Int), []), (0 : Int), (9 : Int), ())
          else
            bif Decidable.decide ((↑(List.length v4.snd.fst) : Int) > (8 : Int)) then Option.some ((((0 : Int), (0 : Int)), (0 : Int), []), (0 : Int), (9 : Int), ())
            else
              (F_46o v4.snd.fst).bind fun v18 =>
                (F_78 v18).bind fun v21 =>
                  bif Decidable.decide ((↑v21.length : Int) < (↑(List.length v4.snd.fst) : Int)) then Option.some ((((0 : Int), (0 : Int)), (0 : Int), []), (0 : Int), (9 : Int), ())
                  else
                    (F_79_80 v4.snd.fst (a1, ())).bind fun v33 =>
                      bif v33.fst then Option.some ((((0 : Int), (0 : Int)), (0 : Int), []), (0 : Int), (9 : Int), ())
                      else
                        bif Decidable.decide (a1.snd.fst > (1000000 : Int)) then Option.some ((((0 : Int), (0 : Int)), (0 : Int), []), (0 : Int), (12 : Int), ())
                        else
                          (F_18w (a1.fst, Go.IntKind.i64.wrap (a1.snd.fst + (1 : Int)), a1.snd.snd)
                                (a1.snd.fst, (3 : Int), ((0 : Int), ((0 : Int), (0 : Int)), (0 : Int), ((0 : Int), (0 : Int)), (0 : Int), (0 : Int)),
                                  ((0 : Int), (0 : Int), (0 : Int)), v4.snd.fst)).bind
                            fun v37 =>
                            bif v37.snd.fst != (0 : Int) then Option.some ((((0 : Int), (0 : Int)), (0 : Int), []), (0 : Int), v37.snd.fst, ())
                            else Option.some (v37.fst, a1.snd.fst, (0 : Int), ())
theorem f_41w (x : Ps [.ty tScene, .ty (.list I)]) : funcT CT T_41w [tScene, I, I] (drT CT T_41w) lp_41w Try.f41 c_41w (encPs [.ty tScene, .ty (.list I)] x) = F_41w x.1 x.2.1 := by kernel_rfl
noncomputable def E_41w : Ent := .fn 41 [] ⟨[.ty tScene, .ty (.list I)], [tScene, I, I], fun x => F_41w x.1 x.2.1, false⟩
theorem e_41w : E_41w.Ok CT.P := Ent.ofFn CT_ok T_41w_ok hf_41w hb_41w lp_41w_ok f_41w
noncomputable def E_41wh : Ent := .fn 41 [] ⟨[.ty tScene, .ty (.list I)], [tScene, I, I], fun x => F_41w x.1 x.2.1, true⟩
/-! ### 37: maquette/kin.Inside -/
noncomputable def c_37o : Code := Try.f37.body.getD .skip
theorem hb_37o : Try.f37.body = some c_37o := by kernel_rfl
theorem hf_37o : CT.P.funcs[37]? = some Try.f37 := by kernel_rfl
noncomputable def T_37o : Tb := mkTb tyT mpT [E_20, E_73, E_74]
theorem T_37o_ok : T_37o.Ok CT.P := mkTb_ok (⟨e_20, e_73, e_74, trivial⟩)
noncomputable def lp_37o {β : Type} : LpT β := fun _ _ _ => none
theorem lp_37o_ok {β : Type} : LpTOk CT (lp_37o (β := β)) (loopsOf c_37o) := by
  have h : loopsOf c_37o = [] := by kernel_rfl
  rw [h]
  exact LpTOk.nil
noncomputable def F_37o (a1 : Ty.El tScene) (a2 : Ty.El I) : Option (List (Ty.El I)) :=
  (F_20 a1).bind fun v2 => bif !v2.fst then Option.some [] else (F_73 a1 a2).bind fun v4 => (F_74 v4).bind fun v6 => Option.some v6.snd.fst
theorem f_37o (x : Ps [.ty tScene, .ty I]) : funcO CT T_37o 3 I (drT CT T_37o) lp_37o Try.f37 c_37o (encPs [.ty tScene, .ty I] x) = F_37o x.1 x.2.1 := by kernel_rfl
noncomputable def E_37o : Ent := .own 37 [] ⟨[.ty tScene, .ty I], 3, I, fun x => F_37o x.1 x.2.1⟩
theorem e_37o : E_37o.Ok CT.P := Ent.ofOwn CT_ok T_37o_ok hf_37o hb_37o lp_37o_ok f_37o
/-! ### 81: maquette/kin.joints -/
noncomputable def c_81 : Code := Try.f81.body.getD .skip
theorem hb_81 : Try.f81.body = some c_81 := by kernel_rfl
theorem hf_81 : CT.P.funcs[81]? = some Try.f81 := by kernel_rfl
noncomputable def T_81 : Tb := mkTb tyT mpT [E_59]
theorem T_81_ok : T_81.Ok CT.P := mkTb_ok (⟨e_59, trivial⟩)
noncomputable def l_81_3 : Code := atLoop c_81 3
noncomputable abbrev LD_81_3 : LayD := ⟨46, [(1, .data (.list I)), (5, .own I 0), (9, .data (.list tThing)), (10, .data I), (11, .data I)], [.row 3 I], fun s => [slotR s 5]⟩
noncomputable abbrev LA_81_3 : LayD := ⟨46, [(5, .own I 0)], [.row 3 I], fun s => [slotR s 5]⟩
noncomputable abbrev LB_81_3 : LayD := ⟨46, [], [], fun _ => []⟩
noncomputable def EX_81_3 : Exits 0 LA_81_3.El LB_81_3.El := ⟨.exit 0, LA_81_3.lay [.nilReg 5 3 I], .ret, LB_81_3.lay []⟩

noncomputable def lpi_81_3 {β : Type} : LpT β := fun _ _ _ => none
theorem lpi_81_3_ok {β : Type} : LpTOk CT (lpi_81_3 (β := β)) (loopsOf l_81_3) := by
  have h : loopsOf l_81_3 = [] := by kernel_rfl
  rw [h]
  exact LpTOk.nil
noncomputable def G_81_3 (r1 : Ty.El (.list I)) (r9 : Ty.El (.list tThing)) (r10 : Ty.El I) (r11 : Ty.El I) (b0 : List (Ty.El I)) : Option (LD_81_3.El ⊕ (LA_81_3.El ⊕ LB_81_3.El)) :=
  bif Decidable.decide (r11 < r10) then
    bif Decidable.decide ((0 : Int) ≤ r11 ∧ r11 < (↑(List.length r9) : Int)) then
      bif (List.getD r9 (Int.toNat r11) Go.DI.S.tThing.dflt).snd.fst == (2 : Int) then
        (F_59 r1 (List.getD r9 (Int.toNat r11) Go.DI.S.tThing.dflt).fst).bind fun v2 =>
          bif !v2.fst then
            (F_59 r1 (List.getD r9 (Int.toNat r11) Go.DI.S.tThing.dflt).snd.snd.snd.fst.fst).bind fun v4 =>
              bif v4.fst then
                (F_59 r1 (List.getD r9 (Int.toNat r11) Go.DI.S.tThing.dflt).snd.snd.snd.fst.snd.fst).bind fun v6 =>
                  bif v6.fst then
                    bif ((b0.length + [(List.getD r9 (Int.toNat r11) Go.DI.S.tThing.dflt).fst].length) * (8 : Nat)).ble (70368744177664 : Nat) then
                      Option.some (Sum.inl ((r1, (), r9, r10, Go.IntKind.i64.wrap (r11 + (1 : Int)), ()), b0 ++ [(List.getD r9 (Int.toNat r11) Go.DI.S.tThing.dflt).fst], ()))
                    else Option.none
                  else Option.some (Sum.inl ((r1, (), r9, r10, Go.IntKind.i64.wrap (r11 + (1 : Int)), ()), b0, ()))
              else Option.some (Sum.inl ((r1, (), r9, r10, Go.IntKind.i64.wrap (r11 + (1 : Int)), ()), b0, ()))
          else Option.some (Sum.inl ((r1, (), r9, r10, Go.IntKind.i64.wrap (r11 + (1 : Int)), ()), b0, ()))
      else Option.some (Sum.inl ((r1, (), r9, r10, Go.IntKind.i64.wrap (r11 + (1 : Int)), ()), b0, ()))
    else Option.none
  else Option.some (Sum.inr (Sum.inl (((), ()), b0, ())))
theorem g_81_3 (x : LD_81_3.El) : codeT CT T_81 (drT CT T_81) lpi_81_3 l_81_3 (LD_81_3.enc x) (bodyK (LD_81_3.lay [.nilReg 5 3 I]) EX_81_3) = G_81_3 x.1.1 x.1.2.2.1 x.1.2.2.2.1 x.1.2.2.2.2.1 x.2.1 := by kernel_rfl
noncomputable def R_81_3 : LD_81_3.El → Option (LA_81_3.El ⊕ LB_81_3.El) := roundsT (fun x => G_81_3 x.1.1 x.1.2.2.1 x.1.2.2.2.1 x.1.2.2.2.2.1 x.2.1) fuel
theorem r_81_3 : ∀ x y, R_81_3 x = some y → CL CT l_81_3 (LD_81_3.enc x) (Sum.elim (fun _ => EX_81_3.xa) (fun _ => EX_81_3.xb) y) (Sum.elim EX_81_3.la.enc EX_81_3.lb.enc y) :=
  rounds_ok (L := LD_81_3.lay [.nilReg 5 3 I]) (E := EX_81_3) CT_ok T_81_ok (drT_ok CT_ok T_81_ok) lpi_81_3_ok g_81_3 rfl rfl (fun v h => by have hh : (.exit 0 : AX) = .pan v := h; cases hh) (fun v h => by have hh : (.ret : AX) = .pan v := h; cases hh) fuel
noncomputable def lp_81 {β : Type} : LpT β := fun k s K => if Nat.beq k 3 then lpOne (LD_81_3.lay [.nilReg 5 3 I]) EX_81_3 R_81_3 s K else none
theorem lp_81_ok {β : Type} : LpTOk CT (lp_81 (β := β)) (loopsOf c_81) := by
  have h : loopsOf c_81 = [(3, l_81_3)] := by kernel_rfl
  rw [h]
  exact LpTOk.cons (fun s K z h => lpOne_ok r_81_3 h) (LpTOk.nil)
noncomputable def F_81 (a1 : Ty.El tScene) (a2 : Ty.El (.list I)) : Option (List (Ty.El I)) :=
  (R_81_3 ((a2, (), a1.snd.snd, (↑(List.length a1.snd.snd) : Int), (0 : Int), ()), [], ())).bind fun v1 => Sum.elim (fun v2 => Option.some v2.snd.fst) (fun v3 => Option.none) v1
theorem f_81 (x : Ps [.ty tScene, .ty (.list I)]) : funcO CT T_81 3 I (drT CT T_81) lp_81 Try.f81 c_81 (encPs [.ty tScene, .ty (.list I)] x) = F_81 x.1 x.2.1 := by kernel_rfl
noncomputable def E_81 : Ent := .own 81 [] ⟨[.ty tScene, .ty (.list I)], 3, I, fun x => F_81 x.1 x.2.1⟩
theorem e_81 : E_81.Ok CT.P := Ent.ofOwn CT_ok T_81_ok hf_81 hb_81 lp_81_ok f_81
/-! ### 82: maquette/kin.own -/
noncomputable def c_82 : Code := Try.f82.body.getD .skip
theorem hb_82 : Try.f82.body = some c_82 := by kernel_rfl
theorem hf_82 : CT.P.funcs[82]? = some Try.f82 := by kernel_rfl
noncomputable def T_82 : Tb := mkTb tyT mpT [E_90, E_46]
theorem T_82_ok : T_82.Ok CT.P := mkTb_ok (⟨e_90, e_46, trivial⟩)
noncomputable def l_82_3 : Code := atLoop c_82 3
noncomputable abbrev LD_82_3 : LayD := ⟨23, [(0, .own tThing 0), (7, .own tThing 0), (8, .data I), (9, .data I)], [.row 32 tThing], fun s => [slotR s 0]⟩
noncomputable abbrev LA_82_3 : LayD := ⟨23, [(0, .own tThing 0)], [.row 32 tThing], fun s => [slotR s 0]⟩
noncomputable abbrev LB_82_3 : LayD := ⟨23, [], [], fun _ => []⟩
noncomputable def EX_82_3 : Exits 0 LA_82_3.El LB_82_3.El := ⟨.exit 0, LA_82_3.lay [], .ret, LB_82_3.lay []⟩

noncomputable def lpi_82_3 {β : Type} : LpT β := fun _ _ _ => none
theorem lpi_82_3_ok {β : Type} : LpTOk CT (lpi_82_3 (β := β)) (loopsOf l_82_3) := by
  have h : loopsOf l_82_3 = [] := by kernel_rfl
  rw [h]
  exact LpTOk.nil
noncomputable def G_82_3 (r8 : Ty.El I) (r9 : Ty.El I) (b0 : List (Ty.El tThing)) : Option (LD_82_3.El ⊕ (LA_82_3.El ⊕ LB_82_3.El)) :=
  bif Decidable.decide (r9 < r8) then
    bif Decidable.decide ((0 : Int) ≤ r9 ∧ r9 < (↑b0.length : Int)) then
      (F_46 (b0.getD (Int.toNat r9) Go.DI.S.tThing.dflt).snd.snd.snd.snd).bind fun v2 =>
        bif Decidable.decide ((0 : Int) ≤ r9 ∧ r9 < (↑b0.length : Int)) then
          Option.some
            (Sum.inl
              (((), (), r8, Go.IntKind.i64.wrap (r9 + (1 : Int)), ()),
                b0.set (Int.toNat r9)
                  ((b0.getD (Int.toNat r9) Go.DI.S.tThing.dflt).fst, (b0.getD (Int.toNat r9) Go.DI.S.tThing.dflt).snd.fst, (b0.getD (Int.toNat r9) Go.DI.S.tThing.dflt).snd.snd.fst,
                    (b0.getD (Int.toNat r9) Go.DI.S.tThing.dflt).snd.snd.snd.fst, v2.fst),
                ()))
        else Option.none
    else Option.none
  else Option.some (Sum.inr (Sum.inl (((), ()), b0, ())))
theorem g_82_3 (x : LD_82_3.El) : codeT CT T_82 (drT CT T_82) lpi_82_3 l_82_3 (LD_82_3.enc x) (bodyK (LD_82_3.lay []) EX_82_3) = G_82_3 x.1.2.2.1 x.1.2.2.2.1 x.2.1 := by kernel_rfl
noncomputable def R_82_3 : LD_82_3.El → Option (LA_82_3.El ⊕ LB_82_3.El) := roundsT (fun x => G_82_3 x.1.2.2.1 x.1.2.2.2.1 x.2.1) fuel
theorem r_82_3 : ∀ x y, R_82_3 x = some y → CL CT l_82_3 (LD_82_3.enc x) (Sum.elim (fun _ => EX_82_3.xa) (fun _ => EX_82_3.xb) y) (Sum.elim EX_82_3.la.enc EX_82_3.lb.enc y) :=
  rounds_ok (L := LD_82_3.lay []) (E := EX_82_3) CT_ok T_82_ok (drT_ok CT_ok T_82_ok) lpi_82_3_ok g_82_3 rfl rfl (fun v h => by have hh : (.exit 0 : AX) = .pan v := h; cases hh) (fun v h => by have hh : (.ret : AX) = .pan v := h; cases hh) fuel
noncomputable def lp_82 {β : Type} : LpT β := fun k s K => if Nat.beq k 3 then lpOne (LD_82_3.lay []) EX_82_3 R_82_3 s K else none
theorem lp_82_ok {β : Type} : LpTOk CT (lp_82 (β := β)) (loopsOf c_82) := by
  have h : loopsOf c_82 = [(3, l_82_3)] := by kernel_rfl
  rw [h]
  exact LpTOk.cons (fun s K z h => lpOne_ok r_82_3 h) (LpTOk.nil)
noncomputable def F_82 (a1 : Ty.El (.list tThing)) : Option (List (Ty.El tThing)) :=
  (F_90 a1).bind fun v2 => (R_82_3 (((), (), (↑v2.length : Int), (0 : Int), ()), v2, ())).bind fun v4 => Sum.elim (fun v5 => Option.some v5.snd.fst) (fun v6 => Option.none) v4
theorem f_82 (x : Ps [.ty (.list tThing)]) : funcO CT T_82 32 tThing (drT CT T_82) lp_82 Try.f82 c_82 (encPs [.ty (.list tThing)] x) = F_82 x.1 := by kernel_rfl
noncomputable def E_82 : Ent := .own 82 [] ⟨[.ty (.list tThing)], 32, tThing, fun x => F_82 x.1⟩
theorem e_82 : E_82.Ok CT.P := Ent.ofOwn CT_ok T_82_ok hf_82 hb_82 lp_82_ok f_82
/-! ### 123: (maquette/kin.copies).of -/
noncomputable def c_123 : Code := Try.f123.body.getD .skip
theorem hb_123 : Try.f123.body = some c_123 := by kernel_rfl
theorem hf_123 : CT.P.funcs[123]? = some Try.f123 := by kernel_rfl
noncomputable abbrev IN_123 : LayD := ⟨2, [(0, .map 0), (1, .data I)], [.tmap I I], fun s => [slotR s 0]⟩
noncomputable abbrev OUT_123 : LayD := ⟨1, [(0, .data I)], [.tmap I I], fun _ => [0]⟩
noncomputable def T_123 : Tb := mkTb tyT mpT []
theorem T_123_ok : T_123.Ok CT.P := mkTb_ok (trivial)
noncomputable def lp_123 {β : Type} : LpT β := fun _ _ _ => none
theorem lp_123_ok {β : Type} : LpTOk (CTp 1) (lp_123 (β := β)) (loopsOf c_123) := by
  have h : loopsOf c_123 = [] := by kernel_rfl
  rw [h]
  exact LpTOk.nil
noncomputable def F_123 (a1 : Ty.El I) (b0 : List (Ty.El I × Ty.El I)) : Option OUT_123.El :=
  bif (Go.DI.tget Go.DI.S.I Go.DI.S.I a1 b0).isSome then Option.some (((Go.DI.tget Go.DI.S.I Go.DI.S.I a1 b0).getD (0 : Int), ()), b0, ()) else Option.some ((a1, ()), b0, ())
theorem f_123 (x : IN_123.El) : funcX (CTp 1) T_123 IN_123 OUT_123 [] (drT (CTp 1) T_123) lp_123 Try.f123 c_123 x = F_123 x.1.2.1 x.2.1 := by kernel_rfl
noncomputable def E_123 : Ent := .mkGen 123 [] ⟨1, [], IN_123, OUT_123, fun x => F_123 x.1.2.1 x.2.1⟩
theorem e_123 : E_123.Ok CT.P := Ent.ofGen (C := (CTp 1)) (steps := []) (osteps := []) (CTp_ok 1) T_123_ok hf_123 hb_123 lp_123_ok f_123
/-! ### 161: maquette/calc.must -/
noncomputable def c_161 : Code := Try.f161.body.getD .skip
theorem hb_161 : Try.f161.body = some c_161 := by kernel_rfl
theorem hf_161 : CT.P.funcs[161]? = some Try.f161 := by kernel_rfl
noncomputable def T_161 : Tb := mkTb tyT mpT []
theorem T_161_ok : T_161.Ok CT.P := mkTb_ok (trivial)
noncomputable def lp_161 {β : Type} : LpT β := fun _ _ _ => none
theorem lp_161_ok {β : Type} : LpTOk CT (lp_161 (β := β)) (loopsOf c_161) := by
  have h : loopsOf c_161 = [] := by kernel_rfl
  rw [h]
  exact LpTOk.nil
noncomputable def F_161 (a1 : Ty.El I) (a2 : Ty.El I) : Option (Els [I] ⊕ Int) :=
  bif a2 != (0 : Int) then Option.some (Sum.inr a2) else Option.some (Sum.inl (a1, ()))
theorem f_161 (x : Ps [.ty I, .ty I]) : funcP CT T_161 165 [I] (drT CT T_161) lp_161 Try.f161 c_161 (encPs [.ty I, .ty I] x) = F_161 x.1 x.2.1 := by kernel_rfl
noncomputable def E_161 : Ent := .mkFnP 161 [] ⟨165, [.ty I, .ty I], [I], fun x => F_161 x.1 x.2.1, false⟩
theorem e_161 : E_161.Ok CT.P := Ent.ofFnP CT_ok T_161_ok hf_161 hb_161 lp_161_ok f_161
noncomputable def E_161h : Ent := .mkFnP 161 [] ⟨165, [.ty I, .ty I], [I], fun x => F_161 x.1 x.2.1, true⟩
/-! ### 162: maquette/fix.Add -/
noncomputable def c_162 : Code := Try.f162.body.getD .skip
theorem hb_162 : Try.f162.body = some c_162 := by kernel_rfl
theorem hf_162 : CT.P.funcs[162]? = some Try.f162 := by kernel_rfl
noncomputable def T_162 : Tb := mkTb tyT mpT []
theorem T_162_ok : T_162.Ok CT.P := mkTb_ok (trivial)
noncomputable def lp_162 {β : Type} : LpT β := fun _ _ _ => none
theorem lp_162_ok {β : Type} : LpTOk CT (lp_162 (β := β)) (loopsOf c_162) := by
  have h : loopsOf c_162 = [] := by kernel_rfl
  rw [h]
  exact LpTOk.nil
noncomputable def F_162 (a1 : Ty.El I) (a2 : Ty.El I) : Option (Els [I, I]) :=
  bif Decidable.decide (a1 < (0 : Int)) == Decidable.decide (a2 < (0 : Int)) then
    bif !Decidable.decide (Go.IntKind.i64.wrap (a1 + a2) < (0 : Int)) == Decidable.decide (a1 < (0 : Int)) then Option.some ((0 : Int), (3 : Int), ())
    else Option.some (Go.IntKind.i64.wrap (a1 + a2), (0 : Int), ())
  else Option.some (Go.IntKind.i64.wrap (a1 + a2), (0 : Int), ())
theorem f_162 (x : Ps [.ty I, .ty I]) : funcT CT T_162 [I, I] (drT CT T_162) lp_162 Try.f162 c_162 (encPs [.ty I, .ty I] x) = F_162 x.1 x.2.1 := by kernel_rfl
noncomputable def E_162 : Ent := .fn 162 [] ⟨[.ty I, .ty I], [I, I], fun x => F_162 x.1 x.2.1, false⟩
theorem e_162 : E_162.Ok CT.P := Ent.ofFn CT_ok T_162_ok hf_162 hb_162 lp_162_ok f_162
noncomputable def E_162h : Ent := .fn 162 [] ⟨[.ty I, .ty I], [I, I], fun x => F_162 x.1 x.2.1, true⟩
/-! ### 146: maquette/calc.Add -/
noncomputable def c_146 : Code := Try.f146.body.getD .skip
theorem hb_146 : Try.f146.body = some c_146 := by kernel_rfl
theorem hf_146 : CT.P.funcs[146]? = some Try.f146 := by kernel_rfl
noncomputable def T_146 : Tb := mkTb tyT mpT [E_161, E_162]
theorem T_146_ok : T_146.Ok CT.P := mkTb_ok (⟨e_161, e_162, trivial⟩)
noncomputable def lp_146 {β : Type} : LpT β := fun _ _ _ => none
theorem lp_146_ok {β : Type} : LpTOk CT (lp_146 (β := β)) (loopsOf c_146) := by
  have h : loopsOf c_146 = [] := by kernel_rfl
  rw [h]
  exact LpTOk.nil
noncomputable def F_146 (a1 : Ty.El I) (a2 : Ty.El I) : Option (Els [I] ⊕ Int) :=
  (F_162 a1 a2).bind fun v2 => (F_161 v2.fst v2.snd.fst).bind fun v4 => Sum.elim (fun v6 => Option.some (Sum.inl (v6.fst, ()))) (fun v7 => Option.some (Sum.inr v7)) v4
theorem f_146 (x : Ps [.ty I, .ty I]) : funcP CT T_146 165 [I] (drT CT T_146) lp_146 Try.f146 c_146 (encPs [.ty I, .ty I] x) = F_146 x.1 x.2.1 := by kernel_rfl
noncomputable def E_146 : Ent := .mkFnP 146 [] ⟨165, [.ty I, .ty I], [I], fun x => F_146 x.1 x.2.1, false⟩
theorem e_146 : E_146.Ok CT.P := Ent.ofFnP CT_ok T_146_ok hf_146 hb_146 lp_146_ok f_146
noncomputable def E_146h : Ent := .mkFnP 146 [] ⟨165, [.ty I, .ty I], [I], fun x => F_146 x.1 x.2.1, true⟩
/-! ### 124: maquette/vec.Add -/
noncomputable def c_124 : Code := Try.f124.body.getD .skip
theorem hb_124 : Try.f124.body = some c_124 := by kernel_rfl
theorem hf_124 : CT.P.funcs[124]? = some Try.f124 := by kernel_rfl
noncomputable def T_124 : Tb := mkTb tyT mpT [E_146]
theorem T_124_ok : T_124.Ok CT.P := mkTb_ok (⟨e_146, trivial⟩)
noncomputable def lp_124 {β : Type} : LpT β := fun _ _ _ => none
theorem lp_124_ok {β : Type} : LpTOk CT (lp_124 (β := β)) (loopsOf c_124) := by
  have h : loopsOf c_124 = [] := by kernel_rfl
  rw [h]
  exact LpTOk.nil
noncomputable def F_124 (a1 : Ty.El tVec) (a2 : Ty.El tVec) : Option (Els [tVec] ⊕ Int) :=
  (F_146 a1.fst a2.fst).bind fun v2 =>
    Sum.elim (fun v4 => (F_146 a1.snd a2.snd).bind fun v6 => Sum.elim (fun v8 => Option.some (Sum.inl ((v4.fst, v8.fst), ()))) (fun v9 => Option.some (Sum.inr v9)) v6)
      (fun v10 => Option.some (Sum.inr v10)) v2
theorem f_124 (x : Ps [.ty tVec, .ty tVec]) : funcP CT T_124 165 [tVec] (drT CT T_124) lp_124 Try.f124 c_124 (encPs [.ty tVec, .ty tVec] x) = F_124 x.1 x.2.1 := by kernel_rfl
noncomputable def E_124 : Ent := .mkFnP 124 [] ⟨165, [.ty tVec, .ty tVec], [tVec], fun x => F_124 x.1 x.2.1, false⟩
theorem e_124 : E_124.Ok CT.P := Ent.ofFnP CT_ok T_124_ok hf_124 hb_124 lp_124_ok f_124
noncomputable def E_124h : Ent := .mkFnP 124 [] ⟨165, [.ty tVec, .ty tVec], [tVec], fun x => F_124 x.1 x.2.1, true⟩
/-! ### 85: (maquette/kin.copies).thing -/
noncomputable def c_85 : Code := Try.f85.body.getD .skip
theorem hb_85 : Try.f85.body = some c_85 := by kernel_rfl
theorem hf_85 : CT.P.funcs[85]? = some Try.f85 := by kernel_rfl
noncomputable abbrev IN_85 : LayD := ⟨3, [(0, .map 0), (1, .data tThing), (2, .data tVec)], [.tmap I I], fun s => [slotR s 0]⟩
noncomputable abbrev OUT_85 : LayD := ⟨1, [(0, .data tThing)], [.tmap I I], fun _ => [0]⟩
noncomputable def T_85 : Tb := mkTb tyT mpT [E_46o, E_123, E_124, E_88]
theorem T_85_ok : T_85.Ok CT.P := mkTb_ok (⟨e_46o, e_123, e_124, e_88, trivial⟩)
noncomputable def l_85_11 : Code := atLoop c_85 11
noncomputable abbrev LD_85_11 : LayD := ⟨68, [(0, .map 0), (4, .ptr 1), (6, .ptr 3), (52, .own I 2), (53, .data I), (54, .data I)], [.tmap I I, .var 32 [.data I, .data I, .data tBody, .data tJoint, .own I 2], .row 3 I, .var 32 [.data tThing]], fun s => [0, slotR s 4, slotC s 4 13, slotR s 6]⟩
noncomputable abbrev LA_85_11 : LayD := ⟨68, [(4, .ptr 1), (6, .ptr 3)], [.tmap I I, .var 32 [.data I, .data I, .data tBody, .data tJoint, .own I 2], .row 3 I, .var 32 [.data tThing]], fun s => [0, slotR s 4, slotC s 4 13, slotR s 6]⟩
noncomputable abbrev LB_85_11 : LayD := ⟨68, [], [], fun _ => []⟩
noncomputable def EX_85_11 : Exits 1 LA_85_11.El LB_85_11.El := ⟨.exit 1, LA_85_11.lay [.nilCell 4 13 3 I], .ret, LB_85_11.lay []⟩

noncomputable def lpi_85_11 {β : Type} : LpT β := fun _ _ _ => none
theorem lpi_85_11_ok {β : Type} : LpTOk (CTp 1) (lpi_85_11 (β := β)) (loopsOf l_85_11) := by
  have h : loopsOf l_85_11 = [] := by kernel_rfl
  rw [h]
  exact LpTOk.nil
noncomputable def G_85_11 (r53 : Ty.El I) (r54 : Ty.El I) (b0 : List (Ty.El I × Ty.El I)) (b1 : Ty.El I × Ty.El I × Ty.El tBody × Ty.El tJoint × Unit × Unit) (b2 : List (Ty.El I)) (b3 : Ty.El tThing × Unit) : Option (LD_85_11.El ⊕ ((LA_85_11.El ⊕ LB_85_11.El) ⊕ Int)) :=
  bif Decidable.decide (r54 < r53) then
    bif Decidable.decide ((0 : Int) ≤ r54 ∧ r54 < (↑b2.length : Int)) then
      (F_123 (b2.getD (Int.toNat r54) (0 : Int)) b0).bind fun v2 =>
        bif Decidable.decide ((0 : Int) ≤ r54 ∧ r54 < (↑b2.length : Int)) then
          Option.some
            (Sum.inl
              (((), (), (), (), r53, Go.IntKind.i64.wrap (r54 + (1 : Int)), ()), v2.snd.fst, (b1.fst, b1.snd.fst, b1.snd.snd.fst, b1.snd.snd.snd.fst, (), ()),
                b2.set (Int.toNat r54) v2.fst.fst, (b3.fst, ()), ()))
        else Option.none
    else Option.none
  else Option.some (Sum.inr (Sum.inl (Sum.inl (((), (), ()), b0, (b1.fst, b1.snd.fst, b1.snd.snd.fst, b1.snd.snd.snd.fst, (), ()), b2, (b3.fst, ()), ()))))
theorem g_85_11 (x : LD_85_11.El) : codeT (CTp 1) T_85 (drT (CTp 1) T_85) lpi_85_11 l_85_11 (LD_85_11.enc x) (bodyKP (LD_85_11.lay [.nilCell 4 13 3 I]) EX_85_11 165 68) = G_85_11 x.1.2.2.2.2.1 x.1.2.2.2.2.2.1 x.2.1 x.2.2.1 x.2.2.2.1 x.2.2.2.2.1 := by kernel_rfl
noncomputable def R_85_11 : LD_85_11.El → Option ((LA_85_11.El ⊕ LB_85_11.El) ⊕ Int) := roundsT (fun x => G_85_11 x.1.2.2.2.2.1 x.1.2.2.2.2.2.1 x.2.1 x.2.2.1 x.2.2.2.1 x.2.2.2.2.1) fuel
theorem r_85_11 : ∀ x y, R_85_11 x = some y → CL (CTp 1) l_85_11 (LD_85_11.enc x) (Sum.elim (fun ab => Sum.elim (fun _ => EX_85_11.xa) (fun _ => EX_85_11.xb) ab) (fun e => .pan (faultV 165 e)) y) (Sum.elim (fun ab => Sum.elim EX_85_11.la.enc EX_85_11.lb.enc ab) (fun _ => panS 1 68) y) :=
  roundsP_ok (L := LD_85_11.lay [.nilCell 4 13 3 I]) (E := EX_85_11) (CTp_ok 1) T_85_ok (drT_ok (CTp_ok 1) T_85_ok) lpi_85_11_ok g_85_11 rfl rfl (fun v h => by have hh : (.exit 1 : AX) = .pan v := h; cases hh) (fun v h => by have hh : (.ret : AX) = .pan v := h; cases hh) fuel
noncomputable def lp_85 {β : Type} : LpT β := fun k s K => if Nat.beq k 11 then lpOneP (LD_85_11.lay [.nilCell 4 13 3 I]) EX_85_11 165 68 R_85_11 s K else none
theorem lp_85_ok {β : Type} : LpTOk (CTp 1) (lp_85 (β := β)) (loopsOf c_85) := by
  have h : loopsOf c_85 = [(11, l_85_11)] := by kernel_rfl
  rw [h]
  exact LpTOk.cons (fun s K z h => lpOneP_ok r_85_11 h) (LpTOk.nil)
noncomputable def F_85 (a1 : Ty.El tThing) (a2 : Ty.El tVec) (b0 : List (Ty.El I × Ty.El I)) : Option (OUT_85.El ⊕ Int) :=
  (F_123 a1.fst b0).bind fun v2 =>
    bif a1.snd.fst == (1 : Int) then
      (F_124 a1.snd.snd.fst.snd.snd.snd.fst a2).bind fun v4 =>
        Sum.elim
          (fun v6 =>
            (F_88 (a1.snd.snd.fst.fst, a1.snd.snd.fst.snd.fst, a1.snd.snd.fst.snd.snd.fst, v6.fst, a1.snd.snd.fst.snd.snd.snd.snd)).bind fun v8 =>
              bif !v8.fst then Option.some (Sum.inr (3 : Int))
              else
                (F_46o a1.snd.snd.snd.snd).bind fun v10 =>
                  (R_85_11
                        (((), (), (), (), (↑v10.length : Int), (0 : Int), ()), v2.snd.fst,
                          (v2.fst.fst, a1.snd.fst, (a1.snd.snd.fst.fst, a1.snd.snd.fst.snd.fst, a1.snd.snd.fst.snd.snd.fst, v6.fst, a1.snd.snd.fst.snd.snd.snd.snd),
                            a1.snd.snd.snd.fst, (), ()),
                          v10,
                          (((0 : Int), (0 : Int), ((0 : Int), ((0 : Int), (0 : Int)), (0 : Int), ((0 : Int), (0 : Int)), (0 : Int), (0 : Int)), ((0 : Int), (0 : Int), (0 : Int)),
                              []),
                            ()),
                          ())).bind
                    fun v16 =>
                    Sum.elim
                      (fun v17 =>
                        Sum.elim
                          (fun v18 =>
                            Option.some
                              (Sum.inl
                                (((v18.snd.snd.fst.fst, v18.snd.snd.fst.snd.fst, v18.snd.snd.fst.snd.snd.fst, v18.snd.snd.fst.snd.snd.snd.fst, v18.snd.snd.snd.fst), ()), v18.snd.fst,
                                  ())))
                          (fun v19 => Option.none) v17)
                      (fun v20 => Option.some (Sum.inr v20)) v16)
          (fun v21 => Option.some (Sum.inr v21)) v4
    else
      bif a1.snd.fst == (2 : Int) then
        (F_123 a1.snd.snd.snd.fst.fst v2.snd.fst).bind fun v25 =>
          (F_123 a1.snd.snd.snd.fst.snd.fst v25.snd.fst).bind fun v29 =>
            (F_46o a1.snd.snd.snd.snd).bind fun v31 =>
              (R_85_11
                    (((), (), (), (), (↑v31.length : Int), (0 : Int), ()), v29.snd.fst,
                      (v2.fst.fst, a1.snd.fst, a1.snd.snd.fst, (v25.fst.fst, v29.fst.fst, a1.snd.snd.snd.fst.snd.snd), (), ()), v31,
                      (((0 : Int), (0 : Int), ((0 : Int), ((0 : Int), (0 : Int)), (0 : Int), ((0 : Int), (0 : Int)), (0 : Int), (0 : Int)), ((0 : Int), (0 : Int), (0 : Int)), []),
                        ()),
                      ())).bind
                fun v41 =>
                Sum.elim
                  (fun v42 =>
                    Sum.elim
                      (fun v43 =>
                        Option.some
                          (Sum.inl
                            (((v43.snd.snd.fst.fst, v43.snd.snd.fst.snd.fst, v43.snd.snd.fst.snd.snd.fst, v43.snd.snd.fst.snd.snd.snd.fst, v43.snd.snd.snd.fst), ()), v43.snd.fst,
                              ())))
                      (fun v44 => Option.none) v42)
                  (fun v45 => Option.some (Sum.inr v45)) v41
      else
        (F_46o a1.snd.snd.snd.snd).bind fun v47 =>
          (R_85_11
                (((), (), (), (), (↑v47.length : Int), (0 : Int), ()), v2.snd.fst, (v2.fst.fst, a1.snd.fst, a1.snd.snd.fst, a1.snd.snd.snd.fst, (), ()), v47,
                  (((0 : Int), (0 : Int), ((0 : Int), ((0 : Int), (0 : Int)), (0 : Int), ((0 : Int), (0 : Int)), (0 : Int), (0 : Int)), ((0 : Int), (0 : Int), (0 : Int)), []), ()),
                  ())).bind
            fun v53 =>
            Sum.elim
              (fun v54 =>
                Sum.elim
                  (fun v55 =>
                    Option.some
                      (Sum.inl
                        (((v55.snd.snd.fst.fst, v55.snd.snd.fst.snd.fst, v55.snd.snd.fst.snd.snd.fst, v55.snd.snd.fst.snd.snd.snd.fst, v55.snd.snd.snd.fst), ()), v55.snd.fst, ())))
                  (fun v56 => Option.none) v54)
              (fun v57 => Option.some (Sum.inr v57)) v53
theorem f_85 (x : IN_85.El) : funcXP (CTp 1) T_85 165 IN_85 OUT_85 [.frzReg 0 tThing] (drT (CTp 1) T_85) lp_85 Try.f85 c_85 x = F_85 x.1.2.1 x.1.2.2.1 x.2.1 := by kernel_rfl
noncomputable def E_85 : Ent := .mkGenP 85 [] ⟨165, 1, [], IN_85, OUT_85, fun x => F_85 x.1.2.1 x.1.2.2.1 x.2.1⟩
theorem e_85 : E_85.Ok CT.P := Ent.ofGenP (C := (CTp 1)) (steps := []) (osteps := [.frzReg 0 tThing]) (CTp_ok 1) T_85_ok hf_85 hb_85 lp_85_ok f_85
/-! ### 84: maquette/kin.Copy$1 -/
noncomputable def c_84 : Code := Try.f84.body.getD .skip
theorem hb_84 : Try.f84.body = some c_84 := by kernel_rfl
theorem hf_84 : CT.P.funcs[84]? = some Try.f84 := by kernel_rfl
noncomputable abbrev IN_84 : LayD := ⟨5, [(0, .ptr 0), (1, .ptr 1), (2, .ptr 2), (3, .ptr 3), (4, .ptr 4)], [.var 30 [.data (.list I)], .var 36 [.data tScene], .var 34 [.own tThing 5], .var 121 [.map 6], .var 25 [.data tVec], .row 32 tThing, .tmap I I], fun s => [slotR s 0, slotR s 1, slotR s 2, slotR s 3, slotR s 4, slotC s 2 0, slotC s 3 0]⟩
noncomputable abbrev OUT_84 : LayD := ⟨0, [], [.var 30 [.data (.list I)], .var 36 [.data tScene], .var 34 [.own tThing 5], .var 121 [.map 6], .var 25 [.data tVec], .row 32 tThing, .tmap I I], fun s => [0, 1, 2, 3, 4, slotH s 2 0, slotH s 3 0]⟩
noncomputable def T_84 : Tb := mkTb tyT mpT [E_23, E_85]
theorem T_84_ok : T_84.Ok CT.P := mkTb_ok (⟨e_23, e_85, trivial⟩)
noncomputable def l_84_1 : Code := atLoop c_84 1
noncomputable abbrev LD_84_1 : LayD := ⟨29, [(1, .ptr 1), (2, .ptr 2), (3, .ptr 3), (4, .ptr 4), (9, .data (.list I)), (10, .data I), (11, .data I)], [.var 30 [.data (.list I)], .var 36 [.data tScene], .var 34 [.own tThing 5], .var 121 [.map 6], .var 25 [.data tVec], .row 32 tThing, .tmap I I], fun s => [0, 1, 2, 3, 4, slotH s 2 0, slotH s 3 0]⟩
noncomputable abbrev LA_84_1 : LayD := ⟨29, [], [.var 30 [.data (.list I)], .var 36 [.data tScene], .var 34 [.own tThing 5], .var 121 [.map 6], .var 25 [.data tVec], .row 32 tThing, .tmap I I], fun s => [0, 1, 2, 3, 4, slotH s 2 0, slotH s 3 0]⟩
noncomputable abbrev LB_84_1 : LayD := ⟨29, [], [], fun _ => []⟩
noncomputable def EX_84_1 : Exits 5 LA_84_1.El LB_84_1.El := ⟨.exit 0, LA_84_1.lay [], .ret, LB_84_1.lay []⟩

noncomputable def lpi_84_1 {β : Type} : LpT β := fun _ _ _ => none
theorem lpi_84_1_ok {β : Type} : LpTOk (CTp 5) (lpi_84_1 (β := β)) (loopsOf l_84_1) := by
  have h : loopsOf l_84_1 = [] := by kernel_rfl
  rw [h]
  exact LpTOk.nil
noncomputable def G_84_1 (r9 : Ty.El (.list I)) (r10 : Ty.El I) (r11 : Ty.El I) (b0 : Ty.El (.list I) × Unit) (b1 : Ty.El tScene × Unit) (b2 : Unit × Unit) (b3 : Unit × Unit) (b4 : Ty.El tVec × Unit) (b5 : List (Ty.El tThing)) (b6 : List (Ty.El I × Ty.El I)) : Option (LD_84_1.El ⊕ ((LA_84_1.El ⊕ LB_84_1.El) ⊕ Int)) :=
  bif Decidable.decide (r11 < r10) then
    bif Decidable.decide ((0 : Int) ≤ r11 ∧ r11 < (↑(List.length r9) : Int)) then
      (F_23 b1.fst (List.getD r9 (Int.toNat r11) (0 : Int))).bind fun v2 =>
        (F_85 v2.fst b4.fst b6).bind fun v4 =>
          Sum.elim
            (fun v6 =>
              bif ((b5.length + [v6.fst.fst].length) * (128 : Nat)).ble (70368744177664 : Nat) then
                Option.some
                  (Sum.inl
                    (((), (), (), (), r9, r10, Go.IntKind.i64.wrap (r11 + (1 : Int)), ()), (b0.fst, ()), (b1.fst, ()), ((), ()), ((), ()), (b4.fst, ()), b5 ++ [v6.fst.fst],
                      v6.snd.fst, ()))
              else Option.none)
            (fun v13 => Option.some (Sum.inr (Sum.inr v13))) v4
    else Option.none
  else Option.some (Sum.inr (Sum.inl (Sum.inl ((), (b0.fst, ()), (b1.fst, ()), ((), ()), ((), ()), (b4.fst, ()), b5, b6, ()))))
theorem g_84_1 (x : LD_84_1.El) : codeT (CTp 5) T_84 (drT (CTp 5) T_84) lpi_84_1 l_84_1 (LD_84_1.enc x) (bodyKP (LD_84_1.lay []) EX_84_1 165 29) = G_84_1 x.1.2.2.2.2.1 x.1.2.2.2.2.2.1 x.1.2.2.2.2.2.2.1 x.2.1 x.2.2.1 x.2.2.2.1 x.2.2.2.2.1 x.2.2.2.2.2.1 x.2.2.2.2.2.2.1 x.2.2.2.2.2.2.2.1 := by kernel_rfl
noncomputable def R_84_1 : LD_84_1.El → Option ((LA_84_1.El ⊕ LB_84_1.El) ⊕ Int) := roundsT (fun x => G_84_1 x.1.2.2.2.2.1 x.1.2.2.2.2.2.1 x.1.2.2.2.2.2.2.1 x.2.1 x.2.2.1 x.2.2.2.1 x.2.2.2.2.1 x.2.2.2.2.2.1 x.2.2.2.2.2.2.1 x.2.2.2.2.2.2.2.1) fuel
theorem r_84_1 : ∀ x y, R_84_1 x = some y → CL (CTp 5) l_84_1 (LD_84_1.enc x) (Sum.elim (fun ab => Sum.elim (fun _ => EX_84_1.xa) (fun _ => EX_84_1.xb) ab) (fun e => .pan (faultV 165 e)) y) (Sum.elim (fun ab => Sum.elim EX_84_1.la.enc EX_84_1.lb.enc ab) (fun _ => panS 5 29) y) :=
  roundsP_ok (L := LD_84_1.lay []) (E := EX_84_1) (CTp_ok 5) T_84_ok (drT_ok (CTp_ok 5) T_84_ok) lpi_84_1_ok g_84_1 rfl rfl (fun v h => by have hh : (.exit 0 : AX) = .pan v := h; cases hh) (fun v h => by have hh : (.ret : AX) = .pan v := h; cases hh) fuel
noncomputable def lp_84 {β : Type} : LpT β := fun k s K => if Nat.beq k 1 then lpOneP (LD_84_1.lay []) EX_84_1 165 29 R_84_1 s K else none
theorem lp_84_ok {β : Type} : LpTOk (CTp 5) (lp_84 (β := β)) (loopsOf c_84) := by
  have h : loopsOf c_84 = [(1, l_84_1)] := by kernel_rfl
  rw [h]
  exact LpTOk.cons (fun s K z h => lpOneP_ok r_84_1 h) (LpTOk.nil)
noncomputable def F_84 (b0 : Ty.El (.list I) × Unit) (b1 : Ty.El tScene × Unit) (b2 : Unit × Unit) (b3 : Unit × Unit) (b4 : Ty.El tVec × Unit) (b5 : List (Ty.El tThing)) (b6 : List (Ty.El I × Ty.El I)) : Option (OUT_84.El ⊕ Int) :=
  (R_84_1 (((), (), (), (), b0.fst, (↑(List.length b0.fst) : Int), (0 : Int), ()), (b0.fst, ()), (b1.fst, ()), ((), ()), ((), ()), (b4.fst, ()), b5, b6, ())).bind fun v1 =>
    Sum.elim
      (fun v2 =>
        Sum.elim
          (fun v3 =>
            Option.some
              (Sum.inl
                ((), (v3.snd.fst.fst, ()), (v3.snd.snd.fst.fst, ()), ((), ()), ((), ()), (v3.snd.snd.snd.snd.snd.fst.fst, ()), v3.snd.snd.snd.snd.snd.snd.fst,
                  v3.snd.snd.snd.snd.snd.snd.snd.fst, ())))
          (fun v4 => Option.none) v2)
      (fun v5 => Option.some (Sum.inr v5)) v1
theorem f_84 (x : IN_84.El) : funcXP (CTp 5) T_84 165 IN_84 OUT_84 [] (drT (CTp 5) T_84) lp_84 Try.f84 c_84 x = F_84 x.2.1 x.2.2.1 x.2.2.2.1 x.2.2.2.2.1 x.2.2.2.2.2.1 x.2.2.2.2.2.2.1 x.2.2.2.2.2.2.2.1 := by kernel_rfl
noncomputable def E_84 : Ent := .mkGenP 84 [] ⟨165, 5, [], IN_84, OUT_84, fun x => F_84 x.2.1 x.2.2.1 x.2.2.2.1 x.2.2.2.2.1 x.2.2.2.2.2.1 x.2.2.2.2.2.2.1 x.2.2.2.2.2.2.2.1⟩
theorem e_84 : E_84.Ok CT.P := Ent.ofGenP (C := (CTp 5)) (steps := []) (osteps := []) (CTp_ok 5) T_84_ok hf_84 hb_84 lp_84_ok f_84
end Go.DI.S

/-! The program's functions, told by functions on data. -/
set_option linter.unusedVariables false
set_option maxRecDepth 100000
set_option maxHeartbeats 0
namespace Go.DI.S
open Go.Proofs
noncomputable abbrev IN_83 : LayD := ⟨1, [(0, .cloP 84 [0, 1, 2, 3, 4])], [.var 30 [.data (.list I)], .var 36 [.data tScene], .var 34 [.own tThing 5], .var 121 [.map 6], .var 25 [.data tVec], .row 32 tThing, .tmap I I], fun s => [slotFk s 0 0, slotFk s 0 1, slotFk s 0 2, slotFk s 0 3, slotFk s 0 4, slotH s (slotFk s 0 2) 0, slotH s (slotFk s 0 3) 0]⟩
noncomputable abbrev OUT_83 : LayD := ⟨1, [(0, .data I)], [.var 30 [.data (.list I)], .var 36 [.data tScene], .var 34 [.own tThing 5], .var 121 [.map 6], .var 25 [.data tVec], .row 32 tThing, .tmap I I], fun s => [0, 1, 2, 3, 4, slotH s 2 0, slotH s 3 0]⟩
noncomputable def F_83 (b0 : Ty.El (.list I) × Unit) (b1 : Ty.El tScene × Unit) (b2 : Unit × Unit) (b3 : Unit × Unit) (b4 : Ty.El tVec × Unit) (b5 : List (Ty.El tThing)) (b6 : List (Ty.El I × Ty.El I)) : Option (OUT_83.El ⊕ Int) :=
  (F_84 b0 b1 b2 b3 b4 b5 b6).bind fun y => Sum.elim (fun y => some (.inl ((0, ()), y.2))) (fun e => some (.inr e)) y
noncomputable def E_83 : Ent := .mkTry 83 [84] ⟨5, [], IN_83, OUT_83, fun x => F_83 x.2.1 x.2.2.1 x.2.2.2.1 x.2.2.2.2.1 x.2.2.2.2.2.1 x.2.2.2.2.2.2.1 x.2.2.2.2.2.2.2.1⟩
theorem ge_84 : GenPE.Ok CT.P 84 ⟨165, 5, [], IN_84, OUT_84, fun x => F_84 x.2.1 x.2.2.1 x.2.2.2.1 x.2.2.2.2.1 x.2.2.2.2.2.1 x.2.2.2.2.2.2.1 x.2.2.2.2.2.2.2.1⟩ :=
  funcXP_ok (C := CTp 5) (osteps := []) (CTp_ok 5) T_84_ok (drT_ok (CTp_ok 5) T_84_ok) hf_84 hb_84 lp_84_ok f_84
theorem e_83 : E_83.Ok CT.P := Ent.mkTry_ok (by
  refine tryE_84 (is := [0, 1, 2, 3, 4]) (F2 := fun x => F_83 x.2.1 x.2.2.1 x.2.2.2.1 x.2.2.2.2.1 x.2.2.2.2.2.1 x.2.2.2.2.2.2.1 x.2.2.2.2.2.2.2.1) (fun x b => rfl) ((), (), (), (), (), ()) (fun x y h => ?_) (fun x e h => ?_) ge_84
  · have h : F_83 x.2.1 x.2.2.1 x.2.2.2.1 x.2.2.2.2.1 x.2.2.2.2.2.1 x.2.2.2.2.2.2.1 x.2.2.2.2.2.2.2.1 = some (.inl y) := h
    unfold F_83 at h
    obtain ⟨z, hz, h⟩ := Option.bind_eq_some_iff.1 h
    cases z with
    | inl z => cases h; exact ⟨hz, rfl⟩
    | inr e => cases h
  · have h : F_83 x.2.1 x.2.2.1 x.2.2.2.1 x.2.2.2.2.1 x.2.2.2.2.2.1 x.2.2.2.2.2.2.1 x.2.2.2.2.2.2.2.1 = some (.inr e) := h
    unfold F_83 at h
    obtain ⟨z, hz, h⟩ := Option.bind_eq_some_iff.1 h
    cases z with
    | inl z => cases h
    | inr e => cases h; exact hz)
/-! ### 42: maquette/kin.Copy -/
noncomputable def c_42 : Code := Try.f42.body.getD .skip
theorem hb_42 : Try.f42.body = some c_42 := by kernel_rfl
theorem hf_42 : CT.P.funcs[42]? = some Try.f42 := by kernel_rfl
noncomputable def T_42 : Tb := mkTb tyT mpT [E_20, E_23h, E_37o, E_81, E_82, E_83]
theorem T_42_ok : T_42.Ok CT.P := mkTb_ok (⟨e_20, e_23, e_37o, e_81, e_82, e_83, trivial⟩)
noncomputable def l_42_14 : Code := atLoop c_42 14
noncomputable abbrev LD_42_14 : LayD := ⟨97, [(1, .data I), (3, .ptr 0), (5, .ptr 1), (6, .ptr 2), (11, .ptr 3), (12, .ptr 5), (62, .own I 4), (63, .data I), (64, .data I)], [.var 36 [.data tScene], .var 25 [.data tVec], .var 36 [.data tScene], .var 30 [.own I 4], .row 3 I, .var 121 [.map 6], .tmap I I], fun s => [slotR s 3, slotR s 5, slotR s 6, slotR s 11, slotC s 11 0, slotR s 12, slotC s 12 0]⟩
noncomputable abbrev LA_42_14 : LayD := ⟨97, [(1, .data I), (3, .ptr 0), (5, .ptr 1), (6, .ptr 2), (11, .ptr 3), (12, .ptr 4)], [.var 36 [.data tScene], .var 25 [.data tVec], .var 36 [.data tScene], .var 30 [.data (.list I)], .var 121 [.map 5], .tmap I I], fun s => [slotR s 3, slotR s 5, slotR s 6, slotR s 11, slotR s 12, slotC s 12 0]⟩
noncomputable abbrev LB_42_14 : LayD := ⟨97, [], [], fun _ => []⟩
noncomputable def EX_42_14 : Exits 0 LA_42_14.El LB_42_14.El := ⟨.exit 1, LA_42_14.lay [.frzCell 11 0 (.list I)], .ret, LB_42_14.lay []⟩

noncomputable def lpi_42_14 {β : Type} : LpT β := fun _ _ _ => none
theorem lpi_42_14_ok {β : Type} : LpTOk CT (lpi_42_14 (β := β)) (loopsOf l_42_14) := by
  have h : loopsOf l_42_14 = [] := by kernel_rfl
  rw [h]
  exact LpTOk.nil
noncomputable def G_42_14 (r1 : Ty.El I) (r63 : Ty.El I) (r64 : Ty.El I) (b0 : Ty.El tScene × Unit) (b1 : Ty.El tVec × Unit) (b2 : Ty.El tScene × Unit) (b3 : Unit × Unit) (b4 : List (Ty.El I)) (b5 : Unit × Unit) (b6 : List (Ty.El I × Ty.El (I))) : Option (LD_42_14.El ⊕ (LA_42_14.El ⊕ LB_42_14.El)) :=
  bif Decidable.decide (r64 < r63) then
    bif Decidable.decide ((0 : Int) ≤ r64 ∧ r64 < (↑b4.length : Int)) then
      Option.some
        (Sum.inl
          ((r1, (), (), (), (), (), (), r63, Go.IntKind.i64.wrap (r64 + (1 : Int)), ()), (b0.fst, ()), (b1.fst, ()), (b2.fst, ()), ((), ()), b4, ((), ()),
            Go.DI.tput Go.DI.S.I Go.DI.S.I (b4.getD (Int.toNat r64) (0 : Int)) (Go.IntKind.i64.wrap (b0.fst.snd.fst + r64)) b6, ()))
    else Option.none
  else Option.some (Sum.inr (Sum.inl ((r1, (), (), (), (), (), ()), (b0.fst, ()), (b1.fst, ()), (b2.fst, ()), (b4, ()), ((), ()), b6, ())))
theorem g_42_14 (x : LD_42_14.El) : codeT CT T_42 (drT CT T_42) lpi_42_14 l_42_14 (LD_42_14.enc x) (bodyK (LD_42_14.lay []) EX_42_14) = G_42_14 x.1.1 x.1.2.2.2.2.2.2.2.1 x.1.2.2.2.2.2.2.2.2.1 x.2.1 x.2.2.1 x.2.2.2.1 x.2.2.2.2.1 x.2.2.2.2.2.1 x.2.2.2.2.2.2.1 x.2.2.2.2.2.2.2.1 := by kernel_rfl
noncomputable def R_42_14 : LD_42_14.El → Option (LA_42_14.El ⊕ LB_42_14.El) := roundsT (fun x => G_42_14 x.1.1 x.1.2.2.2.2.2.2.2.1 x.1.2.2.2.2.2.2.2.2.1 x.2.1 x.2.2.1 x.2.2.2.1 x.2.2.2.2.1 x.2.2.2.2.2.1 x.2.2.2.2.2.2.1 x.2.2.2.2.2.2.2.1) fuel
theorem r_42_14 : ∀ x y, R_42_14 x = some y → CL CT l_42_14 (LD_42_14.enc x) (Sum.elim (fun _ => EX_42_14.xa) (fun _ => EX_42_14.xb) y) (Sum.elim EX_42_14.la.enc EX_42_14.lb.enc y) :=
  rounds_ok (L := LD_42_14.lay []) (E := EX_42_14) CT_ok T_42_ok (drT_ok CT_ok T_42_ok) lpi_42_14_ok g_42_14 rfl rfl (fun v h => by have hh : (.exit 1 : AX) = .pan v := h; cases hh) (fun v h => by have hh : (.ret : AX) = .pan v := h; cases hh) fuel
noncomputable def lp_42 {β : Type} : LpT β := fun k s K => if Nat.beq k 14 then lpOne (LD_42_14.lay []) EX_42_14 R_42_14 s K else none
theorem lp_42_ok {β : Type} : LpTOk CT (lp_42 (β := β)) (loopsOf c_42) := by
  have h : loopsOf c_42 = [(14, l_42_14)] := by kernel_rfl
  rw [h]
  exact LpTOk.cons (fun s K z h => lpOne_ok r_42_14 h) (LpTOk.nil)
noncomputable def F_42 (a1 : Ty.El tScene) (a2 : Ty.El I) (a3 : Ty.El tVec) : Option (Els [tScene, I, I]) :=
  (F_23 a1 a2).bind fun v2 =>
    (F_20 a1).bind fun v4 =>
      bif !v4.fst then Option.some ((((0 : Int), (0 : Int)), (0 : Int), []), (0 : Int), (9 : Int), ())
      else
        bif !v2.snd.fst then Option.some ((((0 : Int), (0 : Int)), (0 : Int), []), (0 : Int), (10 : Int), ())
        else
          bif v2.fst.snd.fst == (2 : Int) then Option.some ((((0 : Int), (0 : Int)), (0 : Int), []), (0 : Int), (9 : Int), ())
          else
            (F_37o a1 a2).bind fun v6 =>
              (F_81 a1 v6).bind fun v8 =>
                bif ((v6.length + v8.length) * (8 : Nat)).ble (70368744177664 : Nat) then
                  bif Decidable.decide (Go.IntKind.i64.wrap ((↑(List.length a1.snd.snd) : Int) + (↑(v6 ++ v8).length : Int)) > (40 : Int)) then
                    Option.some ((((0 : Int), (0 : Int)), (0 : Int), []), (0 : Int), (12 : Int), ())
                  else
                    bif Decidable.decide (Go.IntKind.i64.wrap (a1.snd.fst + (↑(v6 ++ v8).length : Int)) > (1000001 : Int)) then
                      Option.some ((((0 : Int), (0 : Int)), (0 : Int), []), (0 : Int), (12 : Int), ())
                    else
                      (R_42_14
                            ((a2, (), (), (), (), (), (), (↑(v6 ++ v8).length : Int), (0 : Int), ()), (a1, ()), (a3, ()), ((((0 : Int), (0 : Int)), (0 : Int), []), ()), ((), ()),
                              v6 ++ v8, ((), ()), [], ())).bind
                        fun v46 =>
                        Sum.elim
                          (fun v47 =>
                            (F_82 v47.snd.fst.fst.snd.snd).bind fun v49 =>
                              (F_83 (v47.snd.snd.snd.snd.fst.fst, ()) (v47.snd.fst.fst, ()) ((), ()) ((), ()) (v47.snd.snd.fst.fst, ()) v49 v47.snd.snd.snd.snd.snd.snd.fst).bind
                                fun v51 =>
                                Sum.elim
                                  (fun v53 =>
                                    bif v53.fst.fst != (0 : Int) then Option.some ((((0 : Int), (0 : Int)), (0 : Int), []), (0 : Int), v53.fst.fst, ())
                                    else
                                      Option.some
                                        ((v53.snd.snd.fst.fst.fst, Go.IntKind.i64.wrap (v53.snd.snd.fst.fst.snd.fst + (↑(List.length v53.snd.fst.fst) : Int)),
                                            v53.snd.snd.snd.snd.snd.snd.fst),
                                          (Go.DI.tget Go.DI.S.I Go.DI.S.I v47.fst.fst v53.snd.snd.snd.snd.snd.snd.snd.fst).getD (0 : Int), (0 : Int), ()))
                                  (fun v68 => bif v68 != (0 : Int) then Option.some ((((0 : Int), (0 : Int)), (0 : Int), []), (0 : Int), v68, ()) else Option.none) v51)
                          (fun v69 => Option.none) v46
                else Option.none
theorem f_42 (x : Ps [.ty tScene, .ty I, .ty tVec]) : funcT CT T_42 [tScene, I, I] (drT CT T_42) lp_42 Try.f42 c_42 (encPs [.ty tScene, .ty I, .ty tVec] x) = F_42 x.1 x.2.1 x.2.2.1 := by kernel_rfl
noncomputable def E_42 : Ent := .fn 42 [] ⟨[.ty tScene, .ty I, .ty tVec], [tScene, I, I], fun x => F_42 x.1 x.2.1 x.2.2.1, false⟩
theorem e_42 : E_42.Ok CT.P := Ent.ofFn CT_ok T_42_ok hf_42 hb_42 lp_42_ok f_42
noncomputable def E_42h : Ent := .fn 42 [] ⟨[.ty tScene, .ty I, .ty tVec], [tScene, I, I], fun x => F_42 x.1 x.2.1 x.2.2.1, true⟩
/-! ### 13: maquette/maquettelaw20.KinRight -/
noncomputable def c_13 : Code := Try.f13.body.getD .skip
theorem hb_13 : Try.f13.body = some c_13 := by kernel_rfl
theorem hf_13 : CT.P.funcs[13]? = some Try.f13 := by kernel_rfl
noncomputable def T_13 : Tb := mkTb tyT mpT [E_20, E_22, E_23h, E_36, E_37, E_38, E_39, E_41w, E_42, E_43]
theorem T_13_ok : T_13.Ok CT.P := mkTb_ok (⟨e_20, e_22, e_23, e_36, e_37, e_38, e_39, e_41w, e_42, e_43, trivial⟩)
noncomputable def l_13_20 : Code := atLoop c_13 20
noncomputable abbrev LD_13_20 : LayD := ⟨191, [(1, .data I), (6, .ptr 0), (24, .ptr 1), (163, .data (.list I)), (164, .data I), (165, .data I)], [.var 25 [.data tVec], .var 36 [.data tScene]], fun s => [slotR s 6, slotR s 24]⟩
noncomputable abbrev LA_13_20 : LayD := ⟨191, [(1, .data I), (6, .ptr 0), (24, .ptr 1)], [.var 25 [.data tVec], .var 36 [.data tScene]], fun s => [slotR s 6, slotR s 24]⟩
noncomputable abbrev LB_13_20 : LayD := ⟨191, [(12, .data .bool)], [], fun _ => []⟩
noncomputable def EX_13_20 : Exits 0 LA_13_20.El LB_13_20.El := ⟨.exit 0, LA_13_20.lay [], .ret, LB_13_20.lay []⟩

noncomputable def lpi_13_20 {β : Type} : LpT β := fun _ _ _ => none
theorem lpi_13_20_ok {β : Type} : LpTOk CT (lpi_13_20 (β := β)) (loopsOf l_13_20) := by
  have h : loopsOf l_13_20 = [] := by kernel_rfl
  rw [h]
  exact LpTOk.nil
noncomputable def G_13_20 (r1 : Ty.El I) (r163 : Ty.El (.list I)) (r164 : Ty.El I) (r165 : Ty.El I) (b0 : Ty.El tVec × Unit) (b1 : Ty.El tScene × Unit) : Option (LD_13_20.El ⊕ (LA_13_20.El ⊕ LB_13_20.El)) :=
  bif Decidable.decide (r165 < r164) then
    bif Decidable.decide ((0 : Int) ≤ r165 ∧ r165 < (↑(List.length r163) : Int)) then
      (F_23 b1.fst (List.getD r163 (Int.toNat r165) (0 : Int))).bind fun v2 =>
        bif v2.snd.fst then Option.some (Sum.inr (Sum.inr ((Bool.false, ()), ())))
        else Option.some (Sum.inl ((r1, (), (), r163, r164, Go.IntKind.i64.wrap (r165 + (1 : Int)), ()), (b0.fst, ()), (b1.fst, ()), ()))
    else Option.none
  else Option.some (Sum.inr (Sum.inl ((r1, (), (), ()), (b0.fst, ()), (b1.fst, ()), ())))
theorem g_13_20 (x : LD_13_20.El) : codeT CT T_13 (drT CT T_13) lpi_13_20 l_13_20 (LD_13_20.enc x) (bodyK (LD_13_20.lay []) EX_13_20) = G_13_20 x.1.1 x.1.2.2.2.1 x.1.2.2.2.2.1 x.1.2.2.2.2.2.1 x.2.1 x.2.2.1 := by kernel_rfl
noncomputable def R_13_20 : LD_13_20.El → Option (LA_13_20.El ⊕ LB_13_20.El) := roundsT (fun x => G_13_20 x.1.1 x.1.2.2.2.1 x.1.2.2.2.2.1 x.1.2.2.2.2.2.1 x.2.1 x.2.2.1) fuel
theorem r_13_20 : ∀ x y, R_13_20 x = some y → CL CT l_13_20 (LD_13_20.enc x) (Sum.elim (fun _ => EX_13_20.xa) (fun _ => EX_13_20.xb) y) (Sum.elim EX_13_20.la.enc EX_13_20.lb.enc y) :=
  rounds_ok (L := LD_13_20.lay []) (E := EX_13_20) CT_ok T_13_ok (drT_ok CT_ok T_13_ok) lpi_13_20_ok g_13_20 rfl rfl (fun v h => by have hh : (.exit 0 : AX) = .pan v := h; cases hh) (fun v h => by have hh : (.ret : AX) = .pan v := h; cases hh) fuel
noncomputable def lp_13 {β : Type} : LpT β := fun k s K => if Nat.beq k 20 then lpOne (LD_13_20.lay []) EX_13_20 R_13_20 s K else none
theorem lp_13_ok {β : Type} : LpTOk CT (lp_13 (β := β)) (loopsOf c_13) := by
  have h : loopsOf c_13 = [(20, l_13_20)] := by kernel_rfl
  rw [h]
  exact LpTOk.cons (fun s K z h => lpOne_ok r_13_20 h) (LpTOk.nil)
noncomputable def F_13 (a1 : Ty.El tVec) (a2 : Ty.El I) (a3 : Ty.El (.list tThing)) (a4 : Ty.El I) (a5 : Ty.El (.list I)) (a6 : Ty.El tVec) : Option (Els [.bool]) :=
  (F_22 a3).bind fun v2 =>
    bif !v2.fst then F_36.bind fun v4 => Option.some (v4.fst, ())
    else
      bif Decidable.decide ((↑(List.length a5) : Int) > (12 : Int)) then F_36.bind fun v6 => Option.some (v6.fst, ())
      else
        (F_20 (a1, a2, a3)).bind fun v8 =>
          bif !v8.fst then F_36.bind fun v10 => Option.some (v10.fst, ())
          else
            F_36.bind fun v12 =>
              bif !v12.fst then F_36.bind fun v14 => Option.some (v14.fst, ())
              else
                (F_41w (a1, a2, a3) a5).bind fun v16 =>
                  bif v16.snd.snd.fst == (0 : Int) then
                    (F_20 v16.fst).bind fun v18 =>
                      bif !v18.fst then Option.some (Bool.false, ())
                      else
                        bif v16.snd.fst != a2 then Option.some (Bool.false, ())
                        else
                          bif (↑(List.length v16.fst.snd.snd) : Int) != Go.IntKind.i64.wrap ((↑(List.length a3) : Int) + (1 : Int)) then Option.some (Bool.false, ())
                          else
                            bif v16.fst.snd.fst != Go.IntKind.i64.wrap (a2 + (1 : Int)) then Option.some (Bool.false, ())
                            else
                              (F_42 (a1, a2, a3) a4 a6).bind fun v20 =>
                                bif v20.snd.snd.fst == (0 : Int) then
                                  (F_20 v20.fst).bind fun v22 =>
                                    bif !v22.fst then Option.some (Bool.false, ())
                                    else
                                      bif Decidable.decide (v20.snd.fst < a2) then Option.some (Bool.false, ())
                                      else
                                        (F_37 v20.fst v20.snd.fst).bind fun v24 =>
                                          (F_37 (a1, a2, a3) a4).bind fun v26 =>
                                            bif (↑(List.length v24.fst) : Int) != (↑(List.length v26.fst) : Int) then Option.some (Bool.false, ())
                                            else
                                              (F_38 v20.fst v20.snd.fst).bind fun v28 =>
                                                bif v28.fst != (0 : Int) then Option.some (Bool.false, ())
                                                else
                                                  (F_43 (a1, a2, a3) a4).bind fun v30 =>
                                                    (F_43 v20.fst v20.snd.fst).bind fun v32 =>
                                                      bif (↑(List.length v30.fst) : Int) != (↑(List.length v32.fst) : Int) then Option.some (Bool.false, ())
                                                      else
                                                        (F_39 (a1, a2, a3) a4).bind fun v34 =>
                                                          bif v34.snd.fst != (0 : Int) then
                                                            (F_23 (a1, a2, a3) a4).bind fun v36 =>
                                                              bif !v36.snd.fst then Option.some (v34.snd.fst == (10 : Int), ()) else Option.some (Bool.false, ())
                                                          else
                                                            (F_37 (a1, a2, a3) a4).bind fun v38 =>
                                                              (R_13_20 ((a2, (), (), v38.fst, (↑(List.length v38.fst) : Int), (0 : Int), ()), (a1, ()), (v34.fst, ()), ())).bind
                                                                fun v39 =>
                                                                Sum.elim
                                                                  (fun v40 =>
                                                                    (F_20 v40.snd.snd.fst.fst).bind fun v42 =>
                                                                      bif v42.fst then
                                                                        bif v40.snd.snd.fst.fst.snd.fst == v40.fst.fst then
                                                                          Option.some
                                                                            (v40.snd.snd.fst.fst.fst.fst == v40.snd.fst.fst.fst &&
                                                                                (v40.snd.snd.fst.fst.fst.snd == v40.snd.fst.fst.snd && Bool.true),
                                                                              ())
                                                                        else Option.some (Bool.false, ())
                                                                      else Option.some (Bool.false, ()))
                                                                  (fun v43 => Option.some (v43.fst.fst, ())) v39
                                else
                                  (F_39 (a1, a2, a3) a4).bind fun v45 =>
                                    bif v45.snd.fst != (0 : Int) then
                                      (F_23 (a1, a2, a3) a4).bind fun v47 => bif !v47.snd.fst then Option.some (v45.snd.fst == (10 : Int), ()) else Option.some (Bool.false, ())
                                    else
                                      (F_37 (a1, a2, a3) a4).bind fun v49 =>
                                        (R_13_20 ((a2, (), (), v49.fst, (↑(List.length v49.fst) : Int), (0 : Int), ()), (a1, ()), (v45.fst, ()), ())).bind fun v50 =>
                                          Sum.elim
                                            (fun v51 =>
                                              (F_20 v51.snd.snd.fst.fst).bind fun v53 =>
                                                bif v53.fst then
                                                  bif v51.snd.snd.fst.fst.snd.fst == v51.fst.fst then
                                                    Option.some
                                                      (v51.snd.snd.fst.fst.fst.fst == v51.snd.fst.fst.fst && (v51.snd.snd.fst.fst.fst.snd == v51.snd.fst.fst.snd && Bool.true), ())
                                                  else Option.some (Bool.false, ())
                                                else Option.some (Bool.false, ()))
                                            (fun v54 => Option.some (v54.fst.fst, ())) v50
                  else
                    (F_42 (a1, a2, a3) a4 a6).bind fun v56 =>
                      bif v56.snd.snd.fst == (0 : Int) then
                        (F_20 v56.fst).bind fun v58 =>
                          bif !v58.fst then Option.some (Bool.false, ())
                          else
                            bif Decidable.decide (v56.snd.fst < a2) then Option.some (Bool.false, ())
                            else
                              (F_37 v56.fst v56.snd.fst).bind fun v60 =>
                                (F_37 (a1, a2, a3) a4).bind fun v62 =>
                                  bif (↑(List.length v60.fst) : Int) != (↑(List.length v62.fst) : Int) then Option.some (Bool.false, ())
                                  else
                                    (F_38 v56.fst v56.snd.fst).bind fun v64 =>
                                      bif v64.fst != (0 : Int) then Option.some (Bool.false, ())
                                      else
                                        (F_43 (a1, a2, a3) a4).bind fun v66 =>
                                          (F_43 v56.fst v56.snd.fst).bind fun v68 =>
                                            bif (↑(List.length v66.fst) : Int) != (↑(List.length v68.fst) : Int) then Option.some (Bool.false, ())
                                            else
                                              (F_39 (a1, a2, a3) a4).bind fun v70 =>
                                                bif v70.snd.fst != (0 : Int) then
                                                  (F_23 (a1, a2, a3) a4).bind fun v72 =>
                                                    bif !v72.snd.fst then Option.some (v70.snd.fst == (10 : Int), ()) else Option.some (Bool.false, ())
                                                else
                                                  (F_37 (a1, a2, a3) a4).bind fun v74 =>
                                                    (R_13_20 ((a2, (), (), v74.fst, (↑(List.length v74.fst) : Int), (0 : Int), ()), (a1, ()), (v70.fst, ()), ())).bind fun v75 =>
                                                      Sum.elim
                                                        (fun v76 =>
                                                          (F_20 v76.snd.snd.fst.fst).bind fun v78 =>
                                                            bif v78.fst then
                                                              bif v76.snd.snd.fst.fst.snd.fst == v76.fst.fst then
                                                                Option.some
                                                                  (v76.snd.snd.fst.fst.fst.fst == v76.snd.fst.fst.fst &&
                                                                      (v76.snd.snd.fst.fst.fst.snd == v76.snd.fst.fst.snd && Bool.true),
                                                                    ())
                                                              else Option.some (Bool.false, ())
                                                            else Option.some (Bool.false, ()))
                                                        (fun v79 => Option.some (v79.fst.fst, ())) v75
                      else
                        (F_39 (a1, a2, a3) a4).bind fun v81 =>
                          bif v81.snd.fst != (0 : Int) then
                            (F_23 (a1, a2, a3) a4).bind fun v83 => bif !v83.snd.fst then Option.some (v81.snd.fst == (10 : Int), ()) else Option.some (Bool.false, ())
                          else
                            (F_37 (a1, a2, a3) a4).bind fun v85 =>
                              (R_13_20 ((a2, (), (), v85.fst, (↑(List.length v85.fst) : Int), (0 : Int), ()), (a1, ()), (v81.fst, ()), ())).bind fun v86 =>
                                Sum.elim
                                  (fun v87 =>
                                    (F_20 v87.snd.snd.fst.fst).bind fun v89 =>
                                      bif v89.fst then
                                        bif v87.snd.snd.fst.fst.snd.fst == v87.fst.fst then
                                          Option.some (v87.snd.snd.fst.fst.fst.fst == v87.snd.fst.fst.fst && (v87.snd.snd.fst.fst.fst.snd == v87.snd.fst.fst.snd && Bool.true), ())
                                        else Option.some (Bool.false, ())
                                      else Option.some (Bool.false, ()))
                                  (fun v90 => Option.some (v90.fst.fst, ())) v86
theorem f_13 (x : Ps [.ty tVec, .ty I, .ty (.list tThing), .ty I, .ty (.list I), .ty tVec]) : funcT CT T_13 [.bool] (drT CT T_13) lp_13 Try.f13 c_13 (encPs [.ty tVec, .ty I, .ty (.list tThing), .ty I, .ty (.list I), .ty tVec] x) = F_13 x.1 x.2.1 x.2.2.1 x.2.2.2.1 x.2.2.2.2.1 x.2.2.2.2.2.1 := by kernel_rfl
noncomputable def E_13 : Ent := .fn 13 [] ⟨[.ty tVec, .ty I, .ty (.list tThing), .ty I, .ty (.list I), .ty tVec], [.bool], fun x => F_13 x.1 x.2.1 x.2.2.1 x.2.2.2.1 x.2.2.2.2.1 x.2.2.2.2.2.1, false⟩
theorem e_13 : E_13.Ok CT.P := Ent.ofFn CT_ok T_13_ok hf_13 hb_13 lp_13_ok f_13
noncomputable def E_13h : Ent := .fn 13 [] ⟨[.ty tVec, .ty I, .ty (.list tThing), .ty I, .ty (.list I), .ty tVec], [.bool], fun x => F_13 x.1 x.2.1 x.2.2.1 x.2.2.2.1 x.2.2.2.2.1 x.2.2.2.2.2.1, true⟩
/-! ### 15: maquette/maquettelaw20.KinCopies -/
noncomputable def c_15 : Code := Try.f15.body.getD .skip
theorem hb_15 : Try.f15.body = some c_15 := by kernel_rfl
theorem hf_15 : CT.P.funcs[15]? = some Try.f15 := by kernel_rfl
noncomputable def T_15 : Tb := mkTb tyT mpT [E_17, E_36, E_41w, E_42, E_23]
theorem T_15_ok : T_15.Ok CT.P := mkTb_ok (⟨e_17, e_36, e_41w, e_42, e_23, trivial⟩)
noncomputable def l_15_21 : Code := atLoop c_15 21
noncomputable def l_15_11 : Code := atLoop c_15 11
noncomputable def l_15_6 : Code := atLoop c_15 6
noncomputable abbrev LD_15_6 : LayD := ⟨200, [(0, .data I), (1, .data I), (2, .data I), (7, .ptr 0), (8, .own I 2), (9, .data I)], [.var 36 [.data tVec, .data I, .own tThing 1], .row 32 tThing, .row 3 I], fun s => [slotR s 7, slotC s 7 3, slotR s 8]⟩
noncomputable abbrev LA_15_6 : LayD := ⟨200, [(0, .data I), (1, .data I), (2, .data I), (7, .ptr 0), (8, .own I 2)], [.var 36 [.data tVec, .data I, .own tThing 1], .row 32 tThing, .row 3 I], fun s => [slotR s 7, slotC s 7 3, slotR s 8]⟩
noncomputable abbrev LB_15_6 : LayD := ⟨200, [], [], fun _ => []⟩
noncomputable def EX_15_6 : Exits 0 LA_15_6.El LB_15_6.El := ⟨.exit 0, LA_15_6.lay [.nilCell 7 3 32 tThing, .nilReg 8 3 I], .ret, LB_15_6.lay []⟩

noncomputable def lpi_15_6 {β : Type} : LpT β := fun _ _ _ => none
theorem lpi_15_6_ok {β : Type} : LpTOk CT (lpi_15_6 (β := β)) (loopsOf l_15_6) := by
  have h : loopsOf l_15_6 = [] := by kernel_rfl
  rw [h]
  exact LpTOk.nil
noncomputable def G_15_6 (r0 : Ty.El I) (r1 : Ty.El I) (r2 : Ty.El I) (r9 : Ty.El I) (b0 : Ty.El tVec × Ty.El I × Unit × Unit) (b1 : List (Ty.El tThing)) (b2 : List (Ty.El I)) : Option (LD_15_6.El ⊕ (LA_15_6.El ⊕ LB_15_6.El)) :=
  bif Decidable.decide (r9 ≤ r2) then
    (F_17 r9 (Go.IntKind.i64.wrap (r9 * (4294967296 : Int))) (0 : Int) (4294967296 : Int)).bind fun v2 =>
      bif ((b1.length + [v2.fst].length) * (128 : Nat)).ble (70368744177664 : Nat) then
        bif ((b2.length + [r9].length) * (8 : Nat)).ble (70368744177664 : Nat) then
          Option.some (Sum.inl ((r0, r1, r2, (), (), Go.IntKind.i64.wrap (r9 + (1 : Int)), ()), (b0.fst, b0.snd.fst, (), ()), b1 ++ [v2.fst], b2 ++ [r9], ()))
        else Option.none
      else Option.none
  else Option.some (Sum.inr (Sum.inl ((r0, r1, r2, (), (), ()), (b0.fst, b0.snd.fst, (), ()), b1, b2, ())))
theorem g_15_6 (x : LD_15_6.El) : codeT CT T_15 (drT CT T_15) lpi_15_6 l_15_6 (LD_15_6.enc x) (bodyK (LD_15_6.lay [.nilCell 7 3 32 tThing, .nilReg 8 3 I]) EX_15_6) = G_15_6 x.1.1 x.1.2.1 x.1.2.2.1 x.1.2.2.2.2.2.1 x.2.1 x.2.2.1 x.2.2.2.1 := by kernel_rfl
noncomputable def R_15_6 : LD_15_6.El → Option (LA_15_6.El ⊕ LB_15_6.El) := roundsT (fun x => G_15_6 x.1.1 x.1.2.1 x.1.2.2.1 x.1.2.2.2.2.2.1 x.2.1 x.2.2.1 x.2.2.2.1) fuel
theorem r_15_6 : ∀ x y, R_15_6 x = some y → CL CT l_15_6 (LD_15_6.enc x) (Sum.elim (fun _ => EX_15_6.xa) (fun _ => EX_15_6.xb) y) (Sum.elim EX_15_6.la.enc EX_15_6.lb.enc y) :=
  rounds_ok (L := LD_15_6.lay [.nilCell 7 3 32 tThing, .nilReg 8 3 I]) (E := EX_15_6) CT_ok T_15_ok (drT_ok CT_ok T_15_ok) lpi_15_6_ok g_15_6 rfl rfl (fun v h => by have hh : (.exit 0 : AX) = .pan v := h; cases hh) (fun v h => by have hh : (.ret : AX) = .pan v := h; cases hh) fuel
noncomputable abbrev LD_15_11 : LayD := ⟨200, [(0, .data I), (1, .data I), (2, .data I), (7, .ptr 0), (8, .own I 2), (10, .data I)], [.var 36 [.data tVec, .data I, .own tThing 1], .row 32 tThing, .row 3 I], fun s => [slotR s 7, slotC s 7 3, slotR s 8]⟩
noncomputable abbrev LA_15_11 : LayD := ⟨200, [(0, .data I), (1, .data I), (2, .data I), (7, .ptr 0), (8, .data (.list I))], [.var 36 [.data tScene]], fun s => [slotR s 7]⟩
noncomputable abbrev LB_15_11 : LayD := ⟨200, [], [], fun _ => []⟩
noncomputable def EX_15_11 : Exits 0 LA_15_11.El LB_15_11.El := ⟨.exit 2, LA_15_11.lay [.nilCell 7 3 32 tThing, .nilReg 8 3 I, .frzCell 7 3 (.list tThing), .frzReg 8 (.list I)], .ret, LB_15_11.lay []⟩

noncomputable def lpi_15_11 {β : Type} : LpT β := fun _ _ _ => none
theorem lpi_15_11_ok {β : Type} : LpTOk CT (lpi_15_11 (β := β)) (loopsOf l_15_11) := by
  have h : loopsOf l_15_11 = [] := by kernel_rfl
  rw [h]
  exact LpTOk.nil
noncomputable def G_15_11 (r0 : Ty.El I) (r1 : Ty.El I) (r2 : Ty.El I) (r10 : Ty.El I) (b0 : Ty.El tVec × Ty.El I × Unit × Unit) (b1 : List (Ty.El tThing)) (b2 : List (Ty.El I)) : Option (LD_15_11.El ⊕ (LA_15_11.El ⊕ LB_15_11.El)) :=
  bif Decidable.decide (r10 < r2) then
    bif
        ((b1.length +
                [(Go.IntKind.i64.wrap ((50 : Int) + r10), (2 : Int), ((0 : Int), ((0 : Int), (0 : Int)), (0 : Int), ((0 : Int), (0 : Int)), (0 : Int), (0 : Int)),
                      (r10, Go.IntKind.i64.wrap (r10 + (1 : Int)), Go.IntKind.i64.wrap (r10 * (4294967296 : Int))), ([] : List Int))].length) *
              (128 : Nat)).ble
          (70368744177664 : Nat) then
      Option.some
        (Sum.inl
          ((r0, r1, r2, (), (), Go.IntKind.i64.wrap (r10 + (1 : Int)), ()), (b0.fst, b0.snd.fst, (), ()),
            b1 ++
              [(Go.IntKind.i64.wrap ((50 : Int) + r10), (2 : Int), ((0 : Int), ((0 : Int), (0 : Int)), (0 : Int), ((0 : Int), (0 : Int)), (0 : Int), (0 : Int)),
                  (r10, Go.IntKind.i64.wrap (r10 + (1 : Int)), Go.IntKind.i64.wrap (r10 * (4294967296 : Int))), [])],
            b2, ()))
    else Option.none
  else Option.some (Sum.inr (Sum.inl ((r0, r1, r2, (), b2, ()), ((b0.fst, b0.snd.fst, b1), ()), ())))
theorem g_15_11 (x : LD_15_11.El) : codeT CT T_15 (drT CT T_15) lpi_15_11 l_15_11 (LD_15_11.enc x) (bodyK (LD_15_11.lay [.nilCell 7 3 32 tThing, .nilReg 8 3 I]) EX_15_11) = G_15_11 x.1.1 x.1.2.1 x.1.2.2.1 x.1.2.2.2.2.2.1 x.2.1 x.2.2.1 x.2.2.2.1 := by kernel_rfl
noncomputable def R_15_11 : LD_15_11.El → Option (LA_15_11.El ⊕ LB_15_11.El) := roundsT (fun x => G_15_11 x.1.1 x.1.2.1 x.1.2.2.1 x.1.2.2.2.2.2.1 x.2.1 x.2.2.1 x.2.2.2.1) fuel
theorem r_15_11 : ∀ x y, R_15_11 x = some y → CL CT l_15_11 (LD_15_11.enc x) (Sum.elim (fun _ => EX_15_11.xa) (fun _ => EX_15_11.xb) y) (Sum.elim EX_15_11.la.enc EX_15_11.lb.enc y) :=
  rounds_ok (L := LD_15_11.lay [.nilCell 7 3 32 tThing, .nilReg 8 3 I]) (E := EX_15_11) CT_ok T_15_ok (drT_ok CT_ok T_15_ok) lpi_15_11_ok g_15_11 rfl rfl (fun v h => by have hh : (.exit 2 : AX) = .pan v := h; cases hh) (fun v h => by have hh : (.ret : AX) = .pan v := h; cases hh) fuel
noncomputable abbrev LD_15_21 : LayD := ⟨200, [(0, .data I), (1, .data I), (2, .data I), (14, .ptr 0), (17, .data I)], [.var 36 [.data tScene]], fun s => [slotR s 14]⟩
noncomputable abbrev LA_15_21 : LayD := ⟨200, [], [], fun _ => []⟩
noncomputable abbrev LB_15_21 : LayD := ⟨200, [(6, .data .bool)], [], fun _ => []⟩
noncomputable def EX_15_21 : Exits 0 LA_15_21.El LB_15_21.El := ⟨.exit 4, LA_15_21.lay [], .ret, LB_15_21.lay []⟩

noncomputable def lpi_15_21 {β : Type} : LpT β := fun _ _ _ => none
theorem lpi_15_21_ok {β : Type} : LpTOk CT (lpi_15_21 (β := β)) (loopsOf l_15_21) := by
  have h : loopsOf l_15_21 = [] := by kernel_rfl
  rw [h]
  exact LpTOk.nil
noncomputable def G_15_21 (r0 : Ty.El I) (r1 : Ty.El I) (r2 : Ty.El I) (r17 : Ty.El I) (b0 : Ty.El tScene × Unit) : Option (LD_15_21.El ⊕ (LA_15_21.El ⊕ LB_15_21.El)) :=
  bif Decidable.decide (r17 < r2) then
    (F_23 b0.fst (Go.IntKind.i64.wrap ((101 : Int) + r17))).bind fun v2 =>
      bif !v2.snd.fst then Option.some (Sum.inr (Sum.inr ((Bool.false, ()), ())))
      else
        bif v2.fst.snd.snd.fst.snd.snd.snd.fst.fst != Go.IntKind.i64.wrap (Go.IntKind.i64.wrap (Go.IntKind.i64.wrap (r17 + (1 : Int)) + r0) * (4294967296 : Int)) then
          Option.some (Sum.inr (Sum.inr ((Bool.false, ()), ())))
        else
          bif v2.fst.snd.snd.fst.snd.snd.snd.fst.snd != Go.IntKind.i64.wrap (r1 * (4294967296 : Int)) then Option.some (Sum.inr (Sum.inr ((Bool.false, ()), ())))
          else
            bif v2.fst.snd.snd.fst.snd.snd.fst != (4294967296 : Int) then Option.some (Sum.inr (Sum.inr ((Bool.false, ()), ())))
            else
              bif r17 == (0 : Int) then Option.some (Sum.inl ((r0, r1, r2, (), Go.IntKind.i64.wrap (r17 + (1 : Int)), ()), (b0.fst, ()), ()))
              else
                (F_23 b0.fst (Go.IntKind.i64.wrap (Go.IntKind.i64.wrap ((101 : Int) + r2) + r17))).bind fun v4 =>
                  bif !v4.snd.fst then Option.some (Sum.inr (Sum.inr ((Bool.false, ()), ())))
                  else
                    bif v4.fst.snd.fst != (2 : Int) then Option.some (Sum.inr (Sum.inr ((Bool.false, ()), ())))
                    else
                      bif
                          !(v4.fst.snd.snd.snd.fst.fst == Go.IntKind.i64.wrap ((100 : Int) + r17) &&
                              (v4.fst.snd.snd.snd.fst.snd.fst == Go.IntKind.i64.wrap ((101 : Int) + r17) &&
                                (v4.fst.snd.snd.snd.fst.snd.snd == Go.IntKind.i64.wrap (r17 * (4294967296 : Int)) && Bool.true))) then
                        Option.some (Sum.inr (Sum.inr ((Bool.false, ()), ())))
                      else Option.some (Sum.inl ((r0, r1, r2, (), Go.IntKind.i64.wrap (r17 + (1 : Int)), ()), (b0.fst, ()), ()))
  else Option.some (Sum.inr (Sum.inl ((), ())))
theorem g_15_21 (x : LD_15_21.El) : codeT CT T_15 (drT CT T_15) lpi_15_21 l_15_21 (LD_15_21.enc x) (bodyK (LD_15_21.lay []) EX_15_21) = G_15_21 x.1.1 x.1.2.1 x.1.2.2.1 x.1.2.2.2.2.1 x.2.1 := by kernel_rfl
noncomputable def R_15_21 : LD_15_21.El → Option (LA_15_21.El ⊕ LB_15_21.El) := roundsT (fun x => G_15_21 x.1.1 x.1.2.1 x.1.2.2.1 x.1.2.2.2.2.1 x.2.1) fuel
theorem r_15_21 : ∀ x y, R_15_21 x = some y → CL CT l_15_21 (LD_15_21.enc x) (Sum.elim (fun _ => EX_15_21.xa) (fun _ => EX_15_21.xb) y) (Sum.elim EX_15_21.la.enc EX_15_21.lb.enc y) :=
  rounds_ok (L := LD_15_21.lay []) (E := EX_15_21) CT_ok T_15_ok (drT_ok CT_ok T_15_ok) lpi_15_21_ok g_15_21 rfl rfl (fun v h => by have hh : (.exit 4 : AX) = .pan v := h; cases hh) (fun v h => by have hh : (.ret : AX) = .pan v := h; cases hh) fuel
noncomputable def lp_15 {β : Type} : LpT β := fun k s K => if Nat.beq k 6 then lpOne (LD_15_6.lay [.nilCell 7 3 32 tThing, .nilReg 8 3 I]) EX_15_6 R_15_6 s K else if Nat.beq k 11 then lpOne (LD_15_11.lay [.nilCell 7 3 32 tThing, .nilReg 8 3 I]) EX_15_11 R_15_11 s K else if Nat.beq k 21 then lpOne (LD_15_21.lay []) EX_15_21 R_15_21 s K else none
theorem lp_15_ok {β : Type} : LpTOk CT (lp_15 (β := β)) (loopsOf c_15) := by
  have h : loopsOf c_15 = [(6, l_15_6), (11, l_15_11), (21, l_15_21)] := by kernel_rfl
  rw [h]
  exact LpTOk.cons (fun s K z h => lpOne_ok r_15_6 h) (LpTOk.cons (fun s K z h => lpOne_ok r_15_11 h) (LpTOk.cons (fun s K z h => lpOne_ok r_15_21 h) (LpTOk.nil)))
noncomputable def F_15 (a1 : Ty.El I) (a2 : Ty.El I) (a3 : Ty.El I) : Option (Els [.bool]) :=
  bif Decidable.decide (a1 < (-500 : Int)) then F_36.bind fun v2 => Option.some (v2.fst, ())
  else
    bif Decidable.decide (a2 < (-500 : Int)) then F_36.bind fun v4 => Option.some (v4.fst, ())
    else
      bif Decidable.decide (a1 > (500 : Int)) then F_36.bind fun v6 => Option.some (v6.fst, ())
      else
        bif Decidable.decide (a2 > (500 : Int)) then F_36.bind fun v8 => Option.some (v8.fst, ())
        else
          bif Decidable.decide (a3 < (2 : Int)) then F_36.bind fun v10 => Option.some (v10.fst, ())
          else
            bif Decidable.decide (a3 > (8 : Int)) then F_36.bind fun v12 => Option.some (v12.fst, ())
            else
              F_36.bind fun v14 =>
                bif !v14.fst then F_36.bind fun v16 => Option.some (v16.fst, ())
                else
                  (R_15_6 ((a1, a2, a3, (), (), (1 : Int), ()), (((0 : Int), (0 : Int)), (100 : Int), (), ()), [], [], ())).bind fun v17 =>
                    Sum.elim
                      (fun v18 =>
                        (R_15_11
                              ((v18.fst.fst, v18.fst.snd.fst, v18.fst.snd.snd.fst, (), (), (1 : Int), ()), (v18.snd.fst.fst, v18.snd.fst.snd.fst, (), ()), v18.snd.snd.fst,
                                v18.snd.snd.snd.fst, ())).bind
                          fun v19 =>
                          Sum.elim
                            (fun v20 =>
                              (F_41w v20.snd.fst.fst v20.fst.snd.snd.snd.snd.fst).bind fun v22 =>
                                bif v22.snd.snd.fst != (0 : Int) then Option.some (Bool.false, ())
                                else
                                  bif v22.snd.fst != (100 : Int) then Option.some (Bool.false, ())
                                  else
                                    (F_42 v22.fst v22.snd.fst
                                          (Go.IntKind.i64.wrap (v20.fst.fst * (4294967296 : Int)), Go.IntKind.i64.wrap (v20.fst.snd.fst * (4294967296 : Int)))).bind
                                      fun v24 =>
                                      bif v24.snd.snd.fst != (0 : Int) then Option.some (Bool.false, ())
                                      else
                                        bif (↑(List.length v24.fst.snd.snd) : Int) != Go.IntKind.i64.wrap ((2 : Int) * (↑(List.length v22.fst.snd.snd) : Int)) then
                                          Option.some (Bool.false, ())
                                        else
                                          bif v24.snd.fst != Go.IntKind.i64.wrap ((101 : Int) + v20.fst.snd.snd.fst) then Option.some (Bool.false, ())
                                          else
                                            (R_15_21 ((v20.fst.fst, v20.fst.snd.fst, v20.fst.snd.snd.fst, (), (0 : Int), ()), (v24.fst, ()), ())).bind fun v25 =>
                                              Sum.elim (fun v26 => Option.some (Bool.true, ())) (fun v27 => Option.some (v27.fst.fst, ())) v25)
                            (fun v28 => Option.none) v19)
                      (fun v29 => Option.none) v17
theorem f_15 (x : Ps [.ty I, .ty I, .ty I]) : funcT CT T_15 [.bool] (drT CT T_15) lp_15 Try.f15 c_15 (encPs [.ty I, .ty I, .ty I] x) = F_15 x.1 x.2.1 x.2.2.1 := by kernel_rfl
noncomputable def E_15 : Ent := .fn 15 [] ⟨[.ty I, .ty I, .ty I], [.bool], fun x => F_15 x.1 x.2.1 x.2.2.1, false⟩
theorem e_15 : E_15.Ok CT.P := Ent.ofFn CT_ok T_15_ok hf_15 hb_15 lp_15_ok f_15
noncomputable def E_15h : Ent := .fn 15 [] ⟨[.ty I, .ty I, .ty I], [.bool], fun x => F_15 x.1 x.2.1 x.2.2.1, true⟩
end Go.DI.S

