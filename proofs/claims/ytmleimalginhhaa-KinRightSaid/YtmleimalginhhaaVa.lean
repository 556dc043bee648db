import Derived.Test.YtmleimalginhhaaSd
import Derived.Test.YtmleimalginhhaaKa
import Derived.Test.YtmleimalginhhaaWa
import Derived.Test.YtmleimalginhhaaKb
/- SceneUses: told by functions on data, and what these come to. No conditions. -/
/-! The program's functions, told by functions on data. -/
set_option linter.unusedVariables false
set_option maxRecDepth 100000
set_option maxHeartbeats 0
namespace Go.DI.S
open Go.Proofs
/-! ### 27: maquette/scene.Uses -/
noncomputable def c_27 : Code := Try.f27.body.getD .skip
theorem hb_27 : Try.f27.body = some c_27 := by kernel_rfl
theorem hf_27 : CT.P.funcs[27]? = some Try.f27 := by kernel_rfl
noncomputable def T_27 : Tb := mkTb tyT mpT [E_59]
theorem T_27_ok : T_27.Ok CT.P := mkTb_ok (⟨e_59, trivial⟩)
noncomputable def l_27_3 : Code := atLoop c_27 3
noncomputable abbrev LD_27_3 : LayD := ⟨45, [(1, .data I), (5, .own I 0), (9, .data (.list tThing)), (10, .data I), (11, .data I)], [.row 3 I], fun s => [slotR s 5]⟩
noncomputable abbrev LA_27_3 : LayD := ⟨45, [(5, .own I 0)], [.row 3 I], fun s => [slotR s 5]⟩
noncomputable abbrev LB_27_3 : LayD := ⟨45, [], [], fun _ => []⟩
noncomputable def EX_27_3 : Exits 0 LA_27_3.El LB_27_3.El := ⟨.exit 0, LA_27_3.lay [.nilReg 5 3 I], .ret, LB_27_3.lay []⟩

noncomputable def lpi_27_3 {β : Type} : LpT β := fun _ _ _ => none
theorem lpi_27_3_ok {β : Type} : LpTOk CT (lpi_27_3 (β := β)) (loopsOf l_27_3) := by
  have h : loopsOf l_27_3 = [] := by kernel_rfl
  rw [h]
  exact LpTOk.nil
noncomputable def G_27_3 (r1 : Ty.El I) (r9 : Ty.El (.list tThing)) (r10 : Ty.El I) (r11 : Ty.El I) (b0 : List (Ty.El I)) : Option (LD_27_3.El ⊕ (LA_27_3.El ⊕ LB_27_3.El)) :=
  bif Decidable.decide (r11 < r10) then
    bif Decidable.decide ((0 : Int) ≤ r11 ∧ r11 < (↑(List.length r9) : Int)) then
      bif (List.getD r9 (Int.toNat r11) Go.DI.S.tThing.dflt).snd.fst == (2 : Int) then
        bif (List.getD r9 (Int.toNat r11) Go.DI.S.tThing.dflt).snd.snd.snd.fst.fst == r1 then
          bif ((b0.length + [(List.getD r9 (Int.toNat r11) Go.DI.S.tThing.dflt).fst].length) * (8 : Nat)).ble (70368744177664 : Nat) then
            Option.some (Sum.inl ((r1, (), r9, r10, Go.IntKind.i64.wrap (r11 + (1 : Int)), ()), b0 ++ [(List.getD r9 (Int.toNat r11) Go.DI.S.tThing.dflt).fst], ()))
          else Option.none
        else
          bif (List.getD r9 (Int.toNat r11) Go.DI.S.tThing.dflt).snd.snd.snd.fst.snd.fst == r1 then
            bif ((b0.length + [(List.getD r9 (Int.toNat r11) Go.DI.S.tThing.dflt).fst].length) * (8 : Nat)).ble (70368744177664 : Nat) then
              Option.some (Sum.inl ((r1, (), r9, r10, Go.IntKind.i64.wrap (r11 + (1 : Int)), ()), b0 ++ [(List.getD r9 (Int.toNat r11) Go.DI.S.tThing.dflt).fst], ()))
            else Option.none
          else
            (F_59 (List.getD r9 (Int.toNat r11) Go.DI.S.tThing.dflt).snd.snd.snd.snd r1).bind fun v2 =>
              bif v2.fst then
                bif ((b0.length + [(List.getD r9 (Int.toNat r11) Go.DI.S.tThing.dflt).fst].length) * (8 : Nat)).ble (70368744177664 : Nat) then
                  Option.some (Sum.inl ((r1, (), r9, r10, Go.IntKind.i64.wrap (r11 + (1 : Int)), ()), b0 ++ [(List.getD r9 (Int.toNat r11) Go.DI.S.tThing.dflt).fst], ()))
                else Option.none
              else Option.some (Sum.inl ((r1, (), r9, r10, Go.IntKind.i64.wrap (r11 + (1 : Int)), ()), b0, ()))
      else
        (F_59 (List.getD r9 (Int.toNat r11) Go.DI.S.tThing.dflt).snd.snd.snd.snd r1).bind fun v4 =>
          bif v4.fst then
            bif ((b0.length + [(List.getD r9 (Int.toNat r11) Go.DI.S.tThing.dflt).fst].length) * (8 : Nat)).ble (70368744177664 : Nat) then
              Option.some (Sum.inl ((r1, (), r9, r10, Go.IntKind.i64.wrap (r11 + (1 : Int)), ()), b0 ++ [(List.getD r9 (Int.toNat r11) Go.DI.S.tThing.dflt).fst], ()))
            else Option.none
          else Option.some (Sum.inl ((r1, (), r9, r10, Go.IntKind.i64.wrap (r11 + (1 : Int)), ()), b0, ()))
    else Option.none
  else Option.some (Sum.inr (Sum.inl (((), ()), b0, ())))
theorem g_27_3 (x : LD_27_3.El) : codeT CT T_27 (drT CT T_27) lpi_27_3 l_27_3 (LD_27_3.enc x) (bodyK (LD_27_3.lay [.nilReg 5 3 I]) EX_27_3) = G_27_3 x.1.1 x.1.2.2.1 x.1.2.2.2.1 x.1.2.2.2.2.1 x.2.1 := by kernel_rfl
noncomputable def R_27_3 : LD_27_3.El → Option (LA_27_3.El ⊕ LB_27_3.El) := roundsT (fun x => G_27_3 x.1.1 x.1.2.2.1 x.1.2.2.2.1 x.1.2.2.2.2.1 x.2.1) fuel
theorem r_27_3 : ∀ x y, R_27_3 x = some y → CL CT l_27_3 (LD_27_3.enc x) (Sum.elim (fun _ => EX_27_3.xa) (fun _ => EX_27_3.xb) y) (Sum.elim EX_27_3.la.enc EX_27_3.lb.enc y) :=
  rounds_ok (L := LD_27_3.lay [.nilReg 5 3 I]) (E := EX_27_3) CT_ok T_27_ok (drT_ok CT_ok T_27_ok) lpi_27_3_ok g_27_3 rfl rfl (fun v h => by have hh : (.exit 0 : AX) = .pan v := h; cases hh) (fun v h => by have hh : (.ret : AX) = .pan v := h; cases hh) fuel
noncomputable def lp_27 {β : Type} : LpT β := fun k s K => if Nat.beq k 3 then lpOne (LD_27_3.lay [.nilReg 5 3 I]) EX_27_3 R_27_3 s K else none
theorem lp_27_ok {β : Type} : LpTOk CT (lp_27 (β := β)) (loopsOf c_27) := by
  have h : loopsOf c_27 = [(3, l_27_3)] := by kernel_rfl
  rw [h]
  exact LpTOk.cons (fun s K z h => lpOne_ok r_27_3 h) (LpTOk.nil)
noncomputable def F_27 (a1 : Ty.El tScene) (a2 : Ty.El I) : Option (Els [.list I]) :=
  (R_27_3 ((a2, (), a1.snd.snd, (↑(List.length a1.snd.snd) : Int), (0 : Int), ()), [], ())).bind fun v1 =>
    Sum.elim (fun v2 => Option.some (v2.snd.fst, ())) (fun v3 => Option.none) v1
theorem f_27 (x : Ps [.ty tScene, .ty I]) : funcT CT T_27 [.list I] (drT CT T_27) lp_27 Try.f27 c_27 (encPs [.ty tScene, .ty I] x) = F_27 x.1 x.2.1 := by kernel_rfl
noncomputable def E_27 : Ent := .fn 27 [] ⟨[.ty tScene, .ty I], [.list I], fun x => F_27 x.1 x.2.1, false⟩
theorem e_27 : E_27.Ok CT.P := Ent.ofFn CT_ok T_27_ok hf_27 hb_27 lp_27_ok f_27
noncomputable def E_27h : Ent := .fn 27 [] ⟨[.ty tScene, .ty I], [.list I], fun x => F_27 x.1 x.2.1, true⟩
/-! ### 26: maquette/scene.Without -/
noncomputable def c_26 : Code := Try.f26.body.getD .skip
theorem hb_26 : Try.f26.body = some c_26 := by kernel_rfl
theorem hf_26 : CT.P.funcs[26]? = some Try.f26 := by kernel_rfl
noncomputable def T_26 : Tb := mkTb tyT mpT [E_20, E_48, E_27, E_47, E_58]
theorem T_26_ok : T_26.Ok CT.P := mkTb_ok (⟨e_20, e_48, e_27, e_47, e_58, trivial⟩)
noncomputable def lp_26 {β : Type} : LpT β := fun _ _ _ => none
theorem lp_26_ok {β : Type} : LpTOk CT (lp_26 (β := β)) (loopsOf c_26) := by
  have h : loopsOf c_26 = [] := by kernel_rfl
  rw [h]
  exact LpTOk.nil
noncomputable def F_26 (a1 : Ty.El tScene) (a2 : Ty.El I) : Option (Els [tScene, I]) :=
  (F_20 a1).bind fun v2 =>
    bif !v2.fst then Option.some ((((0 : Int), (0 : Int)), (0 : Int), []), (9 : Int), ())
    else
      (F_48 a1 a2).bind fun v4 =>
        bif !v4.snd.fst then Option.some ((((0 : Int), (0 : Int)), (0 : Int), []), (10 : Int), ())
        else
          (F_27 a1 a2).bind fun v6 =>
            bif Decidable.decide ((↑(List.length v6.fst) : Int) > (0 : Int)) then Option.some ((((0 : Int), (0 : Int)), (0 : Int), []), (15 : Int), ())
            else (F_47 a1.snd.snd).bind fun v8 => (F_58 v8 v4.fst (Go.IntKind.i64.wrap (v4.fst + (1 : Int)))).bind fun v11 => Option.some ((a1.fst, a1.snd.fst, v11), (0 : Int), ())
theorem f_26 (x : Ps [.ty tScene, .ty I]) : funcT CT T_26 [tScene, I] (drT CT T_26) lp_26 Try.f26 c_26 (encPs [.ty tScene, .ty I] x) = F_26 x.1 x.2.1 := by kernel_rfl
noncomputable def E_26 : Ent := .fn 26 [] ⟨[.ty tScene, .ty I], [tScene, I], fun x => F_26 x.1 x.2.1, false⟩
theorem e_26 : E_26.Ok CT.P := Ent.ofFn CT_ok T_26_ok hf_26 hb_26 lp_26_ok f_26
noncomputable def E_26h : Ent := .fn 26 [] ⟨[.ty tScene, .ty I], [tScene, I], fun x => F_26 x.1 x.2.1, true⟩
/-! ### 6: maquette/maquettelaw19.SceneUses -/
noncomputable def c_6 : Code := Try.f6.body.getD .skip
theorem hb_6 : Try.f6.body = some c_6 := by kernel_rfl
theorem hf_6 : CT.P.funcs[6]? = some Try.f6 := by kernel_rfl
noncomputable def T_6 : Tb := mkTb tyT mpT [E_16, E_20, E_22, E_23, E_26, E_27]
theorem T_6_ok : T_6.Ok CT.P := mkTb_ok (⟨e_16, e_20, e_22, e_23, e_26, e_27, trivial⟩)
noncomputable def l_6_5 : Code := atLoop c_6 5
noncomputable def l_6_9 : Code := atLoop l_6_5 9
noncomputable def l_6_14 : Code := atLoop l_6_9 14
noncomputable abbrev LD_6_14 : LayD := ⟨127, [(2, .data (.list tThing)), (7, .ptr 0), (9, .ptr 1), (10, .data (.list I)), (14, .data .bool), (15, .data .bool), (37, .data (.list tThing)), (38, .data I), (39, .data I), (47, .data (.list I)), (48, .data I), (49, .data I), (79, .data (.list I)), (80, .data I), (81, .data I)], [.var 36 [.data tScene], .var 32 [.data tThing]], fun s => [slotR s 7, slotR s 9]⟩
noncomputable abbrev LA_6_14 : LayD := ⟨127, [(2, .data (.list tThing)), (7, .ptr 0), (9, .ptr 1), (10, .data (.list I)), (14, .data .bool), (15, .data .bool), (37, .data (.list tThing)), (38, .data I), (39, .data I), (47, .data (.list I)), (48, .data I), (49, .data I)], [.var 36 [.data tScene], .var 32 [.data tThing]], fun s => [slotR s 7, slotR s 9]⟩
noncomputable abbrev LB_6_14 : LayD := ⟨127, [], [], fun _ => []⟩
noncomputable def EX_6_14 : Exits 0 LA_6_14.El LB_6_14.El := ⟨.exit 4, LA_6_14.lay [], .ret, LB_6_14.lay []⟩

noncomputable def lpi_6_14 {β : Type} : LpT β := fun _ _ _ => none
theorem lpi_6_14_ok {β : Type} : LpTOk CT (lpi_6_14 (β := β)) (loopsOf l_6_14) := by
  have h : loopsOf l_6_14 = [] := by kernel_rfl
  rw [h]
  exact LpTOk.nil
noncomputable def G_6_14 (r2 : Ty.El (.list tThing)) (r10 : Ty.El (.list I)) (r14 : Ty.El .bool) (r15 : Ty.El .bool) (r37 : Ty.El (.list tThing)) (r38 : Ty.El I) (r39 : Ty.El I) (r47 : Ty.El (.list I)) (r48 : Ty.El I) (r49 : Ty.El I) (r79 : Ty.El (.list I)) (r80 : Ty.El I) (r81 : Ty.El I) (b0 : Ty.El tScene × Unit) (b1 : Ty.El tThing × Unit) : Option (LD_6_14.El ⊕ (LA_6_14.El ⊕ LB_6_14.El)) :=
  bif Decidable.decide (r81 < r80) then
    bif Decidable.decide ((0 : Int) ≤ r81 ∧ r81 < (↑(List.length r79) : Int)) then
      bif r15 then
        Option.some (Sum.inl ((r2, (), (), r10, r14, Bool.true, r37, r38, r39, r47, r48, r49, r79, r80, Go.IntKind.i64.wrap (r81 + (1 : Int)), ()), (b0.fst, ()), (b1.fst, ()), ()))
      else
        Option.some
          (Sum.inl
            ((r2, (), (), r10, r14, List.getD r79 (Int.toNat r81) (0 : Int) == b1.fst.fst, r37, r38, r39, r47, r48, r49, r79, r80, Go.IntKind.i64.wrap (r81 + (1 : Int)), ()),
              (b0.fst, ()), (b1.fst, ()), ()))
    else Option.none
  else Option.some (Sum.inr (Sum.inl ((r2, (), (), r10, r14, r15, r37, r38, r39, r47, r48, r49, ()), (b0.fst, ()), (b1.fst, ()), ())))
theorem g_6_14 (x : LD_6_14.El) : codeT CT T_6 (drT CT T_6) lpi_6_14 l_6_14 (LD_6_14.enc x) (bodyK (LD_6_14.lay []) EX_6_14) = G_6_14 x.1.1 x.1.2.2.2.1 x.1.2.2.2.2.1 x.1.2.2.2.2.2.1 x.1.2.2.2.2.2.2.1 x.1.2.2.2.2.2.2.2.1 x.1.2.2.2.2.2.2.2.2.1 x.1.2.2.2.2.2.2.2.2.2.1 x.1.2.2.2.2.2.2.2.2.2.2.1 x.1.2.2.2.2.2.2.2.2.2.2.2.1 x.1.2.2.2.2.2.2.2.2.2.2.2.2.1 x.1.2.2.2.2.2.2.2.2.2.2.2.2.2.1 x.1.2.2.2.2.2.2.2.2.2.2.2.2.2.2.1 x.2.1 x.2.2.1 := by kernel_rfl
noncomputable def R_6_14 : LD_6_14.El → Option (LA_6_14.El ⊕ LB_6_14.El) := roundsT (fun x => G_6_14 x.1.1 x.1.2.2.2.1 x.1.2.2.2.2.1 x.1.2.2.2.2.2.1 x.1.2.2.2.2.2.2.1 x.1.2.2.2.2.2.2.2.1 x.1.2.2.2.2.2.2.2.2.1 x.1.2.2.2.2.2.2.2.2.2.1 x.1.2.2.2.2.2.2.2.2.2.2.1 x.1.2.2.2.2.2.2.2.2.2.2.2.1 x.1.2.2.2.2.2.2.2.2.2.2.2.2.1 x.1.2.2.2.2.2.2.2.2.2.2.2.2.2.1 x.1.2.2.2.2.2.2.2.2.2.2.2.2.2.2.1 x.2.1 x.2.2.1) fuel
theorem r_6_14 : ∀ x y, R_6_14 x = some y → CL CT l_6_14 (LD_6_14.enc x) (Sum.elim (fun _ => EX_6_14.xa) (fun _ => EX_6_14.xb) y) (Sum.elim EX_6_14.la.enc EX_6_14.lb.enc y) :=
  rounds_ok (L := LD_6_14.lay []) (E := EX_6_14) CT_ok T_6_ok (drT_ok CT_ok T_6_ok) lpi_6_14_ok g_6_14 rfl rfl (fun v h => by have hh : (.exit 4 : AX) = .pan v := h; cases hh) (fun v h => by have hh : (.ret : AX) = .pan v := h; cases hh) fuel
noncomputable abbrev LD_6_9 : LayD := ⟨127, [(2, .data (.list tThing)), (7, .ptr 0), (9, .ptr 1), (10, .data (.list I)), (37, .data (.list tThing)), (38, .data I), (39, .data I), (47, .data (.list I)), (48, .data I), (49, .data I)], [.var 36 [.data tScene], .var 32 [.data tThing]], fun s => [slotR s 7, slotR s 9]⟩
noncomputable abbrev LA_6_9 : LayD := ⟨127, [(2, .data (.list tThing)), (7, .ptr 0), (9, .ptr 1), (10, .data (.list I)), (37, .data (.list tThing)), (38, .data I), (39, .data I)], [.var 36 [.data tScene], .var 32 [.data tThing]], fun s => [slotR s 7, slotR s 9]⟩
noncomputable abbrev LB_6_9 : LayD := ⟨127, [(6, .data .bool)], [], fun _ => []⟩
noncomputable def EX_6_9 : Exits 0 LA_6_9.El LB_6_9.El := ⟨.exit 2, LA_6_9.lay [], .ret, LB_6_9.lay []⟩

noncomputable def lpi_6_9 {β : Type} : LpT β := fun k s K => if Nat.beq k 14 then lpOne (LD_6_14.lay []) EX_6_14 R_6_14 s K else none
theorem lpi_6_9_ok {β : Type} : LpTOk CT (lpi_6_9 (β := β)) (loopsOf l_6_9) := by
  have h : loopsOf l_6_9 = [(14, l_6_14)] := by kernel_rfl
  rw [h]
  exact LpTOk.cons (fun s K z h => lpOne_ok r_6_14 h) (LpTOk.nil)
noncomputable def G_6_9 (r2 : Ty.El (.list tThing)) (r10 : Ty.El (.list I)) (r37 : Ty.El (.list tThing)) (r38 : Ty.El I) (r39 : Ty.El I) (r47 : Ty.El (.list I)) (r48 : Ty.El I) (r49 : Ty.El I) (b0 : Ty.El tScene × Unit) (b1 : Ty.El tThing × Unit) : Option (LD_6_9.El ⊕ (LA_6_9.El ⊕ LB_6_9.El)) :=
  bif Decidable.decide (r49 < r48) then
    bif Decidable.decide ((0 : Int) ≤ r49 ∧ r49 < (↑(List.length r47) : Int)) then
      (F_23 b0.fst (List.getD r47 (Int.toNat r49) (0 : Int))).bind fun v2 =>
        bif v2.fst.snd.fst == (2 : Int) then
          bif v2.fst.snd.snd.snd.fst.fst == b1.fst.fst then
            (R_6_14
                  ((r2, (), (), r10, v2.snd.fst, Bool.true, r37, r38, r39, r47, r48, r49, v2.fst.snd.snd.snd.snd, (↑(List.length v2.fst.snd.snd.snd.snd) : Int), (0 : Int), ()),
                    (b0.fst, ()), (b1.fst, ()), ())).bind
              fun v3 =>
              Sum.elim
                (fun v4 =>
                  bif !v4.fst.snd.snd.snd.snd.fst then Option.some (Sum.inr (Sum.inr ((Bool.false, ()), ())))
                  else
                    bif !v4.fst.snd.snd.snd.snd.snd.fst then Option.some (Sum.inr (Sum.inr ((Bool.false, ()), ())))
                    else
                      Option.some
                        (Sum.inl
                          ((v4.fst.fst, (), (), v4.fst.snd.snd.snd.fst, v4.fst.snd.snd.snd.snd.snd.snd.fst, v4.fst.snd.snd.snd.snd.snd.snd.snd.fst,
                              v4.fst.snd.snd.snd.snd.snd.snd.snd.snd.fst, v4.fst.snd.snd.snd.snd.snd.snd.snd.snd.snd.fst, v4.fst.snd.snd.snd.snd.snd.snd.snd.snd.snd.snd.fst,
                              Go.IntKind.i64.wrap (v4.fst.snd.snd.snd.snd.snd.snd.snd.snd.snd.snd.snd.fst + (1 : Int)), ()),
                            (v4.snd.fst.fst, ()), (v4.snd.snd.fst.fst, ()), ())))
                (fun v5 => Option.none) v3
          else
            (R_6_14
                  ((r2, (), (), r10, v2.snd.fst, v2.fst.snd.snd.snd.fst.snd.fst == b1.fst.fst, r37, r38, r39, r47, r48, r49, v2.fst.snd.snd.snd.snd,
                      (↑(List.length v2.fst.snd.snd.snd.snd) : Int), (0 : Int), ()),
                    (b0.fst, ()), (b1.fst, ()), ())).bind
              fun v6 =>
              Sum.elim
                (fun v7 =>
                  bif !v7.fst.snd.snd.snd.snd.fst then Option.some (Sum.inr (Sum.inr ((Bool.false, ()), ())))
                  else
                    bif !v7.fst.snd.snd.snd.snd.snd.fst then Option.some (Sum.inr (Sum.inr ((Bool.false, ()), ())))
                    else
                      Option.some
                        (Sum.inl
                          ((v7.fst.fst, (), (), v7.fst.snd.snd.snd.fst, v7.fst.snd.snd.snd.snd.snd.snd.fst, v7.fst.snd.snd.snd.snd.snd.snd.snd.fst,
                              v7.fst.snd.snd.snd.snd.snd.snd.snd.snd.fst, v7.fst.snd.snd.snd.snd.snd.snd.snd.snd.snd.fst, v7.fst.snd.snd.snd.snd.snd.snd.snd.snd.snd.snd.fst,
                              Go.IntKind.i64.wrap (v7.fst.snd.snd.snd.snd.snd.snd.snd.snd.snd.snd.snd.fst + (1 : Int)), ()),
                            (v7.snd.fst.fst, ()), (v7.snd.snd.fst.fst, ()), ())))
                (fun v8 => Option.none) v6
        else
          (R_6_14
                ((r2, (), (), r10, v2.snd.fst, Bool.false, r37, r38, r39, r47, r48, r49, v2.fst.snd.snd.snd.snd, (↑(List.length v2.fst.snd.snd.snd.snd) : Int), (0 : Int), ()),
                  (b0.fst, ()), (b1.fst, ()), ())).bind
            fun v9 =>
            Sum.elim
              (fun v10 =>
                bif !v10.fst.snd.snd.snd.snd.fst then Option.some (Sum.inr (Sum.inr ((Bool.false, ()), ())))
                else
                  bif !v10.fst.snd.snd.snd.snd.snd.fst then Option.some (Sum.inr (Sum.inr ((Bool.false, ()), ())))
                  else
                    Option.some
                      (Sum.inl
                        ((v10.fst.fst, (), (), v10.fst.snd.snd.snd.fst, v10.fst.snd.snd.snd.snd.snd.snd.fst, v10.fst.snd.snd.snd.snd.snd.snd.snd.fst,
                            v10.fst.snd.snd.snd.snd.snd.snd.snd.snd.fst, v10.fst.snd.snd.snd.snd.snd.snd.snd.snd.snd.fst, v10.fst.snd.snd.snd.snd.snd.snd.snd.snd.snd.snd.fst,
                            Go.IntKind.i64.wrap (v10.fst.snd.snd.snd.snd.snd.snd.snd.snd.snd.snd.snd.fst + (1 : Int)), ()),
                          (v10.snd.fst.fst, ()), (v10.snd.snd.fst.fst, ()), ())))
              (fun v11 => Option.none) v9
    else Option.none
  else Option.some (Sum.inr (Sum.inl ((r2, (), (), r10, r37, r38, r39, ()), (b0.fst, ()), (b1.fst, ()), ())))
theorem g_6_9 (x : LD_6_9.El) : codeT CT T_6 (drT CT T_6) lpi_6_9 l_6_9 (LD_6_9.enc x) (bodyK (LD_6_9.lay []) EX_6_9) = G_6_9 x.1.1 x.1.2.2.2.1 x.1.2.2.2.2.1 x.1.2.2.2.2.2.1 x.1.2.2.2.2.2.2.1 x.1.2.2.2.2.2.2.2.1 x.1.2.2.2.2.2.2.2.2.1 x.1.2.2.2.2.2.2.2.2.2.1 x.2.1 x.2.2.1 := by kernel_rfl
noncomputable def R_6_9 : LD_6_9.El → Option (LA_6_9.El ⊕ LB_6_9.El) := roundsT (fun x => G_6_9 x.1.1 x.1.2.2.2.1 x.1.2.2.2.2.1 x.1.2.2.2.2.2.1 x.1.2.2.2.2.2.2.1 x.1.2.2.2.2.2.2.2.1 x.1.2.2.2.2.2.2.2.2.1 x.1.2.2.2.2.2.2.2.2.2.1 x.2.1 x.2.2.1) fuel
theorem r_6_9 : ∀ x y, R_6_9 x = some y → CL CT l_6_9 (LD_6_9.enc x) (Sum.elim (fun _ => EX_6_9.xa) (fun _ => EX_6_9.xb) y) (Sum.elim EX_6_9.la.enc EX_6_9.lb.enc y) :=
  rounds_ok (L := LD_6_9.lay []) (E := EX_6_9) CT_ok T_6_ok (drT_ok CT_ok T_6_ok) lpi_6_9_ok g_6_9 rfl rfl (fun v h => by have hh : (.exit 2 : AX) = .pan v := h; cases hh) (fun v h => by have hh : (.ret : AX) = .pan v := h; cases hh) fuel
noncomputable abbrev LD_6_5 : LayD := ⟨127, [(2, .data (.list tThing)), (7, .ptr 0), (37, .data (.list tThing)), (38, .data I), (39, .data I)], [.var 36 [.data tScene]], fun s => [slotR s 7]⟩
noncomputable abbrev LA_6_5 : LayD := ⟨127, [], [], fun _ => []⟩
noncomputable abbrev LB_6_5 : LayD := ⟨127, [(6, .data .bool)], [], fun _ => []⟩
noncomputable def EX_6_5 : Exits 0 LA_6_5.El LB_6_5.El := ⟨.exit 0, LA_6_5.lay [], .ret, LB_6_5.lay []⟩

noncomputable def lpi_6_5 {β : Type} : LpT β := fun k s K => if Nat.beq k 9 then lpOne (LD_6_9.lay []) EX_6_9 R_6_9 s K else none
theorem lpi_6_5_ok {β : Type} : LpTOk CT (lpi_6_5 (β := β)) (loopsOf l_6_5) := by
  have h : loopsOf l_6_5 = [(9, l_6_9)] := by kernel_rfl
  rw [h]
  exact LpTOk.cons (fun s K z h => lpOne_ok r_6_9 h) (LpTOk.nil)
noncomputable def G_6_5 (r2 : Ty.El (.list tThing)) (r37 : Ty.El (.list tThing)) (r38 : Ty.El I) (r39 : Ty.El I) (b0 : Ty.El tScene × Unit) : Option (LD_6_5.El ⊕ (LA_6_5.El ⊕ LB_6_5.El)) :=
  bif Decidable.decide (r39 < r38) then
    bif Decidable.decide ((0 : Int) ≤ r39 ∧ r39 < (↑(List.length r37) : Int)) then
      (F_27 b0.fst (List.getD r37 (Int.toNat r39) Go.DI.S.tThing.dflt).fst).bind fun v2 =>
        (R_6_9
              ((r2, (), (), v2.fst, r37, r38, r39, v2.fst, (↑(List.length v2.fst) : Int), (0 : Int), ()), (b0.fst, ()), (List.getD r37 (Int.toNat r39) Go.DI.S.tThing.dflt, ()),
                ())).bind
          fun v3 =>
          Sum.elim
            (fun v4 =>
              (F_26 v4.snd.fst.fst v4.snd.snd.fst.fst.fst).bind fun v6 =>
                bif !(v6.snd.fst == (0 : Int)) == ((↑(List.length v4.fst.snd.snd.snd.fst) : Int) == (0 : Int)) then Option.some (Sum.inr (Sum.inr ((Bool.false, ()), ())))
                else
                  bif v6.snd.fst == (0 : Int) then
                    bif (↑(List.length v6.fst.snd.snd) : Int) != Go.IntKind.i64.wrap ((↑(List.length v4.fst.fst) : Int) - (1 : Int)) then
                      Option.some (Sum.inr (Sum.inr ((Bool.false, ()), ())))
                    else
                      Option.some
                        (Sum.inl
                          ((v4.fst.fst, (), v4.fst.snd.snd.snd.snd.fst, v4.fst.snd.snd.snd.snd.snd.fst, Go.IntKind.i64.wrap (v4.fst.snd.snd.snd.snd.snd.snd.fst + (1 : Int)), ()),
                            (v4.snd.fst.fst, ()), ()))
                  else
                    Option.some
                      (Sum.inl
                        ((v4.fst.fst, (), v4.fst.snd.snd.snd.snd.fst, v4.fst.snd.snd.snd.snd.snd.fst, Go.IntKind.i64.wrap (v4.fst.snd.snd.snd.snd.snd.snd.fst + (1 : Int)), ()),
                          (v4.snd.fst.fst, ()), ())))
            (fun v7 => Option.some (Sum.inr (Sum.inr ((v7.fst.fst, ()), ())))) v3
    else Option.none
  else Option.some (Sum.inr (Sum.inl ((), ())))
theorem g_6_5 (x : LD_6_5.El) : codeT CT T_6 (drT CT T_6) lpi_6_5 l_6_5 (LD_6_5.enc x) (bodyK (LD_6_5.lay []) EX_6_5) = G_6_5 x.1.1 x.1.2.2.1 x.1.2.2.2.1 x.1.2.2.2.2.1 x.2.1 := by kernel_rfl
noncomputable def R_6_5 : LD_6_5.El → Option (LA_6_5.El ⊕ LB_6_5.El) := roundsT (fun x => G_6_5 x.1.1 x.1.2.2.1 x.1.2.2.2.1 x.1.2.2.2.2.1 x.2.1) fuel
theorem r_6_5 : ∀ x y, R_6_5 x = some y → CL CT l_6_5 (LD_6_5.enc x) (Sum.elim (fun _ => EX_6_5.xa) (fun _ => EX_6_5.xb) y) (Sum.elim EX_6_5.la.enc EX_6_5.lb.enc y) :=
  rounds_ok (L := LD_6_5.lay []) (E := EX_6_5) CT_ok T_6_ok (drT_ok CT_ok T_6_ok) lpi_6_5_ok g_6_5 rfl rfl (fun v h => by have hh : (.exit 0 : AX) = .pan v := h; cases hh) (fun v h => by have hh : (.ret : AX) = .pan v := h; cases hh) fuel
noncomputable def lp_6 {β : Type} : LpT β := fun k s K => if Nat.beq k 5 then lpOne (LD_6_5.lay []) EX_6_5 R_6_5 s K else none
theorem lp_6_ok {β : Type} : LpTOk CT (lp_6 (β := β)) (loopsOf c_6) := by
  have h : loopsOf c_6 = [(5, l_6_5)] := by kernel_rfl
  rw [h]
  exact LpTOk.cons (fun s K z h => lpOne_ok r_6_5 h) (LpTOk.nil)
noncomputable def F_6 (a1 : Ty.El tVec) (a2 : Ty.El I) (a3 : Ty.El (.list tThing)) : Option (Els [.bool]) :=
  (F_22 a3).bind fun v2 =>
    bif !v2.fst then F_16.bind fun v4 => Option.some (v4.fst, ())
    else
      (F_20 (a1, a2, a3)).bind fun v6 =>
        bif !v6.fst then F_16.bind fun v8 => Option.some (v8.fst, ())
        else
          F_16.bind fun v10 =>
            bif !v10.fst then F_16.bind fun v12 => Option.some (v12.fst, ())
            else
              (R_6_5 ((a3, (), a3, (↑(List.length a3) : Int), (0 : Int), ()), ((a1, a2, a3), ()), ())).bind fun v13 =>
                Sum.elim (fun v14 => Option.some (Bool.true, ())) (fun v15 => Option.some (v15.fst.fst, ())) v13
theorem f_6 (x : Ps [.ty tVec, .ty I, .ty (.list tThing)]) : funcT CT T_6 [.bool] (drT CT T_6) lp_6 Try.f6 c_6 (encPs [.ty tVec, .ty I, .ty (.list tThing)] x) = F_6 x.1 x.2.1 x.2.2.1 := by kernel_rfl
noncomputable def E_6 : Ent := .fn 6 [] ⟨[.ty tVec, .ty I, .ty (.list tThing)], [.bool], fun x => F_6 x.1 x.2.1 x.2.2.1, false⟩
theorem e_6 : E_6.Ok CT.P := Ent.ofFn CT_ok T_6_ok hf_6 hb_6 lp_6_ok f_6
noncomputable def E_6h : Ent := .fn 6 [] ⟨[.ty tVec, .ty I, .ty (.list tThing)], [.bool], fun x => F_6 x.1 x.2.1 x.2.2.1, true⟩
end Go.DI.S

/-! What hangs on a thing; a scene without a thing; SceneUses, plain. -/
set_option linter.unusedVariables false
set_option linter.unusedSimpArgs false
set_option maxRecDepth 100000
namespace Go.DI.S
open Go.Proofs

/-- Does a thing hang on number n? -/
def useB (n : Int) (t : Thing) : Bool := (t.2.1 == (2 : Int) && (t.2.2.2.1.1 == n || t.2.2.2.1.2.1 == n)) || (ins t).contains n
def uses (l : List Thing) (n : Int) : List Int := (l.filter (useB n)).map nid
theorem uses_snoc (l : List Thing) (n : Int) (a : Thing) : uses (l ++ [a]) n = if useB n a then uses l n ++ [nid a] else uses l n := by
  unfold uses
  rw [List.filter_append, List.map_append]
  cases h : useB n a <;> simp [h]
theorem uses_len (l : List Thing) (n : Int) : (uses l n).length ≤ l.length := by
  unfold uses
  rw [List.length_map]
  exact List.length_filter_le _ _
theorem take_snoc {α : Type} {l : List α} {k : Nat} {a : α} (h : l[k]? = some a) : l.take (k + 1) = l.take k ++ [a] := by
  rw [List.take_add_one, h]; rfl
theorem v_27 (s : Scene) (n : Int) (hs : Small s.2.2) : F_27 s n = some ((uses s.2.2 n, ()) : Els [.list I]) := by
  have h := find_loop (G := fun x => G_27_3 x.1.1 x.1.2.2.1 x.1.2.2.2.1 x.1.2.2.2.2.1 x.2.1) (m := fuel) s.2.2 (fun _ => false) (fun k => ((n, (), s.2.2, (s.2.2.length : Int), (k : Int), ()), uses (s.2.2.take k) n, ())) (fun _ => .inr ((), ())) (.inl (((), ()), uses s.2.2 n, ()))
    (fun k t ha => ?_) ?_ (fuel_lt hs.1)
  · have hnone : s.2.2.findIdx? (fun _ => false) = none := by rw [List.findIdx?_eq_none_iff]; intro _ _; rfl
    rw [hnone] at h
    unfold F_27 R_27_3
    rw [show (0 : Int) = ((0 : Nat) : Int) from rfl]
    have e0 : uses (s.2.2.take 0) n = [] := rfl
    rw [e0] at h
    rw [h]; rfl
  · have hk := len_of ha
    have h1 := hs.1
    have hb : ((uses (s.2.2.take k) n).length + 1) * 8 ≤ 70368744177664 := by
      have := uses_len (s.2.2.take k) n
      rw [List.length_take] at this
      omega
    rw [take_snoc ha, uses_snoc]
    simp only [G_27_3, dec_lt hk, dec_in hk, cond_true, getD_of ha]
    rw [show ∀ m, [m].length = 1 from fun _ => rfl, Nat.ble_eq_true_of_le hb, wrap_up hk (by omega)]
    have hv : F_59 t.2.2.2.2 n = some (((ins t).contains n, ()) : Els [.bool]) := v_59 (ins t) n (hs.2 t (List.mem_of_getElem? ha))
    rw [hv]
    unfold useB
    simp only [Option.bind_some, cond_true]
    cases (t.2.1 == (2 : Int)) <;> cases (t.2.2.2.1.1 == n) <;> cases (t.2.2.2.1.2.1 == n) <;> cases (ins t).contains n <;> rfl
  · simp only [G_27_3, dec_end, cond_false, List.take_length]

theorem set_same {α : Type} {l : List α} {k : Nat} {a : α} (h : l[k]? = some a) : l.set k a = l := by
  apply List.ext_getElem?
  intro j
  rw [List.getElem?_set]
  split
  · subst_vars; split
    · exact h.symm
    · rename_i h2; exact absurd (len_of h) h2
  · rfl
theorem v_47 (l : List Thing) (hs : Small l) : F_47 l = some l := by
  have h := find_loop (G := fun x => G_47_3 x.1.2.2.1 x.1.2.2.2.1 x.2.1) (m := fuel) l (fun _ => false) (fun k => (((), (), (l.length : Int), (k : Int), ()), l, ())) (fun _ => .inr ((), ())) (.inl (((), ()), l, ()))
    (fun k t ha => ?_) ?_ (fuel_lt hs.1)
  · have hnone : l.findIdx? (fun _ => false) = none := by rw [List.findIdx?_eq_none_iff]; intro _ _; rfl
    rw [hnone] at h
    unfold F_47 F_90 R_47_3
    rw [Nat.ble_eq_true_of_le (by have := hs.1; omega)]
    rw [show (0 : Int) = ((0 : Nat) : Int) from rfl]
    simp only [cond_true, Option.bind_some]
    rw [h]; rfl
  · have hk := len_of ha
    have h1 := hs.1
    simp only [G_47_3, dec_lt hk, dec_in hk, cond_true, getD_of ha]
    rw [v_46 _ (hs.2 t (List.mem_of_getElem? ha))]
    simp only [Option.bind_some, wrap_up hk (by omega : l.length ≤ 4611686018427387904)]
    have e : ((k : Nat) : Int).toNat = k := rfl
    rw [e]
    have e2 : l.set k (t.1, t.2.1, t.2.2.1, t.2.2.2.1, t.2.2.2.2) = l := set_same ha
    rw [e2]
    rfl
  · simp only [G_47_3, dec_end, cond_false]
section
variable {s : Scene}
theorem Rt.getB (h : Rt s) {t : Thing} (ht : t ∈ s.2.2) : getB s.2.2 (nid t) = (t, true) := by
  obtain ⟨k, u, h1, h2, h3⟩ := idx_is (l := s.2.2) ⟨t, ht, rfl⟩
  have : u = t := h.one (List.mem_of_getElem? h2) ht h3
  subst this
  unfold S.getB
  rw [h1]
  simp [h2]
/-- A scene without a thing. -/
theorem v_26 (s : Scene) (n : Int) (hs : Small s.2.2) (hr : rightB s = true) (hn : Is s.2.2 n) : ∃ (i : Nat) (t : Thing), s.2.2[i]? = some t ∧ nid t = n ∧
    F_26 s n = some (if uses s.2.2 n = [] then ((s.1, s.2.1, s.2.2.take i ++ s.2.2.drop (i + 1)), (0 : Int), ()) else ((((0 : Int), (0 : Int)), (0 : Int), []), (15 : Int), ())) := by
  obtain ⟨i, b, h1, h2, h3⟩ := v_48 s n hs.1
  have hR := right_of hr
  have hb : b = true := by
    obtain ⟨t, ht, e⟩ := hn
    obtain ⟨k, hk, rfl⟩ := List.mem_iff_getElem.1 ht
    refine h3.2 ⟨s.2.2[k], ?_, e⟩
    obtain ⟨p1, p2⟩ := h2
    obtain ⟨p2, p3⟩ := p2 hR.asc
    have hik : i = k := by
      rcases Nat.lt_trichotomy i k with c | c | c
      · have hi : i < s.2.2.length := by omega
        have q1 := p3 i _ (Nat.le_refl _) (List.getElem?_eq_getElem hi)
        have q2 := hR.asc i k _ _ c (List.getElem?_eq_getElem hi) (List.getElem?_eq_getElem hk)
        omega
      · exact c
      · have q1 := p2 k _ c (List.getElem?_eq_getElem hk)
        omega
    rw [hik]
    exact List.getElem?_eq_getElem hk
  subst hb
  obtain ⟨t, ht, e⟩ := h3.1 rfl
  have hi := len_of ht
  refine ⟨i, t, ht, e, ?_⟩
  unfold F_26
  rw [v_20 s hs, hr, h1, v_27 s n hs, v_47 _ hs]
  simp only [Option.bind_some, Bool.not_true, cond_false]
  have hw : IntKind.i64.wrap ((i : Int) + 1) = ((i + 1 : Nat) : Int) := wrap_up hi (by have := hs.1; omega)
  rw [hw]
  by_cases hu : uses s.2.2 n = []
  · rw [if_pos hu, hu]
    rw [show decide (((List.length ([] : List Int)) : Int) > 0) = false from rfl]
    unfold F_58
    rw [decide_eq_true (by omega : (0 : Int) ≤ (i : Int)), decide_eq_true (by omega : (i : Int) < ((i + 1 : Nat) : Int)), decide_eq_true (by omega : ((i + 1 : Nat) : Int) ≤ (s.2.2.length : Int))]
    rfl
  · rw [if_neg hu]
    have : 0 < (uses s.2.2 n).length := List.length_pos_iff.2 hu
    rw [decide_eq_true (by omega : ((uses s.2.2 n).length : Int) > 0)]
    rfl

theorem or_any (b : Bool) (n : Int) : ∀ (l : List Int), l.foldl (fun b m => b || m == n) b = (b || l.contains n) := by
  intro l
  induction l generalizing b with
  | nil => simp
  | cons a l ih =>
    rw [List.foldl_cons, ih, List.contains_cons, Bool.or_assoc]
    congr 2
    rw [Bool.eq_iff_iff]
    simp only [beq_iff_eq]
    exact eq_comm
theorem q_6_14 (L L2 : List Thing) (u u2 : List Int) (ok r15 : Bool) (a b c d : Int) (s : Scene) (t : Thing) (l : List Int) (hl : l.length ≤ 1000000000) :
    R_6_14 ((L, (), (), u, ok, r15, L2, a, b, u2, c, d, l, (l.length : Int), (0 : Int), ()), (s, ()), (t, ()), ()) = some (.inl ((L, (), (), u, ok, (r15 || l.contains (nid t)), L2, a, b, u2, c, d, ()), (s, ()), (t, ()), ())) := by
  have h := fold_all (G := fun x => G_6_14 x.1.1 x.1.2.2.2.1 x.1.2.2.2.2.1 x.1.2.2.2.2.2.1 x.1.2.2.2.2.2.2.1 x.1.2.2.2.2.2.2.2.1 x.1.2.2.2.2.2.2.2.2.1 x.1.2.2.2.2.2.2.2.2.2.1 x.1.2.2.2.2.2.2.2.2.2.2.1 x.1.2.2.2.2.2.2.2.2.2.2.2.1 x.1.2.2.2.2.2.2.2.2.2.2.2.2.1 x.1.2.2.2.2.2.2.2.2.2.2.2.2.2.1 x.1.2.2.2.2.2.2.2.2.2.2.2.2.2.2.1 x.2.1 x.2.2.1) (m := fuel) l (fun b m => b || m == nid t)
    (fun j r => ((L, (), (), u, ok, r, L2, a, b, u2, c, d, l, (l.length : Int), (j : Int), ()), (s, ()), (t, ()), ())) (fun r => .inl ((L, (), (), u, ok, r, L2, a, b, u2, c, d, ()), (s, ()), (t, ()), ())) (fun j m r ha => ?_) (fun r => ?_) (fuel_lt hl) r15
  · rw [or_any] at h
    exact h
  · have hk := len_of ha
    simp only [G_6_14, dec_lt hk, dec_in hk, cond_true, getD_of ha, wrap_up hk (by omega)]
    cases r <;> rfl
  · simp only [G_6_14, dec_end, cond_false]
/-- The things that hang on one: each is found, and has it as an end, or as a member. -/
theorem q_6_9 (hr : Rt s) (hs : Small s.2.2) (L L2 : List Thing) (u : List Int) (a b : Int) (t : Thing) (ul : List Int) (hul : ∀ n ∈ ul, ∃ x ∈ s.2.2, nid x = n ∧ useB (nid t) x = true) (hl : ul.length ≤ 1000000000) :
    R_6_9 ((L, (), (), u, L2, a, b, ul, (ul.length : Int), (0 : Int), ()), (s, ()), (t, ()), ()) = some (.inl ((L, (), (), u, L2, a, b, ()), (s, ()), (t, ()), ())) := by
  have h := find_loop (G := fun x => G_6_9 x.1.1 x.1.2.2.2.1 x.1.2.2.2.2.1 x.1.2.2.2.2.2.1 x.1.2.2.2.2.2.2.1 x.1.2.2.2.2.2.2.2.1 x.1.2.2.2.2.2.2.2.2.1 x.1.2.2.2.2.2.2.2.2.2.1 x.2.1 x.2.2.1) (m := fuel) ul (fun _ => false)
    (fun j => ((L, (), (), u, L2, a, b, ul, (ul.length : Int), (j : Int), ()), (s, ()), (t, ()), ())) (fun _ => .inr ((false, ()), ())) (.inl ((L, (), (), u, L2, a, b, ()), (s, ()), (t, ()), ())) (fun j n ha => ?_) ?_ (fuel_lt hl)
  · have hnone : ul.findIdx? (fun _ => false) = none := by rw [List.findIdx?_eq_none_iff]; intro _ _; rfl
    rw [hnone] at h
    exact h
  · have hk := len_of ha
    obtain ⟨x, hx, rfl, hu⟩ := hul n (List.mem_of_getElem? ha)
    have hg := hr.getB hx
    simp only [G_6_9, dec_lt hk, dec_in hk, cond_true, getD_of ha]
    rw [v_23 s _ hs.1 hs.2, hg]
    simp only [Option.bind_some]
    have hxl := hs.2 x hx
    unfold useB nid at hu
    rw [q_6_14 _ _ _ _ _ _ _ _ _ _ _ _ _ hxl, q_6_14 _ _ _ _ _ _ _ _ _ _ _ _ _ hxl, q_6_14 _ _ _ _ _ _ _ _ _ _ _ _ _ hxl]
    simp only [Option.bind_some, Sum.elim_inl, wrap_up hk (by omega : ul.length ≤ 4611686018427387904)]
    unfold nid
    revert hu
    show ((x.2.1 == (2 : Int) && (x.2.2.2.1.1 == t.1 || x.2.2.2.1.2.1 == t.1)) || x.2.2.2.2.contains t.1) = true → _
    cases (x.2.1 == (2 : Int)) <;> cases (x.2.2.2.1.1 == t.1) <;> cases (x.2.2.2.1.2.1 == t.1) <;> cases (x.2.2.2.2.contains t.1) <;> intro hu <;> first | rfl | cases hu
  · simp only [G_6_9, dec_end, cond_false]
theorem uses_of {l : List Thing} {n : Int} : ∀ m ∈ uses l n, ∃ x ∈ l, nid x = m ∧ useB n x = true := by
  intro m hm
  unfold uses at hm
  obtain ⟨x, hx, rfl⟩ := List.mem_map.1 hm
  obtain ⟨h1, h2⟩ := List.mem_filter.1 hx
  exact ⟨x, h1, rfl, h2⟩
theorem q_6_5 (hr : rightB s = true) (hs : Small s.2.2) : R_6_5 ((s.2.2, (), s.2.2, (s.2.2.length : Int), (0 : Int), ()), (s, ()), ()) = some (.inl ((), ())) := by
  have h := find_loop (G := fun x => G_6_5 x.1.1 x.1.2.2.1 x.1.2.2.2.1 x.1.2.2.2.2.1 x.2.1) (m := fuel) s.2.2 (fun _ => false)
    (fun j => ((s.2.2, (), s.2.2, (s.2.2.length : Int), (j : Int), ()), (s, ()), ())) (fun _ => .inr ((false, ()), ())) (.inl ((), ())) (fun j t ha => ?_) ?_ (fuel_lt hs.1)
  · have hnone : s.2.2.findIdx? (fun _ => false) = none := by rw [List.findIdx?_eq_none_iff]; intro _ _; rfl
    rw [hnone] at h
    exact h
  · have hk := len_of ha
    have hR := right_of hr
    have ht := List.mem_of_getElem? ha
    have hlen := uses_len s.2.2 (nid t)
    have h1 := hs.1
    obtain ⟨i, t', h3, h4, h5⟩ := v_26 s (nid t) hs hr ⟨t, ht, rfl⟩
    have hi := len_of h3
    simp only [G_6_5, dec_lt hk, dec_in hk, cond_true, getD_of ha]
    rw [show t.1 = nid t from rfl, v_27 s _ hs]
    simp only [Option.bind_some]
    rw [q_6_9 hR hs _ _ _ _ _ t _ uses_of (by omega)]
    simp only [Option.bind_some, Sum.elim_inl]
    rw [show t.1 = nid t from rfl, h5]
    simp only [Option.bind_some, wrap_up hk (by omega : s.2.2.length ≤ 4611686018427387904)]
    by_cases hu : uses s.2.2 (nid t) = []
    · rw [if_pos hu, hu]
      have hw : IntKind.i64.wrap ((s.2.2.length : Int) - 1) = ((s.2.2.length - 1 : Nat) : Int) := by
        have : (s.2.2.length : Int) - 1 = ((s.2.2.length - 1 : Nat) : Int) := by omega
        rw [this]
        exact wrap64 (by omega) (by omega)
      have hl : (s.2.2.take i ++ s.2.2.drop (i + 1)).length = s.2.2.length - 1 := by simp; omega
      simp only [hw, hl, bne_self_eq_false, cond_false]
      rfl
    · rw [if_neg hu]
      have h0 : 0 < (uses s.2.2 (nid t)).length := List.length_pos_iff.2 hu
      have : (((uses s.2.2 (nid t)).length : Int) == 0) = false := by
        rw [beq_eq_false_iff_ne]; omega
      simp only [this]
      rfl
  · simp only [G_6_5, dec_end, cond_false]
end
theorem sceneUses (g : Vec) (next : I.El) (l : (Ty.list tThing).El) (h0 : tVec.wf g) (h1 : I.wf next) (h2 : (Ty.list tThing).wf l) : F_6 g next l = some ((true, ()) : Els [.bool]) := by
  unfold F_6
  rw [v_22 l h2.1]
  simp only [Option.bind_some]
  cases hf : fewB l with
  | false => simp only [Bool.not_false, cond_true, alive16, Option.bind_some]
  | true =>
    have hs : Small l := small_of (few_small hf)
    rw [v_20 (g, next, l) hs]
    simp only [Bool.not_true, cond_false, Option.bind_some]
    cases hr : rightB (g, next, l) with
    | false => simp only [Bool.not_false, cond_true, alive16, Option.bind_some]
    | true =>
      simp only [Bool.not_true, cond_false, alive16, Option.bind_some]
      have := q_6_5 (s := (g, next, l)) hr hs
      rw [this]
      rfl
end Go.DI.S

