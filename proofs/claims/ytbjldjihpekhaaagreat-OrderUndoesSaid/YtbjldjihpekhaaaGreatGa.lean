import Derived.Test.YtbjldjihpekhaaaGreatXb
/- OrderUndoes, told by functions on data. No conditions. -/
set_option linter.unusedVariables false
set_option maxRecDepth 100000
set_option maxHeartbeats 0
namespace Go.DI.S
open Go.Proofs
noncomputable def c_do4 : Code := Tryz.f90.body.getD .skip
theorem hb_do4 : Tryz.f90.body = some c_do4 := by kernel_rfl
theorem hf_do4 : CT.P.funcs[90]? = some Tryz.f90 := by kernel_rfl
noncomputable abbrev IN_do4 : LayD := ⟨1, [(0, .ptr 0)], [.var 140 [.data tWorker]], fun s => [slotR s 0]⟩
noncomputable abbrev OUT_do4 : LayD := ⟨3, [(0, .data tScene), (1, .data I), (2, .data I)], [.var 140 [.data tWorker]], fun _ => [0]⟩
noncomputable def T_do4 : Tb := mkTb tyT mpT [E_body, E_make, E_39, E_41w, E_free, E_eachqm, E_eachqt, E_42, E_20, E_oown, E_by]
theorem T_do4_ok : T_do4.Ok CT.P := mkTb_ok (⟨e_body, e_make, e_39, e_41w, e_free, e_eachqm, e_eachqt, e_42, e_20, e_oown, e_by, trivial⟩)
noncomputable def lp_do4 {β : Type} : LpT β := fun _ _ _ => none
theorem lp_do4_ok {β : Type} : LpTOk (CTp 1) (lp_do4 (β := β)) (loopsOf c_do4) := by
  have h : loopsOf c_do4 = [] := by kernel_rfl
  rw [h]
  exact LpTOk.nil
noncomputable def F_do4 (b0 : Ty.El tWorker × Unit) : Option OUT_do4.El :=
  bif b0.fst.snd.fst.fst == (1 : Int) then
    (F_body (b0.fst, ())).bind fun v2 =>
      (F_make v2.fst.fst (v2.snd.fst.fst, ())).bind fun v8 => Option.some ((v8.fst.fst, v8.fst.snd.fst, v8.fst.snd.snd.fst, ()), (v8.snd.fst.fst, ()), ())
  else
    bif b0.fst.snd.fst.fst == (2 : Int) then (F_39 b0.fst.fst b0.fst.snd.fst.snd.fst).bind fun v18 => Option.some ((v18.fst, (0 : Int), v18.snd.fst, ()), (b0.fst, ()), ())
    else
      bif b0.fst.snd.fst.fst == (3 : Int) then
        (F_eachqm (b0.fst, ())).bind fun v20 => Option.some ((v20.fst.fst, v20.fst.snd.fst, v20.fst.snd.snd.fst, ()), (v20.snd.fst.fst, ()), ())
      else
        bif b0.fst.snd.fst.fst == (4 : Int) then
          (F_make
                ((0 : Int), (2 : Int), ((0 : Int), ((0 : Int), (0 : Int)), (0 : Int), ((0 : Int), (0 : Int)), (0 : Int), (0 : Int)),
                  (b0.fst.snd.fst.snd.fst, b0.fst.snd.fst.snd.snd.fst, b0.fst.snd.snd.snd.snd.fst), [])
                (b0.fst, ())).bind
            fun v30 => Option.some ((v30.fst.fst, v30.fst.snd.fst, v30.fst.snd.snd.fst, ()), (v30.snd.fst.fst, ()), ())
        else
          bif b0.fst.snd.fst.fst == (5 : Int) then
            (F_41w b0.fst.fst b0.fst.snd.fst.snd.snd.snd.snd.snd.snd.snd.snd.snd.snd.snd).bind fun v40 => Option.some ((v40.fst, v40.snd.fst, v40.snd.snd.fst, ()), (b0.fst, ()), ())
          else
            bif b0.fst.snd.fst.fst == (6 : Int) then
              (F_free (b0.fst, ())).bind fun v42 => Option.some ((v42.fst.fst, v42.fst.snd.fst, v42.fst.snd.snd.fst, ()), (v42.snd.fst.fst, ()), ())
            else
              bif b0.fst.snd.fst.fst == (7 : Int) then
                (F_by b0.fst).bind fun v52 =>
                  (F_42 b0.fst.fst b0.fst.snd.fst.snd.fst v52.fst).bind fun v54 => Option.some ((v54.fst, v54.snd.fst, v54.snd.snd.fst, ()), (b0.fst, ()), ())
              else
                bif b0.fst.snd.fst.fst == (8 : Int) then
                  (F_by b0.fst).bind fun v56 =>
                    (F_20 (v56.fst, b0.fst.fst.snd)).bind fun v58 =>
                      bif !v58.fst then Option.some (((v56.fst, b0.fst.fst.snd), (0 : Int), (9 : Int), ()), (b0.fst, ()), ())
                      else (F_oown b0.fst.fst.snd.snd).bind fun v60 => Option.some (((v56.fst, b0.fst.fst.snd.fst, v60), (0 : Int), (0 : Int), ()), (b0.fst, ()), ())
                else
                  bif b0.fst.snd.fst.fst == (9 : Int) then
                    (F_eachqt (b0.fst, ())).bind fun v62 => Option.some ((v62.fst.fst, v62.fst.snd.fst, v62.fst.snd.snd.fst, ()), (v62.snd.fst.fst, ()), ())
                  else Option.none
theorem f_do4 (x : IN_do4.El) : funcX (CTp 1) T_do4 IN_do4 OUT_do4 [.frzReg 0 tScene] (drT (CTp 1) T_do4) lp_do4 Tryz.f90 c_do4 x = F_do4 x.2.1 := by kernel_rfl
noncomputable def E_do4 : Ent := .mkGen 90 [] ⟨1, [], IN_do4, OUT_do4, fun x => F_do4 x.2.1⟩
theorem e_do4 : E_do4.Ok CT.P := Ent.ofGen (C := (CTp 1)) (steps := []) (osteps := [.frzReg 0 tScene]) (CTp_ok 1) T_do4_ok hf_do4 hb_do4 lp_do4_ok f_do4
noncomputable def c_Do4 : Code := Tryz.f25.body.getD .skip
theorem hb_Do4 : Tryz.f25.body = some c_Do4 := by kernel_rfl
theorem hf_Do4 : CT.P.funcs[25]? = some Tryz.f25 := by kernel_rfl
noncomputable def T_Do4 : Tb := mkTb tyT mpT [E_20, E_readw, E_do4]
theorem T_Do4_ok : T_Do4.Ok CT.P := mkTb_ok (⟨e_20, e_readw, e_do4, trivial⟩)
noncomputable def lp_Do4 {β : Type} : LpT β := fun _ _ _ => none
theorem lp_Do4_ok {β : Type} : LpTOk CT (lp_Do4 (β := β)) (loopsOf c_Do4) := by
  have h : loopsOf c_Do4 = [] := by kernel_rfl
  rw [h]
  exact LpTOk.nil
noncomputable def F_Do4 (a1 : Ty.El tScene) (a2 : Ty.El tOrder) : Option (Els [tScene, I, I]) :=
  bif Decidable.decide (a2.fst < (1 : Int)) then Option.some (a1, (0 : Int), (9 : Int), ())
  else
    bif Decidable.decide (a2.fst > (10 : Int)) then Option.some (a1, (0 : Int), (9 : Int), ())
    else
      (F_20 a1).bind fun v2 =>
        bif !v2.fst then Option.some (a1, (0 : Int), (9 : Int), ())
        else
          (F_readw ((a1, a2, (0 : Int), (0 : Int), (0 : Int), (0 : Int), (0 : Int)), ())).bind fun v4 =>
            bif v4.fst.fst != (0 : Int) then Option.some (a1, (0 : Int), v4.fst.fst, ())
            else
              (F_do4 (v4.snd.fst.fst, ())).bind fun v12 =>
                bif v12.fst.snd.snd.fst != (0 : Int) then Option.some (a1, (0 : Int), v12.fst.snd.snd.fst, ()) else Option.some (v12.fst.fst, v12.fst.snd.fst, (0 : Int), ())
theorem f_Do4 (x : Ps [.ty tScene, .ty tOrder]) : funcT CT T_Do4 [tScene, I, I] (drT CT T_Do4) lp_Do4 Tryz.f25 c_Do4 (encPs [.ty tScene, .ty tOrder] x) = F_Do4 x.1 x.2.1 := by kernel_rfl
noncomputable def E_Do4 : Ent := .fn 25 [] ⟨[.ty tScene, .ty tOrder], [tScene, I, I], fun x => F_Do4 x.1 x.2.1, false⟩
theorem e_Do4 : E_Do4.Ok CT.P := Ent.ofFn CT_ok T_Do4_ok hf_Do4 hb_Do4 lp_Do4_ok f_Do4
noncomputable def c_undoes : Code := Tryz.f4.body.getD .skip
theorem hb_undoes : Tryz.f4.body = some c_undoes := by kernel_rfl
theorem hf_undoes : CT.P.funcs[4]? = some Tryz.f4 := by kernel_rfl
noncomputable def T_undoes : Tb := mkTb tyT mpT [E_22, E_25, E_24, E_20, E_alive, E_Do4]
theorem T_undoes_ok : T_undoes.Ok CT.P := mkTb_ok (⟨e_22, e_25, e_24, e_20, e_alive, e_Do4, trivial⟩)
noncomputable def l_undoes_5 : Code := atLoop c_undoes 5
noncomputable def lpi_undoes_5 {β : Type} : LpT β := fun _ _ _ => none
theorem lpi_undoes_5_ok {β : Type} : LpTOk CT (lpi_undoes_5 (β := β)) (loopsOf l_undoes_5) := by
  have h : loopsOf l_undoes_5 = [] := by kernel_rfl
  rw [h]
  exact LpTOk.nil
noncomputable def lp_undoes {β : Type} : LpT β := fun k s K => if Nat.beq k 5 then lpUn CT T_undoes (drT CT T_undoes) (lpi_undoes_5) l_undoes_5 4 s K else none
theorem lp_undoes_ok {β : Type} : LpTOk CT (lp_undoes (β := β)) (loopsOf c_undoes) := by
  have h : loopsOf c_undoes = [(5, l_undoes_5)] := by kernel_rfl
  rw [h]
  exact LpTOk.cons (fun s K z h => lpUn_ok CT_ok T_undoes_ok (drT_ok CT_ok T_undoes_ok) lpi_undoes_5_ok h) (LpTOk.nil)
noncomputable def F_undoes (a1 : Ty.El tVec) (a2 : Ty.El I) (a3 : Ty.El (.list tThing)) (a4 : Ty.El I) (a5 : Ty.El I) (a6 : Ty.El I) : Option (Els [.bool]) :=
  (F_22 a3).bind fun v2 =>
    bif !v2.fst then F_alive.bind fun v4 => Option.some (v4.fst, ())
    else
      (F_20 (a1, a2, a3)).bind fun v6 =>
        bif !v6.fst then F_alive.bind fun v8 => Option.some (v8.fst, ())
        else
          bif Decidable.decide (a5 < (-1000 : Int)) then F_alive.bind fun v10 => Option.some (v10.fst, ())
          else
            bif Decidable.decide (a6 < (-1000 : Int)) then F_alive.bind fun v12 => Option.some (v12.fst, ())
            else
              bif Decidable.decide (a5 > (1000 : Int)) then F_alive.bind fun v14 => Option.some (v14.fst, ())
              else
                bif Decidable.decide (a6 > (1000 : Int)) then F_alive.bind fun v16 => Option.some (v16.fst, ())
                else
                  bif Decidable.decide (a4 < (1 : Int)) then F_alive.bind fun v18 => Option.some (v18.fst, ())
                  else
                    bif Decidable.decide (a4 > (1000000 : Int)) then F_alive.bind fun v20 => Option.some (v20.fst, ())
                    else
                      F_alive.bind fun v22 =>
                        bif !v22.fst then F_alive.bind fun v24 => Option.some (v24.fst, ())
                        else
                          (F_Do4 (a1, a2, a3)
                                ((3 : Int), a4, (0 : Int), (0 : Int), Go.FloatKind.f64.nearest a5, Go.FloatKind.f64.nearest a6, (0 : Nat), (0 : Nat), (0 : Nat), (0 : Int), (0 : Int),
                                  [])).bind
                            fun v26 =>
                            bif v26.snd.snd.fst != (0 : Int) then
                              (F_Do4 (a1, a2, a3) ((9 : Int), a4, (0 : Int), (0 : Int), (0 : Nat), (0 : Nat), (0 : Nat), (0 : Nat), (0 : Nat), (32768 : Int), (0 : Int), [])).bind
                                fun v28 =>
                                bif v28.snd.snd.fst != (0 : Int) then
                                  (F_Do4 (a1, a2, a3) ((7 : Int), a4, (0 : Int), (0 : Int), (0 : Nat), (0 : Nat), (0 : Nat), (0 : Nat), (0 : Nat), (0 : Int), (0 : Int), [])).bind
                                    fun v30 =>
                                    bif v30.snd.snd.fst != (0 : Int) then Option.some (Bool.true, ())
                                    else
                                      (F_Do4 v30.fst
                                            ((2 : Int), v30.snd.fst, (0 : Int), (0 : Int), (0 : Nat), (0 : Nat), (0 : Nat), (0 : Nat), (0 : Nat), (0 : Int), (0 : Int), [])).bind
                                        fun v32 =>
                                        bif v32.snd.snd.fst != (0 : Int) then Option.some (Bool.false, ())
                                        else
                                          (F_25 (a1, a2, a3)).bind fun v34 =>
                                            (F_24 (v32.fst.fst, a2, v32.fst.snd.snd) v34.fst).bind fun v36 =>
                                              bif !v36.fst then Option.some (Bool.false, ()) else Option.some (Bool.true, ())
                                else
                                  (F_Do4 v28.fst ((9 : Int), a4, (0 : Int), (0 : Int), (0 : Nat), (0 : Nat), (0 : Nat), (0 : Nat), (0 : Nat), (32768 : Int), (0 : Int), [])).bind
                                    fun v38 =>
                                    bif v38.snd.snd.fst != (0 : Int) then Option.some (Bool.false, ())
                                    else
                                      (F_25 (a1, a2, a3)).bind fun v40 =>
                                        (F_24 (v38.fst.fst, a2, v38.fst.snd.snd) v40.fst).bind fun v42 =>
                                          bif !v42.fst then Option.some (Bool.false, ())
                                          else
                                            (F_Do4 (a1, a2, a3)
                                                  ((7 : Int), a4, (0 : Int), (0 : Int), (0 : Nat), (0 : Nat), (0 : Nat), (0 : Nat), (0 : Nat), (0 : Int), (0 : Int), [])).bind
                                              fun v44 =>
                                              bif v44.snd.snd.fst != (0 : Int) then Option.some (Bool.true, ())
                                              else
                                                (F_Do4 v44.fst
                                                      ((2 : Int), v44.snd.fst, (0 : Int), (0 : Int), (0 : Nat), (0 : Nat), (0 : Nat), (0 : Nat), (0 : Nat), (0 : Int), (0 : Int),
                                                        [])).bind
                                                  fun v46 =>
                                                  bif v46.snd.snd.fst != (0 : Int) then Option.some (Bool.false, ())
                                                  else
                                                    (F_25 (a1, a2, a3)).bind fun v48 =>
                                                      (F_24 (v46.fst.fst, a2, v46.fst.snd.snd) v48.fst).bind fun v50 =>
                                                        bif !v50.fst then Option.some (Bool.false, ()) else Option.some (Bool.true, ())
                            else
                              (F_Do4 v26.fst
                                    ((3 : Int), a4, (0 : Int), (0 : Int), Go.FloatKind.f64.nearest (Go.IntKind.i64.wrap ((0 : Int) - a5)),
                                      Go.FloatKind.f64.nearest (Go.IntKind.i64.wrap ((0 : Int) - a6)), (0 : Nat), (0 : Nat), (0 : Nat), (0 : Int), (0 : Int), [])).bind
                                fun v52 =>
                                bif v52.snd.snd.fst != (0 : Int) then Option.some (Bool.false, ())
                                else
                                  (F_25 (a1, a2, a3)).bind fun v54 =>
                                    (F_24 (v52.fst.fst, a2, v52.fst.snd.snd) v54.fst).bind fun v56 =>
                                      bif !v56.fst then Option.some (Bool.false, ())
                                      else
                                        (F_Do4 (a1, a2, a3)
                                              ((9 : Int), a4, (0 : Int), (0 : Int), (0 : Nat), (0 : Nat), (0 : Nat), (0 : Nat), (0 : Nat), (32768 : Int), (0 : Int), [])).bind
                                          fun v58 =>
                                          bif v58.snd.snd.fst != (0 : Int) then
                                            (F_Do4 (a1, a2, a3)
                                                  ((7 : Int), a4, (0 : Int), (0 : Int), (0 : Nat), (0 : Nat), (0 : Nat), (0 : Nat), (0 : Nat), (0 : Int), (0 : Int), [])).bind
                                              fun v60 =>
                                              bif v60.snd.snd.fst != (0 : Int) then Option.some (Bool.true, ())
                                              else
                                                (F_Do4 v60.fst
                                                      ((2 : Int), v60.snd.fst, (0 : Int), (0 : Int), (0 : Nat), (0 : Nat), (0 : Nat), (0 : Nat), (0 : Nat), (0 : Int), (0 : Int),
                                                        [])).bind
                                                  fun v62 =>
                                                  bif v62.snd.snd.fst != (0 : Int) then Option.some (Bool.false, ())
                                                  else
                                                    (F_25 (a1, a2, a3)).bind fun v64 =>
                                                      (F_24 (v62.fst.fst, a2, v62.fst.snd.snd) v64.fst).bind fun v66 =>
                                                        bif !v66.fst then Option.some (Bool.false, ()) else Option.some (Bool.true, ())
                                          else
                                            (F_Do4 v58.fst
                                                  ((9 : Int), a4, (0 : Int), (0 : Int), (0 : Nat), (0 : Nat), (0 : Nat), (0 : Nat), (0 : Nat), (32768 : Int), (0 : Int), [])).bind
                                              fun v68 =>
                                              bif v68.snd.snd.fst != (0 : Int) then Option.some (Bool.false, ())
                                              else
                                                (F_25 (a1, a2, a3)).bind fun v70 =>
                                                  (F_24 (v68.fst.fst, a2, v68.fst.snd.snd) v70.fst).bind fun v72 =>
                                                    bif !v72.fst then Option.some (Bool.false, ())
                                                    else
                                                      (F_Do4 (a1, a2, a3)
                                                            ((7 : Int), a4, (0 : Int), (0 : Int), (0 : Nat), (0 : Nat), (0 : Nat), (0 : Nat), (0 : Nat), (0 : Int), (0 : Int),
                                                              [])).bind
                                                        fun v74 =>
                                                        bif v74.snd.snd.fst != (0 : Int) then Option.some (Bool.true, ())
                                                        else
                                                          (F_Do4 v74.fst
                                                                ((2 : Int), v74.snd.fst, (0 : Int), (0 : Int), (0 : Nat), (0 : Nat), (0 : Nat), (0 : Nat), (0 : Nat), (0 : Int),
                                                                  (0 : Int), [])).bind
                                                            fun v76 =>
                                                            bif v76.snd.snd.fst != (0 : Int) then Option.some (Bool.false, ())
                                                            else
                                                              (F_25 (a1, a2, a3)).bind fun v78 =>
                                                                (F_24 (v76.fst.fst, a2, v76.fst.snd.snd) v78.fst).bind fun v80 =>
                                                                  bif !v80.fst then Option.some (Bool.false, ()) else Option.some (Bool.true, ())
theorem f_undoes (x : Ps [.ty tVec, .ty I, .ty (.list tThing), .ty I, .ty I, .ty I]) : funcT CT T_undoes [.bool] (drT CT T_undoes) lp_undoes Tryz.f4 c_undoes (encPs [.ty tVec, .ty I, .ty (.list tThing), .ty I, .ty I, .ty I] x) = F_undoes x.1 x.2.1 x.2.2.1 x.2.2.2.1 x.2.2.2.2.1 x.2.2.2.2.2.1 := by kernel_rfl
noncomputable def E_undoes : Ent := .fn 4 [] ⟨[.ty tVec, .ty I, .ty (.list tThing), .ty I, .ty I, .ty I], [.bool], fun x => F_undoes x.1 x.2.1 x.2.2.1 x.2.2.2.1 x.2.2.2.2.1 x.2.2.2.2.2.1, false⟩
theorem e_undoes : E_undoes.Ok CT.P := Ent.ofFn CT_ok T_undoes_ok hf_undoes hb_undoes lp_undoes_ok f_undoes
end Go.DI.S
