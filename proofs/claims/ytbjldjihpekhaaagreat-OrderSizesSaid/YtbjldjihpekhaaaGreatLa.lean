import Derived.Test.YtbjldjihpekhaaaGreatMd
/- OrderSizes, told by functions on data. No conditions. -/
set_option linter.unusedVariables false
set_option maxRecDepth 100000
set_option maxHeartbeats 0
namespace Go.DI.S
open Go.Proofs
noncomputable def c_sizes : Code := Tryz.f6.body.getD .skip
theorem hb_sizes : Tryz.f6.body = some c_sizes := by kernel_rfl
theorem hf_sizes : CT.P.funcs[6]? = some Tryz.f6 := by kernel_rfl
noncomputable def T_sizes : Tb := mkTb tyT mpT [E_alive, E_put, E_getb]
theorem T_sizes_ok : T_sizes.Ok CT.P := mkTb_ok (⟨e_alive, e_put, e_getb, trivial⟩)
noncomputable def lp_sizes {β : Type} : LpT β := fun _ _ _ => none
theorem lp_sizes_ok {β : Type} : LpTOk CT (lp_sizes (β := β)) (loopsOf c_sizes) := by
  have h : loopsOf c_sizes = [] := by kernel_rfl
  rw [h]
  exact LpTOk.nil
noncomputable def F_sizes (a1 : Ty.El tOrder) (a2 : Ty.El I) (a3 : Ty.El .str) : Option (Els [.bool]) :=
  bif Decidable.decide ((↑(List.length a1.snd.snd.snd.snd.snd.snd.snd.snd.snd.snd.snd) : Int) > (20 : Int)) then F_alive.bind fun v2 => Option.some (v2.fst, ())
  else
    bif a3 == [] then F_alive.bind fun v4 => Option.some (v4.fst, ())
    else
      bif Decidable.decide ((↑(List.length a3) : Int) > (40 : Int)) then F_alive.bind fun v6 => Option.some (v6.fst, ())
      else
        F_alive.bind fun v8 =>
          bif !v8.fst then F_alive.bind fun v10 => Option.some (v10.fst, ())
          else
            (F_put a1).bind fun v12 =>
              bif !v12.snd.fst then Option.some (v12.fst == [], ())
              else
                bif
                    (↑(List.length v12.fst) : Int) !=
                      Go.IntKind.i64.wrap ((62 : Int) + Go.IntKind.i64.wrap ((4 : Int) * (↑(List.length a1.snd.snd.snd.snd.snd.snd.snd.snd.snd.snd.snd) : Int))) then
                  Option.some (Bool.false, ())
                else
                  bif Decidable.decide ((0 : Int) ≤ (0 : Int) ∧ (0 : Int) < (↑(List.length v12.fst) : Int)) then
                    bif Go.IntKind.i64.wrap (↑(List.getD v12.fst (Int.toNat (0 : Int)) (0 : UInt8)).toBitVec.toFin.1 : Int) != a1.fst then Option.some (Bool.false, ())
                    else
                      bif Decidable.decide ((↑(List.length v12.fst) : Int) = (0 : Int)) then Option.none
                      else
                        bif Decidable.decide ((↑(List.length v12.fst) : Int) = (0 : Int)) then Option.none
                        else
                          bif
                              Decidable.decide
                                ((0 : Int) ≤ (Go.IntKind.i64.wrap (Int.tmod a2 (↑(List.length v12.fst) : Int) + (↑(List.length v12.fst) : Int))).tmod (↑(List.length v12.fst) : Int) ∧
                                  (Go.IntKind.i64.wrap (Int.tmod a2 (↑(List.length v12.fst) : Int) + (↑(List.length v12.fst) : Int))).tmod (↑(List.length v12.fst) : Int) ≤
                                    (↑(List.length v12.fst) : Int)) then
                            (F_getb
                                  (List.take
                                    (((Go.IntKind.i64.wrap (Int.tmod a2 (↑(List.length v12.fst) : Int) + (↑(List.length v12.fst) : Int))).tmod (↑(List.length v12.fst) : Int)).toNat -
                                      (0 : Nat))
                                    (List.drop (0 : Nat) v12.fst))).bind
                              fun v14 =>
                              bif Decidable.decide (List.length v12.fst + List.length a3 ≤ (4611686018427387904 : Nat)) then
                                (F_getb (v12.fst ++ a3)).bind fun v16 => bif !v14.snd.fst then Option.some (!v16.snd.fst, ()) else Option.some (Bool.false, ())
                              else Option.none
                          else Option.none
                  else Option.none
theorem f_sizes (x : Ps [.ty tOrder, .ty I, .ty .str]) : funcT CT T_sizes [.bool] (drT CT T_sizes) lp_sizes Tryz.f6 c_sizes (encPs [.ty tOrder, .ty I, .ty .str] x) = F_sizes x.1 x.2.1 x.2.2.1 := by kernel_rfl
noncomputable def E_sizes : Ent := .fn 6 [] ⟨[.ty tOrder, .ty I, .ty .str], [.bool], fun x => F_sizes x.1 x.2.1 x.2.2.1, false⟩
theorem e_sizes : E_sizes.Ok CT.P := Ent.ofFn CT_ok T_sizes_ok hf_sizes hb_sizes lp_sizes_ok f_sizes
end Go.DI.S
