import Derived.Test.YtmleimalginhhaaPa
/- PastClears, told by a function on data. No conditions. -/
/-! The program's functions, told by functions on data. -/
set_option linter.unusedVariables false
set_option maxRecDepth 100000
set_option maxHeartbeats 0
namespace Go.DI.S
open Go.Proofs
/-! ### 9: maquette/maquettelaw23.PastClears -/
noncomputable def c_9 : Code := Try.f9.body.getD .skip
theorem hb_9 : Try.f9.body = some c_9 := by kernel_rfl
theorem hf_9 : CT.P.funcs[9]? = some Try.f9 := by kernel_rfl
noncomputable def T_9 : Tb := mkTb tyP mpP [E_19, E_30, E_31, E_32]
theorem T_9_ok : T_9.Ok CT.P := mkTb_ok (⟨e_19, e_30, e_31, e_32, trivial⟩)
noncomputable def l_9_13 : Code := atLoop c_9 13
noncomputable def l_9_5 : Code := atLoop c_9 5
noncomputable abbrev LD_9_5 : LayD := ⟨134, [(0, .data I), (1, .data I), (5, .ptr 0), (6, .ptr 1), (7, .data I)], [.var 36 [.data tScene], .var 64 [.data tPast]], fun s => [slotR s 5, slotR s 6]⟩
noncomputable abbrev LA_9_5 : LayD := ⟨134, [(0, .data I), (1, .data I), (5, .ptr 0), (6, .ptr 1)], [.var 36 [.data tScene], .var 64 [.data tPast]], fun s => [slotR s 5, slotR s 6]⟩
noncomputable abbrev LB_9_5 : LayD := ⟨134, [(4, .data .bool)], [], fun _ => []⟩
noncomputable def EX_9_5 : Exits 0 LA_9_5.El LB_9_5.El := ⟨.exit 0, LA_9_5.lay [], .ret, LB_9_5.lay []⟩

noncomputable def lpi_9_5 {β : Type} : LpT β := fun _ _ _ => none
theorem lpi_9_5_ok {β : Type} : LpTOk CT (lpi_9_5 (β := β)) (loopsOf l_9_5) := by
  have h : loopsOf l_9_5 = [] := by kernel_rfl
  rw [h]
  exact LpTOk.nil
noncomputable def G_9_5 (r0 : Ty.El I) (r1 : Ty.El I) (r7 : Ty.El I) (b0 : Ty.El tScene × Unit) (b1 : Ty.El tPast × Unit) : Option (LD_9_5.El ⊕ (LA_9_5.El ⊕ LB_9_5.El)) :=
  bif Decidable.decide (r7 < r0) then
    (F_31 b1.fst ([], Bool.false, ((0 : Int), (0 : Int)), ((0 : Int), (0 : Int)), Go.IntKind.i64.wrap (r7 + (1 : Int)), Go.IntKind.i64.wrap (r7 + (2 : Int)))).bind fun v2 =>
      bif !v2.snd.fst then Option.some (Sum.inr (Sum.inr ((Bool.false, ()), ())))
      else Option.some (Sum.inl ((r0, r1, (), (), Go.IntKind.i64.wrap (r7 + (1 : Int)), ()), (b0.fst, ()), (v2.fst, ()), ()))
  else Option.some (Sum.inr (Sum.inl ((r0, r1, (), (), ()), (b0.fst, ()), (b1.fst, ()), ())))
theorem g_9_5 (x : LD_9_5.El) : codeT CT T_9 (drT CT T_9) lpi_9_5 l_9_5 (LD_9_5.enc x) (bodyK (LD_9_5.lay []) EX_9_5) = G_9_5 x.1.1 x.1.2.1 x.1.2.2.2.2.1 x.2.1 x.2.2.1 := by kernel_rfl
noncomputable def R_9_5 : LD_9_5.El → Option (LA_9_5.El ⊕ LB_9_5.El) := roundsT (fun x => G_9_5 x.1.1 x.1.2.1 x.1.2.2.2.2.1 x.2.1 x.2.2.1) fuel
theorem r_9_5 : ∀ x y, R_9_5 x = some y → CL CT l_9_5 (LD_9_5.enc x) (Sum.elim (fun _ => EX_9_5.xa) (fun _ => EX_9_5.xb) y) (Sum.elim EX_9_5.la.enc EX_9_5.lb.enc y) :=
  rounds_ok (L := LD_9_5.lay []) (E := EX_9_5) CT_ok T_9_ok (drT_ok CT_ok T_9_ok) lpi_9_5_ok g_9_5 rfl rfl (fun v h => by have hh : (.exit 0 : AX) = .pan v := h; cases hh) (fun v h => by have hh : (.ret : AX) = .pan v := h; cases hh) fuel
noncomputable abbrev LD_9_13 : LayD := ⟨134, [(0, .data I), (1, .data I), (5, .ptr 0), (6, .ptr 1), (10, .data I)], [.var 36 [.data tScene], .var 64 [.data tPast]], fun s => [slotR s 5, slotR s 6]⟩
noncomputable abbrev LA_9_13 : LayD := ⟨134, [(0, .data I), (1, .data I), (5, .ptr 0), (6, .ptr 1)], [.var 36 [.data tScene], .var 64 [.data tPast]], fun s => [slotR s 5, slotR s 6]⟩
noncomputable abbrev LB_9_13 : LayD := ⟨134, [(4, .data .bool)], [], fun _ => []⟩
noncomputable def EX_9_13 : Exits 0 LA_9_13.El LB_9_13.El := ⟨.exit 2, LA_9_13.lay [], .ret, LB_9_13.lay []⟩

noncomputable def lpi_9_13 {β : Type} : LpT β := fun _ _ _ => none
theorem lpi_9_13_ok {β : Type} : LpTOk CT (lpi_9_13 (β := β)) (loopsOf l_9_13) := by
  have h : loopsOf l_9_13 = [] := by kernel_rfl
  rw [h]
  exact LpTOk.nil
noncomputable def G_9_13 (r0 : Ty.El I) (r1 : Ty.El I) (r10 : Ty.El I) (b0 : Ty.El tScene × Unit) (b1 : Ty.El tPast × Unit) : Option (LD_9_13.El ⊕ (LA_9_13.El ⊕ LB_9_13.El)) :=
  bif Decidable.decide (r10 < r1) then
    (F_32 b1.fst b0.fst).bind fun v2 =>
      bif v2.snd.snd.fst != (0 : Int) then Option.some (Sum.inr (Sum.inr ((Bool.false, ()), ())))
      else Option.some (Sum.inl ((r0, r1, (), (), Go.IntKind.i64.wrap (r10 + (1 : Int)), ()), (v2.snd.fst, ()), (v2.fst, ()), ()))
  else Option.some (Sum.inr (Sum.inl ((r0, r1, (), (), ()), (b0.fst, ()), (b1.fst, ()), ())))
theorem g_9_13 (x : LD_9_13.El) : codeT CT T_9 (drT CT T_9) lpi_9_13 l_9_13 (LD_9_13.enc x) (bodyK (LD_9_13.lay []) EX_9_13) = G_9_13 x.1.1 x.1.2.1 x.1.2.2.2.2.1 x.2.1 x.2.2.1 := by kernel_rfl
noncomputable def R_9_13 : LD_9_13.El → Option (LA_9_13.El ⊕ LB_9_13.El) := roundsT (fun x => G_9_13 x.1.1 x.1.2.1 x.1.2.2.2.2.1 x.2.1 x.2.2.1) fuel
theorem r_9_13 : ∀ x y, R_9_13 x = some y → CL CT l_9_13 (LD_9_13.enc x) (Sum.elim (fun _ => EX_9_13.xa) (fun _ => EX_9_13.xb) y) (Sum.elim EX_9_13.la.enc EX_9_13.lb.enc y) :=
  rounds_ok (L := LD_9_13.lay []) (E := EX_9_13) CT_ok T_9_ok (drT_ok CT_ok T_9_ok) lpi_9_13_ok g_9_13 rfl rfl (fun v h => by have hh : (.exit 2 : AX) = .pan v := h; cases hh) (fun v h => by have hh : (.ret : AX) = .pan v := h; cases hh) fuel
noncomputable def lp_9 {β : Type} : LpT β := fun k s K => if Nat.beq k 5 then lpOne (LD_9_5.lay []) EX_9_5 R_9_5 s K else if Nat.beq k 13 then lpOne (LD_9_13.lay []) EX_9_13 R_9_13 s K else none
theorem lp_9_ok {β : Type} : LpTOk CT (lp_9 (β := β)) (loopsOf c_9) := by
  have h : loopsOf c_9 = [(5, l_9_5), (13, l_9_13)] := by kernel_rfl
  rw [h]
  exact LpTOk.cons (fun s K z h => lpOne_ok r_9_5 h) (LpTOk.cons (fun s K z h => lpOne_ok r_9_13 h) (LpTOk.nil))
noncomputable def F_9 (a1 : Ty.El I) (a2 : Ty.El I) : Option (Els [.bool]) :=
  bif Decidable.decide (a1 < (1 : Int)) then F_30.bind fun v2 => Option.some (v2.fst, ())
  else
    bif Decidable.decide (a1 > (16 : Int)) then F_30.bind fun v4 => Option.some (v4.fst, ())
    else
      bif Decidable.decide (a2 < (0 : Int)) then F_30.bind fun v6 => Option.some (v6.fst, ())
      else
        bif Decidable.decide (a2 > a1) then F_30.bind fun v8 => Option.some (v8.fst, ())
        else
          F_30.bind fun v10 =>
            bif !v10.fst then F_30.bind fun v12 => Option.some (v12.fst, ())
            else
              F_19.bind fun v14 =>
                (R_9_5 ((a1, a2, (), (), (0 : Int), ()), (v14.fst, ()), (([], []), ()), ())).bind fun v15 =>
                  Sum.elim
                    (fun v16 =>
                      (R_9_13
                            ((v16.fst.fst, v16.fst.snd.fst, (), (), (0 : Int), ()),
                              ((v16.snd.fst.fst.fst, Go.IntKind.i64.wrap (v16.fst.fst + (1 : Int)), v16.snd.fst.fst.snd.snd), ()), (v16.snd.snd.fst.fst, ()), ())).bind
                        fun v17 =>
                        Sum.elim
                          (fun v18 =>
                            bif (↑(List.length v18.snd.snd.fst.fst.snd) : Int) != v18.fst.snd.fst then Option.some (Bool.false, ())
                            else
                              bif (↑(List.length v18.snd.snd.fst.fst.fst) : Int) != Go.IntKind.i64.wrap (v18.fst.fst - v18.fst.snd.fst) then Option.some (Bool.false, ())
                              else
                                bif v18.snd.fst.fst.snd.fst != Go.IntKind.i64.wrap (Go.IntKind.i64.wrap (v18.fst.fst + (1 : Int)) - v18.fst.snd.fst) then Option.some (Bool.false, ())
                                else
                                  (F_31 v18.snd.snd.fst.fst
                                        ([], Bool.false, ((0 : Int), (0 : Int)), ((0 : Int), (0 : Int)), v18.snd.fst.fst.snd.fst,
                                          Go.IntKind.i64.wrap (v18.snd.fst.fst.snd.fst + (9 : Int)))).bind
                                    fun v20 =>
                                    bif v20.snd.fst then
                                      bif (↑(List.length v20.fst.snd) : Int) == (0 : Int) then
                                        bif
                                            (↑(List.length v20.fst.fst) : Int) ==
                                              if (16 : Int) < Go.IntKind.i64.wrap (Go.IntKind.i64.wrap (v18.fst.fst - v18.fst.snd.fst) + (1 : Int)) then (16 : Int)
                                              else Go.IntKind.i64.wrap (Go.IntKind.i64.wrap (v18.fst.fst - v18.fst.snd.fst) + (1 : Int)) then
                                          Option.some ((↑(List.length v18.snd.snd.fst.fst.snd) : Int) == v18.fst.snd.fst, ())
                                        else Option.some (Bool.false, ())
                                      else Option.some (Bool.false, ())
                                    else Option.some (Bool.false, ()))
                          (fun v21 => Option.some (v21.fst.fst, ())) v17)
                    (fun v22 => Option.some (v22.fst.fst, ())) v15
theorem f_9 (x : Ps [.ty I, .ty I]) : funcT CT T_9 [.bool] (drT CT T_9) lp_9 Try.f9 c_9 (encPs [.ty I, .ty I] x) = F_9 x.1 x.2.1 := by kernel_rfl
noncomputable def E_9 : Ent := .fn 9 [] ⟨[.ty I, .ty I], [.bool], fun x => F_9 x.1 x.2.1, false⟩
theorem e_9 : E_9.Ok CT.P := Ent.ofFn CT_ok T_9_ok hf_9 hb_9 lp_9_ok f_9
noncomputable def E_9h : Ent := .fn 9 [] ⟨[.ty I, .ty I], [.bool], fun x => F_9 x.1 x.2.1, true⟩
end Go.DI.S

