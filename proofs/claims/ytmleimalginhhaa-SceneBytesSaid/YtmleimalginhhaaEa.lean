import Derived.Test.YtmleimalginhhaaPd
import Derived.Test.YtmleimalginhhaaWa
import Derived.Test.YtmleimalginhhaaUa
import Derived.Test.YtmleimalginhhaaDie
/- PastEmpty: told by functions on data, and what these come to. No conditions. -/
/-! The program's functions, told by functions on data. -/
set_option linter.unusedVariables false
set_option maxRecDepth 100000
set_option maxHeartbeats 0
namespace Go.DI.S
open Go.Proofs
/-! ### 102: (*maquette/clay.writer).num -/
noncomputable def c_102 : Code := Try.f102.body.getD .skip
theorem hb_102 : Try.f102.body = some c_102 := by kernel_rfl
theorem hf_102 : CT.P.funcs[102]? = some Try.f102 := by kernel_rfl
noncomputable abbrev IN_102 : LayD := ⟨3, [(0, .ptr 0), (1, .data I), (2, .data I)], [.var 136 [.own (.int .u8) 1], .row 5 (.int .u8)], fun s => [slotR s 0, slotC s 0 0]⟩
noncomputable abbrev OUT_102 : LayD := ⟨0, [], [.var 136 [.own (.int .u8) 1], .row 5 (.int .u8)], fun s => [0, slotH s 0 0]⟩
noncomputable def T_102 : Tb := mkTb tyP mpP []
theorem T_102_ok : T_102.Ok CT.P := mkTb_ok (trivial)
noncomputable def l_102_1 : Code := atLoop c_102 1
noncomputable abbrev LD_102_1 : LayD := ⟨26, [(0, .ptr 0), (1, .data I), (2, .data I)], [.var 136 [.own (.int .u8) 1], .row 5 (.int .u8)], fun s => [slotR s 0, slotC s 0 0]⟩
noncomputable abbrev LA_102_1 : LayD := ⟨26, [(0, .ptr 0)], [.var 136 [.own (.int .u8) 1], .row 5 (.int .u8)], fun s => [slotR s 0, slotC s 0 0]⟩
noncomputable abbrev LB_102_1 : LayD := ⟨26, [], [], fun _ => []⟩
noncomputable def EX_102_1 : Exits 1 LA_102_1.El LB_102_1.El := ⟨.exit 0, LA_102_1.lay [], .ret, LB_102_1.lay []⟩

noncomputable def lpi_102_1 {β : Type} : LpT β := fun _ _ _ => none
theorem lpi_102_1_ok {β : Type} : LpTOk (CTp 1) (lpi_102_1 (β := β)) (loopsOf l_102_1) := by
  have h : loopsOf l_102_1 = [] := by kernel_rfl
  rw [h]
  exact LpTOk.nil
noncomputable def G_102_1 (r1 : Ty.El I) (r2 : Ty.El I) (b0 : Unit × Unit) (b1 : List (Ty.El (.int .u8))) : Option (LD_102_1.El ⊕ (LA_102_1.El ⊕ LB_102_1.El)) :=
  bif Decidable.decide (r2 ≥ (0 : Int)) then
    bif Decidable.decide (Go.IntKind.i64.wrap ((8 : Int) * r2) < (0 : Int)) then Option.none
    else
      bif
          ((b1.length + [Go.IntKind.u8.wrap (Int.fdiv r1 ((2 : Int) ^ Min.min (Go.IntKind.i64.wrap ((8 : Int) * r2)).toNat (64 : Nat)))].length) * (1 : Nat)).ble
            (70368744177664 : Nat) then
        Option.some
          (Sum.inl
            (((), r1, Go.IntKind.i64.wrap (r2 - (1 : Int)), ()), ((), ()),
              b1 ++ [Go.IntKind.u8.wrap (Int.fdiv r1 ((2 : Int) ^ Min.min (Go.IntKind.i64.wrap ((8 : Int) * r2)).toNat (64 : Nat)))], ()))
      else Option.none
  else Option.some (Sum.inr (Sum.inl (((), ()), ((), ()), b1, ())))
theorem g_102_1 (x : LD_102_1.El) : codeT (CTp 1) T_102 (drT (CTp 1) T_102) lpi_102_1 l_102_1 (LD_102_1.enc x) (bodyK (LD_102_1.lay []) EX_102_1) = G_102_1 x.1.2.1 x.1.2.2.1 x.2.1 x.2.2.1 := by kernel_rfl
noncomputable def R_102_1 : LD_102_1.El → Option (LA_102_1.El ⊕ LB_102_1.El) := roundsT (fun x => G_102_1 x.1.2.1 x.1.2.2.1 x.2.1 x.2.2.1) fuel
theorem r_102_1 : ∀ x y, R_102_1 x = some y → CL (CTp 1) l_102_1 (LD_102_1.enc x) (Sum.elim (fun _ => EX_102_1.xa) (fun _ => EX_102_1.xb) y) (Sum.elim EX_102_1.la.enc EX_102_1.lb.enc y) :=
  rounds_ok (L := LD_102_1.lay []) (E := EX_102_1) (CTp_ok 1) T_102_ok (drT_ok (CTp_ok 1) T_102_ok) lpi_102_1_ok g_102_1 rfl rfl (fun v h => by have hh : (.exit 0 : AX) = .pan v := h; cases hh) (fun v h => by have hh : (.ret : AX) = .pan v := h; cases hh) fuel
noncomputable def lp_102 {β : Type} : LpT β := fun k s K => if Nat.beq k 1 then lpOne (LD_102_1.lay []) EX_102_1 R_102_1 s K else none
theorem lp_102_ok {β : Type} : LpTOk (CTp 1) (lp_102 (β := β)) (loopsOf c_102) := by
  have h : loopsOf c_102 = [(1, l_102_1)] := by kernel_rfl
  rw [h]
  exact LpTOk.cons (fun s K z h => lpOne_ok r_102_1 h) (LpTOk.nil)
noncomputable def F_102 (a1 : Ty.El I) (a2 : Ty.El I) (b0 : Unit × Unit) (b1 : List (Ty.El (.int .u8))) : Option OUT_102.El :=
  (R_102_1 (((), a1, Go.IntKind.i64.wrap (a2 - (1 : Int)), ()), ((), ()), b1, ())).bind fun v1 =>
    Sum.elim (fun v2 => Option.some ((), ((), ()), v2.snd.snd.fst, ())) (fun v3 => Option.none) v1
theorem f_102 (x : IN_102.El) : funcX (CTp 1) T_102 IN_102 OUT_102 [] (drT (CTp 1) T_102) lp_102 Try.f102 c_102 x = F_102 x.1.2.1 x.1.2.2.1 x.2.1 x.2.2.1 := by kernel_rfl
noncomputable def E_102 : Ent := .mkGen 102 [] ⟨1, [.nilCell 0 0 5 (.int .u8)], IN_102, OUT_102, fun x => F_102 x.1.2.1 x.1.2.2.1 x.2.1 x.2.2.1⟩
theorem e_102 : E_102.Ok CT.P := Ent.ofGen (C := (CTp 1)) (steps := [.nilCell 0 0 5 (.int .u8)]) (osteps := []) (CTp_ok 1) T_102_ok hf_102 hb_102 lp_102_ok f_102
/-! ### 103: (*maquette/clay.writer).vec -/
noncomputable def c_103 : Code := Try.f103.body.getD .skip
theorem hb_103 : Try.f103.body = some c_103 := by kernel_rfl
theorem hf_103 : CT.P.funcs[103]? = some Try.f103 := by kernel_rfl
noncomputable abbrev IN_103 : LayD := ⟨2, [(0, .ptr 0), (1, .data tVec)], [.var 136 [.own (.int .u8) 1], .row 5 (.int .u8)], fun s => [slotR s 0, slotC s 0 0]⟩
noncomputable abbrev OUT_103 : LayD := ⟨0, [], [.var 136 [.own (.int .u8) 1], .row 5 (.int .u8)], fun s => [0, slotH s 0 0]⟩
noncomputable def T_103 : Tb := mkTb tyP mpP [E_102]
theorem T_103_ok : T_103.Ok CT.P := mkTb_ok (⟨e_102, trivial⟩)
noncomputable def lp_103 {β : Type} : LpT β := fun _ _ _ => none
theorem lp_103_ok {β : Type} : LpTOk (CTp 1) (lp_103 (β := β)) (loopsOf c_103) := by
  have h : loopsOf c_103 = [] := by kernel_rfl
  rw [h]
  exact LpTOk.nil
noncomputable def F_103 (a1 : Ty.El tVec) (b0 : Unit × Unit) (b1 : List (Ty.El (.int .u8))) : Option OUT_103.El :=
  (F_102 a1.fst (8 : Int) ((), ()) b1).bind fun v2 => (F_102 a1.snd (8 : Int) ((), ()) v2.snd.snd.fst).bind fun v6 => Option.some ((), ((), ()), v6.snd.snd.fst, ())
theorem f_103 (x : IN_103.El) : funcX (CTp 1) T_103 IN_103 OUT_103 [] (drT (CTp 1) T_103) lp_103 Try.f103 c_103 x = F_103 x.1.2.1 x.2.1 x.2.2.1 := by kernel_rfl
noncomputable def E_103 : Ent := .mkGen 103 [] ⟨1, [.nilCell 0 0 5 (.int .u8)], IN_103, OUT_103, fun x => F_103 x.1.2.1 x.2.1 x.2.2.1⟩
theorem e_103 : E_103.Ok CT.P := Ent.ofGen (C := (CTp 1)) (steps := [.nilCell 0 0 5 (.int .u8)]) (osteps := []) (CTp_ok 1) T_103_ok hf_103 hb_103 lp_103_ok f_103
/-! ### 61: maquette/clay.Put -/
noncomputable def c_61 : Code := Try.f61.body.getD .skip
theorem hb_61 : Try.f61.body = some c_61 := by kernel_rfl
theorem hf_61 : CT.P.funcs[61]? = some Try.f61 := by kernel_rfl
noncomputable def T_61 : Tb := mkTb tyP mpP [E_45, E_102, E_103]
theorem T_61_ok : T_61.Ok CT.P := mkTb_ok (⟨e_45, e_102, e_103, trivial⟩)
noncomputable def l_61_20 : Code := atLoop c_61 20
noncomputable abbrev LD_61_20 : LayD := ⟨89, [(4, .ptr 0), (74, .data (.list I)), (75, .data I), (76, .data I)], [.var 136 [.own (.int .u8) 1], .row 5 (.int .u8)], fun s => [slotR s 4, slotC s 4 0]⟩
noncomputable abbrev LA_61_20 : LayD := ⟨89, [(4, .ptr 0)], [.var 136 [.own (.int .u8) 1], .row 5 (.int .u8)], fun s => [slotR s 4, slotC s 4 0]⟩
noncomputable abbrev LB_61_20 : LayD := ⟨89, [], [], fun _ => []⟩
noncomputable def EX_61_20 : Exits 0 LA_61_20.El LB_61_20.El := ⟨.exit 1, LA_61_20.lay [], .ret, LB_61_20.lay []⟩

noncomputable def lpi_61_20 {β : Type} : LpT β := fun _ _ _ => none
theorem lpi_61_20_ok {β : Type} : LpTOk CT (lpi_61_20 (β := β)) (loopsOf l_61_20) := by
  have h : loopsOf l_61_20 = [] := by kernel_rfl
  rw [h]
  exact LpTOk.nil
noncomputable def G_61_20 (r74 : Ty.El (.list I)) (r75 : Ty.El I) (r76 : Ty.El I) (b0 : Unit × Unit) (b1 : List (Ty.El (.int .u8))) : Option (LD_61_20.El ⊕ (LA_61_20.El ⊕ LB_61_20.El)) :=
  bif Decidable.decide (r76 < r75) then
    bif Decidable.decide ((0 : Int) ≤ r76 ∧ r76 < (↑(List.length r74) : Int)) then
      (F_102 (List.getD r74 (Int.toNat r76) (0 : Int)) (4 : Int) ((), ()) b1).bind fun v2 =>
        Option.some (Sum.inl (((), r74, r75, Go.IntKind.i64.wrap (r76 + (1 : Int)), ()), ((), ()), v2.snd.snd.fst, ()))
    else Option.none
  else Option.some (Sum.inr (Sum.inl (((), ()), ((), ()), b1, ())))
theorem g_61_20 (x : LD_61_20.El) : codeT CT T_61 (drT CT T_61) lpi_61_20 l_61_20 (LD_61_20.enc x) (bodyK (LD_61_20.lay []) EX_61_20) = G_61_20 x.1.2.1 x.1.2.2.1 x.1.2.2.2.1 x.2.1 x.2.2.1 := by kernel_rfl
noncomputable def R_61_20 : LD_61_20.El → Option (LA_61_20.El ⊕ LB_61_20.El) := roundsT (fun x => G_61_20 x.1.2.1 x.1.2.2.1 x.1.2.2.2.1 x.2.1 x.2.2.1) fuel
theorem r_61_20 : ∀ x y, R_61_20 x = some y → CL CT l_61_20 (LD_61_20.enc x) (Sum.elim (fun _ => EX_61_20.xa) (fun _ => EX_61_20.xb) y) (Sum.elim EX_61_20.la.enc EX_61_20.lb.enc y) :=
  rounds_ok (L := LD_61_20.lay []) (E := EX_61_20) CT_ok T_61_ok (drT_ok CT_ok T_61_ok) lpi_61_20_ok g_61_20 rfl rfl (fun v h => by have hh : (.exit 1 : AX) = .pan v := h; cases hh) (fun v h => by have hh : (.ret : AX) = .pan v := h; cases hh) fuel
noncomputable def lp_61 {β : Type} : LpT β := fun k s K => if Nat.beq k 20 then lpOne (LD_61_20.lay []) EX_61_20 R_61_20 s K else none
theorem lp_61_ok {β : Type} : LpTOk CT (lp_61 (β := β)) (loopsOf c_61) := by
  have h : loopsOf c_61 = [(20, l_61_20)] := by kernel_rfl
  rw [h]
  exact LpTOk.cons (fun s K z h => lpOne_ok r_61_20 h) (LpTOk.nil)
noncomputable def F_61 (a1 : Ty.El tThing) : Option (Els [.str, .bool]) :=
  (F_45 a1).bind fun v2 =>
    bif !v2.fst then Option.some ([], Bool.false, ())
    else
      (F_102 a1.snd.fst (1 : Int) ((), ()) []).bind fun v4 =>
        (F_102 a1.fst (4 : Int) ((), ()) v4.snd.snd.fst).bind fun v8 =>
          bif a1.snd.fst == (1 : Int) then
            (F_102 a1.snd.snd.fst.fst (1 : Int) ((), ()) v8.snd.snd.fst).bind fun v12 =>
              (F_103 a1.snd.snd.fst.snd.fst ((), ()) v12.snd.snd.fst).bind fun v16 =>
                (F_102 a1.snd.snd.fst.snd.snd.fst (8 : Int) ((), ()) v16.snd.snd.fst).bind fun v20 =>
                  (F_103 a1.snd.snd.fst.snd.snd.snd.fst ((), ()) v20.snd.snd.fst).bind fun v24 =>
                    (F_103 a1.snd.snd.fst.snd.snd.snd.snd ((), ()) v24.snd.snd.fst).bind fun v28 =>
                      Option.some (List.map (fun v29 => UInt8.ofNat (Int.toNat v29)) v28.snd.snd.fst, Bool.true, ())
          else
            bif a1.snd.fst == (2 : Int) then
              (F_102 a1.snd.snd.snd.fst.fst (4 : Int) ((), ()) v8.snd.snd.fst).bind fun v35 =>
                (F_102 a1.snd.snd.snd.fst.snd.fst (4 : Int) ((), ()) v35.snd.snd.fst).bind fun v39 =>
                  (F_102 a1.snd.snd.snd.fst.snd.snd (8 : Int) ((), ()) v39.snd.snd.fst).bind fun v43 =>
                    Option.some (List.map (fun v44 => UInt8.ofNat (Int.toNat v44)) v43.snd.snd.fst, Bool.true, ())
            else
              bif a1.snd.fst == (3 : Int) then
                (F_102 (↑(List.length a1.snd.snd.snd.snd) : Int) (1 : Int) ((), ()) v8.snd.snd.fst).bind fun v50 =>
                  (R_61_20 (((), a1.snd.snd.snd.snd, (↑(List.length a1.snd.snd.snd.snd) : Int), (0 : Int), ()), ((), ()), v50.snd.snd.fst, ())).bind fun v53 =>
                    Sum.elim (fun v54 => Option.some (List.map (fun v55 => UInt8.ofNat (Int.toNat v55)) v54.snd.snd.fst, Bool.true, ())) (fun v56 => Option.none) v53
              else Option.some (List.map (fun v57 => UInt8.ofNat (Int.toNat v57)) v8.snd.snd.fst, Bool.true, ())
theorem f_61 (x : Ps [.ty tThing]) : funcT CT T_61 [.str, .bool] (drT CT T_61) lp_61 Try.f61 c_61 (encPs [.ty tThing] x) = F_61 x.1 := by kernel_rfl
noncomputable def E_61 : Ent := .fn 61 [] ⟨[.ty tThing], [.str, .bool], fun x => F_61 x.1, false⟩
theorem e_61 : E_61.Ok CT.P := Ent.ofFn CT_ok T_61_ok hf_61 hb_61 lp_61_ok f_61
noncomputable def E_61h : Ent := .fn 61 [] ⟨[.ty tThing], [.str, .bool], fun x => F_61 x.1, true⟩
/-! ### 34: maquette/past.Records -/
noncomputable def c_34e : Code := Try.f34.body.getD .skip
theorem hb_34e : Try.f34.body = some c_34e := by kernel_rfl
theorem hf_34e : CT.P.funcs[34]? = some Try.f34 := by kernel_rfl
noncomputable def T_34e : Tb := mkTb tyP mpP [E_20, E_35, E_61, E_69, E_70]
theorem T_34e_ok : T_34e.Ok CT.P := mkTb_ok (⟨e_20, e_35, e_61, e_69, e_70, trivial⟩)
noncomputable def l_34e_13 : Code := atLoop c_34e 13
noncomputable def l_34e_6 : Code := atLoop c_34e 6
noncomputable def l_34e_16 : Code := atLoop l_34e_13 16
noncomputable abbrev LD_34e_16 : LayD := ⟨116, [(7, .own tRec 0), (12, .data I), (15, .data .str), (79, .data (.list tEntry)), (80, .data I), (81, .data I)], [.row 105 tRec], fun s => [slotR s 7]⟩
noncomputable abbrev LA_34e_16 : LayD := ⟨116, [(7, .own tRec 0), (12, .data I), (79, .data (.list tEntry)), (80, .data I), (81, .data I)], [.row 105 tRec], fun s => [slotR s 7]⟩
noncomputable abbrev LB_34e_16 : LayD := ⟨116, [], [], fun _ => []⟩
noncomputable def EX_34e_16 : Exits 0 LA_34e_16.El LB_34e_16.El := ⟨.exit 4, LA_34e_16.lay [.rowReg 7 105 tRec], .ret, LB_34e_16.lay []⟩

noncomputable def lpi_34e_16 {β : Type} : LpT β := fun _ _ _ => none
theorem lpi_34e_16_ok {β : Type} : LpTOk CT (lpi_34e_16 (β := β)) (loopsOf l_34e_16) := by
  have h : loopsOf l_34e_16 = [] := by kernel_rfl
  rw [h]
  exact LpTOk.nil
noncomputable def G_34e_16 (r12 : Ty.El I) (r15 : Ty.El .str) (r79 : Ty.El (.list tEntry)) (r80 : Ty.El I) (r81 : Ty.El I) (b0 : List (Ty.El tRec)) : Option (LD_34e_16.El ⊕ (LA_34e_16.El ⊕ LB_34e_16.El)) :=
  bif !r15 == [] then
    bif (if (899 : Int) < (↑(List.length r15) : Int) then (899 : Int) else (↑(List.length r15) : Int)) == (↑(List.length r15) : Int) then
      bif
          Decidable.decide
            (((0 : Int) ≤ if (899 : Int) < (↑(List.length r15) : Int) then (899 : Int) else (↑(List.length r15) : Int)) ∧
              (if (899 : Int) < (↑(List.length r15) : Int) then (899 : Int) else (↑(List.length r15) : Int)) ≤ (↑(List.length r15) : Int)) then
        bif
            Decidable.decide
              ((1 : Nat) +
                  (List.take ((if (899 : Int) < (↑(List.length r15) : Int) then (899 : Int) else (↑(List.length r15) : Int)).toNat - (0 : Nat)) (List.drop (0 : Nat) r15)).length ≤
                (4611686018427387904 : Nat)) then
          bif
              ((b0.length +
                      [(r12,
                            [(1 : UInt8)] ++
                              List.take ((if (899 : Int) < (↑(List.length r15) : Int) then (899 : Int) else (↑(List.length r15) : Int)).toNat - (0 : Nat))
                                (List.drop (0 : Nat) r15))].length) *
                    (24 : Nat)).ble
                (70368744177664 : Nat) then
            bif
                Decidable.decide
                  (((0 : Int) ≤ if (899 : Int) < (↑(List.length r15) : Int) then (899 : Int) else (↑(List.length r15) : Int)) ∧
                    (if (899 : Int) < (↑(List.length r15) : Int) then (899 : Int) else (↑(List.length r15) : Int)) ≤ (↑(List.length r15) : Int)) then
              Option.some
                (Sum.inl
                  (((), Go.IntKind.i64.wrap (r12 + (1 : Int)),
                      List.take (List.length r15 - (if (899 : Int) < (↑(List.length r15) : Int) then (899 : Int) else (↑(List.length r15) : Int)).toNat)
                        (List.drop (if (899 : Int) < (↑(List.length r15) : Int) then (899 : Int) else (↑(List.length r15) : Int)).toNat r15),
                      r79, r80, r81, ()),
                    b0 ++
                      [(r12,
                          [(1 : UInt8)] ++
                            List.take ((if (899 : Int) < (↑(List.length r15) : Int) then (899 : Int) else (↑(List.length r15) : Int)).toNat - (0 : Nat)) (List.drop (0 : Nat) r15))],
                    ()))
            else Option.none
          else Option.none
        else Option.none
      else Option.none
    else
      bif
          Decidable.decide
            (((0 : Int) ≤ if (899 : Int) < (↑(List.length r15) : Int) then (899 : Int) else (↑(List.length r15) : Int)) ∧
              (if (899 : Int) < (↑(List.length r15) : Int) then (899 : Int) else (↑(List.length r15) : Int)) ≤ (↑(List.length r15) : Int)) then
        bif
            Decidable.decide
              ((1 : Nat) +
                  (List.take ((if (899 : Int) < (↑(List.length r15) : Int) then (899 : Int) else (↑(List.length r15) : Int)).toNat - (0 : Nat)) (List.drop (0 : Nat) r15)).length ≤
                (4611686018427387904 : Nat)) then
          bif
              ((b0.length +
                      [(r12,
                            [(0 : UInt8)] ++
                              List.take ((if (899 : Int) < (↑(List.length r15) : Int) then (899 : Int) else (↑(List.length r15) : Int)).toNat - (0 : Nat))
                                (List.drop (0 : Nat) r15))].length) *
                    (24 : Nat)).ble
                (70368744177664 : Nat) then
            bif
                Decidable.decide
                  (((0 : Int) ≤ if (899 : Int) < (↑(List.length r15) : Int) then (899 : Int) else (↑(List.length r15) : Int)) ∧
                    (if (899 : Int) < (↑(List.length r15) : Int) then (899 : Int) else (↑(List.length r15) : Int)) ≤ (↑(List.length r15) : Int)) then
              Option.some
                (Sum.inl
                  (((), Go.IntKind.i64.wrap (r12 + (1 : Int)),
                      List.take (List.length r15 - (if (899 : Int) < (↑(List.length r15) : Int) then (899 : Int) else (↑(List.length r15) : Int)).toNat)
                        (List.drop (if (899 : Int) < (↑(List.length r15) : Int) then (899 : Int) else (↑(List.length r15) : Int)).toNat r15),
                      r79, r80, r81, ()),
                    b0 ++
                      [(r12,
                          [(0 : UInt8)] ++
                            List.take ((if (899 : Int) < (↑(List.length r15) : Int) then (899 : Int) else (↑(List.length r15) : Int)).toNat - (0 : Nat)) (List.drop (0 : Nat) r15))],
                    ()))
            else Option.none
          else Option.none
        else Option.none
      else Option.none
  else Option.some (Sum.inr (Sum.inl (((), r12, r79, r80, r81, ()), b0, ())))
theorem g_34e_16 (x : LD_34e_16.El) : codeT CT T_34e (drT CT T_34e) lpi_34e_16 l_34e_16 (LD_34e_16.enc x) (bodyK (LD_34e_16.lay [.rowReg 7 105 tRec]) EX_34e_16) = G_34e_16 x.1.2.1 x.1.2.2.1 x.1.2.2.2.1 x.1.2.2.2.2.1 x.1.2.2.2.2.2.1 x.2.1 := by kernel_rfl
noncomputable def R_34e_16 : LD_34e_16.El → Option (LA_34e_16.El ⊕ LB_34e_16.El) := roundsT (fun x => G_34e_16 x.1.2.1 x.1.2.2.1 x.1.2.2.2.1 x.1.2.2.2.2.1 x.1.2.2.2.2.2.1 x.2.1) fuel
theorem r_34e_16 : ∀ x y, R_34e_16 x = some y → CL CT l_34e_16 (LD_34e_16.enc x) (Sum.elim (fun _ => EX_34e_16.xa) (fun _ => EX_34e_16.xb) y) (Sum.elim EX_34e_16.la.enc EX_34e_16.lb.enc y) :=
  rounds_ok (L := LD_34e_16.lay [.rowReg 7 105 tRec]) (E := EX_34e_16) CT_ok T_34e_ok (drT_ok CT_ok T_34e_ok) lpi_34e_16_ok g_34e_16 rfl rfl (fun v h => by have hh : (.exit 4 : AX) = .pan v := h; cases hh) (fun v h => by have hh : (.ret : AX) = .pan v := h; cases hh) fuel
noncomputable abbrev LD_34e_6 : LayD := ⟨116, [(3, .ptr 0), (7, .own tRec 1), (55, .data (.list tThing)), (56, .data I), (57, .data I)], [.var 64 [.data tPast], .row 105 tRec], fun s => [slotR s 3, slotR s 7]⟩
noncomputable abbrev LA_34e_6 : LayD := ⟨116, [(3, .ptr 0), (7, .own tRec 1)], [.var 64 [.data tPast], .row 105 tRec], fun s => [slotR s 3, slotR s 7]⟩
noncomputable abbrev LB_34e_6 : LayD := ⟨116, [], [], fun _ => []⟩
noncomputable def EX_34e_6 : Exits 0 LA_34e_6.El LB_34e_6.El := ⟨.exit 0, LA_34e_6.lay [.rowReg 7 105 tRec], .ret, LB_34e_6.lay []⟩

noncomputable def lpi_34e_6 {β : Type} : LpT β := fun _ _ _ => none
theorem lpi_34e_6_ok {β : Type} : LpTOk CT (lpi_34e_6 (β := β)) (loopsOf l_34e_6) := by
  have h : loopsOf l_34e_6 = [] := by kernel_rfl
  rw [h]
  exact LpTOk.nil
noncomputable def G_34e_6 (r55 : Ty.El (.list tThing)) (r56 : Ty.El I) (r57 : Ty.El I) (b0 : Ty.El tPast × Unit) (b1 : List (Ty.El tRec)) : Option (LD_34e_6.El ⊕ (LA_34e_6.El ⊕ LB_34e_6.El)) :=
  bif Decidable.decide (r57 < r56) then
    bif Decidable.decide ((0 : Int) ≤ r57 ∧ r57 < (↑(List.length r55) : Int)) then
      (F_61 (List.getD r55 (Int.toNat r57) Go.DI.S.tThing.dflt)).bind fun v2 =>
        bif ((b1.length + [((List.getD r55 (Int.toNat r57) Go.DI.S.tThing.dflt).fst, v2.fst)].length) * (24 : Nat)).ble (70368744177664 : Nat) then
          Option.some
            (Sum.inl (((), (), r55, r56, Go.IntKind.i64.wrap (r57 + (1 : Int)), ()), (b0.fst, ()), b1 ++ [((List.getD r55 (Int.toNat r57) Go.DI.S.tThing.dflt).fst, v2.fst)], ()))
        else Option.none
    else Option.none
  else Option.some (Sum.inr (Sum.inl (((), (), ()), (b0.fst, ()), b1, ())))
theorem g_34e_6 (x : LD_34e_6.El) : codeT CT T_34e (drT CT T_34e) lpi_34e_6 l_34e_6 (LD_34e_6.enc x) (bodyK (LD_34e_6.lay [.rowReg 7 105 tRec]) EX_34e_6) = G_34e_6 x.1.2.2.1 x.1.2.2.2.1 x.1.2.2.2.2.1 x.2.1 x.2.2.1 := by kernel_rfl
noncomputable def R_34e_6 : LD_34e_6.El → Option (LA_34e_6.El ⊕ LB_34e_6.El) := roundsT (fun x => G_34e_6 x.1.2.2.1 x.1.2.2.2.1 x.1.2.2.2.2.1 x.2.1 x.2.2.1) fuel
theorem r_34e_6 : ∀ x y, R_34e_6 x = some y → CL CT l_34e_6 (LD_34e_6.enc x) (Sum.elim (fun _ => EX_34e_6.xa) (fun _ => EX_34e_6.xb) y) (Sum.elim EX_34e_6.la.enc EX_34e_6.lb.enc y) :=
  rounds_ok (L := LD_34e_6.lay [.rowReg 7 105 tRec]) (E := EX_34e_6) CT_ok T_34e_ok (drT_ok CT_ok T_34e_ok) lpi_34e_6_ok g_34e_6 rfl rfl (fun v h => by have hh : (.exit 0 : AX) = .pan v := h; cases hh) (fun v h => by have hh : (.ret : AX) = .pan v := h; cases hh) fuel
noncomputable abbrev LD_34e_13 : LayD := ⟨116, [(7, .own tRec 0), (12, .data I), (79, .data (.list tEntry)), (80, .data I), (81, .data I)], [.row 105 tRec], fun s => [slotR s 7]⟩
noncomputable abbrev LA_34e_13 : LayD := ⟨116, [(7, .own tRec 0)], [.row 105 tRec], fun s => [slotR s 7]⟩
noncomputable abbrev LB_34e_13 : LayD := ⟨116, [], [], fun _ => []⟩
noncomputable def EX_34e_13 : Exits 0 LA_34e_13.El LB_34e_13.El := ⟨.exit 2, LA_34e_13.lay [.rowReg 7 105 tRec], .ret, LB_34e_13.lay []⟩

noncomputable def lpi_34e_13 {β : Type} : LpT β := fun k s K => if Nat.beq k 16 then lpOne (LD_34e_16.lay [.rowReg 7 105 tRec]) EX_34e_16 R_34e_16 s K else none
theorem lpi_34e_13_ok {β : Type} : LpTOk CT (lpi_34e_13 (β := β)) (loopsOf l_34e_13) := by
  have h : loopsOf l_34e_13 = [(16, l_34e_16)] := by kernel_rfl
  rw [h]
  exact LpTOk.cons (fun s K z h => lpOne_ok r_34e_16 h) (LpTOk.nil)
noncomputable def G_34e_13 (r12 : Ty.El I) (r79 : Ty.El (.list tEntry)) (r80 : Ty.El I) (r81 : Ty.El I) (b0 : List (Ty.El tRec)) : Option (LD_34e_13.El ⊕ (LA_34e_13.El ⊕ LB_34e_13.El)) :=
  bif Decidable.decide (r81 < r80) then bif Decidable.decide ((0 : Int) ≤ r81 ∧ r81 < (↑(List.length r79) : Int)) then Option.none else Option.none
  else Option.some (Sum.inr (Sum.inl (((), ()), b0, ())))
theorem g_34e_13 (x : LD_34e_13.El) : codeT CT T_34e (drT CT T_34e) lpi_34e_13 l_34e_13 (LD_34e_13.enc x) (bodyK (LD_34e_13.lay [.rowReg 7 105 tRec]) EX_34e_13) = G_34e_13 x.1.2.1 x.1.2.2.1 x.1.2.2.2.1 x.1.2.2.2.2.1 x.2.1 := by kernel_rfl
noncomputable def R_34e_13 : LD_34e_13.El → Option (LA_34e_13.El ⊕ LB_34e_13.El) := roundsT (fun x => G_34e_13 x.1.2.1 x.1.2.2.1 x.1.2.2.2.1 x.1.2.2.2.2.1 x.2.1) fuel
theorem r_34e_13 : ∀ x y, R_34e_13 x = some y → CL CT l_34e_13 (LD_34e_13.enc x) (Sum.elim (fun _ => EX_34e_13.xa) (fun _ => EX_34e_13.xb) y) (Sum.elim EX_34e_13.la.enc EX_34e_13.lb.enc y) :=
  rounds_ok (L := LD_34e_13.lay [.rowReg 7 105 tRec]) (E := EX_34e_13) CT_ok T_34e_ok (drT_ok CT_ok T_34e_ok) lpi_34e_13_ok g_34e_13 rfl rfl (fun v h => by have hh : (.exit 2 : AX) = .pan v := h; cases hh) (fun v h => by have hh : (.ret : AX) = .pan v := h; cases hh) fuel
noncomputable def lp_34e {β : Type} : LpT β := fun k s K => if Nat.beq k 6 then lpOne (LD_34e_6.lay [.rowReg 7 105 tRec]) EX_34e_6 R_34e_6 s K else if Nat.beq k 13 then lpOne (LD_34e_13.lay [.rowReg 7 105 tRec]) EX_34e_13 R_34e_13 s K else none
theorem lp_34e_ok {β : Type} : LpTOk CT (lp_34e (β := β)) (loopsOf c_34e) := by
  have h : loopsOf c_34e = [(6, l_34e_6), (13, l_34e_13)] := by kernel_rfl
  rw [h]
  exact LpTOk.cons (fun s K z h => lpOne_ok r_34e_6 h) (LpTOk.cons (fun s K z h => lpOne_ok r_34e_13 h) (LpTOk.nil))
noncomputable def F_34e (a1 : Ty.El tScene) (a2 : Ty.El tPast) : Option (Els [.list tRec, I]) :=
  (F_20 a1).bind fun v2 =>
    bif !v2.fst then Option.some ([], (9 : Int), ())
    else
      (F_35 a2).bind fun v4 =>
        bif !v4.fst then Option.some ([], (9 : Int), ())
        else
          (F_69 a1.fst.fst (8 : Int)).bind fun v6 =>
            (F_69 a1.fst.snd (8 : Int)).bind fun v8 =>
              bif Decidable.decide (List.length v6.fst + List.length v8.fst ≤ (4611686018427387904 : Nat)) then
                (F_69 a1.snd.fst (4 : Int)).bind fun v10 =>
                  bif Decidable.decide ((v6.fst ++ v8.fst).length + List.length v10.fst ≤ (4611686018427387904 : Nat)) then
                    bif
                        Decidable.decide
                          ((v6.fst ++ v8.fst ++ v10.fst).length +
                              (List.map (fun v11 => UInt8.ofNat v11.toNat)
                                  [Go.IntKind.u8.wrap (↑(List.length a2.fst) : Int), Go.IntKind.u8.wrap (↑(List.length a2.snd) : Int)]).length ≤
                            (4611686018427387904 : Nat)) then
                      (R_34e_6
                            (((), (), a1.snd.snd, (↑(List.length a1.snd.snd) : Int), (0 : Int), ()), (a2, ()),
                              [((0 : Int),
                                  v6.fst ++ v8.fst ++ v10.fst ++
                                    List.map (fun v13 => UInt8.ofNat v13.toNat)
                                      [Go.IntKind.u8.wrap (↑(List.length a2.fst) : Int), Go.IntKind.u8.wrap (↑(List.length a2.snd) : Int)])],
                              ())).bind
                        fun v14 =>
                        Sum.elim
                          (fun v15 =>
                            (F_70 [v15.snd.fst.fst.fst, v15.snd.fst.fst.snd]).bind fun v17 =>
                              (R_34e_13 (((), (2000000 : Int), v17.fst, (↑(List.length v17.fst) : Int), (0 : Int), ()), v15.snd.snd.fst, ())).bind fun v18 =>
                                Sum.elim (fun v19 => Option.some (v19.snd.fst, (0 : Int), ())) (fun v20 => Option.none) v18)
                          (fun v21 => Option.none) v14
                    else Option.none
                  else Option.none
              else Option.none
theorem f_34e (x : Ps [.ty tScene, .ty tPast]) : funcT CT T_34e [.list tRec, I] (drT CT T_34e) lp_34e Try.f34 c_34e (encPs [.ty tScene, .ty tPast] x) = F_34e x.1 x.2.1 := by kernel_rfl
noncomputable def E_34e : Ent := .fn 34 [] ⟨[.ty tScene, .ty tPast], [.list tRec, I], fun x => F_34e x.1 x.2.1, false⟩
theorem e_34e : E_34e.Ok CT.P := Ent.ofFn CT_ok T_34e_ok hf_34e hb_34e lp_34e_ok f_34e
noncomputable def E_34eh : Ent := .fn 34 [] ⟨[.ty tScene, .ty tPast], [.list tRec, I], fun x => F_34e x.1 x.2.1, true⟩
/-! ### 33: maquette/past.Redo -/
noncomputable def c_33 : Code := Try.f33.body.getD .skip
theorem hb_33 : Try.f33.body = some c_33 := by kernel_rfl
theorem hf_33 : CT.P.funcs[33]? = some Try.f33 := by kernel_rfl
noncomputable def T_33 : Tb := mkTb tyP mpP [E_20, E_35, E_67, E_68]
theorem T_33_ok : T_33.Ok CT.P := mkTb_ok (⟨e_20, e_35, e_67, e_68, trivial⟩)
noncomputable def lp_33 {β : Type} : LpT β := fun _ _ _ => none
theorem lp_33_ok {β : Type} : LpTOk CT (lp_33 (β := β)) (loopsOf c_33) := by
  have h : loopsOf c_33 = [] := by kernel_rfl
  rw [h]
  exact LpTOk.nil
noncomputable def F_33 (a1 : Ty.El tPast) (a2 : Ty.El tScene) : Option (Els [tPast, tScene, I]) :=
  (F_35 a1).bind fun v2 =>
    bif !v2.fst then Option.some (a1, a2, (9 : Int), ())
    else
      (F_20 a2).bind fun v4 =>
        bif !v4.fst then Option.some (a1, a2, (9 : Int), ())
        else
          bif (↑(List.length a1.snd) : Int) == (0 : Int) then Option.some (a1, a2, (13 : Int), ())
          else
            bif
                Decidable.decide
                  ((0 : Int) ≤ Go.IntKind.i64.wrap ((↑(List.length a1.snd) : Int) - (1 : Int)) ∧
                    Go.IntKind.i64.wrap ((↑(List.length a1.snd) : Int) - (1 : Int)) < (↑(List.length a1.snd) : Int)) then
              (F_68 a2 (List.getD a1.snd (Go.IntKind.i64.wrap ((↑(List.length a1.snd) : Int) - (1 : Int))).toNat Go.DI.S.tEntry.dflt)).bind fun v6 =>
                bif v6.snd.fst != (0 : Int) then Option.some (a1, a2, v6.snd.fst, ())
                else (F_67 a1.snd a1.fst).bind fun v8 => Option.some ((v8.snd.fst, v8.fst), v6.fst, (0 : Int), ())
            else Option.none
theorem f_33 (x : Ps [.ty tPast, .ty tScene]) : funcT CT T_33 [tPast, tScene, I] (drT CT T_33) lp_33 Try.f33 c_33 (encPs [.ty tPast, .ty tScene] x) = F_33 x.1 x.2.1 := by kernel_rfl
noncomputable def E_33 : Ent := .fn 33 [] ⟨[.ty tPast, .ty tScene], [tPast, tScene, I], fun x => F_33 x.1 x.2.1, false⟩
theorem e_33 : E_33.Ok CT.P := Ent.ofFn CT_ok T_33_ok hf_33 hb_33 lp_33_ok f_33
noncomputable def E_33h : Ent := .fn 33 [] ⟨[.ty tPast, .ty tScene], [tPast, tScene, I], fun x => F_33 x.1 x.2.1, true⟩
/-! ### 10: maquette/maquettelaw23.PastEmpty -/
noncomputable def c_10 : Code := Try.f10.body.getD .skip
theorem hb_10 : Try.f10.body = some c_10 := by kernel_rfl
theorem hf_10 : CT.P.funcs[10]? = some Try.f10 := by kernel_rfl
noncomputable def T_10 : Tb := mkTb tyP mpP [E_20, E_22, E_24, E_25, E_30, E_32, E_33, E_34e, E_35]
theorem T_10_ok : T_10.Ok CT.P := mkTb_ok (⟨e_20, e_22, e_24, e_25, e_30, e_32, e_33, e_34e, e_35, trivial⟩)
noncomputable def lp_10 {β : Type} : LpT β := fun _ _ _ => none
theorem lp_10_ok {β : Type} : LpTOk CT (lp_10 (β := β)) (loopsOf c_10) := by
  have h : loopsOf c_10 = [] := by kernel_rfl
  rw [h]
  exact LpTOk.nil
noncomputable def F_10 (a1 : Ty.El tVec) (a2 : Ty.El I) (a3 : Ty.El (.list tThing)) : Option (Els [.bool]) :=
  (F_22 a3).bind fun v2 =>
    bif !v2.fst then F_30.bind fun v4 => Option.some (v4.fst, ())
    else
      F_30.bind fun v6 =>
        bif !v6.fst then F_30.bind fun v8 => Option.some (v8.fst, ())
        else
          (F_20 (a1, a2, a3)).bind fun v10 =>
            bif !v10.fst then
              (F_32 ([], []) (a1, a2, a3)).bind fun v12 =>
                (F_33 ([], []) (a1, a2, a3)).bind fun v14 =>
                  (F_34e (a1, a2, a3) ([], [])).bind fun v16 =>
                    bif v12.snd.snd.fst == (9 : Int) then
                      bif v14.snd.snd.fst == (9 : Int) then
                        bif
                            Go.IntKind.i64.wrap
                                (Go.IntKind.i64.wrap
                                    (Go.IntKind.i64.wrap ((↑(List.length v12.fst.fst) : Int) + (↑(List.length v12.fst.snd) : Int)) + (↑(List.length v14.fst.fst) : Int)) +
                                  (↑(List.length v14.fst.snd) : Int)) ==
                              (0 : Int) then
                          (F_25 (a1, a2, a3)).bind fun v18 =>
                            (F_24 v12.snd.fst v18.fst).bind fun v20 =>
                              bif v20.fst then
                                (F_25 (a1, a2, a3)).bind fun v22 =>
                                  (F_24 v14.snd.fst v22.fst).bind fun v24 =>
                                    bif v24.fst then
                                      (F_35 ([], [])).bind fun v26 =>
                                        bif v26.fst then
                                          bif Bool.true == (v16.snd.fst == (9 : Int)) then
                                            bif v16.snd.fst != (0 : Int) then Option.some (Bool.true, ())
                                            else Option.some ((↑(List.length v16.fst) : Int) == Go.IntKind.i64.wrap ((↑(List.length a3) : Int) + (1 : Int)), ())
                                          else Option.some (Bool.false, ())
                                        else Option.some (Bool.false, ())
                                    else Option.some (Bool.false, ())
                              else Option.some (Bool.false, ())
                        else Option.some (Bool.false, ())
                      else Option.some (Bool.false, ())
                    else Option.some (Bool.false, ())
            else
              (F_32 ([], []) (a1, a2, a3)).bind fun v28 =>
                (F_33 ([], []) (a1, a2, a3)).bind fun v30 =>
                  (F_34e (a1, a2, a3) ([], [])).bind fun v32 =>
                    bif v28.snd.snd.fst == (13 : Int) then
                      bif v30.snd.snd.fst == (13 : Int) then
                        bif
                            Go.IntKind.i64.wrap
                                (Go.IntKind.i64.wrap
                                    (Go.IntKind.i64.wrap ((↑(List.length v28.fst.fst) : Int) + (↑(List.length v28.fst.snd) : Int)) + (↑(List.length v30.fst.fst) : Int)) +
                                  (↑(List.length v30.fst.snd) : Int)) ==
                              (0 : Int) then
                          (F_25 (a1, a2, a3)).bind fun v34 =>
                            (F_24 v28.snd.fst v34.fst).bind fun v36 =>
                              bif v36.fst then
                                (F_25 (a1, a2, a3)).bind fun v38 =>
                                  (F_24 v30.snd.fst v38.fst).bind fun v40 =>
                                    bif v40.fst then
                                      (F_35 ([], [])).bind fun v42 =>
                                        bif v42.fst then
                                          bif Bool.false == (v32.snd.fst == (9 : Int)) then
                                            bif v32.snd.fst != (0 : Int) then Option.some (Bool.true, ())
                                            else Option.some ((↑(List.length v32.fst) : Int) == Go.IntKind.i64.wrap ((↑(List.length a3) : Int) + (1 : Int)), ())
                                          else Option.some (Bool.false, ())
                                        else Option.some (Bool.false, ())
                                    else Option.some (Bool.false, ())
                              else Option.some (Bool.false, ())
                        else Option.some (Bool.false, ())
                      else Option.some (Bool.false, ())
                    else Option.some (Bool.false, ())
theorem f_10 (x : Ps [.ty tVec, .ty I, .ty (.list tThing)]) : funcT CT T_10 [.bool] (drT CT T_10) lp_10 Try.f10 c_10 (encPs [.ty tVec, .ty I, .ty (.list tThing)] x) = F_10 x.1 x.2.1 x.2.2.1 := by kernel_rfl
noncomputable def E_10 : Ent := .fn 10 [] ⟨[.ty tVec, .ty I, .ty (.list tThing)], [.bool], fun x => F_10 x.1 x.2.1 x.2.2.1, false⟩
theorem e_10 : E_10.Ok CT.P := Ent.ofFn CT_ok T_10_ok hf_10 hb_10 lp_10_ok f_10
noncomputable def E_10h : Ent := .fn 10 [] ⟨[.ty tVec, .ty I, .ty (.list tThing)], [.bool], fun x => F_10 x.1 x.2.1 x.2.2.1, true⟩
end Go.DI.S

/-! What writing numbers, and things, comes to. -/
set_option linter.unusedVariables false
set_option linter.unusedSimpArgs false
set_option maxRecDepth 100000
namespace Go.DI.S
open Go.Proofs

/-- A number's byte. -/
def byteI (v : Int) (n : Nat) : Int := IntKind.u8.wrap (Int.fdiv v ((2 : Int) ^ Min.min (IntKind.i64.wrap ((8 : Int) * (n : Int))).toNat (64 : Nat)))
/-- A number in so many bytes. -/
def numI (v : Int) : Nat → List Int
  | 0 => []
  | n + 1 => byteI v n :: numI v n
theorem numI_len (v : Int) : ∀ n, (numI v n).length = n
  | 0 => rfl
  | n + 1 => by simp [numI, numI_len v n]
def toS (l : List Int) : List UInt8 := l.map fun x => UInt8.ofNat (Int.toNat x)
theorem wrap8 {n : Nat} (h : n ≤ 1000) : IntKind.i64.wrap ((8 : Int) * (n : Int)) = 8 * (n : Int) := wrap64 (by omega) (by omega)
theorem r102 (v : Int) : ∀ (n : Nat) (row : List Int) (f : Nat), n ≤ 1000 → n < f → row.length + n ≤ 1000000000 →
    roundsT (fun x => G_102_1 x.1.2.1 x.1.2.2.1 x.2.1 x.2.2.1) f (((), v, (n : Int) - 1, ()), ((), ()), row, ()) = some (.inl (((), ()), ((), ()), row ++ numI v n, ()))
  | 0, row, f, hn, hf, hr => by
    obtain ⟨f, rfl⟩ : ∃ k, f = k + 1 := ⟨f - 1, by omega⟩
    refine rounds_out ?_ f
    simp only [G_102_1]
    rw [decide_eq_false (by omega : ¬ (((0 : Nat) : Int) - 1 ≥ 0)), cond_false]
    simp [numI]
  | n + 1, row, f, hn, hf, hr => by
    obtain ⟨f, rfl⟩ : ∃ k, f = k + 1 := ⟨f - 1, by omega⟩
    have e : ((n + 1 : Nat) : Int) - 1 = (n : Int) := by omega
    rw [e, rounds_in (x' := (((), v, (n : Int) - 1, ()), ((), ()), row ++ [byteI v n], ())) ?_ f]
    · rw [r102 v n _ f (by omega) (by omega) (by simp; omega)]
      simp [numI]
    · simp only [G_102_1]
      rw [decide_eq_true (by omega : (n : Int) ≥ 0), cond_true, wrap8 (by omega), decide_eq_false (by omega), cond_false, show Nat.ble ((row.length + _) * 1) 70368744177664 = true from Nat.ble_eq_true_of_le (by simp; omega), cond_true,
        wrap64 (x := (n : Int) - 1) (by omega) (by omega)]
      unfold byteI
      rw [wrap8 (by omega)]
theorem v_102 (v : Int) (n : Nat) (row : List Int) (hn : n ≤ 1000) (hr : row.length + n ≤ 1000000000) : F_102 v (n : Int) ((), ()) row = some ((), ((), ()), row ++ numI v n, ()) := by
  unfold F_102 R_102_1
  rw [wrap64 (x := (n : Int) - 1) (by omega) (by omega), r102 v n row fuel hn (fuel_lt (by omega)) hr]
  rfl
theorem r69 (v : Int) : ∀ (n : Nat) (row : List Int) (f : Nat), n ≤ 1000 → n < f → row.length + n ≤ 1000000000 →
    roundsT (fun x => G_69_3 x.1.1 x.1.2.1 x.2.1) f ((v, (n : Int) - 1, (), ()), row, ()) = some (.inl (((), ()), row ++ numI v n, ()))
  | 0, row, f, hn, hf, hr => by
    obtain ⟨f, rfl⟩ : ∃ k, f = k + 1 := ⟨f - 1, by omega⟩
    refine rounds_out ?_ f
    simp only [G_69_3]
    rw [decide_eq_false (by omega : ¬ (((0 : Nat) : Int) - 1 ≥ 0)), cond_false]
    simp [numI]
  | n + 1, row, f, hn, hf, hr => by
    obtain ⟨f, rfl⟩ : ∃ k, f = k + 1 := ⟨f - 1, by omega⟩
    have e : ((n + 1 : Nat) : Int) - 1 = (n : Int) := by omega
    rw [e, rounds_in (x' := ((v, (n : Int) - 1, (), ()), row ++ [byteI v n], ())) ?_ f]
    · rw [r69 v n _ f (by omega) (by omega) (by simp; omega)]
      simp [numI]
    · simp only [G_69_3]
      rw [decide_eq_true (by omega : (n : Int) ≥ 0), cond_true, wrap8 (by omega), decide_eq_false (by omega), cond_false, show Nat.ble ((row.length + _) * 1) 70368744177664 = true from Nat.ble_eq_true_of_le (by simp; omega), cond_true,
        wrap64 (x := (n : Int) - 1) (by omega) (by omega)]
      unfold byteI
      rw [wrap8 (by omega)]
theorem v_69 (v : Int) (n : Nat) (hn : n ≤ 1000) : F_69 v (n : Int) = some ((toS (numI v n), ()) : Els [.str]) := by
  unfold F_69 R_69_3
  rw [wrap64 (x := (n : Int) - 1) (by omega) (by omega), r69 v n [] fuel hn (fuel_lt (by omega)) (by simp; omega)]
  rfl
def vecI (a : Vec) : List Int := numI a.1 8 ++ numI a.2 8
theorem vecI_len (a : Vec) : (vecI a).length = 16 := by simp [vecI, numI_len]
theorem v_103 (a : Vec) (row : List Int) (hr : row.length + 16 ≤ 1000000000) : F_103 a ((), ()) row = some ((), ((), ()), row ++ vecI a, ()) := by
  unfold F_103
  have h1 := v_102 a.1 8 row (by omega) (by omega)
  have h2 := v_102 a.2 8 (row ++ numI a.1 8) (by omega) (by simp [numI_len]; omega)
  rw [show ((8 : Nat) : Int) = 8 from rfl] at h1 h2
  simp only [h1, Option.bind_some, h2, vecI, List.append_assoc]
/-- A thing's bytes. -/
def bodyI (b : Body) : List Int := numI b.1 1 ++ (vecI b.2.1 ++ (numI b.2.2.1 8 ++ (vecI b.2.2.2.1 ++ vecI b.2.2.2.2)))
def jointI (j : Joint) : List Int := numI j.1 4 ++ (numI j.2.1 4 ++ numI j.2.2 8)
def insI (l : List Int) : List Int := l.flatMap fun n => numI n 4
theorem insI_len (l : List Int) : (insI l).length = 4 * l.length := by
  induction l with
  | nil => rfl
  | cons a l ih =>
    show (numI a 4 ++ insI l).length = _
    rw [List.length_append, ih, numI_len, List.length_cons]; omega
def putI (t : Thing) : List Int := numI t.2.1 1 ++ (numI t.1 4 ++
  (bif t.2.1 == (1 : Int) then bodyI t.2.2.1 else bif t.2.1 == (2 : Int) then jointI t.2.2.2.1 else bif t.2.1 == (3 : Int) then numI (t.2.2.2.2.length : Int) 1 ++ insI t.2.2.2.2 else []))
theorem fold_insI : ∀ (l : List Int) (row : List Int), l.foldl (fun r n => r ++ numI n 4) row = row ++ insI l
  | [], row => by simp [insI]
  | a :: l, row => by
    rw [List.foldl_cons, fold_insI l, List.append_assoc]; rfl
theorem q_61_20 (l : List Int) (row : List Int) (hr : row.length + 4 * l.length ≤ 100000000) :
    R_61_20 (((), l, (l.length : Int), (0 : Int), ()), ((), ()), row, ()) = some (.inl (((), ()), ((), ()), row ++ insI l, ())) := by
  have key : ∀ (d m k : Nat) (row : List Int), k + d = l.length → d < m → row.length + 4 * d ≤ 100000000 → roundsT (fun x => G_61_20 x.1.2.1 x.1.2.2.1 x.1.2.2.2.1 x.2.1 x.2.2.1) m (((), l, (l.length : Int), (k : Int), ()), ((), ()), row, ()) = some (.inl (((), ()), ((), ()), row ++ insI (l.drop k), ())) := by
    intro d
    induction d with
    | zero =>
      intro m k row hk hm hr
      obtain ⟨m, rfl⟩ : ∃ j, m = j + 1 := ⟨m - 1, by omega⟩
      have : k = l.length := by omega
      subst this
      rw [rounds_out (y := .inl (((), ()), ((), ()), row, ())) (by simp only [G_61_20, dec_end, cond_false]), List.drop_length]
      simp [insI]
    | succ d ih =>
      intro m k row hk hm hr
      obtain ⟨m, rfl⟩ : ∃ j, m = j + 1 := ⟨m - 1, by omega⟩
      have hlt : k < l.length := by omega
      have ha := List.getElem?_eq_getElem hlt
      rw [rounds_in (x' := (((), l, (l.length : Int), ((k + 1 : Nat) : Int), ()), ((), ()), row ++ numI l[k] 4, ())) ?_ m]
      · rw [ih m (k + 1) _ (by omega) (by omega) (by simp [numI_len]; omega), List.drop_eq_getElem_cons hlt]
        show some (Sum.inl (((), ()), ((), ()), row ++ numI l[k] 4 ++ insI (l.drop (k + 1)), ())) = some (Sum.inl (((), ()), ((), ()), row ++ (numI l[k] 4 ++ insI (l.drop (k + 1))), ()))
        rw [List.append_assoc]
      · have h1 := v_102 l[k] 4 row (by omega) (by omega)
        rw [show ((4 : Nat) : Int) = 4 from rfl] at h1
        simp only [G_61_20, dec_lt hlt, dec_in hlt, cond_true, getD_of ha, h1, Option.bind_some, wrap_up hlt (by omega)]
  have h := key l.length fuel 0 row (by omega) (fuel_lt (by omega)) hr
  rw [List.drop_zero] at h
  exact h
theorem v_61 (t : Thing) (h : t.2.2.2.2.length ≤ 1000000) : F_61 t = some ((bif rt t then (toS (putI t), true, ()) else ([], false, ())) : Els [.str, .bool]) := by
  unfold F_61
  rw [v_45 t (by omega)]
  simp only [Option.bind_some]
  cases rt t with
  | false => rfl
  | true =>
    have h1 := fun v (row : List Int) (hr : row.length ≤ 100000000) => v_102 v 1 row (by omega) (by omega)
    have h4 := fun v (row : List Int) (hr : row.length ≤ 100000000) => v_102 v 4 row (by omega) (by omega)
    have h8 := fun v (row : List Int) (hr : row.length ≤ 100000000) => v_102 v 8 row (by omega) (by omega)
    have hv := fun v (row : List Int) (hr : row.length ≤ 100000000) => v_103 v row (by omega)
    rw [show ((1 : Nat) : Int) = 1 from rfl] at h1
    rw [show ((4 : Nat) : Int) = 4 from rfl] at h4
    rw [show ((8 : Nat) : Int) = 8 from rfl] at h8
    simp only [Bool.not_true, cond_false, cond_true]
    rw [h1 _ _ (by simp)]
    simp only [Option.bind_some]
    rw [h4 _ _ (by simp [numI_len])]
    simp only [Option.bind_some]
    unfold putI
    cases (t.2.1 == (1 : Int)) with
    | true =>
      simp only [cond_true]
      rw [h1 _ _ (by simp [numI_len])]
      simp only [Option.bind_some]
      rw [hv _ _ (by simp [numI_len])]
      simp only [Option.bind_some]
      rw [h8 _ _ (by simp [numI_len, vecI_len])]
      simp only [Option.bind_some]
      rw [hv _ _ (by simp [numI_len, vecI_len])]
      simp only [Option.bind_some]
      rw [hv _ _ (by simp [numI_len, vecI_len])]
      simp only [Option.bind_some, bodyI, List.append_assoc, List.nil_append]
      rfl
    | false =>
      simp only [cond_false]
      cases (t.2.1 == (2 : Int)) with
      | true =>
        simp only [cond_true]
        rw [h4 _ _ (by simp [numI_len])]
        simp only [Option.bind_some]
        rw [h4 _ _ (by simp [numI_len])]
        simp only [Option.bind_some]
        rw [h8 _ _ (by simp [numI_len])]
        simp only [Option.bind_some, jointI, List.append_assoc, List.nil_append]
        rfl
      | false =>
        simp only [cond_false]
        cases (t.2.1 == (3 : Int)) with
        | true =>
          simp only [cond_true]
          rw [h1 _ _ (by simp [numI_len])]
          simp only [Option.bind_some]
          rw [q_61_20 _ _ (by simp [numI_len]; omega)]
          simp only [Option.bind_some, Sum.elim_inl, List.append_assoc, List.nil_append]
          rfl
        | false =>
          simp only [cond_false, List.append_nil, List.nil_append]
          rfl
end Go.DI.S

/-! With nothing done there is nothing to undo: what is told comes to true. -/
set_option linter.unusedVariables false
set_option linter.unusedSimpArgs false
set_option maxRecDepth 100000
namespace Go.DI.S
open Go.Proofs

/-! ### nothing done -/
theorem alive30' : F_30 = some ((true, ()) : Els [.bool]) := by kernel_rfl
theorem v_35 : F_35 ([], []) = some ((true, ()) : Els [.bool]) := by kernel_rfl
theorem v_32 (s : Scene) (hs : Small s.2.2) : F_32 ([], []) s = some ((([], []), s, (bif rightB s then (13 : Int) else 9), ()) : Els [tPast, tScene, I]) := by
  unfold F_32
  simp only [v_35, Option.bind_some, Bool.not_true, cond_false, v_20 s hs]
  cases rightB s <;> rfl
theorem v_33 (s : Scene) (hs : Small s.2.2) : F_33 ([], []) s = some ((([], []), s, (bif rightB s then (13 : Int) else 9), ()) : Els [tPast, tScene, I]) := by
  unfold F_33
  simp only [v_35, Option.bind_some, Bool.not_true, cond_false, v_20 s hs]
  cases rightB s <;> rfl
theorem v_70 : F_70 [[], []] = some (([], ()) : Els [.list tEntry]) := by kernel_rfl
/-- A thing's record. -/
noncomputable def recOf (t : Thing) : Int × List UInt8 := (t.1, bif rt t then toS (putI t) else [])
theorem q_34_6 (p : tPast.El) (l : List Thing) (hl : l.length ≤ 45 ∧ ∀ t ∈ l, t.2.2.2.2.length ≤ 20) (out : List (Int × List UInt8)) (ho : out.length ≤ 1000) :
    R_34e_6 (((), (), l, (l.length : Int), (0 : Int), ()), (p, ()), out, ()) = some (.inl (((), (), ()), (p, ()), out ++ l.map recOf, ())) := by
  have key : ∀ (d m k : Nat) (out : List (Int × List UInt8)), k + d = l.length → d < m → out.length ≤ 1000 + k → roundsT (fun x => G_34e_6 x.1.2.2.1 x.1.2.2.2.1 x.1.2.2.2.2.1 x.2.1 x.2.2.1) m (((), (), l, (l.length : Int), (k : Int), ()), (p, ()), out, ()) = some (.inl (((), (), ()), (p, ()), out ++ (l.drop k).map recOf, ())) := by
    intro d
    induction d with
    | zero =>
      intro m k out hk hm ho
      obtain ⟨m, rfl⟩ : ∃ j, m = j + 1 := ⟨m - 1, by omega⟩
      have : k = l.length := by omega
      subst this
      rw [rounds_out (y := .inl (((), (), ()), (p, ()), out, ())) (by simp only [G_34e_6, dec_end, cond_false]), List.drop_length]
      simp
    | succ d ih =>
      intro m k out hk hm ho
      obtain ⟨m, rfl⟩ : ∃ j, m = j + 1 := ⟨m - 1, by omega⟩
      have hlt : k < l.length := by omega
      have ha := List.getElem?_eq_getElem hlt
      have h1 := v_61 l[k] (by have := hl.2 _ (List.getElem_mem hlt); omega)
      rw [rounds_in (x' := (((), (), l, (l.length : Int), ((k + 1 : Nat) : Int), ()), (p, ()), out ++ [recOf l[k]], ())) ?_ m]
      · rw [ih m (k + 1) _ (by omega) (by omega) (by simp; omega), List.drop_eq_getElem_cons hlt]
        show some (Sum.inl (((), (), ()), (p, ()), out ++ [recOf l[k]] ++ (l.drop (k + 1)).map recOf, ())) = some (Sum.inl (((), (), ()), (p, ()), out ++ (recOf l[k] :: (l.drop (k + 1)).map recOf), ()))
        rw [List.append_assoc]; rfl
      · simp only [G_34e_6, dec_lt hlt, dec_in hlt, cond_true, getD_of ha, h1, Option.bind_some, wrap_up hlt (by omega)]
        have hb : ∀ z : Int × List UInt8, Nat.ble ((out.length + [z].length) * 24) 70368744177664 = true := fun z => Nat.ble_eq_true_of_le (by
          have := hl.1
          simp; omega)
        unfold recOf
        cases rt l[k] <;> (simp only [cond_true, cond_false, hb])
  have h := key l.length fuel 0 out (by omega) (fuel_lt (by have := hl.1; omega)) (by omega)
  rw [List.drop_zero] at h
  exact h
theorem q_34_13 (out : List (Int × List UInt8)) (k : Int) : R_34e_13 (((), k, [], ((List.length ([] : List tEntry.El) : Nat) : Int), (0 : Int), ()), out, ()) = some (.inl (((), ()), out, ())) := by
  unfold R_34e_13
  rw [fuel_succ]
  exact rounds_out rfl _
theorem v_34 (s : Scene) (hl : s.2.2.length ≤ 45 ∧ ∀ t ∈ s.2.2, t.2.2.2.2.length ≤ 20) : ∃ r, F_34e s ([], []) = some ((r, (bif rightB s then (0 : Int) else 9), ()) : Els [.list tRec, I]) ∧ (rightB s = true → r.length = s.2.2.length + 1) := by
  have hs := small_of hl
  unfold F_34e
  simp only [v_35, Option.bind_some, Bool.not_true, cond_false, v_20 s hs]
  cases rightB s with
  | false => exact ⟨[], rfl, fun h => by cases h⟩
  | true =>
    have h8 := fun v => v_69 v 8 (by omega)
    have h4 := fun v => v_69 v 4 (by omega)
    rw [show ((8 : Nat) : Int) = 8 from rfl] at h8
    rw [show ((4 : Nat) : Int) = 4 from rfl] at h4
    simp only [Bool.not_true, cond_false, cond_true]
    erw [v_35]
    simp only [Option.bind_some, Bool.not_true, cond_false, h8, h4]
    rw [decide_eq_true (by simp [toS, numI_len]), cond_true, decide_eq_true (by simp [toS, numI_len]), cond_true, decide_eq_true (by simp [toS, numI_len]), cond_true]
    rw [q_34_6 _ _ hl _ (by simp)]
    simp only [Option.bind_some, Sum.elim_inl]
    erw [v_70]
    simp only [Option.bind_some]
    rw [q_34_13]
    exact ⟨_, rfl, fun _ => by simp⟩

theorem pastEmpty (g : Vec) (next : Int) (l : List Thing) (hl : l.length ≤ maxLen) : F_10 g next l = some ((true, ()) : Els [.bool]) := by
  unfold F_10
  simp only [v_22 l hl, Option.bind_some]
  cases hf : fewB l with
  | false => simp only [Bool.not_false, cond_true, alive30', Option.bind_some]
  | true =>
    have hl2 := few_small hf
    have hs := small_of hl2
    obtain ⟨r, h34, hr⟩ := v_34 (g, next, l) hl2
    simp only [Bool.not_true, cond_false, alive30', Option.bind_some, v_20 (g, next, l) hs, v_32 (g, next, l) hs, v_33 (g, next, l) hs, h34, v_25, v_24 (g, next, l) hs, v_35]
    cases hr2 : rightB (g, next, l) with
    | false => rfl
    | true =>
      have h3 := hr hr2
      simp only [Bool.not_true, cond_false, cond_true]
      have e : ((r.length : Nat) : Int) = IntKind.i64.wrap ((l.length : Int) + 1) := by
        rw [h3, wrap64 (by omega) (by have := hl2.1; omega)]
        show ((l.length + 1 : Nat) : Int) = _
        omega
      rw [e]
      simp only [beq_self_eq_true]
      rfl
end Go.DI.S

