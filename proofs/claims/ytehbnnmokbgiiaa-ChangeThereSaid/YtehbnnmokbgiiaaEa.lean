import Derived.Test.YtehbnnmokbgiiaaUa
/- Writing and reading things: told by functions on data. No conditions. -/
/-! The program's functions, told by functions on data. -/
set_option linter.unusedVariables false
set_option maxRecDepth 100000
set_option maxHeartbeats 0
namespace Go.DI.S
open Go.Proofs
/-! ### 102: (*maquette/clay.writer).num -/
noncomputable def c_102 : Code := Try.f55.body.getD .skip
theorem hb_102 : Try.f55.body = some c_102 := by kernel_rfl
theorem hf_102 : CT.P.funcs[55]? = some Try.f55 := by kernel_rfl
noncomputable abbrev IN_102 : LayD := ⟨3, [(0, .ptr 0), (1, .data I), (2, .data I)], [.var 105 [.own (.int .u8) 1], .row 5 (.int .u8)], fun s => [slotR s 0, slotC s 0 0]⟩
noncomputable abbrev OUT_102 : LayD := ⟨0, [], [.var 105 [.own (.int .u8) 1], .row 5 (.int .u8)], fun s => [0, slotH s 0 0]⟩
noncomputable def T_102 : Tb := mkTb tyP mpP []
theorem T_102_ok : T_102.Ok CT.P := mkTb_ok (trivial)
noncomputable def l_102_1 : Code := atLoop c_102 1
noncomputable abbrev LD_102_1 : LayD := ⟨26, [(0, .ptr 0), (1, .data I), (2, .data I)], [.var 105 [.own (.int .u8) 1], .row 5 (.int .u8)], fun s => [slotR s 0, slotC s 0 0]⟩
noncomputable abbrev LA_102_1 : LayD := ⟨26, [(0, .ptr 0)], [.var 105 [.own (.int .u8) 1], .row 5 (.int .u8)], fun s => [slotR s 0, slotC s 0 0]⟩
noncomputable abbrev LB_102_1 : LayD := ⟨26, [], [], fun _ => []⟩
noncomputable def EX_102_1 : Exits 1 LA_102_1.El LB_102_1.El := ⟨.exit 0, LA_102_1.lay [], .ret, LB_102_1.lay []⟩

noncomputable def lpi_102_1 {β : Type} : LpT β := fun _ _ _ => none
theorem lpi_102_1_ok {β : Type} : LpTOk (CTp 1) (lpi_102_1 (β := β)) (loopsOf l_102_1) := by
  have h : loopsOf l_102_1 = [] := by kernel_rfl
  rw [h]
  exact LpTOk.nil
noncomputable def G_102_1 (r1 : Ty.El I) (r2 : Ty.El I) (b0 : Unit × Unit) (b1 : List (Ty.El (.int .u8))) : Option (LD_102_1.El ⊕ (LA_102_1.El ⊕ LB_102_1.El)) :=
  bif Decidable.decide (r2 ≥ (0 : Int)) then
    bif Decidable.decide (Go.IntKind.i64.wrap ((8 : Int) * r2) < (0 : Int)) then Option.none
    else
      bif
          ((b1.length + [Go.IntKind.u8.wrap (Int.fdiv r1 ((2 : Int) ^ Min.min (Go.IntKind.i64.wrap ((8 : Int) * r2)).toNat (64 : Nat)))].length) * (1 : Nat)).ble
            (70368744177664 : Nat) then
        Option.some
          (Sum.inl
            (((), r1, Go.IntKind.i64.wrap (r2 - (1 : Int)), ()), ((), ()),
              b1 ++ [Go.IntKind.u8.wrap (Int.fdiv r1 ((2 : Int) ^ Min.min (Go.IntKind.i64.wrap ((8 : Int) * r2)).toNat (64 : Nat)))], ()))
      else Option.none
  else Option.some (Sum.inr (Sum.inl (((), ()), ((), ()), b1, ())))
theorem g_102_1 (x : LD_102_1.El) : codeT (CTp 1) T_102 (drT (CTp 1) T_102) lpi_102_1 l_102_1 (LD_102_1.enc x) (bodyK (LD_102_1.lay []) EX_102_1) = G_102_1 x.1.2.1 x.1.2.2.1 x.2.1 x.2.2.1 := by kernel_rfl
noncomputable def R_102_1 : LD_102_1.El → Option (LA_102_1.El ⊕ LB_102_1.El) := roundsT (fun x => G_102_1 x.1.2.1 x.1.2.2.1 x.2.1 x.2.2.1) fuel
theorem r_102_1 : ∀ x y, R_102_1 x = some y → CL (CTp 1) l_102_1 (LD_102_1.enc x) (Sum.elim (fun _ => EX_102_1.xa) (fun _ => EX_102_1.xb) y) (Sum.elim EX_102_1.la.enc EX_102_1.lb.enc y) :=
  rounds_ok (L := LD_102_1.lay []) (E := EX_102_1) (CTp_ok 1) T_102_ok (drT_ok (CTp_ok 1) T_102_ok) lpi_102_1_ok g_102_1 rfl rfl (fun v h => by have hh : (.exit 0 : AX) = .pan v := h; cases hh) (fun v h => by have hh : (.ret : AX) = .pan v := h; cases hh) fuel
noncomputable def lp_102 {β : Type} : LpT β := fun k s K => if Nat.beq k 1 then lpOne (LD_102_1.lay []) EX_102_1 R_102_1 s K else none
theorem lp_102_ok {β : Type} : LpTOk (CTp 1) (lp_102 (β := β)) (loopsOf c_102) := by
  have h : loopsOf c_102 = [(1, l_102_1)] := by kernel_rfl
  rw [h]
  exact LpTOk.cons (fun s K z h => lpOne_ok r_102_1 h) (LpTOk.nil)
noncomputable def F_102 (a1 : Ty.El I) (a2 : Ty.El I) (b0 : Unit × Unit) (b1 : List (Ty.El (.int .u8))) : Option OUT_102.El :=
  (R_102_1 (((), a1, Go.IntKind.i64.wrap (a2 - (1 : Int)), ()), ((), ()), b1, ())).bind fun v1 =>
    Sum.elim (fun v2 => Option.some ((), ((), ()), v2.snd.snd.fst, ())) (fun v3 => Option.none) v1
theorem f_102 (x : IN_102.El) : funcX (CTp 1) T_102 IN_102 OUT_102 [] (drT (CTp 1) T_102) lp_102 Try.f55 c_102 x = F_102 x.1.2.1 x.1.2.2.1 x.2.1 x.2.2.1 := by kernel_rfl
noncomputable def E_102 : Ent := .mkGen 55 [] ⟨1, [.nilCell 0 0 5 (.int .u8)], IN_102, OUT_102, fun x => F_102 x.1.2.1 x.1.2.2.1 x.2.1 x.2.2.1⟩
theorem e_102 : E_102.Ok CT.P := Ent.ofGen (C := (CTp 1)) (steps := [.nilCell 0 0 5 (.int .u8)]) (osteps := []) (CTp_ok 1) T_102_ok hf_102 hb_102 lp_102_ok f_102
/-! ### 103: (*maquette/clay.writer).vec -/
noncomputable def c_103 : Code := Try.f56.body.getD .skip
theorem hb_103 : Try.f56.body = some c_103 := by kernel_rfl
theorem hf_103 : CT.P.funcs[56]? = some Try.f56 := by kernel_rfl
noncomputable abbrev IN_103 : LayD := ⟨2, [(0, .ptr 0), (1, .data tVec)], [.var 105 [.own (.int .u8) 1], .row 5 (.int .u8)], fun s => [slotR s 0, slotC s 0 0]⟩
noncomputable abbrev OUT_103 : LayD := ⟨0, [], [.var 105 [.own (.int .u8) 1], .row 5 (.int .u8)], fun s => [0, slotH s 0 0]⟩
noncomputable def T_103 : Tb := mkTb tyP mpP [E_102]
theorem T_103_ok : T_103.Ok CT.P := mkTb_ok (⟨e_102, trivial⟩)
noncomputable def lp_103 {β : Type} : LpT β := fun _ _ _ => none
theorem lp_103_ok {β : Type} : LpTOk (CTp 1) (lp_103 (β := β)) (loopsOf c_103) := by
  have h : loopsOf c_103 = [] := by kernel_rfl
  rw [h]
  exact LpTOk.nil
noncomputable def F_103 (a1 : Ty.El tVec) (b0 : Unit × Unit) (b1 : List (Ty.El (.int .u8))) : Option OUT_103.El :=
  (F_102 a1.fst (8 : Int) ((), ()) b1).bind fun v2 => (F_102 a1.snd (8 : Int) ((), ()) v2.snd.snd.fst).bind fun v6 => Option.some ((), ((), ()), v6.snd.snd.fst, ())
theorem f_103 (x : IN_103.El) : funcX (CTp 1) T_103 IN_103 OUT_103 [] (drT (CTp 1) T_103) lp_103 Try.f56 c_103 x = F_103 x.1.2.1 x.2.1 x.2.2.1 := by kernel_rfl
noncomputable def E_103 : Ent := .mkGen 56 [] ⟨1, [.nilCell 0 0 5 (.int .u8)], IN_103, OUT_103, fun x => F_103 x.1.2.1 x.2.1 x.2.2.1⟩
theorem e_103 : E_103.Ok CT.P := Ent.ofGen (C := (CTp 1)) (steps := [.nilCell 0 0 5 (.int .u8)]) (osteps := []) (CTp_ok 1) T_103_ok hf_103 hb_103 lp_103_ok f_103
/-! ### 61: maquette/clay.Put -/
noncomputable def c_61 : Code := Try.f39.body.getD .skip
theorem hb_61 : Try.f39.body = some c_61 := by kernel_rfl
theorem hf_61 : CT.P.funcs[39]? = some Try.f39 := by kernel_rfl
noncomputable def T_61 : Tb := mkTb tyP mpP [E_45, E_102, E_103]
theorem T_61_ok : T_61.Ok CT.P := mkTb_ok (⟨e_45, e_102, e_103, trivial⟩)
noncomputable def l_61_20 : Code := atLoop c_61 20
noncomputable abbrev LD_61_20 : LayD := ⟨89, [(4, .ptr 0), (74, .data (.list I)), (75, .data I), (76, .data I)], [.var 105 [.own (.int .u8) 1], .row 5 (.int .u8)], fun s => [slotR s 4, slotC s 4 0]⟩
noncomputable abbrev LA_61_20 : LayD := ⟨89, [(4, .ptr 0)], [.var 105 [.own (.int .u8) 1], .row 5 (.int .u8)], fun s => [slotR s 4, slotC s 4 0]⟩
noncomputable abbrev LB_61_20 : LayD := ⟨89, [], [], fun _ => []⟩
noncomputable def EX_61_20 : Exits 0 LA_61_20.El LB_61_20.El := ⟨.exit 1, LA_61_20.lay [], .ret, LB_61_20.lay []⟩

noncomputable def lpi_61_20 {β : Type} : LpT β := fun _ _ _ => none
theorem lpi_61_20_ok {β : Type} : LpTOk CT (lpi_61_20 (β := β)) (loopsOf l_61_20) := by
  have h : loopsOf l_61_20 = [] := by kernel_rfl
  rw [h]
  exact LpTOk.nil
noncomputable def G_61_20 (r74 : Ty.El (.list I)) (r75 : Ty.El I) (r76 : Ty.El I) (b0 : Unit × Unit) (b1 : List (Ty.El (.int .u8))) : Option (LD_61_20.El ⊕ (LA_61_20.El ⊕ LB_61_20.El)) :=
  bif Decidable.decide (r76 < r75) then
    bif Decidable.decide ((0 : Int) ≤ r76 ∧ r76 < (↑(List.length r74) : Int)) then
      (F_102 (List.getD r74 (Int.toNat r76) (0 : Int)) (4 : Int) ((), ()) b1).bind fun v2 =>
        Option.some (Sum.inl (((), r74, r75, Go.IntKind.i64.wrap (r76 + (1 : Int)), ()), ((), ()), v2.snd.snd.fst, ()))
    else Option.none
  else Option.some (Sum.inr (Sum.inl (((), ()), ((), ()), b1, ())))
theorem g_61_20 (x : LD_61_20.El) : codeT CT T_61 (drT CT T_61) lpi_61_20 l_61_20 (LD_61_20.enc x) (bodyK (LD_61_20.lay []) EX_61_20) = G_61_20 x.1.2.1 x.1.2.2.1 x.1.2.2.2.1 x.2.1 x.2.2.1 := by kernel_rfl
noncomputable def R_61_20 : LD_61_20.El → Option (LA_61_20.El ⊕ LB_61_20.El) := roundsT (fun x => G_61_20 x.1.2.1 x.1.2.2.1 x.1.2.2.2.1 x.2.1 x.2.2.1) fuel
theorem r_61_20 : ∀ x y, R_61_20 x = some y → CL CT l_61_20 (LD_61_20.enc x) (Sum.elim (fun _ => EX_61_20.xa) (fun _ => EX_61_20.xb) y) (Sum.elim EX_61_20.la.enc EX_61_20.lb.enc y) :=
  rounds_ok (L := LD_61_20.lay []) (E := EX_61_20) CT_ok T_61_ok (drT_ok CT_ok T_61_ok) lpi_61_20_ok g_61_20 rfl rfl (fun v h => by have hh : (.exit 1 : AX) = .pan v := h; cases hh) (fun v h => by have hh : (.ret : AX) = .pan v := h; cases hh) fuel
noncomputable def lp_61 {β : Type} : LpT β := fun k s K => if Nat.beq k 20 then lpOne (LD_61_20.lay []) EX_61_20 R_61_20 s K else none
theorem lp_61_ok {β : Type} : LpTOk CT (lp_61 (β := β)) (loopsOf c_61) := by
  have h : loopsOf c_61 = [(20, l_61_20)] := by kernel_rfl
  rw [h]
  exact LpTOk.cons (fun s K z h => lpOne_ok r_61_20 h) (LpTOk.nil)
noncomputable def F_61 (a1 : Ty.El tThing) : Option (Els [.str, .bool]) :=
  (F_45 a1).bind fun v2 =>
    bif !v2.fst then Option.some ([], Bool.false, ())
    else
      (F_102 a1.snd.fst (1 : Int) ((), ()) []).bind fun v4 =>
        (F_102 a1.fst (4 : Int) ((), ()) v4.snd.snd.fst).bind fun v8 =>
          bif a1.snd.fst == (1 : Int) then
            (F_102 a1.snd.snd.fst.fst (1 : Int) ((), ()) v8.snd.snd.fst).bind fun v12 =>
              (F_103 a1.snd.snd.fst.snd.fst ((), ()) v12.snd.snd.fst).bind fun v16 =>
                (F_102 a1.snd.snd.fst.snd.snd.fst (8 : Int) ((), ()) v16.snd.snd.fst).bind fun v20 =>
                  (F_103 a1.snd.snd.fst.snd.snd.snd.fst ((), ()) v20.snd.snd.fst).bind fun v24 =>
                    (F_103 a1.snd.snd.fst.snd.snd.snd.snd ((), ()) v24.snd.snd.fst).bind fun v28 =>
                      Option.some (List.map (fun v29 => UInt8.ofNat (Int.toNat v29)) v28.snd.snd.fst, Bool.true, ())
          else
            bif a1.snd.fst == (2 : Int) then
              (F_102 a1.snd.snd.snd.fst.fst (4 : Int) ((), ()) v8.snd.snd.fst).bind fun v35 =>
                (F_102 a1.snd.snd.snd.fst.snd.fst (4 : Int) ((), ()) v35.snd.snd.fst).bind fun v39 =>
                  (F_102 a1.snd.snd.snd.fst.snd.snd (8 : Int) ((), ()) v39.snd.snd.fst).bind fun v43 =>
                    Option.some (List.map (fun v44 => UInt8.ofNat (Int.toNat v44)) v43.snd.snd.fst, Bool.true, ())
            else
              bif a1.snd.fst == (3 : Int) then
                (F_102 (↑(List.length a1.snd.snd.snd.snd) : Int) (1 : Int) ((), ()) v8.snd.snd.fst).bind fun v50 =>
                  (R_61_20 (((), a1.snd.snd.snd.snd, (↑(List.length a1.snd.snd.snd.snd) : Int), (0 : Int), ()), ((), ()), v50.snd.snd.fst, ())).bind fun v53 =>
                    Sum.elim (fun v54 => Option.some (List.map (fun v55 => UInt8.ofNat (Int.toNat v55)) v54.snd.snd.fst, Bool.true, ())) (fun v56 => Option.none) v53
              else Option.some (List.map (fun v57 => UInt8.ofNat (Int.toNat v57)) v8.snd.snd.fst, Bool.true, ())
theorem f_61 (x : Ps [.ty tThing]) : funcT CT T_61 [.str, .bool] (drT CT T_61) lp_61 Try.f39 c_61 (encPs [.ty tThing] x) = F_61 x.1 := by kernel_rfl
noncomputable def E_61 : Ent := .fn 39 [] ⟨[.ty tThing], [.str, .bool], fun x => F_61 x.1, false⟩
theorem e_61 : E_61.Ok CT.P := Ent.ofFn CT_ok T_61_ok hf_61 hb_61 lp_61_ok f_61
noncomputable def E_61h : Ent := .fn 39 [] ⟨[.ty tThing], [.str, .bool], fun x => F_61 x.1, true⟩
/-! ### 34: maquette/past.Records -/
noncomputable abbrev LD_34e_16 : LayD := ⟨116, [(7, .own tRec 0), (12, .data I), (15, .data .str), (79, .data (.list tEntry)), (80, .data I), (81, .data I)], [.row 105 tRec], fun s => [slotR s 7]⟩
noncomputable abbrev LA_34e_16 : LayD := ⟨116, [(7, .own tRec 0), (12, .data I), (79, .data (.list tEntry)), (80, .data I), (81, .data I)], [.row 105 tRec], fun s => [slotR s 7]⟩
noncomputable abbrev LB_34e_16 : LayD := ⟨116, [], [], fun _ => []⟩
noncomputable def EX_34e_16 : Exits 0 LA_34e_16.El LB_34e_16.El := ⟨.exit 4, LA_34e_16.lay [.rowReg 7 105 tRec], .ret, LB_34e_16.lay []⟩

noncomputable def lpi_34e_16 {β : Type} : LpT β := fun _ _ _ => none
noncomputable def G_34e_16 (r12 : Ty.El I) (r15 : Ty.El .str) (r79 : Ty.El (.list tEntry)) (r80 : Ty.El I) (r81 : Ty.El I) (b0 : List (Ty.El tRec)) : Option (LD_34e_16.El ⊕ (LA_34e_16.El ⊕ LB_34e_16.El)) :=
  bif !r15 == [] then
    bif (if (899 : Int) < (↑(List.length r15) : Int) then (899 : Int) else (↑(List.length r15) : Int)) == (↑(List.length r15) : Int) then
      bif
          Decidable.decide
            (((0 : Int) ≤ if (899 : Int) < (↑(List.length r15) : Int) then (899 : Int) else (↑(List.length r15) : Int)) ∧
              (if (899 : Int) < (↑(List.length r15) : Int) then (899 : Int) else (↑(List.length r15) : Int)) ≤ (↑(List.length r15) : Int)) then
        bif
            Decidable.decide
              ((1 : Nat) +
                  (List.take ((if (899 : Int) < (↑(List.length r15) : Int) then (899 : Int) else (↑(List.length r15) : Int)).toNat - (0 : Nat)) (List.drop (0 : Nat) r15)).length ≤
                (4611686018427387904 : Nat)) then
          bif
              ((b0.length +
                      [(r12,
                            [(1 : UInt8)] ++
                              List.take ((if (899 : Int) < (↑(List.length r15) : Int) then (899 : Int) else (↑(List.length r15) : Int)).toNat - (0 : Nat))
                                (List.drop (0 : Nat) r15))].length) *
                    (24 : Nat)).ble
                (70368744177664 : Nat) then
            bif
                Decidable.decide
                  (((0 : Int) ≤ if (899 : Int) < (↑(List.length r15) : Int) then (899 : Int) else (↑(List.length r15) : Int)) ∧
                    (if (899 : Int) < (↑(List.length r15) : Int) then (899 : Int) else (↑(List.length r15) : Int)) ≤ (↑(List.length r15) : Int)) then
              Option.some
                (Sum.inl
                  (((), Go.IntKind.i64.wrap (r12 + (1 : Int)),
                      List.take (List.length r15 - (if (899 : Int) < (↑(List.length r15) : Int) then (899 : Int) else (↑(List.length r15) : Int)).toNat)
                        (List.drop (if (899 : Int) < (↑(List.length r15) : Int) then (899 : Int) else (↑(List.length r15) : Int)).toNat r15),
                      r79, r80, r81, ()),
                    b0 ++
                      [(r12,
                          [(1 : UInt8)] ++
                            List.take ((if (899 : Int) < (↑(List.length r15) : Int) then (899 : Int) else (↑(List.length r15) : Int)).toNat - (0 : Nat)) (List.drop (0 : Nat) r15))],
                    ()))
            else Option.none
          else Option.none
        else Option.none
      else Option.none
    else
      bif
          Decidable.decide
            (((0 : Int) ≤ if (899 : Int) < (↑(List.length r15) : Int) then (899 : Int) else (↑(List.length r15) : Int)) ∧
              (if (899 : Int) < (↑(List.length r15) : Int) then (899 : Int) else (↑(List.length r15) : Int)) ≤ (↑(List.length r15) : Int)) then
        bif
            Decidable.decide
              ((1 : Nat) +
                  (List.take ((if (899 : Int) < (↑(List.length r15) : Int) then (899 : Int) else (↑(List.length r15) : Int)).toNat - (0 : Nat)) (List.drop (0 : Nat) r15)).length ≤
                (4611686018427387904 : Nat)) then
          bif
              ((b0.length +
                      [(r12,
                            [(0 : UInt8)] ++
                              List.take ((if (899 : Int) < (↑(List.length r15) : Int) then (899 : Int) else (↑(List.length r15) : Int)).toNat - (0 : Nat))
                                (List.drop (0 : Nat) r15))].length) *
                    (24 : Nat)).ble
                (70368744177664 : Nat) then
            bif
                Decidable.decide
                  (((0 : Int) ≤ if (899 : Int) < (↑(List.length r15) : Int) then (899 : Int) else (↑(List.length r15) : Int)) ∧
                    (if (899 : Int) < (↑(List.length r15) : Int) then (899 : Int) else (↑(List.length r15) : Int)) ≤ (↑(List.length r15) : Int)) then
              Option.some
                (Sum.inl
                  (((), Go.IntKind.i64.wrap (r12 + (1 : Int)),
                      List.take (List.length r15 - (if (899 : Int) < (↑(List.length r15) : Int) then (899 : Int) else (↑(List.length r15) : Int)).toNat)
                        (List.drop (if (899 : Int) < (↑(List.length r15) : Int) then (899 : Int) else (↑(List.length r15) : Int)).toNat r15),
                      r79, r80, r81, ()),
                    b0 ++
                      [(r12,
                          [(0 : UInt8)] ++
                            List.take ((if (899 : Int) < (↑(List.length r15) : Int) then (899 : Int) else (↑(List.length r15) : Int)).toNat - (0 : Nat)) (List.drop (0 : Nat) r15))],
                    ()))
            else Option.none
          else Option.none
        else Option.none
      else Option.none
  else Option.some (Sum.inr (Sum.inl (((), r12, r79, r80, r81, ()), b0, ())))
noncomputable def R_34e_16 : LD_34e_16.El → Option (LA_34e_16.El ⊕ LB_34e_16.El) := roundsT (fun x => G_34e_16 x.1.2.1 x.1.2.2.1 x.1.2.2.2.1 x.1.2.2.2.2.1 x.1.2.2.2.2.2.1 x.2.1) fuel
noncomputable abbrev LD_34e_6 : LayD := ⟨116, [(3, .ptr 0), (7, .own tRec 1), (55, .data (.list tThing)), (56, .data I), (57, .data I)], [.var 64 [.data tPast], .row 105 tRec], fun s => [slotR s 3, slotR s 7]⟩
noncomputable abbrev LA_34e_6 : LayD := ⟨116, [(3, .ptr 0), (7, .own tRec 1)], [.var 64 [.data tPast], .row 105 tRec], fun s => [slotR s 3, slotR s 7]⟩
noncomputable abbrev LB_34e_6 : LayD := ⟨116, [], [], fun _ => []⟩
noncomputable def EX_34e_6 : Exits 0 LA_34e_6.El LB_34e_6.El := ⟨.exit 0, LA_34e_6.lay [.rowReg 7 105 tRec], .ret, LB_34e_6.lay []⟩

noncomputable def lpi_34e_6 {β : Type} : LpT β := fun _ _ _ => none
noncomputable def G_34e_6 (r55 : Ty.El (.list tThing)) (r56 : Ty.El I) (r57 : Ty.El I) (b0 : Ty.El tPast × Unit) (b1 : List (Ty.El tRec)) : Option (LD_34e_6.El ⊕ (LA_34e_6.El ⊕ LB_34e_6.El)) :=
  bif Decidable.decide (r57 < r56) then
    bif Decidable.decide ((0 : Int) ≤ r57 ∧ r57 < (↑(List.length r55) : Int)) then
      (F_61 (List.getD r55 (Int.toNat r57) Go.DI.S.tThing.dflt)).bind fun v2 =>
        bif ((b1.length + [((List.getD r55 (Int.toNat r57) Go.DI.S.tThing.dflt).fst, v2.fst)].length) * (24 : Nat)).ble (70368744177664 : Nat) then
          Option.some
            (Sum.inl (((), (), r55, r56, Go.IntKind.i64.wrap (r57 + (1 : Int)), ()), (b0.fst, ()), b1 ++ [((List.getD r55 (Int.toNat r57) Go.DI.S.tThing.dflt).fst, v2.fst)], ()))
        else Option.none
    else Option.none
  else Option.some (Sum.inr (Sum.inl (((), (), ()), (b0.fst, ()), b1, ())))
noncomputable def R_34e_6 : LD_34e_6.El → Option (LA_34e_6.El ⊕ LB_34e_6.El) := roundsT (fun x => G_34e_6 x.1.2.2.1 x.1.2.2.2.1 x.1.2.2.2.2.1 x.2.1 x.2.2.1) fuel
noncomputable abbrev LD_34e_13 : LayD := ⟨116, [(7, .own tRec 0), (12, .data I), (79, .data (.list tEntry)), (80, .data I), (81, .data I)], [.row 105 tRec], fun s => [slotR s 7]⟩
noncomputable abbrev LA_34e_13 : LayD := ⟨116, [(7, .own tRec 0)], [.row 105 tRec], fun s => [slotR s 7]⟩
noncomputable abbrev LB_34e_13 : LayD := ⟨116, [], [], fun _ => []⟩
noncomputable def EX_34e_13 : Exits 0 LA_34e_13.El LB_34e_13.El := ⟨.exit 2, LA_34e_13.lay [.rowReg 7 105 tRec], .ret, LB_34e_13.lay []⟩

noncomputable def lpi_34e_13 {β : Type} : LpT β := fun k s K => if Nat.beq k 16 then lpOne (LD_34e_16.lay [.rowReg 7 105 tRec]) EX_34e_16 R_34e_16 s K else none
noncomputable def G_34e_13 (r12 : Ty.El I) (r79 : Ty.El (.list tEntry)) (r80 : Ty.El I) (r81 : Ty.El I) (b0 : List (Ty.El tRec)) : Option (LD_34e_13.El ⊕ (LA_34e_13.El ⊕ LB_34e_13.El)) :=
  bif Decidable.decide (r81 < r80) then bif Decidable.decide ((0 : Int) ≤ r81 ∧ r81 < (↑(List.length r79) : Int)) then Option.none else Option.none
  else Option.some (Sum.inr (Sum.inl (((), ()), b0, ())))
noncomputable def R_34e_13 : LD_34e_13.El → Option (LA_34e_13.El ⊕ LB_34e_13.El) := roundsT (fun x => G_34e_13 x.1.2.1 x.1.2.2.1 x.1.2.2.2.1 x.1.2.2.2.2.1 x.2.1) fuel
noncomputable def lp_34e {β : Type} : LpT β := fun k s K => if Nat.beq k 6 then lpOne (LD_34e_6.lay [.rowReg 7 105 tRec]) EX_34e_6 R_34e_6 s K else if Nat.beq k 13 then lpOne (LD_34e_13.lay [.rowReg 7 105 tRec]) EX_34e_13 R_34e_13 s K else none
/-! ### 33: maquette/past.Redo -/
noncomputable def lp_33 {β : Type} : LpT β := fun _ _ _ => none
/-! ### 10: maquette/maquettelaw23.PastEmpty -/
noncomputable def lp_10 {β : Type} : LpT β := fun _ _ _ => none
end Go.DI.S

/-! The program's functions, told by functions on data. -/
set_option linter.unusedVariables false
set_option maxRecDepth 100000
set_option maxHeartbeats 0
namespace Go.DI.S
open Go.Proofs
abbrev tReader : Ty := .pair .str .bool
/-- One byte more, behind a number. -/
def byteIn (n : Int) (b : UInt8) : Int := IntKind.u64.wrap ((BitVec.ofInt IntKind.u64.bits (IntKind.u64.wrap (n * 2 ^ min (Int.toNat 8) IntKind.u64.bits)) ||| BitVec.ofInt IntKind.u64.bits (IntKind.u64.wrap (b.toNat : Int))).toNat : Int)
/-! ### 131: (*maquette/clay.reader).take -/
noncomputable def c_131 : Code := Try.f62.body.getD .skip
theorem hb_131 : Try.f62.body = some c_131 := by kernel_rfl
theorem hf_131 : CT.P.funcs[62]? = some Try.f62 := by kernel_rfl
noncomputable abbrev IN_131 : LayD := ⟨2, [(0, .ptr 0), (1, .data I)], [.var 86 [.data .str, .data .bool]], fun s => [slotR s 0]⟩
noncomputable abbrev OUT_131 : LayD := ⟨1, [(0, .data .str)], [.var 86 [.data .str, .data .bool]], fun _ => [0]⟩
noncomputable def T_131 : Tb := mkTb tyP mpP []
theorem T_131_ok : T_131.Ok CT.P := mkTb_ok (trivial)
noncomputable def lp_131 {β : Type} : LpT β := fun _ _ _ => none
theorem lp_131_ok {β : Type} : LpTOk (CTp 1) (lp_131 (β := β)) (loopsOf c_131) := by
  have h : loopsOf c_131 = [] := by kernel_rfl
  rw [h]
  exact LpTOk.nil
noncomputable def F_131 (a1 : Ty.El I) (b0 : Ty.El .str × Ty.El .bool × Unit) : Option OUT_131.El :=
  bif b0.snd.fst then Option.some (([], ()), (b0.fst, Bool.true, ()), ())
  else
    bif Decidable.decide (a1 > (↑(List.length b0.fst) : Int)) then Option.some (([], ()), (b0.fst, Decidable.decide (a1 > (↑(List.length b0.fst) : Int)), ()), ())
    else
      bif Decidable.decide ((0 : Int) ≤ a1 ∧ a1 ≤ (↑(List.length b0.fst) : Int)) then
        bif Decidable.decide ((0 : Int) ≤ a1 ∧ a1 ≤ (↑(List.length b0.fst) : Int)) then
          Option.some
            ((List.take (Int.toNat a1 - (0 : Nat)) (List.drop (0 : Nat) b0.fst), ()),
              (List.take (List.length b0.fst - Int.toNat a1) (List.drop (Int.toNat a1) b0.fst), Decidable.decide (a1 > (↑(List.length b0.fst) : Int)), ()), ())
        else Option.none
      else Option.none
theorem f_131 (x : IN_131.El) : funcX (CTp 1) T_131 IN_131 OUT_131 [] (drT (CTp 1) T_131) lp_131 Try.f62 c_131 x = F_131 x.1.2.1 x.2.1 := by kernel_rfl
noncomputable def E_131 : Ent := .mkGen 62 [] ⟨1, [], IN_131, OUT_131, fun x => F_131 x.1.2.1 x.2.1⟩
theorem e_131 : E_131.Ok CT.P := Ent.ofGen (C := (CTp 1)) (steps := []) (osteps := []) (CTp_ok 1) T_131_ok hf_131 hb_131 lp_131_ok f_131
/-! ### 104: (*maquette/clay.reader).num -/
noncomputable def c_104 : Code := Try.f43.body.getD .skip
theorem hb_104 : Try.f43.body = some c_104 := by kernel_rfl
theorem hf_104 : CT.P.funcs[43]? = some Try.f43 := by kernel_rfl
noncomputable abbrev IN_104 : LayD := ⟨2, [(0, .ptr 0), (1, .data I)], [.var 86 [.data .str, .data .bool]], fun s => [slotR s 0]⟩
noncomputable abbrev OUT_104 : LayD := ⟨1, [(0, .data I)], [.var 86 [.data .str, .data .bool]], fun _ => [0]⟩
noncomputable def T_104 : Tb := mkTb tyP mpP [E_131]
theorem T_104_ok : T_104.Ok CT.P := mkTb_ok (⟨e_131, trivial⟩)
noncomputable def l_104_4 : Code := atLoop c_104 4
noncomputable abbrev LD_104_4 : LayD := ⟨26, [(0, .ptr 0), (5, .data (.int .u64)), (6, .data .str), (12, .data I), (13, .data I)], [.var 86 [.data .str, .data .bool]], fun s => [slotR s 0]⟩
noncomputable abbrev LA_104_4 : LayD := ⟨26, [(0, .ptr 0), (5, .data (.int .u64))], [.var 86 [.data .str, .data .bool]], fun s => [slotR s 0]⟩
noncomputable abbrev LB_104_4 : LayD := ⟨26, [], [], fun _ => []⟩
noncomputable def EX_104_4 : Exits 1 LA_104_4.El LB_104_4.El := ⟨.exit 0, LA_104_4.lay [], .ret, LB_104_4.lay []⟩

noncomputable def lpi_104_4 {β : Type} : LpT β := fun _ _ _ => none
theorem lpi_104_4_ok {β : Type} : LpTOk (CTp 1) (lpi_104_4 (β := β)) (loopsOf l_104_4) := by
  have h : loopsOf l_104_4 = [] := by kernel_rfl
  rw [h]
  exact LpTOk.nil
noncomputable def G_104_4 (r5 : Ty.El (.int .u64)) (r6 : Ty.El .str) (r12 : Ty.El I) (r13 : Ty.El I) (b0 : Ty.El .str × Ty.El .bool × Unit) : Option (LD_104_4.El ⊕ (LA_104_4.El ⊕ LB_104_4.El)) :=
  bif Decidable.decide (r13 < r12) then
    bif Decidable.decide ((0 : Int) ≤ r13 ∧ r13 < (↑(List.length r6) : Int)) then
      Option.some (Sum.inl (((), byteIn r5 (List.getD r6 (Int.toNat r13) (0 : UInt8)), r6, r12, Go.IntKind.i64.wrap (r13 + (1 : Int)), ()), (b0.fst, b0.snd.fst, ()), ()))
    else Option.none
  else Option.some (Sum.inr (Sum.inl (((), r5, ()), (b0.fst, b0.snd.fst, ()), ())))
theorem g_104_4 (x : LD_104_4.El) : codeT (CTp 1) T_104 (drT (CTp 1) T_104) lpi_104_4 l_104_4 (LD_104_4.enc x) (bodyK (LD_104_4.lay []) EX_104_4) = G_104_4 x.1.2.1 x.1.2.2.1 x.1.2.2.2.1 x.1.2.2.2.2.1 x.2.1 := by kernel_rfl
noncomputable def R_104_4 : LD_104_4.El → Option (LA_104_4.El ⊕ LB_104_4.El) := roundsT (fun x => G_104_4 x.1.2.1 x.1.2.2.1 x.1.2.2.2.1 x.1.2.2.2.2.1 x.2.1) fuel
theorem r_104_4 : ∀ x y, R_104_4 x = some y → CL (CTp 1) l_104_4 (LD_104_4.enc x) (Sum.elim (fun _ => EX_104_4.xa) (fun _ => EX_104_4.xb) y) (Sum.elim EX_104_4.la.enc EX_104_4.lb.enc y) :=
  rounds_ok (L := LD_104_4.lay []) (E := EX_104_4) (CTp_ok 1) T_104_ok (drT_ok (CTp_ok 1) T_104_ok) lpi_104_4_ok g_104_4 rfl rfl (fun v h => by have hh : (.exit 0 : AX) = .pan v := h; cases hh) (fun v h => by have hh : (.ret : AX) = .pan v := h; cases hh) fuel
noncomputable def lp_104 {β : Type} : LpT β := fun k s K => if Nat.beq k 4 then lpOne (LD_104_4.lay []) EX_104_4 R_104_4 s K else none
theorem lp_104_ok {β : Type} : LpTOk (CTp 1) (lp_104 (β := β)) (loopsOf c_104) := by
  have h : loopsOf c_104 = [(4, l_104_4)] := by kernel_rfl
  rw [h]
  exact LpTOk.cons (fun s K z h => lpOne_ok r_104_4 h) (LpTOk.nil)
noncomputable def F_104 (a1 : Ty.El I) (b0 : Ty.El .str × Ty.El .bool × Unit) : Option OUT_104.El :=
  (F_131 a1 (b0.fst, b0.snd.fst, ())).bind fun v2 =>
    (R_104_4 (((), (0 : Int), v2.fst.fst, (↑(List.length v2.fst.fst) : Int), (0 : Int), ()), (v2.snd.fst.fst, v2.snd.fst.snd.fst, ()), ())).bind fun v11 =>
      Sum.elim (fun v12 => Option.some ((Go.IntKind.i64.wrap v12.fst.snd.fst, ()), (v12.snd.fst.fst, v12.snd.fst.snd.fst, ()), ())) (fun v13 => Option.none) v11
theorem f_104 (x : IN_104.El) : funcX (CTp 1) T_104 IN_104 OUT_104 [] (drT (CTp 1) T_104) lp_104 Try.f43 c_104 x = F_104 x.1.2.1 x.2.1 := by kernel_rfl
noncomputable def E_104 : Ent := .mkGen 43 [] ⟨1, [], IN_104, OUT_104, fun x => F_104 x.1.2.1 x.2.1⟩
theorem e_104 : E_104.Ok CT.P := Ent.ofGen (C := (CTp 1)) (steps := []) (osteps := []) (CTp_ok 1) T_104_ok hf_104 hb_104 lp_104_ok f_104
/-! ### 105: (*maquette/clay.reader).vec -/
noncomputable def c_105 : Code := Try.f44.body.getD .skip
theorem hb_105 : Try.f44.body = some c_105 := by kernel_rfl
theorem hf_105 : CT.P.funcs[44]? = some Try.f44 := by kernel_rfl
noncomputable abbrev IN_105 : LayD := ⟨1, [(0, .ptr 0)], [.var 86 [.data .str, .data .bool]], fun s => [slotR s 0]⟩
noncomputable abbrev OUT_105 : LayD := ⟨1, [(0, .data tVec)], [.var 86 [.data .str, .data .bool]], fun _ => [0]⟩
noncomputable def T_105 : Tb := mkTb tyP mpP [E_104]
theorem T_105_ok : T_105.Ok CT.P := mkTb_ok (⟨e_104, trivial⟩)
noncomputable def lp_105 {β : Type} : LpT β := fun _ _ _ => none
theorem lp_105_ok {β : Type} : LpTOk (CTp 1) (lp_105 (β := β)) (loopsOf c_105) := by
  have h : loopsOf c_105 = [] := by kernel_rfl
  rw [h]
  exact LpTOk.nil
noncomputable def F_105 (b0 : Ty.El .str × Ty.El .bool × Unit) : Option OUT_105.El :=
  (F_104 (8 : Int) (b0.fst, b0.snd.fst, ())).bind fun v2 =>
    (F_104 (8 : Int) (v2.snd.fst.fst, v2.snd.fst.snd.fst, ())).bind fun v8 => Option.some (((v2.fst.fst, v8.fst.fst), ()), (v8.snd.fst.fst, v8.snd.fst.snd.fst, ()), ())
theorem f_105 (x : IN_105.El) : funcX (CTp 1) T_105 IN_105 OUT_105 [] (drT (CTp 1) T_105) lp_105 Try.f44 c_105 x = F_105 x.2.1 := by kernel_rfl
noncomputable def E_105 : Ent := .mkGen 44 [] ⟨1, [], IN_105, OUT_105, fun x => F_105 x.2.1⟩
theorem e_105 : E_105.Ok CT.P := Ent.ofGen (C := (CTp 1)) (steps := []) (osteps := []) (CTp_ok 1) T_105_ok hf_105 hb_105 lp_105_ok f_105
/-! ### 63: maquette/clay.Get -/
noncomputable def c_63 : Code := Try.f27.body.getD .skip
theorem hb_63 : Try.f27.body = some c_63 := by kernel_rfl
theorem hf_63 : CT.P.funcs[27]? = some Try.f27 := by kernel_rfl
noncomputable def T_63 : Tb := mkTb tyP mpP [E_61, E_104, E_105]
theorem T_63_ok : T_63.Ok CT.P := mkTb_ok (⟨e_61, e_104, e_105, trivial⟩)
noncomputable def l_63_18 : Code := atLoop c_63 18
noncomputable abbrev LD_63_18 : LayD := ⟨91, [(0, .data .str), (2, .ptr 0), (4, .ptr 1), (5, .ptr 2), (6, .data I)], [.var 54 [.data tThing], .var 86 [.data .str, .data .bool], .var 54 [.data I, .data I, .data tBody, .data tJoint, .own I 3], .row 3 I], fun s => [slotR s 2, slotR s 4, slotR s 5, slotC s 5 13]⟩
noncomputable abbrev LA_63_18 : LayD := ⟨91, [(0, .data .str), (2, .ptr 0), (4, .ptr 1), (5, .ptr 2)], [.var 54 [.data tThing], .var 86 [.data .str, .data .bool], .var 54 [.data I, .data I, .data tBody, .data tJoint, .own I 3], .row 3 I], fun s => [slotR s 2, slotR s 4, slotR s 5, slotC s 5 13]⟩
noncomputable abbrev LB_63_18 : LayD := ⟨91, [], [], fun _ => []⟩
noncomputable def EX_63_18 : Exits 0 LA_63_18.El LB_63_18.El := ⟨.exit 1, LA_63_18.lay [.nilCell 5 13 3 I], .ret, LB_63_18.lay []⟩

noncomputable def lpi_63_18 {β : Type} : LpT β := fun _ _ _ => none
theorem lpi_63_18_ok {β : Type} : LpTOk CT (lpi_63_18 (β := β)) (loopsOf l_63_18) := by
  have h : loopsOf l_63_18 = [] := by kernel_rfl
  rw [h]
  exact LpTOk.nil
noncomputable def G_63_18 (r0 : Ty.El .str) (r6 : Ty.El I) (b0 : Ty.El tThing × Unit) (b1 : Ty.El .str × Ty.El .bool × Unit) (b2 : Ty.El I × Ty.El I × Ty.El tBody × Ty.El tJoint × Unit × Unit) (b3 : List (Ty.El I)) : Option (LD_63_18.El ⊕ (LA_63_18.El ⊕ LB_63_18.El)) :=
  bif Decidable.decide (r6 > (0 : Int)) then
    (F_104 (4 : Int) (b1.fst, b1.snd.fst, ())).bind fun v2 =>
      bif ((b3.length + [v2.fst.fst].length) * (8 : Nat)).ble (70368744177664 : Nat) then
        Option.some
          (Sum.inl
            ((r0, (), (), (), Go.IntKind.i64.wrap (r6 - (1 : Int)), ()), (b0.fst, ()), (v2.snd.fst.fst, v2.snd.fst.snd.fst, ()),
              (b2.fst, b2.snd.fst, b2.snd.snd.fst, b2.snd.snd.snd.fst, (), ()), b3 ++ [v2.fst.fst], ()))
      else Option.none
  else Option.some (Sum.inr (Sum.inl ((r0, (), (), (), ()), (b0.fst, ()), (b1.fst, b1.snd.fst, ()), (b2.fst, b2.snd.fst, b2.snd.snd.fst, b2.snd.snd.snd.fst, (), ()), b3, ())))
theorem g_63_18 (x : LD_63_18.El) : codeT CT T_63 (drT CT T_63) lpi_63_18 l_63_18 (LD_63_18.enc x) (bodyK (LD_63_18.lay [.nilCell 5 13 3 I]) EX_63_18) = G_63_18 x.1.1 x.1.2.2.2.2.1 x.2.1 x.2.2.1 x.2.2.2.1 x.2.2.2.2.1 := by kernel_rfl
noncomputable def R_63_18 : LD_63_18.El → Option (LA_63_18.El ⊕ LB_63_18.El) := roundsT (fun x => G_63_18 x.1.1 x.1.2.2.2.2.1 x.2.1 x.2.2.1 x.2.2.2.1 x.2.2.2.2.1) fuel
theorem r_63_18 : ∀ x y, R_63_18 x = some y → CL CT l_63_18 (LD_63_18.enc x) (Sum.elim (fun _ => EX_63_18.xa) (fun _ => EX_63_18.xb) y) (Sum.elim EX_63_18.la.enc EX_63_18.lb.enc y) :=
  rounds_ok (L := LD_63_18.lay [.nilCell 5 13 3 I]) (E := EX_63_18) CT_ok T_63_ok (drT_ok CT_ok T_63_ok) lpi_63_18_ok g_63_18 rfl rfl (fun v h => by have hh : (.exit 1 : AX) = .pan v := h; cases hh) (fun v h => by have hh : (.ret : AX) = .pan v := h; cases hh) fuel
noncomputable def lp_63 {β : Type} : LpT β := fun k s K => if Nat.beq k 18 then lpOne (LD_63_18.lay [.nilCell 5 13 3 I]) EX_63_18 R_63_18 s K else none
theorem lp_63_ok {β : Type} : LpTOk CT (lp_63 (β := β)) (loopsOf c_63) := by
  have h : loopsOf c_63 = [(18, l_63_18)] := by kernel_rfl
  rw [h]
  exact LpTOk.cons (fun s K z h => lpOne_ok r_63_18 h) (LpTOk.nil)
noncomputable def F_63 (a1 : Ty.El .str) : Option (Els [tThing, .bool]) :=
  (F_104 (1 : Int) (a1, Bool.false, ())).bind fun v2 =>
    (F_104 (4 : Int) (v2.snd.fst.fst, v2.snd.fst.snd.fst, ())).bind fun v8 =>
      bif v2.fst.fst == (1 : Int) then
        (F_104 (1 : Int) (v8.snd.fst.fst, v8.snd.fst.snd.fst, ())).bind fun v16 =>
          (F_105 (v16.snd.fst.fst, v16.snd.fst.snd.fst, ())).bind fun v22 =>
            (F_104 (8 : Int) (v22.snd.fst.fst, v22.snd.fst.snd.fst, ())).bind fun v28 =>
              (F_105 (v28.snd.fst.fst, v28.snd.fst.snd.fst, ())).bind fun v34 =>
                (F_105 (v34.snd.fst.fst, v34.snd.fst.snd.fst, ())).bind fun v40 =>
                  (F_61 (v8.fst.fst, v2.fst.fst, (v16.fst.fst, v22.fst.fst, v28.fst.fst, v34.fst.fst, v40.fst.fst), ((0 : Int), (0 : Int), (0 : Int)), [])).bind fun v56 =>
                    bif v40.snd.fst.snd.fst then
                      Option.some
                        (((0 : Int), (0 : Int), ((0 : Int), ((0 : Int), (0 : Int)), (0 : Int), ((0 : Int), (0 : Int)), (0 : Int), (0 : Int)), ((0 : Int), (0 : Int), (0 : Int)), []),
                          Bool.false, ())
                    else
                      bif !v56.snd.fst then
                        Option.some
                          (((0 : Int), (0 : Int), ((0 : Int), ((0 : Int), (0 : Int)), (0 : Int), ((0 : Int), (0 : Int)), (0 : Int), (0 : Int)), ((0 : Int), (0 : Int), (0 : Int)),
                              []),
                            Bool.false, ())
                      else
                        bif !v56.fst == a1 then
                          Option.some
                            (((0 : Int), (0 : Int), ((0 : Int), ((0 : Int), (0 : Int)), (0 : Int), ((0 : Int), (0 : Int)), (0 : Int), (0 : Int)), ((0 : Int), (0 : Int), (0 : Int)),
                                []),
                              Bool.false, ())
                        else
                          Option.some
                            ((v8.fst.fst, v2.fst.fst, (v16.fst.fst, v22.fst.fst, v28.fst.fst, v34.fst.fst, v40.fst.fst), ((0 : Int), (0 : Int), (0 : Int)), []), Bool.true, ())
      else
        bif v2.fst.fst == (2 : Int) then
          (F_104 (4 : Int) (v8.snd.fst.fst, v8.snd.fst.snd.fst, ())).bind fun v80 =>
            (F_104 (4 : Int) (v80.snd.fst.fst, v80.snd.fst.snd.fst, ())).bind fun v86 =>
              (F_104 (8 : Int) (v86.snd.fst.fst, v86.snd.fst.snd.fst, ())).bind fun v92 =>
                (F_61
                      (v8.fst.fst, v2.fst.fst, ((0 : Int), ((0 : Int), (0 : Int)), (0 : Int), ((0 : Int), (0 : Int)), (0 : Int), (0 : Int)), (v80.fst.fst, v86.fst.fst, v92.fst.fst),
                        [])).bind
                  fun v104 =>
                  bif v92.snd.fst.snd.fst then
                    Option.some
                      (((0 : Int), (0 : Int), ((0 : Int), ((0 : Int), (0 : Int)), (0 : Int), ((0 : Int), (0 : Int)), (0 : Int), (0 : Int)), ((0 : Int), (0 : Int), (0 : Int)), []),
                        Bool.false, ())
                  else
                    bif !v104.snd.fst then
                      Option.some
                        (((0 : Int), (0 : Int), ((0 : Int), ((0 : Int), (0 : Int)), (0 : Int), ((0 : Int), (0 : Int)), (0 : Int), (0 : Int)), ((0 : Int), (0 : Int), (0 : Int)), []),
                          Bool.false, ())
                    else
                      bif !v104.fst == a1 then
                        Option.some
                          (((0 : Int), (0 : Int), ((0 : Int), ((0 : Int), (0 : Int)), (0 : Int), ((0 : Int), (0 : Int)), (0 : Int), (0 : Int)), ((0 : Int), (0 : Int), (0 : Int)),
                              []),
                            Bool.false, ())
                      else
                        Option.some
                          ((v8.fst.fst, v2.fst.fst, ((0 : Int), ((0 : Int), (0 : Int)), (0 : Int), ((0 : Int), (0 : Int)), (0 : Int), (0 : Int)),
                              (v80.fst.fst, v86.fst.fst, v92.fst.fst), []),
                            Bool.true, ())
        else
          bif v2.fst.fst == (3 : Int) then
            (F_104 (1 : Int) (v8.snd.fst.fst, v8.snd.fst.snd.fst, ())).bind fun v124 =>
              (R_63_18
                    ((a1, (), (), (), v124.fst.fst, ()),
                      (((0 : Int), (0 : Int), ((0 : Int), ((0 : Int), (0 : Int)), (0 : Int), ((0 : Int), (0 : Int)), (0 : Int), (0 : Int)), ((0 : Int), (0 : Int), (0 : Int)), []),
                        ()),
                      (v124.snd.fst.fst, v124.snd.fst.snd.fst, ()),
                      (v8.fst.fst, v2.fst.fst, ((0 : Int), ((0 : Int), (0 : Int)), (0 : Int), ((0 : Int), (0 : Int)), (0 : Int), (0 : Int)), ((0 : Int), (0 : Int), (0 : Int)), (),
                        ()),
                      [], ())).bind
                fun v135 =>
                Sum.elim
                  (fun v136 =>
                    (F_61
                          (v136.snd.snd.snd.fst.fst, v136.snd.snd.snd.fst.snd.fst, v136.snd.snd.snd.fst.snd.snd.fst, v136.snd.snd.snd.fst.snd.snd.snd.fst,
                            v136.snd.snd.snd.snd.fst)).bind
                      fun v138 =>
                      bif v136.snd.snd.fst.snd.fst then
                        Option.some
                          (((0 : Int), (0 : Int), ((0 : Int), ((0 : Int), (0 : Int)), (0 : Int), ((0 : Int), (0 : Int)), (0 : Int), (0 : Int)), ((0 : Int), (0 : Int), (0 : Int)),
                              []),
                            Bool.false, ())
                      else
                        bif !v138.snd.fst then
                          Option.some
                            (((0 : Int), (0 : Int), ((0 : Int), ((0 : Int), (0 : Int)), (0 : Int), ((0 : Int), (0 : Int)), (0 : Int), (0 : Int)), ((0 : Int), (0 : Int), (0 : Int)),
                                []),
                              Bool.false, ())
                        else
                          bif !v138.fst == v136.fst.fst then
                            Option.some
                              (((0 : Int), (0 : Int), ((0 : Int), ((0 : Int), (0 : Int)), (0 : Int), ((0 : Int), (0 : Int)), (0 : Int), (0 : Int)), ((0 : Int), (0 : Int), (0 : Int)),
                                  []),
                                Bool.false, ())
                          else
                            Option.some
                              ((v136.snd.snd.snd.fst.fst, v136.snd.snd.snd.fst.snd.fst, v136.snd.snd.snd.fst.snd.snd.fst, v136.snd.snd.snd.fst.snd.snd.snd.fst,
                                  v136.snd.snd.snd.snd.fst),
                                Bool.true, ()))
                  (fun v139 => Option.none) v135
          else
            (F_61 (v8.fst.fst, v2.fst.fst, ((0 : Int), ((0 : Int), (0 : Int)), (0 : Int), ((0 : Int), (0 : Int)), (0 : Int), (0 : Int)), ((0 : Int), (0 : Int), (0 : Int)), [])).bind
              fun v145 =>
              bif v8.snd.fst.snd.fst then
                Option.some
                  (((0 : Int), (0 : Int), ((0 : Int), ((0 : Int), (0 : Int)), (0 : Int), ((0 : Int), (0 : Int)), (0 : Int), (0 : Int)), ((0 : Int), (0 : Int), (0 : Int)), []),
                    Bool.false, ())
              else
                bif !v145.snd.fst then
                  Option.some
                    (((0 : Int), (0 : Int), ((0 : Int), ((0 : Int), (0 : Int)), (0 : Int), ((0 : Int), (0 : Int)), (0 : Int), (0 : Int)), ((0 : Int), (0 : Int), (0 : Int)), []),
                      Bool.false, ())
                else
                  bif !v145.fst == a1 then
                    Option.some
                      (((0 : Int), (0 : Int), ((0 : Int), ((0 : Int), (0 : Int)), (0 : Int), ((0 : Int), (0 : Int)), (0 : Int), (0 : Int)), ((0 : Int), (0 : Int), (0 : Int)), []),
                        Bool.false, ())
                  else
                    Option.some
                      ((v8.fst.fst, v2.fst.fst, ((0 : Int), ((0 : Int), (0 : Int)), (0 : Int), ((0 : Int), (0 : Int)), (0 : Int), (0 : Int)), ((0 : Int), (0 : Int), (0 : Int)), []),
                        Bool.true, ())
theorem f_63 (x : Ps [.ty .str]) : funcT CT T_63 [tThing, .bool] (drT CT T_63) lp_63 Try.f27 c_63 (encPs [.ty .str] x) = F_63 x.1 := by kernel_rfl
noncomputable def E_63 : Ent := .fn 27 [] ⟨[.ty .str], [tThing, .bool], fun x => F_63 x.1, false⟩
theorem e_63 : E_63.Ok CT.P := Ent.ofFn CT_ok T_63_ok hf_63 hb_63 lp_63_ok f_63
noncomputable def E_63h : Ent := .fn 27 [] ⟨[.ty .str], [tThing, .bool], fun x => F_63 x.1, true⟩
/-! ### 62: maquette/scene.value -/
noncomputable def T_62 : Tb := mkTb tyP mpP []
theorem T_62_ok : T_62.Ok CT.P := mkTb_ok (trivial)
noncomputable abbrev LD_62_3 : LayD := ⟨20, [(0, .data .str), (3, .data (.int .u64)), (6, .data I), (7, .data I)], [], fun _ => []⟩
noncomputable abbrev LA_62_3 : LayD := ⟨20, [(3, .data (.int .u64))], [], fun _ => []⟩
noncomputable abbrev LB_62_3 : LayD := ⟨20, [], [], fun _ => []⟩
noncomputable def EX_62_3 : Exits 0 LA_62_3.El LB_62_3.El := ⟨.exit 0, LA_62_3.lay [], .ret, LB_62_3.lay []⟩

noncomputable def lpi_62_3 {β : Type} : LpT β := fun _ _ _ => none
noncomputable def G_62_3 (r0 : Ty.El .str) (r3 : Ty.El (.int .u64)) (r6 : Ty.El I) (r7 : Ty.El I) : Option (LD_62_3.El ⊕ (LA_62_3.El ⊕ LB_62_3.El)) :=
  bif Decidable.decide (r7 < r6) then
    bif Decidable.decide ((0 : Int) ≤ r7 ∧ r7 < (↑(List.length r0) : Int)) then
      Option.some (Sum.inl ((r0, byteIn r3 (List.getD r0 (Int.toNat r7) (0 : UInt8)), r6, Go.IntKind.i64.wrap (r7 + (1 : Int)), ()), ()))
    else Option.none
  else Option.some (Sum.inr (Sum.inl ((r3, ()), ())))
noncomputable def R_62_3 : LD_62_3.El → Option (LA_62_3.El ⊕ LB_62_3.El) := roundsT (fun x => G_62_3 x.1.1 x.1.2.1 x.1.2.2.1 x.1.2.2.2.1) fuel
noncomputable def lp_62 {β : Type} : LpT β := fun k s K => if Nat.beq k 3 then lpOne (LD_62_3.lay []) EX_62_3 R_62_3 s K else none
noncomputable def F_62 (a1 : Ty.El .str) : Option (Els [I]) :=
  (R_62_3 ((a1, (0 : Int), (↑(List.length a1) : Int), (0 : Int), ()), ())).bind fun v1 =>
    Sum.elim (fun v2 => Option.some (Go.IntKind.i64.wrap v2.fst.fst, ())) (fun v3 => Option.none) v1
/-! ### 28: maquette/scene.Dump -/
noncomputable def c_28b : Code := Try.f17.body.getD .skip
theorem hb_28b : Try.f17.body = some c_28b := by kernel_rfl
theorem hf_28b : CT.P.funcs[17]? = some Try.f17 := by kernel_rfl
noncomputable def T_28b : Tb := mkTb tyP mpP [E_20, E_60, E_61]
theorem T_28b_ok : T_28b.Ok CT.P := mkTb_ok (⟨e_20, e_60, e_61, trivial⟩)
noncomputable def l_28b_5 : Code := atLoop c_28b 5
noncomputable abbrev LD_28b_5 : LayD := ⟨50, [(3, .data .str), (30, .data (.list tThing)), (31, .data I), (32, .data I)], [], fun _ => []⟩
noncomputable abbrev LA_28b_5 : LayD := ⟨50, [(3, .data .str)], [], fun _ => []⟩
noncomputable abbrev LB_28b_5 : LayD := ⟨50, [], [], fun _ => []⟩
noncomputable def EX_28b_5 : Exits 0 LA_28b_5.El LB_28b_5.El := ⟨.exit 0, LA_28b_5.lay [], .ret, LB_28b_5.lay []⟩

noncomputable def lpi_28b_5 {β : Type} : LpT β := fun _ _ _ => none
theorem lpi_28b_5_ok {β : Type} : LpTOk CT (lpi_28b_5 (β := β)) (loopsOf l_28b_5) := by
  have h : loopsOf l_28b_5 = [] := by kernel_rfl
  rw [h]
  exact LpTOk.nil
noncomputable def G_28b_5 (r3 : Ty.El .str) (r30 : Ty.El (.list tThing)) (r31 : Ty.El I) (r32 : Ty.El I) : Option (LD_28b_5.El ⊕ (LA_28b_5.El ⊕ LB_28b_5.El)) :=
  bif Decidable.decide (r32 < r31) then
    bif Decidable.decide ((0 : Int) ≤ r32 ∧ r32 < (↑(List.length r30) : Int)) then
      (F_61 (List.getD r30 (Int.toNat r32) Go.DI.S.tThing.dflt)).bind fun v2 =>
        (F_60 (↑(List.length v2.fst) : Int) (2 : Int)).bind fun v4 =>
          bif Decidable.decide (List.length v4.fst + List.length v2.fst ≤ (4611686018427387904 : Nat)) then
            bif Decidable.decide (List.length r3 + (v4.fst ++ v2.fst).length ≤ (4611686018427387904 : Nat)) then
              Option.some (Sum.inl ((r3 ++ (v4.fst ++ v2.fst), r30, r31, Go.IntKind.i64.wrap (r32 + (1 : Int)), ()), ()))
            else Option.none
          else Option.none
    else Option.none
  else Option.some (Sum.inr (Sum.inl ((r3, ()), ())))
theorem g_28b_5 (x : LD_28b_5.El) : codeT CT T_28b (drT CT T_28b) lpi_28b_5 l_28b_5 (LD_28b_5.enc x) (bodyK (LD_28b_5.lay []) EX_28b_5) = G_28b_5 x.1.1 x.1.2.1 x.1.2.2.1 x.1.2.2.2.1 := by kernel_rfl
noncomputable def R_28b_5 : LD_28b_5.El → Option (LA_28b_5.El ⊕ LB_28b_5.El) := roundsT (fun x => G_28b_5 x.1.1 x.1.2.1 x.1.2.2.1 x.1.2.2.2.1) fuel
theorem r_28b_5 : ∀ x y, R_28b_5 x = some y → CL CT l_28b_5 (LD_28b_5.enc x) (Sum.elim (fun _ => EX_28b_5.xa) (fun _ => EX_28b_5.xb) y) (Sum.elim EX_28b_5.la.enc EX_28b_5.lb.enc y) :=
  rounds_ok (L := LD_28b_5.lay []) (E := EX_28b_5) CT_ok T_28b_ok (drT_ok CT_ok T_28b_ok) lpi_28b_5_ok g_28b_5 rfl rfl (fun v h => by have hh : (.exit 0 : AX) = .pan v := h; cases hh) (fun v h => by have hh : (.ret : AX) = .pan v := h; cases hh) fuel
noncomputable def lp_28b {β : Type} : LpT β := fun k s K => if Nat.beq k 5 then lpOne (LD_28b_5.lay []) EX_28b_5 R_28b_5 s K else none
theorem lp_28b_ok {β : Type} : LpTOk CT (lp_28b (β := β)) (loopsOf c_28b) := by
  have h : loopsOf c_28b = [(5, l_28b_5)] := by kernel_rfl
  rw [h]
  exact LpTOk.cons (fun s K z h => lpOne_ok r_28b_5 h) (LpTOk.nil)
noncomputable def F_28b (a1 : Ty.El tScene) : Option (Els [.str]) :=
  (F_20 a1).bind fun v2 =>
    bif !v2.fst then Option.some ([], ())
    else
      (F_60 a1.fst.fst (8 : Int)).bind fun v4 =>
        (F_60 a1.fst.snd (8 : Int)).bind fun v6 =>
          bif Decidable.decide (List.length v4.fst + List.length v6.fst ≤ (4611686018427387904 : Nat)) then
            (F_60 a1.snd.fst (4 : Int)).bind fun v8 =>
              bif Decidable.decide ((v4.fst ++ v6.fst).length + List.length v8.fst ≤ (4611686018427387904 : Nat)) then
                (F_60 (↑(List.length a1.snd.snd) : Int) (2 : Int)).bind fun v10 =>
                  bif Decidable.decide ((v4.fst ++ v6.fst ++ v8.fst).length + List.length v10.fst ≤ (4611686018427387904 : Nat)) then
                    (R_28b_5 ((v4.fst ++ v6.fst ++ v8.fst ++ v10.fst, a1.snd.snd, (↑(List.length a1.snd.snd) : Int), (0 : Int), ()), ())).bind fun v11 =>
                      Sum.elim (fun v12 => Option.some (v12.fst.fst, ())) (fun v13 => Option.none) v11
                  else Option.none
              else Option.none
          else Option.none
theorem f_28b (x : Ps [.ty tScene]) : funcT CT T_28b [.str] (drT CT T_28b) lp_28b Try.f17 c_28b (encPs [.ty tScene] x) = F_28b x.1 := by kernel_rfl
noncomputable def E_28b : Ent := .fn 17 [] ⟨[.ty tScene], [.str], fun x => F_28b x.1, false⟩
theorem e_28b : E_28b.Ok CT.P := Ent.ofFn CT_ok T_28b_ok hf_28b hb_28b lp_28b_ok f_28b
noncomputable def E_28bh : Ent := .fn 17 [] ⟨[.ty tScene], [.str], fun x => F_28b x.1, true⟩
/-! ### 29: maquette/scene.Load -/
noncomputable abbrev LD_29_7 : LayD := ⟨64, [(0, .data .str), (2, .ptr 0), (4, .ptr 1), (5, .data .str)], [.var 30 [.data tScene], .var 30 [.data tVec, .data I, .own tThing 2], .row 54 tThing], fun s => [slotR s 2, slotR s 4, slotC s 4 3]⟩
noncomputable abbrev LA_29_7 : LayD := ⟨64, [(0, .data .str), (2, .ptr 0), (4, .ptr 1)], [.var 30 [.data tScene], .var 30 [.data tVec, .data I, .own tThing 2], .row 54 tThing], fun s => [slotR s 2, slotR s 4, slotC s 4 3]⟩
noncomputable abbrev LB_29_7 : LayD := ⟨64, [(2, .ptr 0), (3, .data .bool)], [.var 30 [.data tScene]], fun s => [slotR s 2]⟩
noncomputable def EX_29_7 : Exits 0 LA_29_7.El LB_29_7.El := ⟨.exit 0, LA_29_7.lay [.nilCell 4 3 54 tThing], .ret, LB_29_7.lay []⟩

noncomputable def lpi_29_7 {β : Type} : LpT β := fun _ _ _ => none
noncomputable def G_29_7 (r0 : Ty.El .str) (r5 : Ty.El .str) (b0 : Ty.El tScene × Unit) (b1 : Ty.El tVec × Ty.El I × Unit × Unit) (b2 : List (Ty.El tThing)) : Option (LD_29_7.El ⊕ (LA_29_7.El ⊕ LB_29_7.El)) :=
  bif Decidable.decide ((↑(List.length r5) : Int) ≥ (2 : Int)) then
    bif Decidable.decide ((0 : Int) ≤ (2 : Int) ∧ (2 : Int) ≤ (↑(List.length r5) : Int)) then
      (F_62 (List.take (2 : Nat) (List.drop (0 : Nat) r5))).bind fun v2 =>
        bif Decidable.decide (Go.IntKind.i64.wrap ((2 : Int) + v2.fst) > (↑(List.length r5) : Int)) then
          Option.some (Sum.inr (Sum.inr (((), Bool.false, ()), ((((0 : Int), (0 : Int)), (0 : Int), []), ()), ())))
        else
          bif
              Decidable.decide
                ((0 : Int) ≤ Go.IntKind.i64.wrap ((2 : Int) + v2.fst) ∧
                  Go.IntKind.i64.wrap ((2 : Int) + v2.fst) ≤ (↑(List.length r5) : Int) ∧ (0 : Int) ≤ (2 : Int) ∧ (2 : Int) ≤ Go.IntKind.i64.wrap ((2 : Int) + v2.fst)) then
            (F_63 (List.take ((Go.IntKind.i64.wrap ((2 : Int) + v2.fst)).toNat - (2 : Nat)) (List.drop (2 : Nat) r5))).bind fun v4 =>
              bif !v4.snd.fst then Option.some (Sum.inr (Sum.inr (((), Bool.false, ()), ((((0 : Int), (0 : Int)), (0 : Int), []), ()), ())))
              else
                bif ((b2.length + [v4.fst].length) * (128 : Nat)).ble (70368744177664 : Nat) then
                  bif Decidable.decide ((0 : Int) ≤ Go.IntKind.i64.wrap ((2 : Int) + v2.fst) ∧ Go.IntKind.i64.wrap ((2 : Int) + v2.fst) ≤ (↑(List.length r5) : Int)) then
                    Option.some
                      (Sum.inl
                        ((r0, (), (), List.take (List.length r5 - (Go.IntKind.i64.wrap ((2 : Int) + v2.fst)).toNat) (List.drop (Go.IntKind.i64.wrap ((2 : Int) + v2.fst)).toNat r5),
                            ()),
                          (b0.fst, ()), (b1.fst, b1.snd.fst, (), ()), b2 ++ [v4.fst], ()))
                  else Option.none
                else Option.none
          else Option.none
    else Option.none
  else Option.some (Sum.inr (Sum.inl ((r0, (), (), ()), (b0.fst, ()), (b1.fst, b1.snd.fst, (), ()), b2, ())))
noncomputable def R_29_7 : LD_29_7.El → Option (LA_29_7.El ⊕ LB_29_7.El) := roundsT (fun x => G_29_7 x.1.1 x.1.2.2.2.1 x.2.1 x.2.2.1 x.2.2.2.1) fuel
noncomputable def lp_29 {β : Type} : LpT β := fun k s K => if Nat.beq k 7 then lpOne (LD_29_7.lay [.nilCell 4 3 54 tThing]) EX_29_7 R_29_7 s K else none
noncomputable def F_29 (a1 : Ty.El .str) : Option (Els [tScene, .bool]) :=
  bif Decidable.decide ((↑(List.length a1) : Int) < (22 : Int)) then Option.some ((((0 : Int), (0 : Int)), (0 : Int), []), Bool.false, ())
  else
    bif Decidable.decide ((0 : Int) ≤ (8 : Int) ∧ (8 : Int) ≤ (↑(List.length a1) : Int)) then
      (F_62 (List.take (8 : Nat) (List.drop (0 : Nat) a1))).bind fun v2 =>
        bif Decidable.decide ((0 : Int) ≤ (16 : Int) ∧ (16 : Int) ≤ (↑(List.length a1) : Int) ∧ (0 : Int) ≤ (8 : Int) ∧ (8 : Int) ≤ (16 : Int)) then
          (F_62 (List.take (8 : Nat) (List.drop (8 : Nat) a1))).bind fun v4 =>
            bif Decidable.decide ((0 : Int) ≤ (20 : Int) ∧ (20 : Int) ≤ (↑(List.length a1) : Int) ∧ (0 : Int) ≤ (16 : Int) ∧ (16 : Int) ≤ (20 : Int)) then
              (F_62 (List.take (4 : Nat) (List.drop (16 : Nat) a1))).bind fun v6 =>
                bif Decidable.decide ((0 : Int) ≤ (22 : Int) ∧ (22 : Int) ≤ (↑(List.length a1) : Int)) then
                  (R_29_7
                        ((a1, (), (), List.take (List.length a1 - (22 : Nat)) (List.drop (22 : Nat) a1), ()), ((((0 : Int), (0 : Int)), (0 : Int), []), ()),
                          ((v2.fst, v4.fst), v6.fst, (), ()), [], ())).bind
                    fun v7 =>
                    Sum.elim
                      (fun v8 =>
                        (F_28b (v8.snd.snd.fst.fst, v8.snd.snd.fst.snd.fst, v8.snd.snd.snd.fst)).bind fun v10 =>
                          bif !v10.fst == v8.fst.fst then Option.some ((((0 : Int), (0 : Int)), (0 : Int), []), Bool.false, ())
                          else Option.some ((v8.snd.snd.fst.fst, v8.snd.snd.fst.snd.fst, v8.snd.snd.snd.fst), Bool.true, ()))
                      (fun v11 => Option.some (v11.snd.fst.fst, v11.fst.snd.fst, ())) v7
                else Option.none
            else Option.none
        else Option.none
    else Option.none
/-! ### 7: maquette/maquettelaw19.SceneBytes -/
noncomputable def lp_7 {β : Type} : LpT β := fun _ _ _ => none
end Go.DI.S

/-! What writing numbers, and things, comes to. -/
set_option linter.unusedVariables false
set_option linter.unusedSimpArgs false
set_option maxRecDepth 100000
namespace Go.DI.S
open Go.Proofs

/-- A number's byte. -/
def byteI (v : Int) (n : Nat) : Int := IntKind.u8.wrap (Int.fdiv v ((2 : Int) ^ Min.min (IntKind.i64.wrap ((8 : Int) * (n : Int))).toNat (64 : Nat)))
/-- A number in so many bytes. -/
def numI (v : Int) : Nat → List Int
  | 0 => []
  | n + 1 => byteI v n :: numI v n
theorem numI_len (v : Int) : ∀ n, (numI v n).length = n
  | 0 => rfl
  | n + 1 => by simp [numI, numI_len v n]
def toS (l : List Int) : List UInt8 := l.map fun x => UInt8.ofNat (Int.toNat x)
theorem wrap8 {n : Nat} (h : n ≤ 1000) : IntKind.i64.wrap ((8 : Int) * (n : Int)) = 8 * (n : Int) := wrap64 (by omega) (by omega)
theorem r102 (v : Int) : ∀ (n : Nat) (row : List Int) (f : Nat), n ≤ 1000 → n < f → row.length + n ≤ 1000000000 →
    roundsT (fun x => G_102_1 x.1.2.1 x.1.2.2.1 x.2.1 x.2.2.1) f (((), v, (n : Int) - 1, ()), ((), ()), row, ()) = some (.inl (((), ()), ((), ()), row ++ numI v n, ()))
  | 0, row, f, hn, hf, hr => by
    obtain ⟨f, rfl⟩ : ∃ k, f = k + 1 := ⟨f - 1, by omega⟩
    refine rounds_out ?_ f
    simp only [G_102_1]
    rw [decide_eq_false (by omega : ¬ (((0 : Nat) : Int) - 1 ≥ 0)), cond_false]
    simp [numI]
  | n + 1, row, f, hn, hf, hr => by
    obtain ⟨f, rfl⟩ : ∃ k, f = k + 1 := ⟨f - 1, by omega⟩
    have e : ((n + 1 : Nat) : Int) - 1 = (n : Int) := by omega
    rw [e, rounds_in (x' := (((), v, (n : Int) - 1, ()), ((), ()), row ++ [byteI v n], ())) ?_ f]
    · rw [r102 v n _ f (by omega) (by omega) (by simp; omega)]
      simp [numI]
    · simp only [G_102_1]
      rw [decide_eq_true (by omega : (n : Int) ≥ 0), cond_true, wrap8 (by omega), decide_eq_false (by omega), cond_false, show Nat.ble ((row.length + _) * 1) 70368744177664 = true from Nat.ble_eq_true_of_le (by simp; omega), cond_true,
        wrap64 (x := (n : Int) - 1) (by omega) (by omega)]
      unfold byteI
      rw [wrap8 (by omega)]
theorem v_102 (v : Int) (n : Nat) (row : List Int) (hn : n ≤ 1000) (hr : row.length + n ≤ 1000000000) : F_102 v (n : Int) ((), ()) row = some ((), ((), ()), row ++ numI v n, ()) := by
  unfold F_102 R_102_1
  rw [wrap64 (x := (n : Int) - 1) (by omega) (by omega), r102 v n row fuel hn (fuel_lt (by omega)) hr]
  rfl
def vecI (a : Vec) : List Int := numI a.1 8 ++ numI a.2 8
theorem vecI_len (a : Vec) : (vecI a).length = 16 := by simp [vecI, numI_len]
theorem v_103 (a : Vec) (row : List Int) (hr : row.length + 16 ≤ 1000000000) : F_103 a ((), ()) row = some ((), ((), ()), row ++ vecI a, ()) := by
  unfold F_103
  have h1 := v_102 a.1 8 row (by omega) (by omega)
  have h2 := v_102 a.2 8 (row ++ numI a.1 8) (by omega) (by simp [numI_len]; omega)
  rw [show ((8 : Nat) : Int) = 8 from rfl] at h1 h2
  simp only [h1, Option.bind_some, h2, vecI, List.append_assoc]
/-- A thing's bytes. -/
def bodyI (b : Body) : List Int := numI b.1 1 ++ (vecI b.2.1 ++ (numI b.2.2.1 8 ++ (vecI b.2.2.2.1 ++ vecI b.2.2.2.2)))
def jointI (j : Joint) : List Int := numI j.1 4 ++ (numI j.2.1 4 ++ numI j.2.2 8)
def insI (l : List Int) : List Int := l.flatMap fun n => numI n 4
theorem insI_len (l : List Int) : (insI l).length = 4 * l.length := by
  induction l with
  | nil => rfl
  | cons a l ih =>
    show (numI a 4 ++ insI l).length = _
    rw [List.length_append, ih, numI_len, List.length_cons]; omega
def putI (t : Thing) : List Int := numI t.2.1 1 ++ (numI t.1 4 ++
  (bif t.2.1 == (1 : Int) then bodyI t.2.2.1 else bif t.2.1 == (2 : Int) then jointI t.2.2.2.1 else bif t.2.1 == (3 : Int) then numI (t.2.2.2.2.length : Int) 1 ++ insI t.2.2.2.2 else []))
theorem fold_insI : ∀ (l : List Int) (row : List Int), l.foldl (fun r n => r ++ numI n 4) row = row ++ insI l
  | [], row => by simp [insI]
  | a :: l, row => by
    rw [List.foldl_cons, fold_insI l, List.append_assoc]; rfl
theorem q_61_20 (l : List Int) (row : List Int) (hr : row.length + 4 * l.length ≤ 100000000) :
    R_61_20 (((), l, (l.length : Int), (0 : Int), ()), ((), ()), row, ()) = some (.inl (((), ()), ((), ()), row ++ insI l, ())) := by
  have key : ∀ (d m k : Nat) (row : List Int), k + d = l.length → d < m → row.length + 4 * d ≤ 100000000 → roundsT (fun x => G_61_20 x.1.2.1 x.1.2.2.1 x.1.2.2.2.1 x.2.1 x.2.2.1) m (((), l, (l.length : Int), (k : Int), ()), ((), ()), row, ()) = some (.inl (((), ()), ((), ()), row ++ insI (l.drop k), ())) := by
    intro d
    induction d with
    | zero =>
      intro m k row hk hm hr
      obtain ⟨m, rfl⟩ : ∃ j, m = j + 1 := ⟨m - 1, by omega⟩
      have : k = l.length := by omega
      subst this
      rw [rounds_out (y := .inl (((), ()), ((), ()), row, ())) (by simp only [G_61_20, dec_end, cond_false]), List.drop_length]
      simp [insI]
    | succ d ih =>
      intro m k row hk hm hr
      obtain ⟨m, rfl⟩ : ∃ j, m = j + 1 := ⟨m - 1, by omega⟩
      have hlt : k < l.length := by omega
      have ha := List.getElem?_eq_getElem hlt
      rw [rounds_in (x' := (((), l, (l.length : Int), ((k + 1 : Nat) : Int), ()), ((), ()), row ++ numI l[k] 4, ())) ?_ m]
      · rw [ih m (k + 1) _ (by omega) (by omega) (by simp [numI_len]; omega), List.drop_eq_getElem_cons hlt]
        show some (Sum.inl (((), ()), ((), ()), row ++ numI l[k] 4 ++ insI (l.drop (k + 1)), ())) = some (Sum.inl (((), ()), ((), ()), row ++ (numI l[k] 4 ++ insI (l.drop (k + 1))), ()))
        rw [List.append_assoc]
      · have h1 := v_102 l[k] 4 row (by omega) (by omega)
        rw [show ((4 : Nat) : Int) = 4 from rfl] at h1
        simp only [G_61_20, dec_lt hlt, dec_in hlt, cond_true, getD_of ha, h1, Option.bind_some, wrap_up hlt (by omega)]
  have h := key l.length fuel 0 row (by omega) (fuel_lt (by omega)) hr
  rw [List.drop_zero] at h
  exact h
theorem v_61 (t : Thing) (h : t.2.2.2.2.length ≤ 1000000) : F_61 t = some ((bif rt t then (toS (putI t), true, ()) else ([], false, ())) : Els [.str, .bool]) := by
  unfold F_61
  rw [v_45 t (by omega)]
  simp only [Option.bind_some]
  cases rt t with
  | false => rfl
  | true =>
    have h1 := fun v (row : List Int) (hr : row.length ≤ 100000000) => v_102 v 1 row (by omega) (by omega)
    have h4 := fun v (row : List Int) (hr : row.length ≤ 100000000) => v_102 v 4 row (by omega) (by omega)
    have h8 := fun v (row : List Int) (hr : row.length ≤ 100000000) => v_102 v 8 row (by omega) (by omega)
    have hv := fun v (row : List Int) (hr : row.length ≤ 100000000) => v_103 v row (by omega)
    rw [show ((1 : Nat) : Int) = 1 from rfl] at h1
    rw [show ((4 : Nat) : Int) = 4 from rfl] at h4
    rw [show ((8 : Nat) : Int) = 8 from rfl] at h8
    simp only [Bool.not_true, cond_false, cond_true]
    rw [h1 _ _ (by simp)]
    simp only [Option.bind_some]
    rw [h4 _ _ (by simp [numI_len])]
    simp only [Option.bind_some]
    unfold putI
    cases (t.2.1 == (1 : Int)) with
    | true =>
      simp only [cond_true]
      rw [h1 _ _ (by simp [numI_len])]
      simp only [Option.bind_some]
      rw [hv _ _ (by simp [numI_len])]
      simp only [Option.bind_some]
      rw [h8 _ _ (by simp [numI_len, vecI_len])]
      simp only [Option.bind_some]
      rw [hv _ _ (by simp [numI_len, vecI_len])]
      simp only [Option.bind_some]
      rw [hv _ _ (by simp [numI_len, vecI_len])]
      simp only [Option.bind_some, bodyI, List.append_assoc, List.nil_append]
      rfl
    | false =>
      simp only [cond_false]
      cases (t.2.1 == (2 : Int)) with
      | true =>
        simp only [cond_true]
        rw [h4 _ _ (by simp [numI_len])]
        simp only [Option.bind_some]
        rw [h4 _ _ (by simp [numI_len])]
        simp only [Option.bind_some]
        rw [h8 _ _ (by simp [numI_len])]
        simp only [Option.bind_some, jointI, List.append_assoc, List.nil_append]
        rfl
      | false =>
        simp only [cond_false]
        cases (t.2.1 == (3 : Int)) with
        | true =>
          simp only [cond_true]
          rw [h1 _ _ (by simp [numI_len])]
          simp only [Option.bind_some]
          rw [q_61_20 _ _ (by simp [numI_len]; omega)]
          simp only [Option.bind_some, Sum.elim_inl, List.append_assoc, List.nil_append]
          rfl
        | false =>
          simp only [cond_false, List.append_nil, List.nil_append]
          rfl
end Go.DI.S

