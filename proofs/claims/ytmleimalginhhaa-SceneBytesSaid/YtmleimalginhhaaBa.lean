import Derived.Test.YtmleimalginhhaaEa
/- Reading things and scenes: told by functions on data. No conditions. -/
/-! The program's functions, told by functions on data. -/
set_option linter.unusedVariables false
set_option maxRecDepth 100000
set_option maxHeartbeats 0
namespace Go.DI.S
open Go.Proofs
abbrev tReader : Ty := .pair .str .bool
/-- One byte more, behind a number. -/
def byteIn (n : Int) (b : UInt8) : Int := IntKind.u64.wrap ((BitVec.ofInt IntKind.u64.bits (IntKind.u64.wrap (n * 2 ^ min (Int.toNat 8) IntKind.u64.bits)) ||| BitVec.ofInt IntKind.u64.bits (IntKind.u64.wrap (b.toNat : Int))).toNat : Int)
/-! ### 131: (*maquette/clay.reader).take -/
noncomputable def c_131 : Code := Try.f131.body.getD .skip
theorem hb_131 : Try.f131.body = some c_131 := by kernel_rfl
theorem hf_131 : CT.P.funcs[131]? = some Try.f131 := by kernel_rfl
noncomputable abbrev IN_131 : LayD := ⟨2, [(0, .ptr 0), (1, .data I)], [.var 143 [.data .str, .data .bool]], fun s => [slotR s 0]⟩
noncomputable abbrev OUT_131 : LayD := ⟨1, [(0, .data .str)], [.var 143 [.data .str, .data .bool]], fun _ => [0]⟩
noncomputable def T_131 : Tb := mkTb tyP mpP []
theorem T_131_ok : T_131.Ok CT.P := mkTb_ok (trivial)
noncomputable def lp_131 {β : Type} : LpT β := fun _ _ _ => none
theorem lp_131_ok {β : Type} : LpTOk (CTp 1) (lp_131 (β := β)) (loopsOf c_131) := by
  have h : loopsOf c_131 = [] := by kernel_rfl
  rw [h]
  exact LpTOk.nil
noncomputable def F_131 (a1 : Ty.El I) (b0 : Ty.El .str × Ty.El .bool × Unit) : Option OUT_131.El :=
  bif b0.snd.fst then Option.some (([], ()), (b0.fst, Bool.true, ()), ())
  else
    bif Decidable.decide (a1 > (↑(List.length b0.fst) : Int)) then Option.some (([], ()), (b0.fst, Decidable.decide (a1 > (↑(List.length b0.fst) : Int)), ()), ())
    else
      bif Decidable.decide ((0 : Int) ≤ a1 ∧ a1 ≤ (↑(List.length b0.fst) : Int)) then
        bif Decidable.decide ((0 : Int) ≤ a1 ∧ a1 ≤ (↑(List.length b0.fst) : Int)) then
          Option.some
            ((List.take (Int.toNat a1 - (0 : Nat)) (List.drop (0 : Nat) b0.fst), ()),
              (List.take (List.length b0.fst - Int.toNat a1) (List.drop (Int.toNat a1) b0.fst), Decidable.decide (a1 > (↑(List.length b0.fst) : Int)), ()), ())
        else Option.none
      else Option.none
theorem f_131 (x : IN_131.El) : funcX (CTp 1) T_131 IN_131 OUT_131 [] (drT (CTp 1) T_131) lp_131 Try.f131 c_131 x = F_131 x.1.2.1 x.2.1 := by kernel_rfl
noncomputable def E_131 : Ent := .mkGen 131 [] ⟨1, [], IN_131, OUT_131, fun x => F_131 x.1.2.1 x.2.1⟩
theorem e_131 : E_131.Ok CT.P := Ent.ofGen (C := (CTp 1)) (steps := []) (osteps := []) (CTp_ok 1) T_131_ok hf_131 hb_131 lp_131_ok f_131
/-! ### 104: (*maquette/clay.reader).num -/
noncomputable def c_104 : Code := Try.f104.body.getD .skip
theorem hb_104 : Try.f104.body = some c_104 := by kernel_rfl
theorem hf_104 : CT.P.funcs[104]? = some Try.f104 := by kernel_rfl
noncomputable abbrev IN_104 : LayD := ⟨2, [(0, .ptr 0), (1, .data I)], [.var 143 [.data .str, .data .bool]], fun s => [slotR s 0]⟩
noncomputable abbrev OUT_104 : LayD := ⟨1, [(0, .data I)], [.var 143 [.data .str, .data .bool]], fun _ => [0]⟩
noncomputable def T_104 : Tb := mkTb tyP mpP [E_131]
theorem T_104_ok : T_104.Ok CT.P := mkTb_ok (⟨e_131, trivial⟩)
noncomputable def l_104_4 : Code := atLoop c_104 4
noncomputable abbrev LD_104_4 : LayD := ⟨26, [(0, .ptr 0), (5, .data (.int .u64)), (6, .data .str), (12, .data I), (13, .data I)], [.var 143 [.data .str, .data .bool]], fun s => [slotR s 0]⟩
noncomputable abbrev LA_104_4 : LayD := ⟨26, [(0, .ptr 0), (5, .data (.int .u64))], [.var 143 [.data .str, .data .bool]], fun s => [slotR s 0]⟩
noncomputable abbrev LB_104_4 : LayD := ⟨26, [], [], fun _ => []⟩
noncomputable def EX_104_4 : Exits 1 LA_104_4.El LB_104_4.El := ⟨.exit 0, LA_104_4.lay [], .ret, LB_104_4.lay []⟩

noncomputable def lpi_104_4 {β : Type} : LpT β := fun _ _ _ => none
theorem lpi_104_4_ok {β : Type} : LpTOk (CTp 1) (lpi_104_4 (β := β)) (loopsOf l_104_4) := by
  have h : loopsOf l_104_4 = [] := by kernel_rfl
  rw [h]
  exact LpTOk.nil
noncomputable def G_104_4 (r5 : Ty.El (.int .u64)) (r6 : Ty.El .str) (r12 : Ty.El I) (r13 : Ty.El I) (b0 : Ty.El .str × Ty.El .bool × Unit) : Option (LD_104_4.El ⊕ (LA_104_4.El ⊕ LB_104_4.El)) :=
  bif Decidable.decide (r13 < r12) then
    bif Decidable.decide ((0 : Int) ≤ r13 ∧ r13 < (↑(List.length r6) : Int)) then
      Option.some (Sum.inl (((), byteIn r5 (List.getD r6 (Int.toNat r13) (0 : UInt8)), r6, r12, Go.IntKind.i64.wrap (r13 + (1 : Int)), ()), (b0.fst, b0.snd.fst, ()), ()))
    else Option.none
  else Option.some (Sum.inr (Sum.inl (((), r5, ()), (b0.fst, b0.snd.fst, ()), ())))
theorem g_104_4 (x : LD_104_4.El) : codeT (CTp 1) T_104 (drT (CTp 1) T_104) lpi_104_4 l_104_4 (LD_104_4.enc x) (bodyK (LD_104_4.lay []) EX_104_4) = G_104_4 x.1.2.1 x.1.2.2.1 x.1.2.2.2.1 x.1.2.2.2.2.1 x.2.1 := by kernel_rfl
noncomputable def R_104_4 : LD_104_4.El → Option (LA_104_4.El ⊕ LB_104_4.El) := roundsT (fun x => G_104_4 x.1.2.1 x.1.2.2.1 x.1.2.2.2.1 x.1.2.2.2.2.1 x.2.1) fuel
theorem r_104_4 : ∀ x y, R_104_4 x = some y → CL (CTp 1) l_104_4 (LD_104_4.enc x) (Sum.elim (fun _ => EX_104_4.xa) (fun _ => EX_104_4.xb) y) (Sum.elim EX_104_4.la.enc EX_104_4.lb.enc y) :=
  rounds_ok (L := LD_104_4.lay []) (E := EX_104_4) (CTp_ok 1) T_104_ok (drT_ok (CTp_ok 1) T_104_ok) lpi_104_4_ok g_104_4 rfl rfl (fun v h => by have hh : (.exit 0 : AX) = .pan v := h; cases hh) (fun v h => by have hh : (.ret : AX) = .pan v := h; cases hh) fuel
noncomputable def lp_104 {β : Type} : LpT β := fun k s K => if Nat.beq k 4 then lpOne (LD_104_4.lay []) EX_104_4 R_104_4 s K else none
theorem lp_104_ok {β : Type} : LpTOk (CTp 1) (lp_104 (β := β)) (loopsOf c_104) := by
  have h : loopsOf c_104 = [(4, l_104_4)] := by kernel_rfl
  rw [h]
  exact LpTOk.cons (fun s K z h => lpOne_ok r_104_4 h) (LpTOk.nil)
noncomputable def F_104 (a1 : Ty.El I) (b0 : Ty.El .str × Ty.El .bool × Unit) : Option OUT_104.El :=
  (F_131 a1 (b0.fst, b0.snd.fst, ())).bind fun v2 =>
    (R_104_4 (((), (0 : Int), v2.fst.fst, (↑(List.length v2.fst.fst) : Int), (0 : Int), ()), (v2.snd.fst.fst, v2.snd.fst.snd.fst, ()), ())).bind fun v11 =>
      Sum.elim (fun v12 => Option.some ((Go.IntKind.i64.wrap v12.fst.snd.fst, ()), (v12.snd.fst.fst, v12.snd.fst.snd.fst, ()), ())) (fun v13 => Option.none) v11
theorem f_104 (x : IN_104.El) : funcX (CTp 1) T_104 IN_104 OUT_104 [] (drT (CTp 1) T_104) lp_104 Try.f104 c_104 x = F_104 x.1.2.1 x.2.1 := by kernel_rfl
noncomputable def E_104 : Ent := .mkGen 104 [] ⟨1, [], IN_104, OUT_104, fun x => F_104 x.1.2.1 x.2.1⟩
theorem e_104 : E_104.Ok CT.P := Ent.ofGen (C := (CTp 1)) (steps := []) (osteps := []) (CTp_ok 1) T_104_ok hf_104 hb_104 lp_104_ok f_104
/-! ### 105: (*maquette/clay.reader).vec -/
noncomputable def c_105 : Code := Try.f105.body.getD .skip
theorem hb_105 : Try.f105.body = some c_105 := by kernel_rfl
theorem hf_105 : CT.P.funcs[105]? = some Try.f105 := by kernel_rfl
noncomputable abbrev IN_105 : LayD := ⟨1, [(0, .ptr 0)], [.var 143 [.data .str, .data .bool]], fun s => [slotR s 0]⟩
noncomputable abbrev OUT_105 : LayD := ⟨1, [(0, .data tVec)], [.var 143 [.data .str, .data .bool]], fun _ => [0]⟩
noncomputable def T_105 : Tb := mkTb tyP mpP [E_104]
theorem T_105_ok : T_105.Ok CT.P := mkTb_ok (⟨e_104, trivial⟩)
noncomputable def lp_105 {β : Type} : LpT β := fun _ _ _ => none
theorem lp_105_ok {β : Type} : LpTOk (CTp 1) (lp_105 (β := β)) (loopsOf c_105) := by
  have h : loopsOf c_105 = [] := by kernel_rfl
  rw [h]
  exact LpTOk.nil
noncomputable def F_105 (b0 : Ty.El .str × Ty.El .bool × Unit) : Option OUT_105.El :=
  (F_104 (8 : Int) (b0.fst, b0.snd.fst, ())).bind fun v2 =>
    (F_104 (8 : Int) (v2.snd.fst.fst, v2.snd.fst.snd.fst, ())).bind fun v8 => Option.some (((v2.fst.fst, v8.fst.fst), ()), (v8.snd.fst.fst, v8.snd.fst.snd.fst, ()), ())
theorem f_105 (x : IN_105.El) : funcX (CTp 1) T_105 IN_105 OUT_105 [] (drT (CTp 1) T_105) lp_105 Try.f105 c_105 x = F_105 x.2.1 := by kernel_rfl
noncomputable def E_105 : Ent := .mkGen 105 [] ⟨1, [], IN_105, OUT_105, fun x => F_105 x.2.1⟩
theorem e_105 : E_105.Ok CT.P := Ent.ofGen (C := (CTp 1)) (steps := []) (osteps := []) (CTp_ok 1) T_105_ok hf_105 hb_105 lp_105_ok f_105
/-! ### 63: maquette/clay.Get -/
noncomputable def c_63 : Code := Try.f63.body.getD .skip
theorem hb_63 : Try.f63.body = some c_63 := by kernel_rfl
theorem hf_63 : CT.P.funcs[63]? = some Try.f63 := by kernel_rfl
noncomputable def T_63 : Tb := mkTb tyP mpP [E_61, E_104, E_105]
theorem T_63_ok : T_63.Ok CT.P := mkTb_ok (⟨e_61, e_104, e_105, trivial⟩)
noncomputable def l_63_18 : Code := atLoop c_63 18
noncomputable abbrev LD_63_18 : LayD := ⟨91, [(0, .data .str), (2, .ptr 0), (4, .ptr 1), (5, .ptr 2), (6, .data I)], [.var 32 [.data tThing], .var 143 [.data .str, .data .bool], .var 32 [.data I, .data I, .data tBody, .data tJoint, .own I 3], .row 3 I], fun s => [slotR s 2, slotR s 4, slotR s 5, slotC s 5 13]⟩
noncomputable abbrev LA_63_18 : LayD := ⟨91, [(0, .data .str), (2, .ptr 0), (4, .ptr 1), (5, .ptr 2)], [.var 32 [.data tThing], .var 143 [.data .str, .data .bool], .var 32 [.data I, .data I, .data tBody, .data tJoint, .own I 3], .row 3 I], fun s => [slotR s 2, slotR s 4, slotR s 5, slotC s 5 13]⟩
noncomputable abbrev LB_63_18 : LayD := ⟨91, [], [], fun _ => []⟩
noncomputable def EX_63_18 : Exits 0 LA_63_18.El LB_63_18.El := ⟨.exit 1, LA_63_18.lay [.nilCell 5 13 3 I], .ret, LB_63_18.lay []⟩

noncomputable def lpi_63_18 {β : Type} : LpT β := fun _ _ _ => none
theorem lpi_63_18_ok {β : Type} : LpTOk CT (lpi_63_18 (β := β)) (loopsOf l_63_18) := by
  have h : loopsOf l_63_18 = [] := by kernel_rfl
  rw [h]
  exact LpTOk.nil
noncomputable def G_63_18 (r0 : Ty.El .str) (r6 : Ty.El I) (b0 : Ty.El tThing × Unit) (b1 : Ty.El .str × Ty.El .bool × Unit) (b2 : Ty.El I × Ty.El I × Ty.El tBody × Ty.El tJoint × Unit × Unit) (b3 : List (Ty.El I)) : Option (LD_63_18.El ⊕ (LA_63_18.El ⊕ LB_63_18.El)) :=
  bif Decidable.decide (r6 > (0 : Int)) then
    (F_104 (4 : Int) (b1.fst, b1.snd.fst, ())).bind fun v2 =>
      bif ((b3.length + [v2.fst.fst].length) * (8 : Nat)).ble (70368744177664 : Nat) then
        Option.some
          (Sum.inl
            ((r0, (), (), (), Go.IntKind.i64.wrap (r6 - (1 : Int)), ()), (b0.fst, ()), (v2.snd.fst.fst, v2.snd.fst.snd.fst, ()),
              (b2.fst, b2.snd.fst, b2.snd.snd.fst, b2.snd.snd.snd.fst, (), ()), b3 ++ [v2.fst.fst], ()))
      else Option.none
  else Option.some (Sum.inr (Sum.inl ((r0, (), (), (), ()), (b0.fst, ()), (b1.fst, b1.snd.fst, ()), (b2.fst, b2.snd.fst, b2.snd.snd.fst, b2.snd.snd.snd.fst, (), ()), b3, ())))
theorem g_63_18 (x : LD_63_18.El) : codeT CT T_63 (drT CT T_63) lpi_63_18 l_63_18 (LD_63_18.enc x) (bodyK (LD_63_18.lay [.nilCell 5 13 3 I]) EX_63_18) = G_63_18 x.1.1 x.1.2.2.2.2.1 x.2.1 x.2.2.1 x.2.2.2.1 x.2.2.2.2.1 := by kernel_rfl
noncomputable def R_63_18 : LD_63_18.El → Option (LA_63_18.El ⊕ LB_63_18.El) := roundsT (fun x => G_63_18 x.1.1 x.1.2.2.2.2.1 x.2.1 x.2.2.1 x.2.2.2.1 x.2.2.2.2.1) fuel
theorem r_63_18 : ∀ x y, R_63_18 x = some y → CL CT l_63_18 (LD_63_18.enc x) (Sum.elim (fun _ => EX_63_18.xa) (fun _ => EX_63_18.xb) y) (Sum.elim EX_63_18.la.enc EX_63_18.lb.enc y) :=
  rounds_ok (L := LD_63_18.lay [.nilCell 5 13 3 I]) (E := EX_63_18) CT_ok T_63_ok (drT_ok CT_ok T_63_ok) lpi_63_18_ok g_63_18 rfl rfl (fun v h => by have hh : (.exit 1 : AX) = .pan v := h; cases hh) (fun v h => by have hh : (.ret : AX) = .pan v := h; cases hh) fuel
noncomputable def lp_63 {β : Type} : LpT β := fun k s K => if Nat.beq k 18 then lpOne (LD_63_18.lay [.nilCell 5 13 3 I]) EX_63_18 R_63_18 s K else none
theorem lp_63_ok {β : Type} : LpTOk CT (lp_63 (β := β)) (loopsOf c_63) := by
  have h : loopsOf c_63 = [(18, l_63_18)] := by kernel_rfl
  rw [h]
  exact LpTOk.cons (fun s K z h => lpOne_ok r_63_18 h) (LpTOk.nil)
noncomputable def F_63 (a1 : Ty.El .str) : Option (Els [tThing, .bool]) :=
  (F_104 (1 : Int) (a1, Bool.false, ())).bind fun v2 =>
    (F_104 (4 : Int) (v2.snd.fst.fst, v2.snd.fst.snd.fst, ())).bind fun v8 =>
      bif v2.fst.fst == (1 : Int) then
        (F_104 (1 : Int) (v8.snd.fst.fst, v8.snd.fst.snd.fst, ())).bind fun v16 =>
          (F_105 (v16.snd.fst.fst, v16.snd.fst.snd.fst, ())).bind fun v22 =>
            (F_104 (8 : Int) (v22.snd.fst.fst, v22.snd.fst.snd.fst, ())).bind fun v28 =>
              (F_105 (v28.snd.fst.fst, v28.snd.fst.snd.fst, ())).bind fun v34 =>
                (F_105 (v34.snd.fst.fst, v34.snd.fst.snd.fst, ())).bind fun v40 =>
                  (F_61 (v8.fst.fst, v2.fst.fst, (v16.fst.fst, v22.fst.fst, v28.fst.fst, v34.fst.fst, v40.fst.fst), ((0 : Int), (0 : Int), (0 : Int)), [])).bind fun v56 =>
                    bif v40.snd.fst.snd.fst then
                      Option.some
                        (((0 : Int), (0 : Int), ((0 : Int), ((0 : Int), (0 : Int)), (0 : Int), ((0 : Int), (0 : Int)), (0 : Int), (0 : Int)), ((0 : Int), (0 : Int), (0 : Int)), []),
                          Bool.false, ())
                    else
                      bif !v56.snd.fst then
                        Option.some
                          (((0 : Int), (0 : Int), ((0 : Int), ((0 : Int), (0 : Int)), (0 : Int), ((0 : Int), (0 : Int)), (0 : Int), (0 : Int)), ((0 : Int), (0 : Int), (0 : Int)),
                              []),
                            Bool.false, ())
                      else
                        bif !v56.fst == a1 then
                          Option.some
                            (((0 : Int), (0 : Int), ((0 : Int), ((0 : Int), (0 : Int)), (0 : Int), ((0 : Int), (0 : Int)), (0 : Int), (0 : Int)), ((0 : Int), (0 : Int), (0 : Int)),
                                []),
                              Bool.false, ())
                        else
                          Option.some
                            ((v8.fst.fst, v2.fst.fst, (v16.fst.fst, v22.fst.fst, v28.fst.fst, v34.fst.fst, v40.fst.fst), ((0 : Int), (0 : Int), (0 : Int)), []), Bool.true, ())
      else
        bif v2.fst.fst == (2 : Int) then
          (F_104 (4 : Int) (v8.snd.fst.fst, v8.snd.fst.snd.fst, ())).bind fun v80 =>
            (F_104 (4 : Int) (v80.snd.fst.fst, v80.snd.fst.snd.fst, ())).bind fun v86 =>
              (F_104 (8 : Int) (v86.snd.fst.fst, v86.snd.fst.snd.fst, ())).bind fun v92 =>
                (F_61
                      (v8.fst.fst, v2.fst.fst, ((0 : Int), ((0 : Int), (0 : Int)), (0 : Int), ((0 : Int), (0 : Int)), (0 : Int), (0 : Int)), (v80.fst.fst, v86.fst.fst, v92.fst.fst),
                        [])).bind
                  fun v104 =>
                  bif v92.snd.fst.snd.fst then
                    Option.some
                      (((0 : Int), (0 : Int), ((0 : Int), ((0 : Int), (0 : Int)), (0 : Int), ((0 : Int), (0 : Int)), (0 : Int), (0 : Int)), ((0 : Int), (0 : Int), (0 : Int)), []),
                        Bool.false, ())
                  else
                    bif !v104.snd.fst then
                      Option.some
                        (((0 : Int), (0 : Int), ((0 : Int), ((0 : Int), (0 : Int)), (0 : Int), ((0 : Int), (0 : Int)), (0 : Int), (0 : Int)), ((0 : Int), (0 : Int), (0 : Int)), []),
                          Bool.false, ())
                    else
                      bif !v104.fst == a1 then
                        Option.some
                          (((0 : Int), (0 : Int), ((0 : Int), ((0 : Int), (0 : Int)), (0 : Int), ((0 : Int), (0 : Int)), (0 : Int), (0 : Int)), ((0 : Int), (0 : Int), (0 : Int)),
                              []),
                            Bool.false, ())
                      else
                        Option.some
                          ((v8.fst.fst, v2.fst.fst, ((0 : Int), ((0 : Int), (0 : Int)), (0 : Int), ((0 : Int), (0 : Int)), (0 : Int), (0 : Int)),
                              (v80.fst.fst, v86.fst.fst, v92.fst.fst), []),
                            Bool.true, ())
        else
          bif v2.fst.fst == (3 : Int) then
            (F_104 (1 : Int) (v8.snd.fst.fst, v8.snd.fst.snd.fst, ())).bind fun v124 =>
              (R_63_18
                    ((a1, (), (), (), v124.fst.fst, ()),
                      (((0 : Int), (0 : Int), ((0 : Int), ((0 : Int), (0 : Int)), (0 : Int), ((0 : Int), (0 : Int)), (0 : Int), (0 : Int)), ((0 : Int), (0 : Int), (0 : Int)), []),
                        ()),
                      (v124.snd.fst.fst, v124.snd.fst.snd.fst, ()),
                      (v8.fst.fst, v2.fst.fst, ((0 : Int), ((0 : Int), (0 : Int)), (0 : Int), ((0 : Int), (0 : Int)), (0 : Int), (0 : Int)), ((0 : Int), (0 : Int), (0 : Int)), (),
                        ()),
                      [], ())).bind
                fun v135 =>
                Sum.elim
                  (fun v136 =>
                    (F_61
                          (v136.snd.snd.snd.fst.fst, v136.snd.snd.snd.fst.snd.fst, v136.snd.snd.snd.fst.snd.snd.fst, v136.snd.snd.snd.fst.snd.snd.snd.fst,
                            v136.snd.snd.snd.snd.fst)).bind
                      fun v138 =>
                      bif v136.snd.snd.fst.snd.fst then
                        Option.some
                          (((0 : Int), (0 : Int), ((0 : Int), ((0 : Int), (0 : Int)), (0 : Int), ((0 : Int), (0 : Int)), (0 : Int), (0 : Int)), ((0 : Int), (0 : Int), (0 : Int)),
                              []),
                            Bool.false, ())
                      else
                        bif !v138.snd.fst then
                          Option.some
                            (((0 : Int), (0 : Int), ((0 : Int), ((0 : Int), (0 : Int)), (0 : Int), ((0 : Int), (0 : Int)), (0 : Int), (0 : Int)), ((0 : Int), (0 : Int), (0 : Int)),
                                []),
                              Bool.false, ())
                        else
                          bif !v138.fst == v136.fst.fst then
                            Option.some
                              (((0 : Int), (0 : Int), ((0 : Int), ((0 : Int), (0 : Int)), (0 : Int), ((0 : Int), (0 : Int)), (0 : Int), (0 : Int)), ((0 : Int), (0 : Int), (0 : Int)),
                                  []),
                                Bool.false, ())
                          else
                            Option.some
                              ((v136.snd.snd.snd.fst.fst, v136.snd.snd.snd.fst.snd.fst, v136.snd.snd.snd.fst.snd.snd.fst, v136.snd.snd.snd.fst.snd.snd.snd.fst,
                                  v136.snd.snd.snd.snd.fst),
                                Bool.true, ()))
                  (fun v139 => Option.none) v135
          else
            (F_61 (v8.fst.fst, v2.fst.fst, ((0 : Int), ((0 : Int), (0 : Int)), (0 : Int), ((0 : Int), (0 : Int)), (0 : Int), (0 : Int)), ((0 : Int), (0 : Int), (0 : Int)), [])).bind
              fun v145 =>
              bif v8.snd.fst.snd.fst then
                Option.some
                  (((0 : Int), (0 : Int), ((0 : Int), ((0 : Int), (0 : Int)), (0 : Int), ((0 : Int), (0 : Int)), (0 : Int), (0 : Int)), ((0 : Int), (0 : Int), (0 : Int)), []),
                    Bool.false, ())
              else
                bif !v145.snd.fst then
                  Option.some
                    (((0 : Int), (0 : Int), ((0 : Int), ((0 : Int), (0 : Int)), (0 : Int), ((0 : Int), (0 : Int)), (0 : Int), (0 : Int)), ((0 : Int), (0 : Int), (0 : Int)), []),
                      Bool.false, ())
                else
                  bif !v145.fst == a1 then
                    Option.some
                      (((0 : Int), (0 : Int), ((0 : Int), ((0 : Int), (0 : Int)), (0 : Int), ((0 : Int), (0 : Int)), (0 : Int), (0 : Int)), ((0 : Int), (0 : Int), (0 : Int)), []),
                        Bool.false, ())
                  else
                    Option.some
                      ((v8.fst.fst, v2.fst.fst, ((0 : Int), ((0 : Int), (0 : Int)), (0 : Int), ((0 : Int), (0 : Int)), (0 : Int), (0 : Int)), ((0 : Int), (0 : Int), (0 : Int)), []),
                        Bool.true, ())
theorem f_63 (x : Ps [.ty .str]) : funcT CT T_63 [tThing, .bool] (drT CT T_63) lp_63 Try.f63 c_63 (encPs [.ty .str] x) = F_63 x.1 := by kernel_rfl
noncomputable def E_63 : Ent := .fn 63 [] ⟨[.ty .str], [tThing, .bool], fun x => F_63 x.1, false⟩
theorem e_63 : E_63.Ok CT.P := Ent.ofFn CT_ok T_63_ok hf_63 hb_63 lp_63_ok f_63
noncomputable def E_63h : Ent := .fn 63 [] ⟨[.ty .str], [tThing, .bool], fun x => F_63 x.1, true⟩
/-! ### 62: maquette/scene.value -/
noncomputable def c_62 : Code := Try.f62.body.getD .skip
theorem hb_62 : Try.f62.body = some c_62 := by kernel_rfl
theorem hf_62 : CT.P.funcs[62]? = some Try.f62 := by kernel_rfl
noncomputable def T_62 : Tb := mkTb tyP mpP []
theorem T_62_ok : T_62.Ok CT.P := mkTb_ok (trivial)
noncomputable def l_62_3 : Code := atLoop c_62 3
noncomputable abbrev LD_62_3 : LayD := ⟨20, [(0, .data .str), (3, .data (.int .u64)), (6, .data I), (7, .data I)], [], fun _ => []⟩
noncomputable abbrev LA_62_3 : LayD := ⟨20, [(3, .data (.int .u64))], [], fun _ => []⟩
noncomputable abbrev LB_62_3 : LayD := ⟨20, [], [], fun _ => []⟩
noncomputable def EX_62_3 : Exits 0 LA_62_3.El LB_62_3.El := ⟨.exit 0, LA_62_3.lay [], .ret, LB_62_3.lay []⟩

noncomputable def lpi_62_3 {β : Type} : LpT β := fun _ _ _ => none
theorem lpi_62_3_ok {β : Type} : LpTOk CT (lpi_62_3 (β := β)) (loopsOf l_62_3) := by
  have h : loopsOf l_62_3 = [] := by kernel_rfl
  rw [h]
  exact LpTOk.nil
noncomputable def G_62_3 (r0 : Ty.El .str) (r3 : Ty.El (.int .u64)) (r6 : Ty.El I) (r7 : Ty.El I) : Option (LD_62_3.El ⊕ (LA_62_3.El ⊕ LB_62_3.El)) :=
  bif Decidable.decide (r7 < r6) then
    bif Decidable.decide ((0 : Int) ≤ r7 ∧ r7 < (↑(List.length r0) : Int)) then
      Option.some (Sum.inl ((r0, byteIn r3 (List.getD r0 (Int.toNat r7) (0 : UInt8)), r6, Go.IntKind.i64.wrap (r7 + (1 : Int)), ()), ()))
    else Option.none
  else Option.some (Sum.inr (Sum.inl ((r3, ()), ())))
theorem g_62_3 (x : LD_62_3.El) : codeT CT T_62 (drT CT T_62) lpi_62_3 l_62_3 (LD_62_3.enc x) (bodyK (LD_62_3.lay []) EX_62_3) = G_62_3 x.1.1 x.1.2.1 x.1.2.2.1 x.1.2.2.2.1 := by kernel_rfl
noncomputable def R_62_3 : LD_62_3.El → Option (LA_62_3.El ⊕ LB_62_3.El) := roundsT (fun x => G_62_3 x.1.1 x.1.2.1 x.1.2.2.1 x.1.2.2.2.1) fuel
theorem r_62_3 : ∀ x y, R_62_3 x = some y → CL CT l_62_3 (LD_62_3.enc x) (Sum.elim (fun _ => EX_62_3.xa) (fun _ => EX_62_3.xb) y) (Sum.elim EX_62_3.la.enc EX_62_3.lb.enc y) :=
  rounds_ok (L := LD_62_3.lay []) (E := EX_62_3) CT_ok T_62_ok (drT_ok CT_ok T_62_ok) lpi_62_3_ok g_62_3 rfl rfl (fun v h => by have hh : (.exit 0 : AX) = .pan v := h; cases hh) (fun v h => by have hh : (.ret : AX) = .pan v := h; cases hh) fuel
noncomputable def lp_62 {β : Type} : LpT β := fun k s K => if Nat.beq k 3 then lpOne (LD_62_3.lay []) EX_62_3 R_62_3 s K else none
theorem lp_62_ok {β : Type} : LpTOk CT (lp_62 (β := β)) (loopsOf c_62) := by
  have h : loopsOf c_62 = [(3, l_62_3)] := by kernel_rfl
  rw [h]
  exact LpTOk.cons (fun s K z h => lpOne_ok r_62_3 h) (LpTOk.nil)
noncomputable def F_62 (a1 : Ty.El .str) : Option (Els [I]) :=
  (R_62_3 ((a1, (0 : Int), (↑(List.length a1) : Int), (0 : Int), ()), ())).bind fun v1 =>
    Sum.elim (fun v2 => Option.some (Go.IntKind.i64.wrap v2.fst.fst, ())) (fun v3 => Option.none) v1
theorem f_62 (x : Ps [.ty .str]) : funcT CT T_62 [I] (drT CT T_62) lp_62 Try.f62 c_62 (encPs [.ty .str] x) = F_62 x.1 := by kernel_rfl
noncomputable def E_62 : Ent := .fn 62 [] ⟨[.ty .str], [I], fun x => F_62 x.1, false⟩
theorem e_62 : E_62.Ok CT.P := Ent.ofFn CT_ok T_62_ok hf_62 hb_62 lp_62_ok f_62
noncomputable def E_62h : Ent := .fn 62 [] ⟨[.ty .str], [I], fun x => F_62 x.1, true⟩
/-! ### 28: maquette/scene.Dump -/
noncomputable def c_28b : Code := Try.f28.body.getD .skip
theorem hb_28b : Try.f28.body = some c_28b := by kernel_rfl
theorem hf_28b : CT.P.funcs[28]? = some Try.f28 := by kernel_rfl
noncomputable def T_28b : Tb := mkTb tyP mpP [E_20, E_60, E_61]
theorem T_28b_ok : T_28b.Ok CT.P := mkTb_ok (⟨e_20, e_60, e_61, trivial⟩)
noncomputable def l_28b_5 : Code := atLoop c_28b 5
noncomputable abbrev LD_28b_5 : LayD := ⟨50, [(3, .data .str), (30, .data (.list tThing)), (31, .data I), (32, .data I)], [], fun _ => []⟩
noncomputable abbrev LA_28b_5 : LayD := ⟨50, [(3, .data .str)], [], fun _ => []⟩
noncomputable abbrev LB_28b_5 : LayD := ⟨50, [], [], fun _ => []⟩
noncomputable def EX_28b_5 : Exits 0 LA_28b_5.El LB_28b_5.El := ⟨.exit 0, LA_28b_5.lay [], .ret, LB_28b_5.lay []⟩

noncomputable def lpi_28b_5 {β : Type} : LpT β := fun _ _ _ => none
theorem lpi_28b_5_ok {β : Type} : LpTOk CT (lpi_28b_5 (β := β)) (loopsOf l_28b_5) := by
  have h : loopsOf l_28b_5 = [] := by kernel_rfl
  rw [h]
  exact LpTOk.nil
noncomputable def G_28b_5 (r3 : Ty.El .str) (r30 : Ty.El (.list tThing)) (r31 : Ty.El I) (r32 : Ty.El I) : Option (LD_28b_5.El ⊕ (LA_28b_5.El ⊕ LB_28b_5.El)) :=
  bif Decidable.decide (r32 < r31) then
    bif Decidable.decide ((0 : Int) ≤ r32 ∧ r32 < (↑(List.length r30) : Int)) then
      (F_61 (List.getD r30 (Int.toNat r32) Go.DI.S.tThing.dflt)).bind fun v2 =>
        (F_60 (↑(List.length v2.fst) : Int) (2 : Int)).bind fun v4 =>
          bif Decidable.decide (List.length v4.fst + List.length v2.fst ≤ (4611686018427387904 : Nat)) then
            bif Decidable.decide (List.length r3 + (v4.fst ++ v2.fst).length ≤ (4611686018427387904 : Nat)) then
              Option.some (Sum.inl ((r3 ++ (v4.fst ++ v2.fst), r30, r31, Go.IntKind.i64.wrap (r32 + (1 : Int)), ()), ()))
            else Option.none
          else Option.none
    else Option.none
  else Option.some (Sum.inr (Sum.inl ((r3, ()), ())))
theorem g_28b_5 (x : LD_28b_5.El) : codeT CT T_28b (drT CT T_28b) lpi_28b_5 l_28b_5 (LD_28b_5.enc x) (bodyK (LD_28b_5.lay []) EX_28b_5) = G_28b_5 x.1.1 x.1.2.1 x.1.2.2.1 x.1.2.2.2.1 := by kernel_rfl
noncomputable def R_28b_5 : LD_28b_5.El → Option (LA_28b_5.El ⊕ LB_28b_5.El) := roundsT (fun x => G_28b_5 x.1.1 x.1.2.1 x.1.2.2.1 x.1.2.2.2.1) fuel
theorem r_28b_5 : ∀ x y, R_28b_5 x = some y → CL CT l_28b_5 (LD_28b_5.enc x) (Sum.elim (fun _ => EX_28b_5.xa) (fun _ => EX_28b_5.xb) y) (Sum.elim EX_28b_5.la.enc EX_28b_5.lb.enc y) :=
  rounds_ok (L := LD_28b_5.lay []) (E := EX_28b_5) CT_ok T_28b_ok (drT_ok CT_ok T_28b_ok) lpi_28b_5_ok g_28b_5 rfl rfl (fun v h => by have hh : (.exit 0 : AX) = .pan v := h; cases hh) (fun v h => by have hh : (.ret : AX) = .pan v := h; cases hh) fuel
noncomputable def lp_28b {β : Type} : LpT β := fun k s K => if Nat.beq k 5 then lpOne (LD_28b_5.lay []) EX_28b_5 R_28b_5 s K else none
theorem lp_28b_ok {β : Type} : LpTOk CT (lp_28b (β := β)) (loopsOf c_28b) := by
  have h : loopsOf c_28b = [(5, l_28b_5)] := by kernel_rfl
  rw [h]
  exact LpTOk.cons (fun s K z h => lpOne_ok r_28b_5 h) (LpTOk.nil)
noncomputable def F_28b (a1 : Ty.El tScene) : Option (Els [.str]) :=
  (F_20 a1).bind fun v2 =>
    bif !v2.fst then Option.some ([], ())
    else
      (F_60 a1.fst.fst (8 : Int)).bind fun v4 =>
        (F_60 a1.fst.snd (8 : Int)).bind fun v6 =>
          bif Decidable.decide (List.length v4.fst + List.length v6.fst ≤ (4611686018427387904 : Nat)) then
            (F_60 a1.snd.fst (4 : Int)).bind fun v8 =>
              bif Decidable.decide ((v4.fst ++ v6.fst).length + List.length v8.fst ≤ (4611686018427387904 : Nat)) then
                (F_60 (↑(List.length a1.snd.snd) : Int) (2 : Int)).bind fun v10 =>
                  bif Decidable.decide ((v4.fst ++ v6.fst ++ v8.fst).length + List.length v10.fst ≤ (4611686018427387904 : Nat)) then
                    (R_28b_5 ((v4.fst ++ v6.fst ++ v8.fst ++ v10.fst, a1.snd.snd, (↑(List.length a1.snd.snd) : Int), (0 : Int), ()), ())).bind fun v11 =>
                      Sum.elim (fun v12 => Option.some (v12.fst.fst, ())) (fun v13 => Option.none) v11
                  else Option.none
              else Option.none
          else Option.none
theorem f_28b (x : Ps [.ty tScene]) : funcT CT T_28b [.str] (drT CT T_28b) lp_28b Try.f28 c_28b (encPs [.ty tScene] x) = F_28b x.1 := by kernel_rfl
noncomputable def E_28b : Ent := .fn 28 [] ⟨[.ty tScene], [.str], fun x => F_28b x.1, false⟩
theorem e_28b : E_28b.Ok CT.P := Ent.ofFn CT_ok T_28b_ok hf_28b hb_28b lp_28b_ok f_28b
noncomputable def E_28bh : Ent := .fn 28 [] ⟨[.ty tScene], [.str], fun x => F_28b x.1, true⟩
/-! ### 29: maquette/scene.Load -/
noncomputable def c_29 : Code := Try.f29.body.getD .skip
theorem hb_29 : Try.f29.body = some c_29 := by kernel_rfl
theorem hf_29 : CT.P.funcs[29]? = some Try.f29 := by kernel_rfl
noncomputable def T_29 : Tb := mkTb tyP mpP [E_28b, E_62, E_63]
theorem T_29_ok : T_29.Ok CT.P := mkTb_ok (⟨e_28b, e_62, e_63, trivial⟩)
noncomputable def l_29_7 : Code := atLoop c_29 7
noncomputable abbrev LD_29_7 : LayD := ⟨64, [(0, .data .str), (2, .ptr 0), (4, .ptr 1), (5, .data .str)], [.var 36 [.data tScene], .var 36 [.data tVec, .data I, .own tThing 2], .row 32 tThing], fun s => [slotR s 2, slotR s 4, slotC s 4 3]⟩
noncomputable abbrev LA_29_7 : LayD := ⟨64, [(0, .data .str), (2, .ptr 0), (4, .ptr 1)], [.var 36 [.data tScene], .var 36 [.data tVec, .data I, .own tThing 2], .row 32 tThing], fun s => [slotR s 2, slotR s 4, slotC s 4 3]⟩
noncomputable abbrev LB_29_7 : LayD := ⟨64, [(2, .ptr 0), (3, .data .bool)], [.var 36 [.data tScene]], fun s => [slotR s 2]⟩
noncomputable def EX_29_7 : Exits 0 LA_29_7.El LB_29_7.El := ⟨.exit 0, LA_29_7.lay [.nilCell 4 3 32 tThing], .ret, LB_29_7.lay []⟩

noncomputable def lpi_29_7 {β : Type} : LpT β := fun _ _ _ => none
theorem lpi_29_7_ok {β : Type} : LpTOk CT (lpi_29_7 (β := β)) (loopsOf l_29_7) := by
  have h : loopsOf l_29_7 = [] := by kernel_rfl
  rw [h]
  exact LpTOk.nil
noncomputable def G_29_7 (r0 : Ty.El .str) (r5 : Ty.El .str) (b0 : Ty.El tScene × Unit) (b1 : Ty.El tVec × Ty.El I × Unit × Unit) (b2 : List (Ty.El tThing)) : Option (LD_29_7.El ⊕ (LA_29_7.El ⊕ LB_29_7.El)) :=
  bif Decidable.decide ((↑(List.length r5) : Int) ≥ (2 : Int)) then
    bif Decidable.decide ((0 : Int) ≤ (2 : Int) ∧ (2 : Int) ≤ (↑(List.length r5) : Int)) then
      (F_62 (List.take (2 : Nat) (List.drop (0 : Nat) r5))).bind fun v2 =>
        bif Decidable.decide (Go.IntKind.i64.wrap ((2 : Int) + v2.fst) > (↑(List.length r5) : Int)) then
          Option.some (Sum.inr (Sum.inr (((), Bool.false, ()), ((((0 : Int), (0 : Int)), (0 : Int), []), ()), ())))
        else
          bif
              Decidable.decide
                ((0 : Int) ≤ Go.IntKind.i64.wrap ((2 : Int) + v2.fst) ∧
                  Go.IntKind.i64.wrap ((2 : Int) + v2.fst) ≤ (↑(List.length r5) : Int) ∧ (0 : Int) ≤ (2 : Int) ∧ (2 : Int) ≤ Go.IntKind.i64.wrap ((2 : Int) + v2.fst)) then
            (F_63 (List.take ((Go.IntKind.i64.wrap ((2 : Int) + v2.fst)).toNat - (2 : Nat)) (List.drop (2 : Nat) r5))).bind fun v4 =>
              bif !v4.snd.fst then Option.some (Sum.inr (Sum.inr (((), Bool.false, ()), ((((0 : Int), (0 : Int)), (0 : Int), []), ()), ())))
              else
                bif ((b2.length + [v4.fst].length) * (128 : Nat)).ble (70368744177664 : Nat) then
                  bif Decidable.decide ((0 : Int) ≤ Go.IntKind.i64.wrap ((2 : Int) + v2.fst) ∧ Go.IntKind.i64.wrap ((2 : Int) + v2.fst) ≤ (↑(List.length r5) : Int)) then
                    Option.some
                      (Sum.inl
                        ((r0, (), (), List.take (List.length r5 - (Go.IntKind.i64.wrap ((2 : Int) + v2.fst)).toNat) (List.drop (Go.IntKind.i64.wrap ((2 : Int) + v2.fst)).toNat r5),
                            ()),
                          (b0.fst, ()), (b1.fst, b1.snd.fst, (), ()), b2 ++ [v4.fst], ()))
                  else Option.none
                else Option.none
          else Option.none
    else Option.none
  else Option.some (Sum.inr (Sum.inl ((r0, (), (), ()), (b0.fst, ()), (b1.fst, b1.snd.fst, (), ()), b2, ())))
theorem g_29_7 (x : LD_29_7.El) : codeT CT T_29 (drT CT T_29) lpi_29_7 l_29_7 (LD_29_7.enc x) (bodyK (LD_29_7.lay [.nilCell 4 3 32 tThing]) EX_29_7) = G_29_7 x.1.1 x.1.2.2.2.1 x.2.1 x.2.2.1 x.2.2.2.1 := by kernel_rfl
noncomputable def R_29_7 : LD_29_7.El → Option (LA_29_7.El ⊕ LB_29_7.El) := roundsT (fun x => G_29_7 x.1.1 x.1.2.2.2.1 x.2.1 x.2.2.1 x.2.2.2.1) fuel
theorem r_29_7 : ∀ x y, R_29_7 x = some y → CL CT l_29_7 (LD_29_7.enc x) (Sum.elim (fun _ => EX_29_7.xa) (fun _ => EX_29_7.xb) y) (Sum.elim EX_29_7.la.enc EX_29_7.lb.enc y) :=
  rounds_ok (L := LD_29_7.lay [.nilCell 4 3 32 tThing]) (E := EX_29_7) CT_ok T_29_ok (drT_ok CT_ok T_29_ok) lpi_29_7_ok g_29_7 rfl rfl (fun v h => by have hh : (.exit 0 : AX) = .pan v := h; cases hh) (fun v h => by have hh : (.ret : AX) = .pan v := h; cases hh) fuel
noncomputable def lp_29 {β : Type} : LpT β := fun k s K => if Nat.beq k 7 then lpOne (LD_29_7.lay [.nilCell 4 3 32 tThing]) EX_29_7 R_29_7 s K else none
theorem lp_29_ok {β : Type} : LpTOk CT (lp_29 (β := β)) (loopsOf c_29) := by
  have h : loopsOf c_29 = [(7, l_29_7)] := by kernel_rfl
  rw [h]
  exact LpTOk.cons (fun s K z h => lpOne_ok r_29_7 h) (LpTOk.nil)
noncomputable def F_29 (a1 : Ty.El .str) : Option (Els [tScene, .bool]) :=
  bif Decidable.decide ((↑(List.length a1) : Int) < (22 : Int)) then Option.some ((((0 : Int), (0 : Int)), (0 : Int), []), Bool.false, ())
  else
    bif Decidable.decide ((0 : Int) ≤ (8 : Int) ∧ (8 : Int) ≤ (↑(List.length a1) : Int)) then
      (F_62 (List.take (8 : Nat) (List.drop (0 : Nat) a1))).bind fun v2 =>
        bif Decidable.decide ((0 : Int) ≤ (16 : Int) ∧ (16 : Int) ≤ (↑(List.length a1) : Int) ∧ (0 : Int) ≤ (8 : Int) ∧ (8 : Int) ≤ (16 : Int)) then
          (F_62 (List.take (8 : Nat) (List.drop (8 : Nat) a1))).bind fun v4 =>
            bif Decidable.decide ((0 : Int) ≤ (20 : Int) ∧ (20 : Int) ≤ (↑(List.length a1) : Int) ∧ (0 : Int) ≤ (16 : Int) ∧ (16 : Int) ≤ (20 : Int)) then
              (F_62 (List.take (4 : Nat) (List.drop (16 : Nat) a1))).bind fun v6 =>
                bif Decidable.decide ((0 : Int) ≤ (22 : Int) ∧ (22 : Int) ≤ (↑(List.length a1) : Int)) then
                  (R_29_7
                        ((a1, (), (), List.take (List.length a1 - (22 : Nat)) (List.drop (22 : Nat) a1), ()), ((((0 : Int), (0 : Int)), (0 : Int), []), ()),
                          ((v2.fst, v4.fst), v6.fst, (), ()), [], ())).bind
                    fun v7 =>
                    Sum.elim
                      (fun v8 =>
                        (F_28b (v8.snd.snd.fst.fst, v8.snd.snd.fst.snd.fst, v8.snd.snd.snd.fst)).bind fun v10 =>
                          bif !v10.fst == v8.fst.fst then Option.some ((((0 : Int), (0 : Int)), (0 : Int), []), Bool.false, ())
                          else Option.some ((v8.snd.snd.fst.fst, v8.snd.snd.fst.snd.fst, v8.snd.snd.snd.fst), Bool.true, ()))
                      (fun v11 => Option.some (v11.snd.fst.fst, v11.fst.snd.fst, ())) v7
                else Option.none
            else Option.none
        else Option.none
    else Option.none
theorem f_29 (x : Ps [.ty .str]) : funcT CT T_29 [tScene, .bool] (drT CT T_29) lp_29 Try.f29 c_29 (encPs [.ty .str] x) = F_29 x.1 := by kernel_rfl
noncomputable def E_29 : Ent := .fn 29 [] ⟨[.ty .str], [tScene, .bool], fun x => F_29 x.1, false⟩
theorem e_29 : E_29.Ok CT.P := Ent.ofFn CT_ok T_29_ok hf_29 hb_29 lp_29_ok f_29
noncomputable def E_29h : Ent := .fn 29 [] ⟨[.ty .str], [tScene, .bool], fun x => F_29 x.1, true⟩
/-! ### 7: maquette/maquettelaw19.SceneBytes -/
noncomputable def c_7 : Code := Try.f7.body.getD .skip
theorem hb_7 : Try.f7.body = some c_7 := by kernel_rfl
theorem hf_7 : CT.P.funcs[7]? = some Try.f7 := by kernel_rfl
noncomputable def T_7 : Tb := mkTb tyP mpP [E_16, E_20, E_22, E_24, E_25, E_28b, E_29]
theorem T_7_ok : T_7.Ok CT.P := mkTb_ok (⟨e_16, e_20, e_22, e_24, e_25, e_28b, e_29, trivial⟩)
noncomputable def lp_7 {β : Type} : LpT β := fun _ _ _ => none
theorem lp_7_ok {β : Type} : LpTOk CT (lp_7 (β := β)) (loopsOf c_7) := by
  have h : loopsOf c_7 = [] := by kernel_rfl
  rw [h]
  exact LpTOk.nil
noncomputable def F_7 (a1 : Ty.El tVec) (a2 : Ty.El tVec) (a3 : Ty.El I) (a4 : Ty.El I) (a5 : Ty.El (.list tThing)) (a6 : Ty.El (.list tThing)) : Option (Els [.bool]) :=
  (F_22 a5).bind fun v2 =>
    bif !v2.fst then F_16.bind fun v4 => Option.some (v4.fst, ())
    else
      (F_22 a6).bind fun v6 =>
        bif !v6.fst then F_16.bind fun v8 => Option.some (v8.fst, ())
        else
          (F_20 (a1, a3, a5)).bind fun v10 =>
            bif !v10.fst then F_16.bind fun v12 => Option.some (v12.fst, ())
            else
              (F_20 (a2, a4, a6)).bind fun v14 =>
                bif !v14.fst then F_16.bind fun v16 => Option.some (v16.fst, ())
                else
                  F_16.bind fun v18 =>
                    bif !v18.fst then F_16.bind fun v20 => Option.some (v20.fst, ())
                    else
                      (F_28b (a1, a3, a5)).bind fun v22 =>
                        (F_28b (a2, a4, a6)).bind fun v24 =>
                          (F_29 v22.fst).bind fun v26 =>
                            bif v26.snd.fst then
                              (F_25 (a1, a3, a5)).bind fun v28 =>
                                (F_24 v26.fst v28.fst).bind fun v30 =>
                                  bif v30.fst then
                                    (F_25 (a2, a4, a6)).bind fun v32 =>
                                      (F_24 (a1, a3, a5) v32.fst).bind fun v34 =>
                                        bif (v22.fst == v24.fst) == v34.fst then Option.some (Decidable.decide ((↑(List.length v22.fst) : Int) ≥ (22 : Int)), ())
                                        else Option.some (Bool.false, ())
                                  else Option.some (Bool.false, ())
                            else Option.some (Bool.false, ())
theorem f_7 (x : Ps [.ty tVec, .ty tVec, .ty I, .ty I, .ty (.list tThing), .ty (.list tThing)]) : funcT CT T_7 [.bool] (drT CT T_7) lp_7 Try.f7 c_7 (encPs [.ty tVec, .ty tVec, .ty I, .ty I, .ty (.list tThing), .ty (.list tThing)] x) = F_7 x.1 x.2.1 x.2.2.1 x.2.2.2.1 x.2.2.2.2.1 x.2.2.2.2.2.1 := by kernel_rfl
noncomputable def E_7 : Ent := .fn 7 [] ⟨[.ty tVec, .ty tVec, .ty I, .ty I, .ty (.list tThing), .ty (.list tThing)], [.bool], fun x => F_7 x.1 x.2.1 x.2.2.1 x.2.2.2.1 x.2.2.2.2.1 x.2.2.2.2.2.1, false⟩
theorem e_7 : E_7.Ok CT.P := Ent.ofFn CT_ok T_7_ok hf_7 hb_7 lp_7_ok f_7
noncomputable def E_7h : Ent := .fn 7 [] ⟨[.ty tVec, .ty tVec, .ty I, .ty I, .ty (.list tThing), .ty (.list tThing)], [.bool], fun x => F_7 x.1 x.2.1 x.2.2.1 x.2.2.2.1 x.2.2.2.2.1 x.2.2.2.2.2.1, true⟩
end Go.DI.S

