import Derived.Test.YtbjldjihpekhaaaGreatMc
/- Places that are moved: told by functions on data. No conditions. -/
/-! The program's functions, told by functions on data. -/
set_option linter.unusedVariables false
set_option maxRecDepth 100000
set_option maxHeartbeats 0
namespace Go.DI.S
open Go.Proofs
/-! ### 236: maquette/fix.Add -/
noncomputable def c_162 : Code := Tryz.f236.body.getD .skip
theorem hb_162 : Tryz.f236.body = some c_162 := by kernel_rfl
theorem hf_162 : CT.P.funcs[236]? = some Tryz.f236 := by kernel_rfl
noncomputable def T_162 : Tb := mkTb tyT mpT []
theorem T_162_ok : T_162.Ok CT.P := mkTb_ok (trivial)
noncomputable def lp_162 {β : Type} : LpT β := fun _ _ _ => none
theorem lp_162_ok {β : Type} : LpTOk CT (lp_162 (β := β)) (loopsOf c_162) := by
  have h : loopsOf c_162 = [] := by kernel_rfl
  rw [h]
  exact LpTOk.nil
noncomputable def F_162 (a1 : Ty.El I) (a2 : Ty.El I) : Option (Els [I, I]) := bif Decidable.decide (a1 < (0 : Int)) == Decidable.decide (a2 < (0 : Int)) then bif !Decidable.decide (Go.IntKind.i64.wrap (a1 + a2) < (0 : Int)) == Decidable.decide (a1 < (0 : Int)) then Option.some ((0 : Int), (3 : Int), ()) else Option.some (Go.IntKind.i64.wrap (a1 + a2), (0 : Int), ()) else Option.some (Go.IntKind.i64.wrap (a1 + a2), (0 : Int), ())
theorem f_162 (x : Ps [.ty I, .ty I]) : funcT CT T_162 [I, I] (drT CT T_162) lp_162 Tryz.f236 c_162 (encPs [.ty I, .ty I] x) = F_162 x.1 x.2.1 := by kernel_rfl
noncomputable def E_162 : Ent := .fn 236 [] ⟨[.ty I, .ty I], [I, I], fun x => F_162 x.1 x.2.1, false⟩
theorem e_162 : E_162.Ok CT.P := Ent.ofFn CT_ok T_162_ok hf_162 hb_162 lp_162_ok f_162
noncomputable def E_162h : Ent := .fn 236 [] ⟨[.ty I, .ty I], [I, I], fun x => F_162 x.1 x.2.1, true⟩
/-! ### 258: maquette/calc.must -/
noncomputable def c_161 : Code := Tryz.f258.body.getD .skip
theorem hb_161 : Tryz.f258.body = some c_161 := by kernel_rfl
theorem hf_161 : CT.P.funcs[258]? = some Tryz.f258 := by kernel_rfl
noncomputable def T_161 : Tb := mkTb tyT mpT []
theorem T_161_ok : T_161.Ok CT.P := mkTb_ok (trivial)
noncomputable def lp_161 {β : Type} : LpT β := fun _ _ _ => none
theorem lp_161_ok {β : Type} : LpTOk CT (lp_161 (β := β)) (loopsOf c_161) := by
  have h : loopsOf c_161 = [] := by kernel_rfl
  rw [h]
  exact LpTOk.nil
noncomputable def F_161 (a1 : Ty.El I) (a2 : Ty.El I) : Option (Els [I] ⊕ Int) := bif a2 != (0 : Int) then Option.some (Sum.inr a2) else Option.some (Sum.inl (a1, ()))
theorem f_161 (x : Ps [.ty I, .ty I]) : funcP CT T_161 239 [I] (drT CT T_161) lp_161 Tryz.f258 c_161 (encPs [.ty I, .ty I] x) = F_161 x.1 x.2.1 := by kernel_rfl
noncomputable def E_161 : Ent := .mkFnP 258 [] ⟨239, [.ty I, .ty I], [I], fun x => F_161 x.1 x.2.1, false⟩
theorem e_161 : E_161.Ok CT.P := Ent.ofFnP CT_ok T_161_ok hf_161 hb_161 lp_161_ok f_161
noncomputable def E_161h : Ent := .mkFnP 258 [] ⟨239, [.ty I, .ty I], [I], fun x => F_161 x.1 x.2.1, true⟩
/-! ### 228: maquette/calc.Add -/
noncomputable def c_146 : Code := Tryz.f228.body.getD .skip
theorem hb_146 : Tryz.f228.body = some c_146 := by kernel_rfl
theorem hf_146 : CT.P.funcs[228]? = some Tryz.f228 := by kernel_rfl
noncomputable def T_146 : Tb := mkTb tyT mpT [E_161, E_162]
theorem T_146_ok : T_146.Ok CT.P := mkTb_ok (⟨e_161, e_162, trivial⟩)
noncomputable def lp_146 {β : Type} : LpT β := fun _ _ _ => none
theorem lp_146_ok {β : Type} : LpTOk CT (lp_146 (β := β)) (loopsOf c_146) := by
  have h : loopsOf c_146 = [] := by kernel_rfl
  rw [h]
  exact LpTOk.nil
noncomputable def F_146 (a1 : Ty.El I) (a2 : Ty.El I) : Option (Els [I] ⊕ Int) := (F_162 a1 a2).bind fun v2 => (F_161 v2.fst v2.snd.fst).bind fun v4 => Sum.elim (fun v6 => Option.some (Sum.inl (v6.fst, ()))) (fun v7 => Option.some (Sum.inr v7)) v4
theorem f_146 (x : Ps [.ty I, .ty I]) : funcP CT T_146 239 [I] (drT CT T_146) lp_146 Tryz.f228 c_146 (encPs [.ty I, .ty I] x) = F_146 x.1 x.2.1 := by kernel_rfl
noncomputable def E_146 : Ent := .mkFnP 228 [] ⟨239, [.ty I, .ty I], [I], fun x => F_146 x.1 x.2.1, false⟩
theorem e_146 : E_146.Ok CT.P := Ent.ofFnP CT_ok T_146_ok hf_146 hb_146 lp_146_ok f_146
noncomputable def E_146h : Ent := .mkFnP 228 [] ⟨239, [.ty I, .ty I], [I], fun x => F_146 x.1 x.2.1, true⟩
/-! ### 181: maquette/vec.Add -/
noncomputable def c_124 : Code := Tryz.f181.body.getD .skip
theorem hb_124 : Tryz.f181.body = some c_124 := by kernel_rfl
theorem hf_124 : CT.P.funcs[181]? = some Tryz.f181 := by kernel_rfl
noncomputable def T_124 : Tb := mkTb tyT mpT [E_146]
theorem T_124_ok : T_124.Ok CT.P := mkTb_ok (⟨e_146, trivial⟩)
noncomputable def lp_124 {β : Type} : LpT β := fun _ _ _ => none
theorem lp_124_ok {β : Type} : LpTOk CT (lp_124 (β := β)) (loopsOf c_124) := by
  have h : loopsOf c_124 = [] := by kernel_rfl
  rw [h]
  exact LpTOk.nil
noncomputable def F_124 (a1 : Ty.El tVec) (a2 : Ty.El tVec) : Option (Els [tVec] ⊕ Int) := (F_146 a1.fst a2.fst).bind fun v2 => Sum.elim (fun v4 => (F_146 a1.snd a2.snd).bind fun v6 => Sum.elim (fun v8 => Option.some (Sum.inl ((v4.fst, v8.fst), ()))) (fun v9 => Option.some (Sum.inr v9)) v6) (fun v10 => Option.some (Sum.inr v10)) v2
theorem f_124 (x : Ps [.ty tVec, .ty tVec]) : funcP CT T_124 239 [tVec] (drT CT T_124) lp_124 Tryz.f181 c_124 (encPs [.ty tVec, .ty tVec] x) = F_124 x.1 x.2.1 := by kernel_rfl
noncomputable def E_124 : Ent := .mkFnP 181 [] ⟨239, [.ty tVec, .ty tVec], [tVec], fun x => F_124 x.1 x.2.1, false⟩
theorem e_124 : E_124.Ok CT.P := Ent.ofFnP CT_ok T_124_ok hf_124 hb_124 lp_124_ok f_124
noncomputable def E_124h : Ent := .mkFnP 181 [] ⟨239, [.ty tVec, .ty tVec], [tVec], fun x => F_124 x.1 x.2.1, true⟩
/-! ### 135: (*maquette/order.worker).move -/
noncomputable def c_move : Code := Tryz.f135.body.getD .skip
theorem hb_move : Tryz.f135.body = some c_move := by kernel_rfl
theorem hf_move : CT.P.funcs[135]? = some Tryz.f135 := by kernel_rfl
noncomputable def T_move : Tb := mkTb tyT mpT [E_by, E_124]
theorem T_move_ok : T_move.Ok CT.P := mkTb_ok (⟨e_by, e_124, trivial⟩)
noncomputable def lp_move {β : Type} : LpT β := fun _ _ _ => none
theorem lp_move_ok {β : Type} : LpTOk CT (lp_move (β := β)) (loopsOf c_move) := by
  have h : loopsOf c_move = [] := by kernel_rfl
  rw [h]
  exact LpTOk.nil
noncomputable def F_move (a1 : Ty.El tWorker) (a2 : Ty.El tVec) : Option (Els [tVec] ⊕ Int) := (F_by a1).bind fun v2 => (F_124 a2 v2.fst).bind fun v4 => Sum.elim (fun v6 => Option.some (Sum.inl (v6.fst, ()))) (fun v7 => Option.some (Sum.inr v7)) v4
theorem f_move (x : Ps [.roa tWorker, .ty tVec]) : funcP CT T_move 239 [tVec] (drT CT T_move) lp_move Tryz.f135 c_move (encPs [.roa tWorker, .ty tVec] x) = F_move x.1 x.2.1 := by kernel_rfl
noncomputable def E_move : Ent := .mkFnP 135 [] ⟨239, [.roa tWorker, .ty tVec], [tVec], fun x => F_move x.1 x.2.1, false⟩
theorem e_move : E_move.Ok CT.P := Ent.ofFnP CT_ok T_move_ok hf_move hb_move lp_move_ok f_move
noncomputable def E_moveh : Ent := .mkFnP 135 [] ⟨239, [.roa tWorker, .ty tVec], [tVec], fun x => F_move x.1 x.2.1, true⟩
/-! ### 179: (*maquette/order.worker).each$1 -/
noncomputable def c_each1m : Code := Tryz.f179.body.getD .skip
theorem hb_each1m : Tryz.f179.body = some c_each1m := by kernel_rfl
theorem hf_each1m : CT.P.funcs[179]? = some Tryz.f179 := by kernel_rfl
noncomputable abbrev IN_each1m : LayD := ⟨3, [(0, .ptr 0), (1, .ptr 1), (2, .ptr 2)], [.var 51 [.data tVec, .data I, .own tThing 4], .var 23 [.data (.list I)], .var 199 [.cloB 135 [3]], .var 140 [.data tWorker], .row 68 tThing], fun s => [slotR s 0, slotR s 1, slotR s 2, slotHB s (slotR s 2) 0, slotC s 0 3]⟩
noncomputable abbrev OUT_each1m : LayD := ⟨0, [], [.var 51 [.data tVec, .data I, .own tThing 4], .var 23 [.data (.list I)], .var 199 [.cloB 135 [3]], .var 140 [.data tWorker], .row 68 tThing], fun s => [0, 1, 2, 3, slotH s 0 3]⟩
noncomputable def T_each1m : Tb := mkTb tyT mpT [E_59, E_move, E_88]
theorem T_each1m_ok : T_each1m.Ok CT.P := mkTb_ok (⟨e_59, e_move, e_88, trivial⟩)
noncomputable def l_each1m_1 : Code := atLoop c_each1m 1
noncomputable abbrev LD_each1m_1 : LayD := ⟨37, [(0, .ptr 0), (1, .ptr 1), (2, .ptr 2), (6, .own tThing 4), (7, .data I), (8, .data I)], [.var 51 [.data tVec, .data I, .own tThing 4], .var 23 [.data (.list I)], .var 199 [.cloB 135 [3]], .var 140 [.data tWorker], .row 68 tThing], fun s => [0, 1, 2, 3, slotH s 0 3]⟩
noncomputable abbrev LA_each1m_1 : LayD := ⟨37, [], [.var 51 [.data tVec, .data I, .own tThing 4], .var 23 [.data (.list I)], .var 199 [.cloB 135 [3]], .var 140 [.data tWorker], .row 68 tThing], fun s => [0, 1, 2, 3, slotH s 0 3]⟩
noncomputable abbrev LB_each1m_1 : LayD := ⟨37, [], [], fun _ => []⟩
noncomputable def EX_each1m_1 : Exits 4 LA_each1m_1.El LB_each1m_1.El := ⟨.exit 0, LA_each1m_1.lay [], .ret, LB_each1m_1.lay []⟩

noncomputable def lpi_each1m_1 {β : Type} : LpT β := fun _ _ _ => none
theorem lpi_each1m_1_ok {β : Type} : LpTOk (CTp 4) (lpi_each1m_1 (β := β)) (loopsOf l_each1m_1) := by
  have h : loopsOf l_each1m_1 = [] := by kernel_rfl
  rw [h]
  exact LpTOk.nil
noncomputable def G_each1m_1 (r7 : Ty.El I) (r8 : Ty.El I) (b0 : Ty.El tVec × Ty.El I × Unit × Unit) (b1 : Ty.El (.list I) × Unit) (b2 : Unit × Unit) (b3 : Ty.El tWorker × Unit) (b4 : List (Ty.El tThing)) : Option (LD_each1m_1.El ⊕ ((LA_each1m_1.El ⊕ LB_each1m_1.El) ⊕ Int)) := bif Decidable.decide (r8 < r7) then bif Decidable.decide ((0 : Int) ≤ r8 ∧ r8 < (↑b4.length : Int)) then (F_59 b1.fst (b4.getD (Int.toNat r8) Go.DI.S.tThing.dflt).fst).bind fun v2 => bif !v2.fst then Option.some (Sum.inl (((), (), (), (), r7, Go.IntKind.i64.wrap (r8 + (1 : Int)), ()), (b0.fst, b0.snd.fst, (), ()), (b1.fst, ()), ((), ()), (b3.fst, ()), b4, ())) else (F_move b3.fst (b4.getD (Int.toNat r8) Go.DI.S.tThing.dflt).snd.snd.fst.snd.snd.snd.fst).bind fun v4 => Sum.elim (fun v6 => (F_88 ((b4.getD (Int.toNat r8) Go.DI.S.tThing.dflt).snd.snd.fst.fst, (b4.getD (Int.toNat r8) Go.DI.S.tThing.dflt).snd.snd.fst.snd.fst, (b4.getD (Int.toNat r8) Go.DI.S.tThing.dflt).snd.snd.fst.snd.snd.fst, v6.fst, (b4.getD (Int.toNat r8) Go.DI.S.tThing.dflt).snd.snd.fst.snd.snd.snd.snd)).bind fun v8 => bif !v8.fst then Option.some (Sum.inr (Sum.inr (3 : Int))) else bif Decidable.decide ((0 : Int) ≤ r8 ∧ r8 < (↑b4.length : Int)) then Option.some (Sum.inl (((), (), (), (), r7, Go.IntKind.i64.wrap (r8 + (1 : Int)), ()), (b0.fst, b0.snd.fst, (), ()), (b1.fst, ()), ((), ()), (b3.fst, ()), b4.set (Int.toNat r8) ((b4.getD (Int.toNat r8) Go.DI.S.tThing.dflt).fst, (b4.getD (Int.toNat r8) Go.DI.S.tThing.dflt).snd.fst, ((b4.getD (Int.toNat r8) Go.DI.S.tThing.dflt).snd.snd.fst.fst, (b4.getD (Int.toNat r8) Go.DI.S.tThing.dflt).snd.snd.fst.snd.fst, (b4.getD (Int.toNat r8) Go.DI.S.tThing.dflt).snd.snd.fst.snd.snd.fst, v6.fst, (b4.getD (Int.toNat r8) Go.DI.S.tThing.dflt).snd.snd.fst.snd.snd.snd.snd), (b4.getD (Int.toNat r8) Go.DI.S.tThing.dflt).snd.snd.snd), ())) else Option.none) (fun v9 => Option.some (Sum.inr (Sum.inr v9))) v4 else Option.none else Option.some (Sum.inr (Sum.inl (Sum.inl ((), (b0.fst, b0.snd.fst, (), ()), (b1.fst, ()), ((), ()), (b3.fst, ()), b4, ()))))
theorem g_each1m_1 (x : LD_each1m_1.El) : codeT (CTp 4) T_each1m (drT (CTp 4) T_each1m) lpi_each1m_1 l_each1m_1 (LD_each1m_1.enc x) (bodyKP (LD_each1m_1.lay []) EX_each1m_1 239 37) = G_each1m_1 x.1.2.2.2.2.1 x.1.2.2.2.2.2.1 x.2.1 x.2.2.1 x.2.2.2.1 x.2.2.2.2.1 x.2.2.2.2.2.1 := by kernel_rfl
noncomputable def R_each1m_1 : LD_each1m_1.El → Option ((LA_each1m_1.El ⊕ LB_each1m_1.El) ⊕ Int) := roundsT (fun x => G_each1m_1 x.1.2.2.2.2.1 x.1.2.2.2.2.2.1 x.2.1 x.2.2.1 x.2.2.2.1 x.2.2.2.2.1 x.2.2.2.2.2.1) fuel
theorem r_each1m_1 : ∀ x y, R_each1m_1 x = some y → CL (CTp 4) l_each1m_1 (LD_each1m_1.enc x) (Sum.elim (fun ab => Sum.elim (fun _ => EX_each1m_1.xa) (fun _ => EX_each1m_1.xb) ab) (fun e => .pan (faultV 239 e)) y) (Sum.elim (fun ab => Sum.elim EX_each1m_1.la.enc EX_each1m_1.lb.enc ab) (fun _ => panS 4 37) y) :=
  roundsP_ok (L := LD_each1m_1.lay []) (E := EX_each1m_1) (CTp_ok 4) T_each1m_ok (drT_ok (CTp_ok 4) T_each1m_ok) lpi_each1m_1_ok g_each1m_1 rfl rfl (fun v h => by have hh : (.exit 0 : AX) = .pan v := h; cases hh) (fun v h => by have hh : (.ret : AX) = .pan v := h; cases hh) fuel
noncomputable def lp_each1m {β : Type} : LpT β := fun k s K => if Nat.beq k 1 then lpOneP (LD_each1m_1.lay []) EX_each1m_1 239 37 R_each1m_1 s K else none
theorem lp_each1m_ok {β : Type} : LpTOk (CTp 4) (lp_each1m (β := β)) (loopsOf c_each1m) := by
  have h : loopsOf c_each1m = [(1, l_each1m_1)] := by kernel_rfl
  rw [h]
  exact LpTOk.cons (fun s K z h => lpOneP_ok r_each1m_1 h) (LpTOk.nil)
noncomputable def F_each1m (b0 : Ty.El tVec × Ty.El I × Unit × Unit) (b1 : Ty.El (.list I) × Unit) (b2 : Unit × Unit) (b3 : Ty.El tWorker × Unit) (b4 : List (Ty.El tThing)) : Option (OUT_each1m.El ⊕ Int) := (R_each1m_1 (((), (), (), (), (↑b4.length : Int), (0 : Int), ()), (b0.fst, b0.snd.fst, (), ()), (b1.fst, ()), ((), ()), (b3.fst, ()), b4, ())).bind fun v1 => Sum.elim (fun v2 => Sum.elim (fun v3 => Option.some (Sum.inl ((), (v3.snd.fst.fst, v3.snd.fst.snd.fst, (), ()), (v3.snd.snd.fst.fst, ()), ((), ()), (v3.snd.snd.snd.snd.fst.fst, ()), v3.snd.snd.snd.snd.snd.fst, ()))) (fun v4 => Option.none) v2) (fun v5 => Option.some (Sum.inr v5)) v1
theorem f_each1m (x : IN_each1m.El) : funcXP (CTp 4) T_each1m 239 IN_each1m OUT_each1m [] (drT (CTp 4) T_each1m) lp_each1m Tryz.f179 c_each1m x = F_each1m x.2.1 x.2.2.1 x.2.2.2.1 x.2.2.2.2.1 x.2.2.2.2.2.1 := by kernel_rfl
noncomputable def E_each1m : Ent := .mkGenP 179 [] ⟨239, 4, [], IN_each1m, OUT_each1m, fun x => F_each1m x.2.1 x.2.2.1 x.2.2.2.1 x.2.2.2.2.1 x.2.2.2.2.2.1⟩
theorem e_each1m : E_each1m.Ok CT.P := Ent.ofGenP (C := (CTp 4)) (steps := []) (osteps := []) (CTp_ok 4) T_each1m_ok hf_each1m hb_each1m lp_each1m_ok f_each1m
end Go.DI.S

