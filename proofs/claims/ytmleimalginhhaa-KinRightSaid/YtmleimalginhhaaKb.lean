import Derived.Test.YtmleimalginhhaaKa
import Derived.Test.YtmleimalginhhaaWa
import Derived.Test.YtmleimalginhhaaUa
/- KinUps: told by functions on data, and what these come to. No conditions. -/
/-! The program's functions, told by functions on data. -/
set_option linter.unusedVariables false
set_option maxRecDepth 100000
set_option maxHeartbeats 0
namespace Go.DI.S
open Go.Proofs
/-! ### 11: maquette/maquettelaw20.KinUps -/
noncomputable def c_11 : Code := Try.f11.body.getD .skip
theorem hb_11 : Try.f11.body = some c_11 := by kernel_rfl
theorem hf_11 : CT.P.funcs[11]? = some Try.f11 := by kernel_rfl
noncomputable def T_11 : Tb := mkTb tyT mpT [E_20, E_22, E_36, E_37, E_38]
theorem T_11_ok : T_11.Ok CT.P := mkTb_ok (⟨e_20, e_22, e_36, e_37, e_38, trivial⟩)
noncomputable def l_11_5 : Code := atLoop c_11 5
noncomputable def l_11_8 : Code := atLoop l_11_5 8
noncomputable def l_11_11 : Code := atLoop l_11_8 11
noncomputable abbrev LD_11_11 : LayD := ⟨72, [(2, .data (.list tThing)), (7, .ptr 0), (9, .ptr 1), (10, .data I), (11, .data I), (12, .data .bool), (32, .data (.list tThing)), (33, .data I), (34, .data I), (44, .data (.list I)), (45, .data I), (46, .data I)], [.var 36 [.data tScene], .var 32 [.data tThing]], fun s => [slotR s 7, slotR s 9]⟩
noncomputable abbrev LA_11_11 : LayD := ⟨72, [(2, .data (.list tThing)), (7, .ptr 0), (9, .ptr 1), (10, .data I), (11, .data I), (12, .data .bool), (32, .data (.list tThing)), (33, .data I), (34, .data I)], [.var 36 [.data tScene], .var 32 [.data tThing]], fun s => [slotR s 7, slotR s 9]⟩
noncomputable abbrev LB_11_11 : LayD := ⟨72, [], [], fun _ => []⟩
noncomputable def EX_11_11 : Exits 0 LA_11_11.El LB_11_11.El := ⟨.exit 4, LA_11_11.lay [], .ret, LB_11_11.lay []⟩

noncomputable def lpi_11_11 {β : Type} : LpT β := fun _ _ _ => none
theorem lpi_11_11_ok {β : Type} : LpTOk CT (lpi_11_11 (β := β)) (loopsOf l_11_11) := by
  have h : loopsOf l_11_11 = [] := by kernel_rfl
  rw [h]
  exact LpTOk.nil
noncomputable def G_11_11 (r2 : Ty.El (.list tThing)) (r10 : Ty.El I) (r11 : Ty.El I) (r12 : Ty.El .bool) (r32 : Ty.El (.list tThing)) (r33 : Ty.El I) (r34 : Ty.El I) (r44 : Ty.El (.list I)) (r45 : Ty.El I) (r46 : Ty.El I) (b0 : Ty.El tScene × Unit) (b1 : Ty.El tThing × Unit) : Option (LD_11_11.El ⊕ (LA_11_11.El ⊕ LB_11_11.El)) :=
  bif Decidable.decide (r46 < r45) then
    bif Decidable.decide ((0 : Int) ≤ r46 ∧ r46 < (↑(List.length r44) : Int)) then
      bif r12 then Option.some (Sum.inl ((r2, (), (), r10, r11, Bool.true, r32, r33, r34, r44, r45, Go.IntKind.i64.wrap (r46 + (1 : Int)), ()), (b0.fst, ()), (b1.fst, ()), ()))
      else
        Option.some
          (Sum.inl
            ((r2, (), (), r10, r11, List.getD r44 (Int.toNat r46) (0 : Int) == b1.fst.fst, r32, r33, r34, r44, r45, Go.IntKind.i64.wrap (r46 + (1 : Int)), ()), (b0.fst, ()),
              (b1.fst, ()), ()))
    else Option.none
  else Option.some (Sum.inr (Sum.inl ((r2, (), (), r10, r11, r12, r32, r33, r34, ()), (b0.fst, ()), (b1.fst, ()), ())))
theorem g_11_11 (x : LD_11_11.El) : codeT CT T_11 (drT CT T_11) lpi_11_11 l_11_11 (LD_11_11.enc x) (bodyK (LD_11_11.lay []) EX_11_11) = G_11_11 x.1.1 x.1.2.2.2.1 x.1.2.2.2.2.1 x.1.2.2.2.2.2.1 x.1.2.2.2.2.2.2.1 x.1.2.2.2.2.2.2.2.1 x.1.2.2.2.2.2.2.2.2.1 x.1.2.2.2.2.2.2.2.2.2.1 x.1.2.2.2.2.2.2.2.2.2.2.1 x.1.2.2.2.2.2.2.2.2.2.2.2.1 x.2.1 x.2.2.1 := by kernel_rfl
noncomputable def R_11_11 : LD_11_11.El → Option (LA_11_11.El ⊕ LB_11_11.El) := roundsT (fun x => G_11_11 x.1.1 x.1.2.2.2.1 x.1.2.2.2.2.1 x.1.2.2.2.2.2.1 x.1.2.2.2.2.2.2.1 x.1.2.2.2.2.2.2.2.1 x.1.2.2.2.2.2.2.2.2.1 x.1.2.2.2.2.2.2.2.2.2.1 x.1.2.2.2.2.2.2.2.2.2.2.1 x.1.2.2.2.2.2.2.2.2.2.2.2.1 x.2.1 x.2.2.1) fuel
theorem r_11_11 : ∀ x y, R_11_11 x = some y → CL CT l_11_11 (LD_11_11.enc x) (Sum.elim (fun _ => EX_11_11.xa) (fun _ => EX_11_11.xb) y) (Sum.elim EX_11_11.la.enc EX_11_11.lb.enc y) :=
  rounds_ok (L := LD_11_11.lay []) (E := EX_11_11) CT_ok T_11_ok (drT_ok CT_ok T_11_ok) lpi_11_11_ok g_11_11 rfl rfl (fun v h => by have hh : (.exit 4 : AX) = .pan v := h; cases hh) (fun v h => by have hh : (.ret : AX) = .pan v := h; cases hh) fuel
noncomputable abbrev LD_11_8 : LayD := ⟨72, [(2, .data (.list tThing)), (7, .ptr 0), (9, .ptr 1), (10, .data I), (11, .data I), (32, .data (.list tThing)), (33, .data I), (34, .data I)], [.var 36 [.data tScene], .var 32 [.data tThing]], fun s => [slotR s 7, slotR s 9]⟩
noncomputable abbrev LA_11_8 : LayD := ⟨72, [(2, .data (.list tThing)), (7, .ptr 0), (32, .data (.list tThing)), (33, .data I), (34, .data I)], [.var 36 [.data tScene]], fun s => [slotR s 7]⟩
noncomputable abbrev LB_11_8 : LayD := ⟨72, [(6, .data .bool)], [], fun _ => []⟩
noncomputable def EX_11_8 : Exits 0 LA_11_8.El LB_11_8.El := ⟨.exit 2, LA_11_8.lay [], .ret, LB_11_8.lay []⟩

noncomputable def lpi_11_8 {β : Type} : LpT β := fun k s K => if Nat.beq k 11 then lpOne (LD_11_11.lay []) EX_11_11 R_11_11 s K else none
theorem lpi_11_8_ok {β : Type} : LpTOk CT (lpi_11_8 (β := β)) (loopsOf l_11_8) := by
  have h : loopsOf l_11_8 = [(11, l_11_11)] := by kernel_rfl
  rw [h]
  exact LpTOk.cons (fun s K z h => lpOne_ok r_11_11 h) (LpTOk.nil)
noncomputable def G_11_8 (r2 : Ty.El (.list tThing)) (r10 : Ty.El I) (r11 : Ty.El I) (r32 : Ty.El (.list tThing)) (r33 : Ty.El I) (r34 : Ty.El I) (b0 : Ty.El tScene × Unit) (b1 : Ty.El tThing × Unit) : Option (LD_11_8.El ⊕ (LA_11_8.El ⊕ LB_11_8.El)) :=
  bif r10 != (0 : Int) then
    (F_37 b0.fst r10).bind fun v2 =>
      (R_11_11 ((r2, (), (), r10, r11, Bool.false, r32, r33, r34, v2.fst, (↑(List.length v2.fst) : Int), (0 : Int), ()), (b0.fst, ()), (b1.fst, ()), ())).bind fun v3 =>
        Sum.elim
          (fun v4 =>
            bif !v4.fst.snd.snd.snd.snd.snd.fst then Option.some (Sum.inr (Sum.inr ((Bool.false, ()), ())))
            else
              bif Decidable.decide (v4.fst.snd.snd.snd.snd.fst > (↑(List.length v4.fst.fst) : Int)) then Option.some (Sum.inr (Sum.inr ((Bool.false, ()), ())))
              else
                (F_38 v4.snd.fst.fst v4.fst.snd.snd.snd.fst).bind fun v6 =>
                  Option.some
                    (Sum.inl
                      ((v4.fst.fst, (), (), v6.fst, Go.IntKind.i64.wrap (v4.fst.snd.snd.snd.snd.fst + (1 : Int)), v4.fst.snd.snd.snd.snd.snd.snd.fst,
                          v4.fst.snd.snd.snd.snd.snd.snd.snd.fst, v4.fst.snd.snd.snd.snd.snd.snd.snd.snd.fst, ()),
                        (v4.snd.fst.fst, ()), (v4.snd.snd.fst.fst, ()), ())))
          (fun v7 => Option.none) v3
  else Option.some (Sum.inr (Sum.inl ((r2, (), r32, r33, r34, ()), (b0.fst, ()), ())))
theorem g_11_8 (x : LD_11_8.El) : codeT CT T_11 (drT CT T_11) lpi_11_8 l_11_8 (LD_11_8.enc x) (bodyK (LD_11_8.lay []) EX_11_8) = G_11_8 x.1.1 x.1.2.2.2.1 x.1.2.2.2.2.1 x.1.2.2.2.2.2.1 x.1.2.2.2.2.2.2.1 x.1.2.2.2.2.2.2.2.1 x.2.1 x.2.2.1 := by kernel_rfl
noncomputable def R_11_8 : LD_11_8.El → Option (LA_11_8.El ⊕ LB_11_8.El) := roundsT (fun x => G_11_8 x.1.1 x.1.2.2.2.1 x.1.2.2.2.2.1 x.1.2.2.2.2.2.1 x.1.2.2.2.2.2.2.1 x.1.2.2.2.2.2.2.2.1 x.2.1 x.2.2.1) fuel
theorem r_11_8 : ∀ x y, R_11_8 x = some y → CL CT l_11_8 (LD_11_8.enc x) (Sum.elim (fun _ => EX_11_8.xa) (fun _ => EX_11_8.xb) y) (Sum.elim EX_11_8.la.enc EX_11_8.lb.enc y) :=
  rounds_ok (L := LD_11_8.lay []) (E := EX_11_8) CT_ok T_11_ok (drT_ok CT_ok T_11_ok) lpi_11_8_ok g_11_8 rfl rfl (fun v h => by have hh : (.exit 2 : AX) = .pan v := h; cases hh) (fun v h => by have hh : (.ret : AX) = .pan v := h; cases hh) fuel
noncomputable abbrev LD_11_5 : LayD := ⟨72, [(2, .data (.list tThing)), (7, .ptr 0), (32, .data (.list tThing)), (33, .data I), (34, .data I)], [.var 36 [.data tScene]], fun s => [slotR s 7]⟩
noncomputable abbrev LA_11_5 : LayD := ⟨72, [], [], fun _ => []⟩
noncomputable abbrev LB_11_5 : LayD := ⟨72, [(6, .data .bool)], [], fun _ => []⟩
noncomputable def EX_11_5 : Exits 0 LA_11_5.El LB_11_5.El := ⟨.exit 0, LA_11_5.lay [], .ret, LB_11_5.lay []⟩

noncomputable def lpi_11_5 {β : Type} : LpT β := fun k s K => if Nat.beq k 8 then lpOne (LD_11_8.lay []) EX_11_8 R_11_8 s K else none
theorem lpi_11_5_ok {β : Type} : LpTOk CT (lpi_11_5 (β := β)) (loopsOf l_11_5) := by
  have h : loopsOf l_11_5 = [(8, l_11_8)] := by kernel_rfl
  rw [h]
  exact LpTOk.cons (fun s K z h => lpOne_ok r_11_8 h) (LpTOk.nil)
noncomputable def G_11_5 (r2 : Ty.El (.list tThing)) (r32 : Ty.El (.list tThing)) (r33 : Ty.El I) (r34 : Ty.El I) (b0 : Ty.El tScene × Unit) : Option (LD_11_5.El ⊕ (LA_11_5.El ⊕ LB_11_5.El)) :=
  bif Decidable.decide (r34 < r33) then
    bif Decidable.decide ((0 : Int) ≤ r34 ∧ r34 < (↑(List.length r32) : Int)) then
      (R_11_8
            ((r2, (), (), (List.getD r32 (Int.toNat r34) Go.DI.S.tThing.dflt).fst, (0 : Int), r32, r33, r34, ()), (b0.fst, ()),
              (List.getD r32 (Int.toNat r34) Go.DI.S.tThing.dflt, ()), ())).bind
        fun v1 =>
        Sum.elim
          (fun v2 =>
            Option.some
              (Sum.inl ((v2.fst.fst, (), v2.fst.snd.snd.fst, v2.fst.snd.snd.snd.fst, Go.IntKind.i64.wrap (v2.fst.snd.snd.snd.snd.fst + (1 : Int)), ()), (v2.snd.fst.fst, ()), ())))
          (fun v3 => Option.some (Sum.inr (Sum.inr ((v3.fst.fst, ()), ())))) v1
    else Option.none
  else Option.some (Sum.inr (Sum.inl ((), ())))
theorem g_11_5 (x : LD_11_5.El) : codeT CT T_11 (drT CT T_11) lpi_11_5 l_11_5 (LD_11_5.enc x) (bodyK (LD_11_5.lay []) EX_11_5) = G_11_5 x.1.1 x.1.2.2.1 x.1.2.2.2.1 x.1.2.2.2.2.1 x.2.1 := by kernel_rfl
noncomputable def R_11_5 : LD_11_5.El → Option (LA_11_5.El ⊕ LB_11_5.El) := roundsT (fun x => G_11_5 x.1.1 x.1.2.2.1 x.1.2.2.2.1 x.1.2.2.2.2.1 x.2.1) fuel
theorem r_11_5 : ∀ x y, R_11_5 x = some y → CL CT l_11_5 (LD_11_5.enc x) (Sum.elim (fun _ => EX_11_5.xa) (fun _ => EX_11_5.xb) y) (Sum.elim EX_11_5.la.enc EX_11_5.lb.enc y) :=
  rounds_ok (L := LD_11_5.lay []) (E := EX_11_5) CT_ok T_11_ok (drT_ok CT_ok T_11_ok) lpi_11_5_ok g_11_5 rfl rfl (fun v h => by have hh : (.exit 0 : AX) = .pan v := h; cases hh) (fun v h => by have hh : (.ret : AX) = .pan v := h; cases hh) fuel
noncomputable def lp_11 {β : Type} : LpT β := fun k s K => if Nat.beq k 5 then lpOne (LD_11_5.lay []) EX_11_5 R_11_5 s K else none
theorem lp_11_ok {β : Type} : LpTOk CT (lp_11 (β := β)) (loopsOf c_11) := by
  have h : loopsOf c_11 = [(5, l_11_5)] := by kernel_rfl
  rw [h]
  exact LpTOk.cons (fun s K z h => lpOne_ok r_11_5 h) (LpTOk.nil)
noncomputable def F_11 (a1 : Ty.El tVec) (a2 : Ty.El I) (a3 : Ty.El (.list tThing)) : Option (Els [.bool]) :=
  (F_22 a3).bind fun v2 =>
    bif !v2.fst then F_36.bind fun v4 => Option.some (v4.fst, ())
    else
      (F_20 (a1, a2, a3)).bind fun v6 =>
        bif !v6.fst then F_36.bind fun v8 => Option.some (v8.fst, ())
        else
          F_36.bind fun v10 =>
            bif !v10.fst then F_36.bind fun v12 => Option.some (v12.fst, ())
            else
              (R_11_5 ((a3, (), a3, (↑(List.length a3) : Int), (0 : Int), ()), ((a1, a2, a3), ()), ())).bind fun v13 =>
                Sum.elim (fun v14 => Option.some (Bool.true, ())) (fun v15 => Option.some (v15.fst.fst, ())) v13
theorem f_11 (x : Ps [.ty tVec, .ty I, .ty (.list tThing)]) : funcT CT T_11 [.bool] (drT CT T_11) lp_11 Try.f11 c_11 (encPs [.ty tVec, .ty I, .ty (.list tThing)] x) = F_11 x.1 x.2.1 x.2.2.1 := by kernel_rfl
noncomputable def E_11 : Ent := .fn 11 [] ⟨[.ty tVec, .ty I, .ty (.list tThing)], [.bool], fun x => F_11 x.1 x.2.1 x.2.2.1, false⟩
theorem e_11 : E_11.Ok CT.P := Ent.ofFn CT_ok T_11_ok hf_11 hb_11 lp_11_ok f_11
noncomputable def E_11h : Ent := .fn 11 [] ⟨[.ty tVec, .ty I, .ty (.list tThing)], [.bool], fun x => F_11 x.1 x.2.1 x.2.2.1, true⟩
end Go.DI.S

/-! What lies in a thing; KinUps, plain. -/
set_option linter.unusedVariables false
set_option linter.unusedSimpArgs false
set_option maxRecDepth 100000
namespace Go.DI.S
open Go.Proofs

/-! ### contains; the group of a thing -/
theorem v_59 (l : List Int) (a : Int) (hl : l.length ≤ 1000000000) : F_59 l a = some ((l.contains a, ()) : Els [.bool]) := by
  have h := find_loop (G := fun x => G_101_2 x.1.1 x.1.2.1 x.1.2.2.1 x.1.2.2.2.1) (m := fuel) l (fun x => a == x) (fun k => ((l, a, (l.length : Int), (k : Int), ()), ())) (fun k => .inr (((k : Int), ()), ())) (.inl ((), ()))
    (fun k x hx => ?_) ?_ (fuel_lt hl)
  · have h2 : F_101 l a = some (((match l.findIdx? (fun x => a == x) with | some k => (k : Int) | none => -1), ()) : Els [I]) := by
      unfold F_101 R_101_2
      rw [show (0 : Int) = ((0 : Nat) : Int) from rfl, h]
      cases l.findIdx? (fun x => a == x) <;> rfl
    unfold F_59
    rw [h2]
    cases hx : l.findIdx? (fun x => a == x) with
    | none =>
      rw [List.findIdx?_eq_none_iff] at hx
      have : l.contains a = false := by
        rw [Bool.eq_false_iff]
        intro hc
        have hm : a ∈ l := by simpa using hc
        have := hx a hm
        simp at this
      rw [this]; rfl
    | some k =>
      rw [List.findIdx?_eq_some_iff_getElem] at hx
      obtain ⟨h1, h2, _⟩ := hx
      have : l.contains a = true := by
        have e : a = l[k] := by simpa using h2
        have : a ∈ l := by rw [e]; exact List.getElem_mem h1
        simpa using this
      rw [this]
      show some ((decide ((k : Int) ≥ 0), ()) : Els [.bool]) = _
      rw [decide_eq_true (by omega : (k : Int) ≥ 0)]
  · have hk := len_of hx
    simp only [G_101_2, dec_lt hk, dec_in hk, cond_true, getD_of hx, wrap_up hk (by omega)]
    cases (a == x) <;> rfl
  · simp only [G_101_2, dec_end, cond_false]
theorem v_38 (s : Scene) (n : Int) (hs : Small s.2.2) (hr : rightB s = true) : F_38 s n = some ((grp s.2.2 n, ()) : Els [I]) := by
  have key : ∀ (d m k : Nat), k + d = s.2.2.length → d < m → roundsT (fun x => G_38_4 x.1.1 x.1.2.1 x.1.2.2.1 x.1.2.2.2.1) m ((n, s.2.2, (s.2.2.length : Int), (k : Int), ()), ()) = some (match (s.2.2.drop k).find? (fun t => (ins t).contains n) with | some t => .inr ((nid t, ()), ()) | none => .inl ((), ())) := by
    intro d
    induction d with
    | zero =>
      intro m k hk hm
      obtain ⟨m, rfl⟩ : ∃ j, m = j + 1 := ⟨m - 1, by omega⟩
      have : k = s.2.2.length := by omega
      subst this
      rw [rounds_out (y := .inl ((), ())) (by simp only [G_38_4, dec_end, cond_false]), List.drop_length]
      rfl
    | succ d ih =>
      intro m k hk hm
      obtain ⟨m, rfl⟩ : ∃ j, m = j + 1 := ⟨m - 1, by omega⟩
      have hlt : k < s.2.2.length := by omega
      have ha := List.getElem?_eq_getElem hlt
      have hv := v_59 (ins s.2.2[k]) n (hs.2 _ (List.getElem_mem hlt))
      rw [List.drop_eq_getElem_cons hlt, List.find?_cons]
      have hG : G_38_4 n s.2.2 (s.2.2.length : Int) (k : Int) = (bif (ins s.2.2[k]).contains n then some (.inr (.inr ((nid s.2.2[k], ()), ()))) else some (.inl ((n, s.2.2, (s.2.2.length : Int), ((k + 1 : Nat) : Int), ()), ()))) := by
        simp only [G_38_4, dec_lt hlt, dec_in hlt, cond_true, getD_of ha, wrap_up hlt (by have := hs.1; omega)]
        show (F_59 (ins s.2.2[k]) n).bind _ = _
        rw [hv]; rfl
      cases hc : (ins s.2.2[k]).contains n with
      | true =>
        rw [hc] at hG
        rw [rounds_out (y := .inr ((nid s.2.2[k], ()), ())) hG]
      | false =>
        rw [hc] at hG
        rw [rounds_in (x' := ((n, s.2.2, (s.2.2.length : Int), ((k + 1 : Nat) : Int), ()), ())) hG, ih m (k + 1) (by omega) (by omega)]
  have h := key s.2.2.length fuel 0 (by omega) (fuel_lt hs.1)
  rw [List.drop_zero] at h
  unfold F_38 R_38_4
  rw [v_20 s hs, hr]
  simp only [Option.bind_some, Bool.not_true, cond_false]
  rw [show (0 : Int) = ((0 : Nat) : Int) from rfl, h]
  unfold grp
  cases s.2.2.find? (fun t => (ins t).contains n) <;> rfl

/-! ### what lies in a thing -/
def inT (l : List Thing) : Nat → Int → List Int
  | 0, _ => []
  | f + 1, id => match idx l id with
    | some k => id :: (ins ((l[k]?).getD noThing)).flatMap (inT l f)
    | none => []
section
variable {s : Scene}
theorem idx_is {l : List Thing} {n : Int} (hn : Is l n) : ∃ (k : Nat) (t : Thing), idx l n = some k ∧ l[k]? = some t ∧ nid t = n := by
  obtain ⟨t, ht, e⟩ := hn
  cases hx : idx l n with
  | none =>
    unfold idx at hx
    rw [List.findIdx?_eq_none_iff] at hx
    have := hx t ht
    rw [e] at this
    simp at this
  | some k =>
    obtain ⟨t, h1, h2⟩ := idx_lt hx
    exact ⟨k, t, rfl, h1, h2⟩
theorem inT_succ {l : List Thing} {n : Int} (hn : Is l n) : ∃ t ∈ l, nid t = n ∧ ∀ f, inT l (f + 1) n = n :: (ins t).flatMap (inT l f) := by
  obtain ⟨k, t, h1, h2, h3⟩ := idx_is hn
  refine ⟨t, List.mem_of_getElem? h2, h3, fun f => ?_⟩
  show (match idx l n with | some k => n :: (ins ((l[k]?).getD noThing)).flatMap (inT l f) | none => []) = _
  rw [h1]
  show n :: (ins ((l[k]?).getD noThing)).flatMap (inT l f) = _
  rw [h2]; rfl
/-- Things of one number are one. -/
theorem Rt.one (h : Rt s) {t u : Thing} (ht : t ∈ s.2.2) (hu : u ∈ s.2.2) (e : nid t = nid u) : t = u := by
  obtain ⟨i, hi, rfl⟩ := List.mem_iff_getElem.1 ht
  obtain ⟨j, hj, rfl⟩ := List.mem_iff_getElem.1 hu
  rcases Nat.lt_trichotomy i j with h1 | h1 | h1
  · have := h.asc i j _ _ h1 (List.getElem?_eq_getElem hi) (List.getElem?_eq_getElem hj); omega
  · subst h1; rfl
  · have := h.asc j i _ _ h1 (List.getElem?_eq_getElem hj) (List.getElem?_eq_getElem hi); omega
theorem Rt.below (h : Rt s) (hs : Small s.2.2) : ∀ (f : Nat) (n : Int), Is s.2.2 n → ∀ x ∈ inT s.2.2 f n, Is s.2.2 x ∧ ∃ e, upn s.2.2 e x = n
  | 0, n, _, x, hx => by simp [inT] at hx
  | f + 1, n, hn, x, hx => by
    obtain ⟨t, ht, e, hf⟩ := inT_succ hn
    rw [hf f] at hx
    rcases List.mem_cons.1 hx with rfl | hx
    · exact ⟨hn, 0, rfl⟩
    · obtain ⟨m, hm, hx⟩ := List.mem_flatMap.1 hx
      obtain ⟨h1, e1, h2⟩ := h.below hs f m (h.member hs ht hm) x hx
      exact ⟨h1, e1 + 1, by rw [upn_succ, h2, grp_in h.apart ht hm, e]⟩
theorem nodup_flat {α : Type} (f : Int → List α) : ∀ (l : List Int), l.Nodup → (∀ a ∈ l, (f a).Nodup) → (∀ a ∈ l, ∀ b ∈ l, ∀ x, x ∈ f a → x ∈ f b → a = b) → (l.flatMap f).Nodup
  | [], _, _, _ => .nil
  | a :: l, hn, h1, h2 => by
    rw [List.flatMap_cons, List.nodup_append]
    obtain ⟨n1, n2⟩ := List.nodup_cons.1 hn
    refine ⟨h1 a List.mem_cons_self, nodup_flat f l n2 (fun b hb => h1 b (List.mem_cons_of_mem _ hb)) (fun b hb c hc => h2 b (List.mem_cons_of_mem _ hb) c (List.mem_cons_of_mem _ hc)), fun x hx y hy e => ?_⟩
    subst e
    obtain ⟨b, hb, hxb⟩ := List.mem_flatMap.1 hy
    exact n1 (h2 a List.mem_cons_self b (List.mem_cons_of_mem _ hb) x hx hxb ▸ hb)
theorem ins_nodup {l : List Thing} (h : Apart l) {t : Thing} (ht : t ∈ l) : (ins t).Nodup := by
  induction l with
  | nil => simp at ht
  | cons u l ih =>
    have h2 : (ins u ++ l.flatMap ins).Nodup := h
    rw [List.nodup_append] at h2
    rcases List.mem_cons.1 ht with rfl | ht
    · exact h2.1
    · exact ih h2.2.1 ht
theorem Rt.differ (h : Rt s) (hs : Small s.2.2) {n a b x : Int} (hn : Is s.2.2 n) (ga : grp s.2.2 a = n) (gb : grp s.2.2 b = n) {i j : Nat} (hij : i < j) (ha : upn s.2.2 i x = a) (hb : upn s.2.2 j x = b) : False := by
  obtain ⟨d, rfl⟩ : ∃ d, j = (d + 1) + i := ⟨j - i - 1, by omega⟩
  rw [upn_add, ha] at hb
  have h1 : upn s.2.2 d n = b := by rw [← ga]; exact hb
  have h2 : upn s.2.2 (d + 1) n = n := by rw [upn_succ, h1, gb]
  exact h.acyclic hs hn (d + 1) (by omega) h2
theorem Rt.once (h : Rt s) (hs : Small s.2.2) : ∀ (f : Nat) (n : Int), Is s.2.2 n → (inT s.2.2 f n).Nodup
  | 0, n, _ => .nil
  | f + 1, n, hn => by
    obtain ⟨t, ht, e, hf⟩ := inT_succ hn
    rw [hf f, List.nodup_cons]
    refine ⟨fun hx => ?_, nodup_flat _ _ (ins_nodup h.apart ht) (fun a ha => h.once hs f a (h.member hs ht ha)) fun a ha b hb x hxa hxb => ?_⟩
    · obtain ⟨m, hm, hx⟩ := List.mem_flatMap.1 hx
      obtain ⟨_, e1, h2⟩ := h.below hs f m (h.member hs ht hm) n hx
      refine h.acyclic hs hn (e1 + 1) (by omega) ?_
      rw [upn_succ, h2, grp_in h.apart ht hm, e]
    · obtain ⟨_, i, hi⟩ := h.below hs f a (h.member hs ht ha) x hxa
      obtain ⟨_, j, hj⟩ := h.below hs f b (h.member hs ht hb) x hxb
      have ga := (grp_in h.apart ht ha).trans e
      have gb := (grp_in h.apart ht hb).trans e
      rcases Nat.lt_trichotomy i j with h1 | h1 | h1
      · exact (h.differ hs hn ga gb h1 hi hj).elim
      · subst h1; rw [← hi, ← hj]
      · exact (h.differ hs hn gb ga h1 hj hi).elim
theorem Rt.few (h : Rt s) (hs : Small s.2.2) (f : Nat) {n : Int} (hn : Is s.2.2 n) : (inT s.2.2 f n).length ≤ 40 := by
  have h1 := nodup_len (inT s.2.2 f n) (s.2.2.map nid) (h.once hs f n hn) fun x hx => by
    obtain ⟨t, ht, e⟩ := (h.below hs f n hn x hx).1
    exact List.mem_map.2 ⟨t, ht, e⟩
  have := h.len
  simp at h1
  omega
theorem v_73n (h : Rt s) (hs : Small s.2.2) : ∀ (f e : Nat) (n : Int), Is s.2.2 n → (∀ j, j ≤ e → upn s.2.2 j n ≠ 0) → s.2.2.length + 1 ≤ f + e → F_73n f s n = some (inT s.2.2 f n)
  | 0, e, n, hn, hu, hf => by
    obtain ⟨k, hk, h0⟩ := h.top hs hn
    exact (hu k (by omega) h0).elim
  | f + 1, e, n, hn, hu, hf => by
    obtain ⟨k0, t, h1, h2, h3⟩ := idx_is hn
    have ht := List.mem_of_getElem? h2
    have hfew := h.few hs (f + 1) hn
    have hT : inT s.2.2 (f + 1) n = n :: (ins t).flatMap (inT s.2.2 f) := by
      show (match idx s.2.2 n with | some k => n :: (ins ((s.2.2[k]?).getD noThing)).flatMap (inT s.2.2 f) | none => []) = _
      rw [h1]
      show n :: (ins ((s.2.2[k0]?).getD noThing)).flatMap (inT s.2.2 f) = _
      rw [h2]; rfl
    rw [hT] at hfew ⊢
    have key : ∀ (d m k : Nat) (row : List Int), k + d = (ins t).length → d < m → row.length + (((ins t).drop k).flatMap (inT s.2.2 f)).length ≤ 1000 →
        roundsT (fun x => (G_73_6 (F_73n f)) x.1.2.2.1 x.1.2.2.2.1 x.1.2.2.2.2.1 x.2.1 x.2.2.1) m (((), (), ins t, ((ins t).length : Int), (k : Int), ()), (s, ()), row, ()) = some (.inl (((), ()), row ++ ((ins t).drop k).flatMap (inT s.2.2 f), ())) := by
      intro d
      induction d with
      | zero =>
        intro m k row hk hm hr
        obtain ⟨m, rfl⟩ : ∃ j, m = j + 1 := ⟨m - 1, by omega⟩
        have : k = (ins t).length := by omega
        subst this
        rw [rounds_out (y := .inl (((), ()), row, ())) (by simp only [G_73_6, dec_end, cond_false]), List.drop_length]
        simp
      | succ d ih =>
        intro m k row hk hm hr
        obtain ⟨m, rfl⟩ : ∃ j, m = j + 1 := ⟨m - 1, by omega⟩
        have hlt : k < (ins t).length := by omega
        have ha := List.getElem?_eq_getElem hlt
        have hmem := List.getElem_mem hlt
        rw [List.drop_eq_getElem_cons hlt, List.flatMap_cons, List.length_append] at hr
        have hc := v_73n h hs f (e + 1) (ins t)[k] (h.member hs ht hmem) (fun j hj => by
          cases j with
          | zero => exact h.pos (h.member hs ht hmem)
          | succ j =>
            show upn s.2.2 j (grp s.2.2 (ins t)[k]) ≠ 0
            rw [grp_in h.apart ht hmem, h3]
            exact hu j (by omega)) (by omega)
        rw [rounds_in (x' := (((), (), ins t, ((ins t).length : Int), ((k + 1 : Nat) : Int), ()), (s, ()), row ++ inT s.2.2 f (ins t)[k], ())) ?_ m]
        · rw [ih m (k + 1) _ (by omega) (by omega) (by rw [List.length_append]; omega), List.drop_eq_getElem_cons hlt, List.flatMap_cons, List.append_assoc]
        · simp only [G_73_6, dec_lt hlt, dec_in hlt, cond_true, getD_of ha, hc, Option.bind_some, wrap_up hlt (by have := hs.2 t ht; have e : (ins t).length = t.2.2.2.2.length := rfl; omega)]
          rw [show Nat.ble ((row.length + (inT s.2.2 f (ins t)[k]).length) * 8) 70368744177664 = true from Nat.ble_eq_true_of_le (by omega)]
          rfl
    have hk := key (ins t).length fuel 0 [n] (by omega) (fuel_lt (hs.2 t ht)) (by rw [List.drop_zero]; simp only [List.length_cons, List.length_nil] at hfew ⊢; omega)
    rw [List.drop_zero] at hk
    show F_73b (F_73n f) s n = _
    unfold F_73b R_73_6
    rw [v_23 s n hs.1 hs.2]
    have hg : getB s.2.2 n = (t, true) := by
      unfold getB
      rw [h1]
      show (((s.2.2[k0]?).getD noThing), true) = _
      rw [h2]; rfl
    rw [hg]
    simp only [Option.bind_some, Bool.not_true, cond_false]
    show (roundsT _ fuel (((), (), ins t, ((ins t).length : Int), ((0 : Nat) : Int), ()), (s, ()), [n], ())).bind _ = _
    rw [hk]
    rfl
theorem v_37 (hr : rightB s = true) (hs : Small s.2.2) {n : Int} (hn : Is s.2.2 n) : F_37 s n = some ((sortI (inT s.2.2 100 n), ()) : Els [.list I]) := by
  have h := right_of hr
  have h1 : F_73 s n = some (inT s.2.2 100 n) := v_73n h hs 100 0 n hn (fun j hj => by
    obtain rfl : j = 0 := by omega
    exact h.pos hn) (by have := h.len; omega)
  have h2 : F_74 (inT s.2.2 100 n) = some ((), sortI (inT s.2.2 100 n), ()) := by
    unfold F_74
    rw [show Nat.ble (inT s.2.2 100 n).length 1000000 = true from Nat.ble_eq_true_of_le (by have := h.few hs 100 hn; omega)]
    rfl
  unfold F_37
  rw [v_20 s hs, hr]
  simp only [Option.bind_some, Bool.not_true, cond_false, h1, h2]
/-- A thing lies in whatever is above it. -/
theorem Rt.lies (h : Rt s) (hs : Small s.2.2) {x : Int} (hx : Is s.2.2 x) : ∀ (k f : Nat), k < f → upn s.2.2 k x ≠ 0 → x ∈ inT s.2.2 f (upn s.2.2 k x)
  | 0, f, hf, _ => by
    obtain ⟨f, rfl⟩ : ∃ j, f = j + 1 := ⟨f - 1, by omega⟩
    obtain ⟨t, _, _, e⟩ := inT_succ hx
    show x ∈ inT s.2.2 (f + 1) x
    rw [e]; exact List.mem_cons_self
  | k + 1, f, hf, h0 => by
    obtain ⟨f, rfl⟩ : ∃ j, f = j + 1 := ⟨f - 1, by omega⟩
    rw [upn_succ] at h0 ⊢
    obtain ⟨u, hu, hm, e⟩ := grp_of h0
    have h1 : upn s.2.2 k x ≠ 0 := fun h2 => by
      rw [h2, h.grp0 hs] at h0; exact h0 rfl
    obtain ⟨t, ht, e2, e3⟩ := inT_succ ⟨u, hu, e⟩
    rw [e3 f]
    have : t = u := h.one ht hu (e2.trans e.symm)
    subst this
    exact List.mem_cons_of_mem _ (List.mem_flatMap.2 ⟨_, hm, h.lies hs hx k f (by omega) h1⟩)
/-- The first step that comes to an end. -/
theorem first_zero (p : Nat → Prop) [DecidablePred p] : ∀ n, p n → ∃ k, k ≤ n ∧ p k ∧ ∀ j, j < k → ¬ p j
  | 0, h => ⟨0, Nat.le_refl _, h, fun j hj => by omega⟩
  | n + 1, h => by
    by_cases hc : ∃ j, j ≤ n ∧ p j
    · obtain ⟨j, hj, hp⟩ := hc
      obtain ⟨k, hk, h1, h2⟩ := first_zero p j hp
      exact ⟨k, by omega, h1, h2⟩
    · exact ⟨n + 1, Nat.le_refl _, h, fun j hj hp => hc ⟨j, by omega, hp⟩⟩

/-! ### KinUps -/
theorem q_11_11 (l : List Thing) (at_ n : Int) (L : List Thing) (c1 c2 : Int) (s : Scene) (t : Thing) (xs : List Int) (hx : xs.length ≤ 1000000000) :
    R_11_11 ((l, (), (), at_, n, false, L, c1, c2, xs, (xs.length : Int), (0 : Int), ()), (s, ()), (t, ()), ()) = some (.inl ((l, (), (), at_, n, xs.contains (nid t), L, c1, c2, ()), (s, ()), (t, ()), ())) := by
  have h := fold_all (G := fun x => G_11_11 x.1.1 x.1.2.2.2.1 x.1.2.2.2.2.1 x.1.2.2.2.2.2.1 x.1.2.2.2.2.2.2.1 x.1.2.2.2.2.2.2.2.1 x.1.2.2.2.2.2.2.2.2.1 x.1.2.2.2.2.2.2.2.2.2.1 x.1.2.2.2.2.2.2.2.2.2.2.1 x.1.2.2.2.2.2.2.2.2.2.2.2.1 x.2.1 x.2.2.1) (m := fuel) xs (fun (b : Bool) x => b || x == nid t)
    (fun j b => ((l, (), (), at_, n, b, L, c1, c2, xs, (xs.length : Int), (j : Int), ()), (s, ()), (t, ()), ())) (fun b => .inl ((l, (), (), at_, n, b, L, c1, c2, ()), (s, ()), (t, ()), ())) (fun j x b hj => ?_) (fun b => ?_) (fuel_lt hx) false
  · refine Eq.trans h ?_
    have : ∀ (ys : List Int) (b : Bool), ys.foldl (fun b x => b || x == nid t) b = (b || ys.contains (nid t)) := by
      intro ys
      induction ys with
      | nil => intro b; simp
      | cons y ys ih =>
        intro b
        rw [List.foldl_cons, ih, List.contains_cons]
        have : (y == nid t) = (nid t == y) := by
          by_cases e : y = nid t
          · subst e; simp
          · have : ¬ nid t = y := fun h => e h.symm
            exact (beq_false_of_ne e).trans (beq_false_of_ne this).symm
        rw [this, Bool.or_assoc]
    rw [this]; rfl
  · have hk := len_of hj
    simp only [G_11_11, dec_lt hk, dec_in hk, cond_true, getD_of hj, wrap_up hk (by omega)]
    cases b <;> rfl
  · simp only [G_11_11, dec_end, cond_false]
theorem q_11_8 (hr : rightB s = true) (hs : Small s.2.2) {t : Thing} (ht : t ∈ s.2.2) (c1 c2 : Int) :
    R_11_8 ((s.2.2, (), (), nid t, (0 : Int), s.2.2, c1, c2, ()), (s, ()), (t, ()), ()) = some (.inl ((s.2.2, (), s.2.2, c1, c2, ()), (s, ()), ())) := by
  have h := right_of hr
  have hx : Is s.2.2 (nid t) := ⟨t, ht, rfl⟩
  obtain ⟨k0, hk0, hz0⟩ := h.top hs hx
  obtain ⟨K, hK, hz, hlow⟩ := first_zero (fun k => upn s.2.2 k (nid t) = 0) k0 hz0
  have hlen := h.len
  have := rounds_to (G := fun x => G_11_8 x.1.1 x.1.2.2.2.1 x.1.2.2.2.2.1 x.1.2.2.2.2.2.1 x.1.2.2.2.2.2.2.1 x.1.2.2.2.2.2.2.2.1 x.2.1 x.2.2.1)
    (inv := fun k => ((s.2.2, (), (), upn s.2.2 k (nid t), (k : Int), s.2.2, c1, c2, ()), (s, ()), (t, ()), ())) (n := K) (y := .inl ((s.2.2, (), s.2.2, c1, c2, ()), (s, ()), ())) (fun k hk => ?_) ?_ K 0 fuel (by omega) (fuel_lt (by omega))
  · exact this
  · have h0 := hlow k hk
    have hi := upn_is hx k h0
    have h1 := v_37 hr hs hi
    have h2 : (sortI (inT s.2.2 100 (upn s.2.2 k (nid t)))).contains (nid t) = true := by
      have := (sortI_perm (inT s.2.2 100 (upn s.2.2 k (nid t)))).mem_iff.2 (h.lies hs hx k 100 (by omega) h0)
      simpa using this
    have h3 := q_11_11 s.2.2 (upn s.2.2 k (nid t)) (k : Int) s.2.2 c1 c2 s t (sortI (inT s.2.2 100 (upn s.2.2 k (nid t)))) (by rw [sortI_len]; have := h.few hs 100 hi; omega)
    have h4 := v_38 s (upn s.2.2 k (nid t)) hs hr
    have hne : (upn s.2.2 k (nid t) != (0 : Int)) = true := by
      simpa using h0
    simp only [G_11_8, hne, cond_true, h1, Option.bind_some, h3, Sum.elim_inl, h2, Bool.not_true, cond_false, h4]
    rw [decide_eq_false (by omega : ¬ ((k : Int) > (s.2.2.length : Int))), cond_false, wrap_up (show k < 41 by omega) (by omega), upn_succ]
  · have : (upn s.2.2 K (nid t) != (0 : Int)) = false := by
      rw [hz]; rfl
    simp only [G_11_8, this, cond_false]
theorem q_11_5 (hr : rightB s = true) (hs : Small s.2.2) : R_11_5 ((s.2.2, (), s.2.2, (s.2.2.length : Int), (0 : Int), ()), (s, ()), ()) = some (.inl ((), ())) := by
  have h := all_loop (G := fun x => G_11_5 x.1.1 x.1.2.2.1 x.1.2.2.2.1 x.1.2.2.2.2.1 x.2.1) (m := fuel) s.2.2 (fun _ => true) (fun k => ((s.2.2, (), s.2.2, (s.2.2.length : Int), (k : Int), ()), (s, ()), ())) (.inr ((false, ()), ())) (.inl ((), ()))
    (fun k t ha => ?_) ?_ (fuel_lt hs.1)
  · refine Eq.trans h ?_
    rw [if_pos (List.all_eq_true.2 fun _ _ => rfl)]
  · have hk := len_of ha
    have h1 := q_11_8 hr hs (List.mem_of_getElem? ha) (s.2.2.length : Int) (k : Int)
    simp only [G_11_5, dec_lt hk, dec_in hk, cond_true, getD_of ha]
    show (R_11_8 ((s.2.2, (), (), nid t, (0 : Int), s.2.2, (s.2.2.length : Int), (k : Int), ()), (s, ()), (t, ()), ())).bind _ = _
    rw [h1]
    simp only [Option.bind_some, Sum.elim_inl, wrap_up hk (by have := hs.1; omega), if_true]
  · simp only [G_11_5, dec_end, cond_false]
end
theorem kinUps (g : Vec) (next : I.El) (l : (Ty.list tThing).El) (h0 : tVec.wf g) (h1 : I.wf next) (h2 : (Ty.list tThing).wf l) : F_11 g next l = some ((true, ()) : Els [.bool]) := by
  unfold F_11
  rw [v_22 l h2.1]
  simp only [Option.bind_some]
  cases hf : fewB l with
  | false => simp only [Bool.not_false, cond_true, alive36, Option.bind_some]
  | true =>
    have hs : Small l := small_of (few_small hf)
    rw [v_20 (g, next, l) hs]
    simp only [Bool.not_true, cond_false, Option.bind_some]
    cases hr : rightB (g, next, l) with
    | false => simp only [Bool.not_false, cond_true, alive36, Option.bind_some]
    | true =>
      simp only [Bool.not_true, cond_false, alive36, Option.bind_some]
      have := q_11_5 (s := (g, next, l)) hr hs
      rw [this]
      rfl
end Go.DI.S

