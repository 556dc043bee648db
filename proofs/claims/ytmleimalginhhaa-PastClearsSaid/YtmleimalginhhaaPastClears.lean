/- The statement on maquettelaw23.PastClears: for every two numbers the call returns true, and the numbers read afterwards as before. No conditions. -/
import Derived.Test.YtmleimalginhhaaPca
import Derived.Test.YtmleimalginhhaaPcb
import Derived.Test.YtmleimalginhhaaPcc
import Derived.Test.YtmleimalginhhaaPcd
import Derived.Test.YtmleimalginhhaaRows
import Derived.WalkKit
import Derived.ProofKit
import Derived.OpenShut
namespace Go.Proofs.Ytmleimalginhhaa.pastClears
open Go.ChangeShapes Go.WideShapes Go.ChangeAt Go.RowKit
set_option linter.unusedVariables false      -- a walk need not use every 'w<i>' (that an integer argument fits its kind)

theorem own : ownKnob Try.prog.godebug = none := by kernel_rfl

/-! ### The walk: the Go text returns true. -/
theorem walk (a0 : Int) (a1 : Int) (w0 : (Lit.int .i64 a0).wf = true) (w1 : (Lit.int .i64 a1).wf = true) (w : World) :
    Calls Try.prog 9 #[.int .i64 a0, .int .i64 a1] w fun e w' => e = .returned (.bool true) ∧ Grown w w' := by
  refine Go.DI.S.law_int2 Go.DI.S.e_9 a0 a1 ?_ w
  by_cases h1 : a0 < 1
  · unfold Go.DI.S.F_9
    rw [decide_eq_true h1, Go.DI.S.alive30]; rfl
  · by_cases h2 : a0 > 16
    · unfold Go.DI.S.F_9
      rw [decide_eq_false h1, decide_eq_true h2, Go.DI.S.alive30]; rfl
    · by_cases h3 : a1 < 0
      · unfold Go.DI.S.F_9
        rw [decide_eq_false h1, decide_eq_false h2, decide_eq_true h3, Go.DI.S.alive30]; rfl
      · by_cases h4 : a1 > a0
        · unfold Go.DI.S.F_9
          rw [decide_eq_false h1, decide_eq_false h2, decide_eq_false h3, decide_eq_true h4, Go.DI.S.alive30]; rfl
        · have h5 : a0 = 1 ∨ a0 = 2 ∨ a0 = 3 ∨ a0 = 4 ∨ a0 = 5 ∨ a0 = 6 ∨ a0 = 7 ∨ a0 = 8 ∨ a0 = 9 ∨ a0 = 10 ∨ a0 = 11 ∨ a0 = 12 ∨ a0 = 13 ∨ a0 = 14 ∨ a0 = 15 ∨ a0 = 16 := by omega
          rcases h5 with h | h | h | h | h | h | h | h | h | h | h | h | h | h | h | h <;> subst h
          · have h6 : a1 = 0 ∨ a1 = 1 := by omega
            rcases h6 with h | h <;> subst h
            · exact Go.DI.S.v9_1_0
            · exact Go.DI.S.v9_1_1
          · have h6 : a1 = 0 ∨ a1 = 1 ∨ a1 = 2 := by omega
            rcases h6 with h | h | h <;> subst h
            · exact Go.DI.S.v9_2_0
            · exact Go.DI.S.v9_2_1
            · exact Go.DI.S.v9_2_2
          · have h6 : a1 = 0 ∨ a1 = 1 ∨ a1 = 2 ∨ a1 = 3 := by omega
            rcases h6 with h | h | h | h <;> subst h
            · exact Go.DI.S.v9_3_0
            · exact Go.DI.S.v9_3_1
            · exact Go.DI.S.v9_3_2
            · exact Go.DI.S.v9_3_3
          · have h6 : a1 = 0 ∨ a1 = 1 ∨ a1 = 2 ∨ a1 = 3 ∨ a1 = 4 := by omega
            rcases h6 with h | h | h | h | h <;> subst h
            · exact Go.DI.S.v9_4_0
            · exact Go.DI.S.v9_4_1
            · exact Go.DI.S.v9_4_2
            · exact Go.DI.S.v9_4_3
            · exact Go.DI.S.v9_4_4
          · have h6 : a1 = 0 ∨ a1 = 1 ∨ a1 = 2 ∨ a1 = 3 ∨ a1 = 4 ∨ a1 = 5 := by omega
            rcases h6 with h | h | h | h | h | h <;> subst h
            · exact Go.DI.S.v9_5_0
            · exact Go.DI.S.v9_5_1
            · exact Go.DI.S.v9_5_2
            · exact Go.DI.S.v9_5_3
            · exact Go.DI.S.v9_5_4
            · exact Go.DI.S.v9_5_5
          · have h6 : a1 = 0 ∨ a1 = 1 ∨ a1 = 2 ∨ a1 = 3 ∨ a1 = 4 ∨ a1 = 5 ∨ a1 = 6 := by omega
            rcases h6 with h | h | h | h | h | h | h <;> subst h
            · exact Go.DI.S.v9_6_0
            · exact Go.DI.S.v9_6_1
            · exact Go.DI.S.v9_6_2
            · exact Go.DI.S.v9_6_3
            · exact Go.DI.S.v9_6_4
            · exact Go.DI.S.v9_6_5
            · exact Go.DI.S.v9_6_6
          · have h6 : a1 = 0 ∨ a1 = 1 ∨ a1 = 2 ∨ a1 = 3 ∨ a1 = 4 ∨ a1 = 5 ∨ a1 = 6 ∨ a1 = 7 := by omega
            rcases h6 with h | h | h | h | h | h | h | h <;> subst h
            · exact Go.DI.S.v9_7_0
            · exact Go.DI.S.v9_7_1
            · exact Go.DI.S.v9_7_2
            · exact Go.DI.S.v9_7_3
            · exact Go.DI.S.v9_7_4
            · exact Go.DI.S.v9_7_5
            · exact Go.DI.S.v9_7_6
            · exact Go.DI.S.v9_7_7
          · have h6 : a1 = 0 ∨ a1 = 1 ∨ a1 = 2 ∨ a1 = 3 ∨ a1 = 4 ∨ a1 = 5 ∨ a1 = 6 ∨ a1 = 7 ∨ a1 = 8 := by omega
            rcases h6 with h | h | h | h | h | h | h | h | h <;> subst h
            · exact Go.DI.S.v9_8_0
            · exact Go.DI.S.v9_8_1
            · exact Go.DI.S.v9_8_2
            · exact Go.DI.S.v9_8_3
            · exact Go.DI.S.v9_8_4
            · exact Go.DI.S.v9_8_5
            · exact Go.DI.S.v9_8_6
            · exact Go.DI.S.v9_8_7
            · exact Go.DI.S.v9_8_8
          · have h6 : a1 = 0 ∨ a1 = 1 ∨ a1 = 2 ∨ a1 = 3 ∨ a1 = 4 ∨ a1 = 5 ∨ a1 = 6 ∨ a1 = 7 ∨ a1 = 8 ∨ a1 = 9 := by omega
            rcases h6 with h | h | h | h | h | h | h | h | h | h <;> subst h
            · exact Go.DI.S.v9_9_0
            · exact Go.DI.S.v9_9_1
            · exact Go.DI.S.v9_9_2
            · exact Go.DI.S.v9_9_3
            · exact Go.DI.S.v9_9_4
            · exact Go.DI.S.v9_9_5
            · exact Go.DI.S.v9_9_6
            · exact Go.DI.S.v9_9_7
            · exact Go.DI.S.v9_9_8
            · exact Go.DI.S.v9_9_9
          · have h6 : a1 = 0 ∨ a1 = 1 ∨ a1 = 2 ∨ a1 = 3 ∨ a1 = 4 ∨ a1 = 5 ∨ a1 = 6 ∨ a1 = 7 ∨ a1 = 8 ∨ a1 = 9 ∨ a1 = 10 := by omega
            rcases h6 with h | h | h | h | h | h | h | h | h | h | h <;> subst h
            · exact Go.DI.S.v9_10_0
            · exact Go.DI.S.v9_10_1
            · exact Go.DI.S.v9_10_2
            · exact Go.DI.S.v9_10_3
            · exact Go.DI.S.v9_10_4
            · exact Go.DI.S.v9_10_5
            · exact Go.DI.S.v9_10_6
            · exact Go.DI.S.v9_10_7
            · exact Go.DI.S.v9_10_8
            · exact Go.DI.S.v9_10_9
            · exact Go.DI.S.v9_10_10
          · have h6 : a1 = 0 ∨ a1 = 1 ∨ a1 = 2 ∨ a1 = 3 ∨ a1 = 4 ∨ a1 = 5 ∨ a1 = 6 ∨ a1 = 7 ∨ a1 = 8 ∨ a1 = 9 ∨ a1 = 10 ∨ a1 = 11 := by omega
            rcases h6 with h | h | h | h | h | h | h | h | h | h | h | h <;> subst h
            · exact Go.DI.S.v9_11_0
            · exact Go.DI.S.v9_11_1
            · exact Go.DI.S.v9_11_2
            · exact Go.DI.S.v9_11_3
            · exact Go.DI.S.v9_11_4
            · exact Go.DI.S.v9_11_5
            · exact Go.DI.S.v9_11_6
            · exact Go.DI.S.v9_11_7
            · exact Go.DI.S.v9_11_8
            · exact Go.DI.S.v9_11_9
            · exact Go.DI.S.v9_11_10
            · exact Go.DI.S.v9_11_11
          · have h6 : a1 = 0 ∨ a1 = 1 ∨ a1 = 2 ∨ a1 = 3 ∨ a1 = 4 ∨ a1 = 5 ∨ a1 = 6 ∨ a1 = 7 ∨ a1 = 8 ∨ a1 = 9 ∨ a1 = 10 ∨ a1 = 11 ∨ a1 = 12 := by omega
            rcases h6 with h | h | h | h | h | h | h | h | h | h | h | h | h <;> subst h
            · exact Go.DI.S.v9_12_0
            · exact Go.DI.S.v9_12_1
            · exact Go.DI.S.v9_12_2
            · exact Go.DI.S.v9_12_3
            · exact Go.DI.S.v9_12_4
            · exact Go.DI.S.v9_12_5
            · exact Go.DI.S.v9_12_6
            · exact Go.DI.S.v9_12_7
            · exact Go.DI.S.v9_12_8
            · exact Go.DI.S.v9_12_9
            · exact Go.DI.S.v9_12_10
            · exact Go.DI.S.v9_12_11
            · exact Go.DI.S.v9_12_12
          · have h6 : a1 = 0 ∨ a1 = 1 ∨ a1 = 2 ∨ a1 = 3 ∨ a1 = 4 ∨ a1 = 5 ∨ a1 = 6 ∨ a1 = 7 ∨ a1 = 8 ∨ a1 = 9 ∨ a1 = 10 ∨ a1 = 11 ∨ a1 = 12 ∨ a1 = 13 := by omega
            rcases h6 with h | h | h | h | h | h | h | h | h | h | h | h | h | h <;> subst h
            · exact Go.DI.S.v9_13_0
            · exact Go.DI.S.v9_13_1
            · exact Go.DI.S.v9_13_2
            · exact Go.DI.S.v9_13_3
            · exact Go.DI.S.v9_13_4
            · exact Go.DI.S.v9_13_5
            · exact Go.DI.S.v9_13_6
            · exact Go.DI.S.v9_13_7
            · exact Go.DI.S.v9_13_8
            · exact Go.DI.S.v9_13_9
            · exact Go.DI.S.v9_13_10
            · exact Go.DI.S.v9_13_11
            · exact Go.DI.S.v9_13_12
            · exact Go.DI.S.v9_13_13
          · have h6 : a1 = 0 ∨ a1 = 1 ∨ a1 = 2 ∨ a1 = 3 ∨ a1 = 4 ∨ a1 = 5 ∨ a1 = 6 ∨ a1 = 7 ∨ a1 = 8 ∨ a1 = 9 ∨ a1 = 10 ∨ a1 = 11 ∨ a1 = 12 ∨ a1 = 13 ∨ a1 = 14 := by omega
            rcases h6 with h | h | h | h | h | h | h | h | h | h | h | h | h | h | h <;> subst h
            · exact Go.DI.S.v9_14_0
            · exact Go.DI.S.v9_14_1
            · exact Go.DI.S.v9_14_2
            · exact Go.DI.S.v9_14_3
            · exact Go.DI.S.v9_14_4
            · exact Go.DI.S.v9_14_5
            · exact Go.DI.S.v9_14_6
            · exact Go.DI.S.v9_14_7
            · exact Go.DI.S.v9_14_8
            · exact Go.DI.S.v9_14_9
            · exact Go.DI.S.v9_14_10
            · exact Go.DI.S.v9_14_11
            · exact Go.DI.S.v9_14_12
            · exact Go.DI.S.v9_14_13
            · exact Go.DI.S.v9_14_14
          · have h6 : a1 = 0 ∨ a1 = 1 ∨ a1 = 2 ∨ a1 = 3 ∨ a1 = 4 ∨ a1 = 5 ∨ a1 = 6 ∨ a1 = 7 ∨ a1 = 8 ∨ a1 = 9 ∨ a1 = 10 ∨ a1 = 11 ∨ a1 = 12 ∨ a1 = 13 ∨ a1 = 14 ∨ a1 = 15 := by omega
            rcases h6 with h | h | h | h | h | h | h | h | h | h | h | h | h | h | h | h <;> subst h
            · exact Go.DI.S.v9_15_0
            · exact Go.DI.S.v9_15_1
            · exact Go.DI.S.v9_15_2
            · exact Go.DI.S.v9_15_3
            · exact Go.DI.S.v9_15_4
            · exact Go.DI.S.v9_15_5
            · exact Go.DI.S.v9_15_6
            · exact Go.DI.S.v9_15_7
            · exact Go.DI.S.v9_15_8
            · exact Go.DI.S.v9_15_9
            · exact Go.DI.S.v9_15_10
            · exact Go.DI.S.v9_15_11
            · exact Go.DI.S.v9_15_12
            · exact Go.DI.S.v9_15_13
            · exact Go.DI.S.v9_15_14
            · exact Go.DI.S.v9_15_15
          · have h6 : a1 = 0 ∨ a1 = 1 ∨ a1 = 2 ∨ a1 = 3 ∨ a1 = 4 ∨ a1 = 5 ∨ a1 = 6 ∨ a1 = 7 ∨ a1 = 8 ∨ a1 = 9 ∨ a1 = 10 ∨ a1 = 11 ∨ a1 = 12 ∨ a1 = 13 ∨ a1 = 14 ∨ a1 = 15 ∨ a1 = 16 := by omega
            rcases h6 with h | h | h | h | h | h | h | h | h | h | h | h | h | h | h | h | h <;> subst h
            · exact Go.DI.S.v9_16_0
            · exact Go.DI.S.v9_16_1
            · exact Go.DI.S.v9_16_2
            · exact Go.DI.S.v9_16_3
            · exact Go.DI.S.v9_16_4
            · exact Go.DI.S.v9_16_5
            · exact Go.DI.S.v9_16_6
            · exact Go.DI.S.v9_16_7
            · exact Go.DI.S.v9_16_8
            · exact Go.DI.S.v9_16_9
            · exact Go.DI.S.v9_16_10
            · exact Go.DI.S.v9_16_11
            · exact Go.DI.S.v9_16_12
            · exact Go.DI.S.v9_16_13
            · exact Go.DI.S.v9_16_14
            · exact Go.DI.S.v9_16_15
            · exact Go.DI.S.v9_16_16

/-! ### The row's step. -/
set_option maxRecDepth 100000 in
theorem lifted (os : Os) (started : os.Started) (H : Type) (enc : TypeId × Value → H) :
    ReturnsInHanded {} Try.checked os 9 .any (Rows.pastClearsSpec.pre6 enc Try.prog Try.f9 Rows.pastClearsRow.domain false) (Rows.pastClearsSpec.post enc Try.prog Try.f9 false true false false) := by
  refine returnsInHanded_of_change (C := Try.checked) own started (by kernel_rfl) Try.func9
    (ChangeSpec.witness6 (enc := enc) (C := Try.checked) false ⟨#[], #[.int .i64 0, .int .i64 0], []⟩ 8 (by kernel_rfl) (by kernel_rfl) (by kernel_rfl) (by kernel_rfl)) ?_
  intro W base args ds gs before hval0 hW hcnd _
  have hval : ∀ (j : Nat) t v, Try.f9.params[j]? = some t → args[j]? = some v → Value.okWide Try.prog W .any base t v := hval0
  have hW' := hW
  obtain ⟨p, q, hA0, hV, rfl, hfz, hnd⟩ := hW
  have hA : DataW.TrodAll enc Try.prog W 0 (fun _ => true) true Try.f9.params.toList args.toList ds p := hA0
  rw [Try.params9] at hA hval
  obtain ⟨v0, vs0, d0, ds0, p0, q0, hargs, rfl, rfl, h0, r0⟩ := trodAll_cons hA
  obtain ⟨v1, vs1, d1, ds1, p1, q1, rfl, rfl, rfl, h1, r1⟩ := trodAll_cons r0
  obtain ⟨rfl, rfl, rfl⟩ := trodAll_nil r1
  obtain rfl : args = #[v0, v1] := by cases args; simp_all
  obtain ⟨rfl, rfl⟩ := trodVars_none hV
  obtain ⟨a0, rfl, rfl, rfl, w0⟩ := open_int Try.underlying3 (hval 0 3 v0 rfl rfl) h0
  obtain ⟨a1, rfl, rfl, rfl, w1⟩ := open_int Try.underlying3 (hval 1 3 v1 rfl rfl) h1
  clear hA0 hval0
  simp only [List.append_nil] at hW'
  refine (walk a0 a1 w0 w1 W).mono fun e W' ⟨he, hg⟩ => ?_
  subst he
  exact ⟨_, rfl, post_of_same (pa := []) (pv := []) hW' (fun _ _ _ => (trodAll_cons_mk (shut_bool Try.underlying4 _) trodAll_mk0)) (fun sp _ => (trodAll_cons_mk (shut_int Try.underlying3 w0) (trodAll_cons_mk (shut_int Try.underlying3 w1) trodAll_mk0))) (fun _ _ => rfl) rfl
    (hg.frame _) hg.2.1 (ok_one (by kernel_rfl) rfl (okWide_bool_mk Try.underlying4 _))⟩

theorem over : Rows.pastClearsRow.holds Try.pinned (OpenSpec.ofChange Rows.pastClearsSpec) :=
  OpenClaim.holds_of_wide 9 Try.f9 rfl rfl rfl rfl rfl rfl rfl ⟨rfl, rfl, rfl, rfl, rfl⟩ rfl rfl rfl rfl rfl (by kernel_rfl) Try.func9 (by kernel_rfl)
    (of_decide_eq_true (by kernel_rfl)) (by unfold Func.isWrapper; first | (rw [if_pos (by decide +kernel)]; kernel_rfl) | (rw [if_neg (by decide +kernel)]; exact ⟨rfl, rfl⟩))
    (fun os started H enc _ => lifted os started H enc)

/-- ████ THE STATEMENT ████ -/
theorem proved : Rows.PastClearsSaid :=
  over
#print axioms proved
end Go.Proofs.Ytmleimalginhhaa.pastClears
