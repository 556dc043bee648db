/- The statement on maquettelaw19.SceneCycles: for every number the call returns true, and the number reads afterwards as before. No conditions. -/
import Derived.Test.YtmleimalginhhaaCya
import Derived.Test.YtmleimalginhhaaCyb
import Derived.Test.YtmleimalginhhaaCyc
import Derived.Test.YtmleimalginhhaaCyd
import Derived.Test.YtmleimalginhhaaRows
import Derived.WalkKit
import Derived.ProofKit
import Derived.OpenShut
namespace Go.Proofs.Ytmleimalginhhaa.sceneCycles
open Go.ChangeShapes Go.WideShapes Go.ChangeAt Go.RowKit
set_option linter.unusedVariables false      -- a walk need not use every 'w<i>' (that an integer argument fits its kind)

theorem own : ownKnob Try.prog.godebug = none := by kernel_rfl

/-! ### The walk: the Go text returns true. -/
theorem walk (a0 : Int) (w0 : (Lit.int .i64 a0).wf = true) (w : World) :
    Calls Try.prog 3 #[.int .i64 a0] w fun e w' => e = .returned (.bool true) ∧ Grown w w' := by
  refine Go.DI.S.law_int Go.DI.S.e_3 a0 ?_ w
  by_cases h1 : a0 < 1
  · unfold Go.DI.S.F_3
    rw [decide_eq_true h1, Go.DI.S.alive16]; rfl
  · by_cases h2 : a0 > 20
    · unfold Go.DI.S.F_3
      rw [decide_eq_false h1, decide_eq_true h2, Go.DI.S.alive16]; rfl
    · have h3 : a0 = 1 ∨ a0 = 2 ∨ a0 = 3 ∨ a0 = 4 ∨ a0 = 5 ∨ a0 = 6 ∨ a0 = 7 ∨ a0 = 8 ∨ a0 = 9 ∨ a0 = 10 ∨ a0 = 11 ∨ a0 = 12 ∨ a0 = 13 ∨ a0 = 14 ∨ a0 = 15 ∨ a0 = 16 ∨ a0 = 17 ∨ a0 = 18 ∨ a0 = 19 ∨ a0 = 20 := by omega
      rcases h3 with h | h | h | h | h | h | h | h | h | h | h | h | h | h | h | h | h | h | h | h <;> subst h
      · exact Go.DI.S.v3_1
      · exact Go.DI.S.v3_2
      · exact Go.DI.S.v3_3
      · exact Go.DI.S.v3_4
      · exact Go.DI.S.v3_5
      · exact Go.DI.S.v3_6
      · exact Go.DI.S.v3_7
      · exact Go.DI.S.v3_8
      · exact Go.DI.S.v3_9
      · exact Go.DI.S.v3_10
      · exact Go.DI.S.v3_11
      · exact Go.DI.S.v3_12
      · exact Go.DI.S.v3_13
      · exact Go.DI.S.v3_14
      · exact Go.DI.S.v3_15
      · exact Go.DI.S.v3_16
      · exact Go.DI.S.v3_17
      · exact Go.DI.S.v3_18
      · exact Go.DI.S.v3_19
      · exact Go.DI.S.v3_20

/-! ### The row's step. -/
set_option maxRecDepth 100000 in
theorem lifted (os : Os) (started : os.Started) (H : Type) (enc : TypeId × Value → H) :
    ReturnsInHanded {} Try.checked os 3 .any (Rows.sceneCyclesSpec.pre6 enc Try.prog Try.f3 Rows.sceneCyclesRow.domain false) (Rows.sceneCyclesSpec.post enc Try.prog Try.f3 false true false false) := by
  refine returnsInHanded_of_change (C := Try.checked) own started (by kernel_rfl) Try.func3
    (ChangeSpec.witness6 (enc := enc) (C := Try.checked) false ⟨#[], #[.int .i64 0], []⟩ 8 (by kernel_rfl) (by kernel_rfl) (by kernel_rfl) (by kernel_rfl)) ?_
  intro W base args ds gs before hval0 hW hcnd _
  have hval : ∀ (j : Nat) t v, Try.f3.params[j]? = some t → args[j]? = some v → Value.okWide Try.prog W .any base t v := hval0
  have hW' := hW
  obtain ⟨p, q, hA0, hV, rfl, hfz, hnd⟩ := hW
  have hA : DataW.TrodAll enc Try.prog W 0 (fun _ => true) true Try.f3.params.toList args.toList ds p := hA0
  rw [Try.params3] at hA hval
  obtain ⟨v0, vs0, d0, ds0, p0, q0, hargs, rfl, rfl, h0, r0⟩ := trodAll_cons hA
  obtain ⟨rfl, rfl, rfl⟩ := trodAll_nil r0
  obtain rfl : args = #[v0] := by cases args; simp_all
  obtain ⟨rfl, rfl⟩ := trodVars_none hV
  obtain ⟨a0, rfl, rfl, rfl, w0⟩ := open_int Try.underlying3 (hval 0 3 v0 rfl rfl) h0
  clear hA0 hval0
  simp only [List.append_nil] at hW'
  refine (walk a0 w0 W).mono fun e W' ⟨he, hg⟩ => ?_
  subst he
  exact ⟨_, rfl, post_of_same (pa := []) (pv := []) hW' (fun _ _ _ => (trodAll_cons_mk (shut_bool Try.underlying4 _) trodAll_mk0)) (fun sp _ => (trodAll_cons_mk (shut_int Try.underlying3 w0) trodAll_mk0)) (fun _ _ => rfl) rfl
    (hg.frame _) hg.2.1 (ok_one (by kernel_rfl) rfl (okWide_bool_mk Try.underlying4 _))⟩

theorem over : Rows.sceneCyclesRow.holds Try.pinned (OpenSpec.ofChange Rows.sceneCyclesSpec) :=
  OpenClaim.holds_of_wide 3 Try.f3 rfl rfl rfl rfl rfl rfl rfl ⟨rfl, rfl, rfl, rfl, rfl⟩ rfl rfl rfl rfl rfl (by kernel_rfl) Try.func3 (by kernel_rfl)
    (of_decide_eq_true (by kernel_rfl)) (by unfold Func.isWrapper; first | (rw [if_pos (by decide +kernel)]; kernel_rfl) | (rw [if_neg (by decide +kernel)]; exact ⟨rfl, rfl⟩))
    (fun os started H enc _ => lifted os started H enc)

/-- ████ THE STATEMENT ████ -/
theorem proved : Rows.SceneCyclesSaid :=
  over
#print axioms proved
end Go.Proofs.Ytmleimalginhhaa.sceneCycles
