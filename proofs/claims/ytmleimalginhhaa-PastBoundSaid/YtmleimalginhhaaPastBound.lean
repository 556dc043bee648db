/- The statement on maquettelaw23.PastBound: for every number the call returns true, and the number reads afterwards as before. No conditions. -/
import Derived.Test.YtmleimalginhhaaPba
import Derived.Test.YtmleimalginhhaaPbb
import Derived.Test.YtmleimalginhhaaPbc
import Derived.Test.YtmleimalginhhaaPbd
import Derived.Test.YtmleimalginhhaaRows
import Derived.WalkKit
import Derived.ProofKit
import Derived.OpenShut
namespace Go.Proofs.Ytmleimalginhhaa.pastBound
open Go.ChangeShapes Go.WideShapes Go.ChangeAt Go.RowKit
set_option linter.unusedVariables false      -- a walk need not use every 'w<i>' (that an integer argument fits its kind)

theorem own : ownKnob Try.prog.godebug = none := by kernel_rfl

/-! ### The walk: the Go text returns true. -/
theorem walk (a0 : Int) (w0 : (Lit.int .i64 a0).wf = true) (w : World) :
    Calls Try.prog 8 #[.int .i64 a0] w fun e w' => e = .returned (.bool true) ∧ Grown w w' := by
  refine Go.DI.S.law_int Go.DI.S.e_8 a0 ?_ w
  by_cases h1 : a0 < 0
  · unfold Go.DI.S.F_8
    rw [decide_eq_true h1, Go.DI.S.alive30]; rfl
  · by_cases h2 : a0 > 60
    · unfold Go.DI.S.F_8
      rw [decide_eq_false h1, decide_eq_true h2, Go.DI.S.alive30]; rfl
    · have h3 : a0 = 0 ∨ a0 = 1 ∨ a0 = 2 ∨ a0 = 3 ∨ a0 = 4 ∨ a0 = 5 ∨ a0 = 6 ∨ a0 = 7 ∨ a0 = 8 ∨ a0 = 9 ∨ a0 = 10 ∨ a0 = 11 ∨ a0 = 12 ∨ a0 = 13 ∨ a0 = 14 ∨ a0 = 15 ∨ a0 = 16 ∨ a0 = 17 ∨ a0 = 18 ∨ a0 = 19 ∨ a0 = 20 ∨ a0 = 21 ∨ a0 = 22 ∨ a0 = 23 ∨ a0 = 24 ∨ a0 = 25 ∨ a0 = 26 ∨ a0 = 27 ∨ a0 = 28 ∨ a0 = 29 ∨ a0 = 30 ∨ a0 = 31 ∨ a0 = 32 ∨ a0 = 33 ∨ a0 = 34 ∨ a0 = 35 ∨ a0 = 36 ∨ a0 = 37 ∨ a0 = 38 ∨ a0 = 39 ∨ a0 = 40 ∨ a0 = 41 ∨ a0 = 42 ∨ a0 = 43 ∨ a0 = 44 ∨ a0 = 45 ∨ a0 = 46 ∨ a0 = 47 ∨ a0 = 48 ∨ a0 = 49 ∨ a0 = 50 ∨ a0 = 51 ∨ a0 = 52 ∨ a0 = 53 ∨ a0 = 54 ∨ a0 = 55 ∨ a0 = 56 ∨ a0 = 57 ∨ a0 = 58 ∨ a0 = 59 ∨ a0 = 60 := by omega
      rcases h3 with h | h | h | h | h | h | h | h | h | h | h | h | h | h | h | h | h | h | h | h | h | h | h | h | h | h | h | h | h | h | h | h | h | h | h | h | h | h | h | h | h | h | h | h | h | h | h | h | h | h | h | h | h | h | h | h | h | h | h | h | h <;> subst h
      · exact Go.DI.S.v8_0
      · exact Go.DI.S.v8_1
      · exact Go.DI.S.v8_2
      · exact Go.DI.S.v8_3
      · exact Go.DI.S.v8_4
      · exact Go.DI.S.v8_5
      · exact Go.DI.S.v8_6
      · exact Go.DI.S.v8_7
      · exact Go.DI.S.v8_8
      · exact Go.DI.S.v8_9
      · exact Go.DI.S.v8_10
      · exact Go.DI.S.v8_11
      · exact Go.DI.S.v8_12
      · exact Go.DI.S.v8_13
      · exact Go.DI.S.v8_14
      · exact Go.DI.S.v8_15
      · exact Go.DI.S.v8_16
      · exact Go.DI.S.v8_17
      · exact Go.DI.S.v8_18
      · exact Go.DI.S.v8_19
      · exact Go.DI.S.v8_20
      · exact Go.DI.S.v8_21
      · exact Go.DI.S.v8_22
      · exact Go.DI.S.v8_23
      · exact Go.DI.S.v8_24
      · exact Go.DI.S.v8_25
      · exact Go.DI.S.v8_26
      · exact Go.DI.S.v8_27
      · exact Go.DI.S.v8_28
      · exact Go.DI.S.v8_29
      · exact Go.DI.S.v8_30
      · exact Go.DI.S.v8_31
      · exact Go.DI.S.v8_32
      · exact Go.DI.S.v8_33
      · exact Go.DI.S.v8_34
      · exact Go.DI.S.v8_35
      · exact Go.DI.S.v8_36
      · exact Go.DI.S.v8_37
      · exact Go.DI.S.v8_38
      · exact Go.DI.S.v8_39
      · exact Go.DI.S.v8_40
      · exact Go.DI.S.v8_41
      · exact Go.DI.S.v8_42
      · exact Go.DI.S.v8_43
      · exact Go.DI.S.v8_44
      · exact Go.DI.S.v8_45
      · exact Go.DI.S.v8_46
      · exact Go.DI.S.v8_47
      · exact Go.DI.S.v8_48
      · exact Go.DI.S.v8_49
      · exact Go.DI.S.v8_50
      · exact Go.DI.S.v8_51
      · exact Go.DI.S.v8_52
      · exact Go.DI.S.v8_53
      · exact Go.DI.S.v8_54
      · exact Go.DI.S.v8_55
      · exact Go.DI.S.v8_56
      · exact Go.DI.S.v8_57
      · exact Go.DI.S.v8_58
      · exact Go.DI.S.v8_59
      · exact Go.DI.S.v8_60

/-! ### The row's step. -/
set_option maxRecDepth 100000 in
theorem lifted (os : Os) (started : os.Started) (H : Type) (enc : TypeId × Value → H) :
    ReturnsInHanded {} Try.checked os 8 .any (Rows.pastBoundSpec.pre6 enc Try.prog Try.f8 Rows.pastBoundRow.domain false) (Rows.pastBoundSpec.post enc Try.prog Try.f8 false true false false) := by
  refine returnsInHanded_of_change (C := Try.checked) own started (by kernel_rfl) Try.func8
    (ChangeSpec.witness6 (enc := enc) (C := Try.checked) false ⟨#[], #[.int .i64 0], []⟩ 8 (by kernel_rfl) (by kernel_rfl) (by kernel_rfl) (by kernel_rfl)) ?_
  intro W base args ds gs before hval0 hW hcnd _
  have hval : ∀ (j : Nat) t v, Try.f8.params[j]? = some t → args[j]? = some v → Value.okWide Try.prog W .any base t v := hval0
  have hW' := hW
  obtain ⟨p, q, hA0, hV, rfl, hfz, hnd⟩ := hW
  have hA : DataW.TrodAll enc Try.prog W 0 (fun _ => true) true Try.f8.params.toList args.toList ds p := hA0
  rw [Try.params8] at hA hval
  obtain ⟨v0, vs0, d0, ds0, p0, q0, hargs, rfl, rfl, h0, r0⟩ := trodAll_cons hA
  obtain ⟨rfl, rfl, rfl⟩ := trodAll_nil r0
  obtain rfl : args = #[v0] := by cases args; simp_all
  obtain ⟨rfl, rfl⟩ := trodVars_none hV
  obtain ⟨a0, rfl, rfl, rfl, w0⟩ := open_int Try.underlying3 (hval 0 3 v0 rfl rfl) h0
  clear hA0 hval0
  simp only [List.append_nil] at hW'
  refine (walk a0 w0 W).mono fun e W' ⟨he, hg⟩ => ?_
  subst he
  exact ⟨_, rfl, post_of_same (pa := []) (pv := []) hW' (fun _ _ _ => (trodAll_cons_mk (shut_bool Try.underlying4 _) trodAll_mk0)) (fun sp _ => (trodAll_cons_mk (shut_int Try.underlying3 w0) trodAll_mk0)) (fun _ _ => rfl) rfl
    (hg.frame _) hg.2.1 (ok_one (by kernel_rfl) rfl (okWide_bool_mk Try.underlying4 _))⟩

theorem over : Rows.pastBoundRow.holds Try.pinned (OpenSpec.ofChange Rows.pastBoundSpec) :=
  OpenClaim.holds_of_wide 8 Try.f8 rfl rfl rfl rfl rfl rfl rfl ⟨rfl, rfl, rfl, rfl, rfl⟩ rfl rfl rfl rfl rfl (by kernel_rfl) Try.func8 (by kernel_rfl)
    (of_decide_eq_true (by kernel_rfl)) (by unfold Func.isWrapper; first | (rw [if_pos (by decide +kernel)]; kernel_rfl) | (rw [if_neg (by decide +kernel)]; exact ⟨rfl, rfl⟩))
    (fun os started H enc _ => lifted os started H enc)

/-- ████ THE STATEMENT ████ -/
theorem proved : Rows.PastBoundSaid :=
  over
#print axioms proved
end Go.Proofs.Ytmleimalginhhaa.pastBound
