/- The statement KinNests: whatever is handed in, the call returns true, and what was handed in reads afterwards as before. No conditions. -/
import Derived.Test.YtmleimalginhhaaKnd
import Derived.Test.YtmleimalginhhaaRows
import Derived.WalkKit
import Derived.ProofKit
import Derived.OpenShut
namespace Go.Proofs.Ytmleimalginhhaa.kinNests
open Go.ChangeShapes Go.WideShapes Go.ChangeAt Go.RowKit
set_option linter.unusedVariables false

theorem own : ownKnob Try.prog.godebug = none := by kernel_rfl
theorem kids : Go.DI.kidsB Try.prog [3] = true := by kernel_rfl
theorem rd3 : Go.DI.rdB Try.prog 8 (Go.DI.S.I) 3 = true := by kernel_rfl

/-! ### The walk: the Go text returns true. -/
theorem walk (a0 : (Go.DI.S.I).El) (h0 : Go.DI.Ty.wf (Go.DI.S.I) a0) (w : World) (v0 : Value)
    (r0 : Go.DI.VRep w (fun b => b < w.heap.size) Go.DI.ρ0 (Go.DI.Ty.enc (Go.DI.S.I) a0) v0) :
    Calls Try.prog 14 #[v0] w fun e w' => e = .returned (.bool true) ∧ Go.DI.Stays w w' :=
  Go.DI.law_gen (C := Go.DI.S.CT) Go.DI.S.e_14 (x := (a0, ())) (Go.DI.S.kinNests a0 h0) (vs := #[v0]) (.cons r0 (.nil))

/-! ### The row's step. -/
set_option maxRecDepth 100000 in
theorem lifted (os : Os) (started : os.Started) (H : Type) (enc : TypeId × Value → H) :
    ReturnsInHanded {} Try.checked os 14 .any (Rows.kinNestsSpec.pre6 enc Try.prog Try.f14 Rows.kinNestsRow.domain false) (Rows.kinNestsSpec.post enc Try.prog Try.f14 false true false false) := by
  refine returnsInHanded_of_change (C := Try.checked) own started (by kernel_rfl) Try.func14
    (ChangeSpec.witness6 (enc := enc) (C := Try.checked) false ⟨#[], #[.int .i64 0], []⟩ 10 (by kernel_rfl) (by kernel_rfl) (by kernel_rfl) (by kernel_rfl)) ?_
  intro W base args ds gs before hval0 hW hcnd _
  have hval : ∀ (j : Nat) t v, Try.f14.params[j]? = some t → args[j]? = some v → Value.okWide Try.prog W .any base t v := hval0
  have hW' := hW
  obtain ⟨p, q, hA0, hV, rfl, hfz, hnd⟩ := hW
  have hA : DataW.TrodAll enc Try.prog W 0 (fun _ => true) true Try.f14.params.toList args.toList ds p := hA0
  rw [Try.params14] at hA hval
  have hA2 := hA
  obtain ⟨v0, vs0, d0, ds0, p0, q0, hargs, rfl, rfl, h0, r0⟩ := trodAll_cons hA
  obtain ⟨rfl, rfl, rfl⟩ := trodAll_nil r0
  obtain rfl : args = #[v0] := by cases args; simp_all
  obtain ⟨rfl, rfl⟩ := trodVars_none hV
  obtain ⟨a0, w0, x0⟩ := Go.DI.arg_open (ρ := Go.DI.ρ0) (Go.DI.rdB_ok 8 _ _ rd3) (hval 0 3 v0 rfl rfl) h0
  clear hA0 hval0
  simp only [List.append_nil] at hW' hA2
  refine (walk a0 w0 W v0 x0).mono fun e W' ⟨he, hg⟩ => ?_
  subst he
  exact ⟨_, rfl, Go.DI.post_of_stay (pa := p0) (pv := []) hW' (fun _ _ _ => (trodAll_cons_mk (shut_bool Try.underlying4 _) trodAll_mk0))
    (fun sp hs => Go.DI.args_stay kids hg.2.2 (fun t ht => by
      simp only [Try.params14, List.mem_cons, List.mem_nil_iff, or_false] at ht
      rcases ht with rfl <;> simp) (by rw [Try.params14]; exact hA2) (fun q hq => hs q hq)) (fun _ _ => rfl) (by simp)
    (hg.frame _) hg.2.1 (ok_one (by kernel_rfl) rfl (okWide_bool_mk Try.underlying4 _))⟩

theorem over : Rows.kinNestsRow.holds Try.pinned (OpenSpec.ofChange Rows.kinNestsSpec) :=
  OpenClaim.holds_of_wide 14 Try.f14 rfl rfl rfl rfl rfl rfl rfl ⟨rfl, rfl, rfl, rfl, rfl⟩ rfl rfl rfl rfl rfl (by kernel_rfl) Try.func14 (by kernel_rfl)
    (of_decide_eq_true (by kernel_rfl)) (by unfold Func.isWrapper; first | (rw [if_pos (by decide +kernel)]; kernel_rfl) | (rw [if_neg (by decide +kernel)]; exact ⟨rfl, rfl⟩))
    (fun os started H enc _ => lifted os started H enc)

/-- ████ THE STATEMENT ████ -/
theorem proved : Rows.KinNestsSaid :=
  over
#print axioms proved
end Go.Proofs.Ytmleimalginhhaa.kinNests
