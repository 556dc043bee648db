/- The statement OrderUngroups: whatever is handed in, the call returns true, and what was handed in reads afterwards as before. No conditions. -/
import Derived.Test.YtbjldjihpekhaaaGreatOf
import Derived.Test.YtbjldjihpekhaaaGreatRows
import Derived.WalkKit
import Derived.ProofKit
import Derived.OpenShut
namespace Go.Proofs.YtbjldjihpekhaaaGreat.orderUngroups
open Go.ChangeShapes Go.WideShapes Go.ChangeAt Go.RowKit
set_option linter.unusedVariables false

theorem own : ownKnob Tryz.prog.godebug = none := by kernel_rfl
theorem kids : Go.DI.kidsB Tryz.prog [3] = true := by kernel_rfl
theorem rd3 : Go.DI.rdB Tryz.prog 8 (Go.DI.S.I) 3 = true := by kernel_rfl

/-! ### The walk: the Go text returns true. -/
theorem walk (a0 : (Go.DI.S.I).El) (a1 : (Go.DI.S.I).El) (h0 : Go.DI.Ty.wf (Go.DI.S.I) a0) (h1 : Go.DI.Ty.wf (Go.DI.S.I) a1) (w : World) (v0 : Value) (v1 : Value)
    (r0 : Go.DI.VRep w (fun b => b < w.heap.size) Go.DI.ρ0 (Go.DI.Ty.enc (Go.DI.S.I) a0) v0) (r1 : Go.DI.VRep w (fun b => b < w.heap.size) Go.DI.ρ0 (Go.DI.Ty.enc (Go.DI.S.I) a1) v1) :
    Calls Tryz.prog 8 #[v0, v1] w fun e w' => e = .returned (.bool true) ∧ Go.DI.Stays w w' :=
  Go.DI.law_gen (C := Go.DI.S.CT) Go.DI.S.e_ung (x := (a0, a1, ())) (Go.DI.S.orderUngroups a0 a1 h0 h1) (vs := #[v0, v1]) (.cons r0 (.cons r1 (.nil)))

/-! ### The row's step. -/
set_option maxRecDepth 100000 in
theorem lifted (os : Os) (started : os.Started) (H : Type) (enc : TypeId × Value → H) :
    ReturnsInHanded {} Tryz.checked os 8 .any (Rows.orderUngroupsSpec.pre6 enc Tryz.prog Tryz.f8 Rows.orderUngroupsRow.domain false) (Rows.orderUngroupsSpec.post enc Tryz.prog Tryz.f8 false true false false) := by
  refine returnsInHanded_of_change (C := Tryz.checked) own started (by kernel_rfl) Tryz.func8
    (ChangeSpec.witness6 (enc := enc) (C := Tryz.checked) false ⟨#[], #[.int .i64 0, .int .i64 0], []⟩ 10 (by kernel_rfl) (by kernel_rfl) (by kernel_rfl) (by kernel_rfl)) ?_
  intro W base args ds gs before hval0 hW hcnd _
  have hval : ∀ (j : Nat) t v, Tryz.f8.params[j]? = some t → args[j]? = some v → Value.okWide Tryz.prog W .any base t v := hval0
  have hW' := hW
  obtain ⟨p, q, hA0, hV, rfl, hfz, hnd⟩ := hW
  have hA : DataW.TrodAll enc Tryz.prog W 0 (fun _ => true) true Tryz.f8.params.toList args.toList ds p := hA0
  rw [Tryz.params8] at hA hval
  have hA2 := hA
  obtain ⟨v0, vs0, d0, ds0, p0, q0, hargs, rfl, rfl, h0, r0⟩ := trodAll_cons hA
  obtain ⟨v1, vs1, d1, ds1, p1, q1, rfl, rfl, rfl, h1, r1⟩ := trodAll_cons r0
  obtain ⟨rfl, rfl, rfl⟩ := trodAll_nil r1
  obtain rfl : args = #[v0, v1] := by cases args; simp_all
  obtain ⟨rfl, rfl⟩ := trodVars_none hV
  obtain ⟨a0, w0, x0⟩ := Go.DI.arg_open (ρ := Go.DI.ρ0) (Go.DI.rdB_ok 8 _ _ rd3) (hval 0 3 v0 rfl rfl) h0
  obtain ⟨a1, w1, x1⟩ := Go.DI.arg_open (ρ := Go.DI.ρ0) (Go.DI.rdB_ok 8 _ _ rd3) (hval 1 3 v1 rfl rfl) h1
  clear hA0 hval0
  simp only [List.append_nil] at hW' hA2
  refine (walk a0 a1 w0 w1 W v0 v1 x0 x1).mono fun e W' ⟨he, hg⟩ => ?_
  subst he
  exact ⟨_, rfl, Go.DI.post_of_stay (pa := (p0 ++ p1)) (pv := []) hW' (fun _ _ _ => (trodAll_cons_mk (shut_bool Tryz.underlying4 _) trodAll_mk0))
    (fun sp hs => Go.DI.args_stay kids hg.2.2 (fun t ht => by
      simp only [Tryz.params8, List.mem_cons, List.mem_nil_iff, or_false] at ht
      rcases ht with rfl | rfl <;> simp) (by rw [Tryz.params8]; exact hA2) (fun q hq => hs q hq)) (fun _ _ => rfl) (by simp)
    (hg.frame _) hg.2.1 (ok_one (by kernel_rfl) rfl (okWide_bool_mk Tryz.underlying4 _))⟩

theorem inPlace : Tryz.prog.inPlace 8 = ["math.Float64frombits", "math.Float64bits", "math.RoundToEven", "slices.overlaps[maquette/api.Thing]", "math/bits.Add64"] := by kernel_rfl
theorem unfollowed : Tryz.prog.unfollowed 8 = true := by kernel_rfl
theorem recurses : Tryz.prog.recurses 8 = true := by kernel_rfl
theorem named : Tryz.prog.varsNamed 8 = ["math/bits.divideError", "math/bits.overflowError"] := by kernel_rfl
theorem closed : joinedFacts Tryz.prog 8 Tryz.f8 Rows.orderUngroupsSpec Rows.orderUngroupsRow = true := by
  unfold joinedFacts
  rw [inPlace, unfollowed, recurses, named]
  kernel_rfl

theorem over : Rows.orderUngroupsRow.holds Tryz.pinned (OpenSpec.ofChange Rows.orderUngroupsSpec) :=
  OpenClaim.holds_of_wide 8 Tryz.f8 rfl rfl rfl rfl rfl rfl rfl ⟨rfl, rfl, rfl, rfl, rfl⟩ rfl rfl rfl rfl rfl (by kernel_rfl) Tryz.func8 closed
    (of_decide_eq_true (by kernel_rfl)) (by unfold Func.isWrapper; first | (rw [if_pos (by decide +kernel)]; kernel_rfl) | (rw [if_neg (by decide +kernel)]; exact ⟨rfl, rfl⟩))
    (fun os started H enc _ => lifted os started H enc)

/-- ████ THE STATEMENT ████ -/
theorem proved : Rows.OrderUngroupsSaid :=
  over
#print axioms proved
end Go.Proofs.YtbjldjihpekhaaaGreat.orderUngroups
