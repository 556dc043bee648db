/- The statement PastPieces: whatever is handed in, the call returns true, and what was handed in reads afterwards as before. No conditions. -/
import Derived.Test.YtehnecfmjfpclaaGreatNd
import Derived.Test.YtehnecfmjfpclaaGreatRows
import Derived.WalkKit
import Derived.ProofKit
import Derived.OpenShut
namespace Go.Proofs.YtehnecfmjfpclaaGreat.pastPieces
open Go.ChangeShapes Go.WideShapes Go.ChangeAt Go.RowKit
set_option linter.unusedVariables false
theorem own : ownKnob Tryz.prog.godebug = none := by kernel_rfl
theorem kids : Go.DI.kidsB Tryz.prog [3] = true := by kernel_rfl
theorem rd3 : Go.DI.rdB Tryz.prog 8 (Go.DI.S.I) 3 = true := by kernel_rfl
theorem walk (a0 : (Go.DI.S.I).El) (h0 : Go.DI.Ty.wf (Go.DI.S.I) a0) (w : World) (v0 : Value)
    (r0 : Go.DI.VRep w (fun b => b < w.heap.size) Go.DI.ρ0 (Go.DI.Ty.enc (Go.DI.S.I) a0) v0) :
    Calls Tryz.prog 4 #[v0] w fun e w' => e = .returned (.bool true) ∧ Go.DI.Stays w w' :=
  Go.DI.law_gen (C := Go.DI.S.CT) Go.DI.S.e_pieces (x := (a0, ())) (Go.DI.S.pastPieces a0 h0) (vs := #[v0]) (.cons r0 (.nil))
set_option maxRecDepth 100000 in
theorem lifted (os : Os) (started : os.Started) (H : Type) (enc : TypeId × Value → H) :
    ReturnsInHanded {} Tryz.checked os 4 .any (Rows.pastPiecesSpec.pre6 enc Tryz.prog Tryz.f4 Rows.pastPiecesRow.domain false) (Rows.pastPiecesSpec.post enc Tryz.prog Tryz.f4 false true false false) := by
  refine returnsInHanded_of_change (C := Tryz.checked) own started (by kernel_rfl) Tryz.func4
    (ChangeSpec.witness6 (enc := enc) (C := Tryz.checked) false ⟨#[], #[.int .i64 0], []⟩ 10 (by kernel_rfl) (by kernel_rfl) (by kernel_rfl) (by kernel_rfl)) ?_
  intro W base args ds gs before hval0 hW hcnd _
  have hval : ∀ (j : Nat) t v, Tryz.f4.params[j]? = some t → args[j]? = some v → Value.okWide Tryz.prog W .any base t v := hval0
  have hW' := hW
  obtain ⟨p, q, hA0, hV, rfl, hfz, hnd⟩ := hW
  have hA : DataW.TrodAll enc Tryz.prog W 0 (fun _ => true) true Tryz.f4.params.toList args.toList ds p := hA0
  rw [Tryz.params4] at hA hval
  have hA2 := hA
  obtain ⟨v0, vs0, d0, ds0, p0, q0, hargs, rfl, rfl, h0, r0⟩ := trodAll_cons hA
  obtain ⟨rfl, rfl, rfl⟩ := trodAll_nil r0
  obtain rfl : args = #[v0] := by cases args; simp_all
  obtain ⟨rfl, rfl⟩ := trodVars_none hV
  obtain ⟨a0, w0, x0⟩ := Go.DI.arg_open (ρ := Go.DI.ρ0) (Go.DI.rdB_ok 8 _ _ rd3) (hval 0 3 v0 rfl rfl) h0
  clear hA0 hval0
  simp only [List.append_nil] at hW' hA2
  refine (walk a0 w0 W v0 x0).mono fun e W' ⟨he, hg⟩ => ?_
  subst he
  exact ⟨_, rfl, Go.DI.post_of_stay (pa := p0) (pv := []) hW' (fun _ _ _ => (trodAll_cons_mk (shut_bool Tryz.underlying4 _) trodAll_mk0))
    (fun sp hs => Go.DI.args_stay kids hg.2.2 (fun t ht => by
      simp only [Tryz.params4, List.mem_cons, List.mem_nil_iff, or_false] at ht
      rcases ht with rfl <;> simp) (by rw [Tryz.params4]; exact hA2) (fun q hq => hs q hq)) (fun _ _ => rfl) (by simp)
    (hg.frame _) hg.2.1 (ok_one (by kernel_rfl) rfl (okWide_bool_mk Tryz.underlying4 _))⟩
theorem inPlace : Tryz.prog.inPlace 4 = [] := by kernel_rfl
theorem unfollowed : Tryz.prog.unfollowed 4 = true := by kernel_rfl
theorem recurses : Tryz.prog.recurses 4 = true := by kernel_rfl
theorem named : Tryz.prog.varsNamed 4 = [] := by kernel_rfl
theorem closed : joinedFacts Tryz.prog 4 Tryz.f4 Rows.pastPiecesSpec Rows.pastPiecesRow = true := by
  unfold joinedFacts
  rw [inPlace, unfollowed, recurses, named]
  kernel_rfl
theorem over : Rows.pastPiecesRow.holds Tryz.pinned (OpenSpec.ofChange Rows.pastPiecesSpec) :=
  OpenClaim.holds_of_wide 4 Tryz.f4 rfl rfl rfl rfl rfl rfl rfl ⟨rfl, rfl, rfl, rfl, rfl⟩ rfl rfl rfl rfl rfl (by kernel_rfl) Tryz.func4 closed
    (of_decide_eq_true (by kernel_rfl)) (by unfold Func.isWrapper; first | (rw [if_pos (by decide +kernel)]; kernel_rfl) | (rw [if_neg (by decide +kernel)]; exact ⟨rfl, rfl⟩))
    (fun os started H enc _ => lifted os started H enc)
theorem proved : Rows.PastPiecesSaid :=
  over
#print axioms proved
end Go.Proofs.YtehnecfmjfpclaaGreat.pastPieces
