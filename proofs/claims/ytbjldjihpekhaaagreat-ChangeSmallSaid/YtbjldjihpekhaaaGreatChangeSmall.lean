/- The statement ChangeSmall: whatever is handed in, the call returns true, and what was handed in reads afterwards as before. No conditions. -/
import Derived.Test.YtbjldjihpekhaaaGreatZg
import Derived.Test.YtbjldjihpekhaaaGreatRows
import Derived.WalkKit
import Derived.ProofKit
import Derived.OpenShut
namespace Go.Proofs.YtbjldjihpekhaaaGreat.changeSmall
open Go.ChangeShapes Go.WideShapes Go.ChangeAt Go.RowKit
set_option linter.unusedVariables false
theorem own : ownKnob Tryz.prog.godebug = none := by kernel_rfl
theorem kids : Go.DI.aRT Tryz.prog [3, 9, 22, 23, 25, 46, 48, 49, 64, 66, 68] = true := by kernel_rfl
theorem bIa : Go.DI.rdB Tryz.prog 8 (Go.DI.S.aU) 48 = true := by kernel_rfl
theorem rd3 : Go.DI.rdB Tryz.prog 8 (Go.DI.S.I) 3 = true := by kernel_rfl
theorem bIb : Go.DI.rdB Tryz.prog 8 (Go.DI.Ty.list Go.DI.S.aA) 49 = true := by kernel_rfl
theorem bIc : Go.DI.rdB Tryz.prog 8 (Go.DI.S.kY) 25 = true := by kernel_rfl
theorem walk (a0 : (Go.DI.S.aU).El) (a1 : (Go.DI.S.I).El) (a2 : (Go.DI.Ty.list Go.DI.S.aA).El) (a3 : (Go.DI.S.kY).El) (h0 : Go.DI.Ty.wf (Go.DI.S.aU) a0) (h1 : Go.DI.Ty.wf (Go.DI.S.I) a1) (h2 : Go.DI.Ty.wf (Go.DI.Ty.list Go.DI.S.aA) a2) (h3 : Go.DI.Ty.wf (Go.DI.S.kY) a3) (w : World) (v0 : Value) (v1 : Value) (v2 : Value) (v3 : Value)
    (r0 : Go.DI.aI w (fun b => b < w.heap.size) Go.DI.gI (Go.DI.Ty.enc (Go.DI.S.aU) a0) v0) (r1 : Go.DI.aI w (fun b => b < w.heap.size) Go.DI.gI (Go.DI.Ty.enc (Go.DI.S.I) a1) v1) (r2 : Go.DI.aI w (fun b => b < w.heap.size) Go.DI.gI (Go.DI.Ty.enc (Go.DI.Ty.list Go.DI.S.aA) a2) v2) (r3 : Go.DI.aI w (fun b => b < w.heap.size) Go.DI.gI (Go.DI.Ty.enc (Go.DI.S.kY) a3) v3) :
    Calls Tryz.prog 11 #[v0, v1, v2, v3] w fun e w' => e = .returned (.bool true) ∧ Go.DI.aFd w w' :=
  Go.DI.aYB (C := Go.DI.S.CT) Go.DI.S.a1i (x := (a0, a1, a2, a3, ())) (Go.DI.S.changeSmall a0 a1 a2 a3 h0 h1 h2 h3) (vs := #[v0, v1, v2, v3]) (.cons r0 (.cons r1 (.cons r2 (.cons r3 (.nil)))))
set_option maxRecDepth 100000 in
theorem lifted (os : Os) (started : os.Started) (H : Type) (enc : TypeId × Value → H) :
    ReturnsInHanded {} Tryz.checked os 11 .any (Rows.changeSmallSpec.pre6 enc Tryz.prog Tryz.f11 Rows.changeSmallRow.domain false) (Rows.changeSmallSpec.post enc Tryz.prog Tryz.f11 false true false false) := by
  refine returnsInHanded_of_change (C := Tryz.checked) own started (by kernel_rfl) Tryz.func11
    (ChangeSpec.witness6 (enc := enc) (C := Tryz.checked) false ⟨#[], #[.agg #[.int .i64 0, .int .i64 0], .int .i64 0, .slice none 0 0, .agg #[.int .i64 0, .int .i64 0, .int .i64 0, .int .i64 0, .float .f64 0, .float .f64 0, .float .f64 0, .float .f64 0, .float .f64 0, .int .i64 0, .int .i64 0, .slice none 0 0]], []⟩ 10 (by kernel_rfl) (by kernel_rfl) (by kernel_rfl) (by kernel_rfl)) ?_
  intro W base args ds gs before hval0 hW hcnd _
  have hval : ∀ (j : Nat) t v, Tryz.f11.params[j]? = some t → args[j]? = some v → Value.okWide Tryz.prog W .any base t v := hval0
  have hW' := hW
  obtain ⟨p, q, hA0, hV, rfl, hfz, hnd⟩ := hW
  have hA : DataW.TrodAll enc Tryz.prog W 0 (fun _ => true) true Tryz.f11.params.toList args.toList ds p := hA0
  rw [Tryz.params11] at hA hval
  have hA2 := hA
  obtain ⟨v0, vs0, d0, ds0, p0, q0, hargs, rfl, rfl, h0, r0⟩ := trodAll_cons hA
  obtain ⟨v1, vs1, d1, ds1, p1, q1, rfl, rfl, rfl, h1, r1⟩ := trodAll_cons r0
  obtain ⟨v2, vs2, d2, ds2, p2, q2, rfl, rfl, rfl, h2, r2⟩ := trodAll_cons r1
  obtain ⟨v3, vs3, d3, ds3, p3, q3, rfl, rfl, rfl, h3, r3⟩ := trodAll_cons r2
  obtain ⟨rfl, rfl, rfl⟩ := trodAll_nil r3
  obtain rfl : args = #[v0, v1, v2, v3] := by cases args; simp_all
  obtain ⟨rfl, rfl⟩ := trodVars_none hV
  obtain ⟨a0, w0, x0⟩ := Go.DI.FC (ρ := Go.DI.gI) (Go.DI.I9 8 _ _ bIa) (hval 0 48 v0 rfl rfl) h0
  obtain ⟨a1, w1, x1⟩ := Go.DI.FC (ρ := Go.DI.gI) (Go.DI.I9 8 _ _ rd3) (hval 1 3 v1 rfl rfl) h1
  obtain ⟨a2, w2, x2⟩ := Go.DI.FC (ρ := Go.DI.gI) (Go.DI.I9 8 _ _ bIb) (hval 2 49 v2 rfl rfl) h2
  obtain ⟨a3, w3, x3⟩ := Go.DI.FC (ρ := Go.DI.gI) (Go.DI.I9 8 _ _ bIc) (hval 3 25 v3 rfl rfl) h3
  clear hA0 hval0
  simp only [List.append_nil] at hW' hA2
  refine (walk a0 a1 a2 a3 w0 w1 w2 w3 W v0 v1 v2 v3 x0 x1 x2 x3).mono fun e W' ⟨he, hg⟩ => ?_
  subst he
  exact ⟨_, rfl, Go.DI.aBh (pa := (p0 ++ (p1 ++ (p2 ++ p3)))) (pv := []) hW' (fun _ _ _ => (trodAll_cons_mk (shut_bool Tryz.underlying4 _) trodAll_mk0))
    (fun sp hs => Go.DI.YS kids hg.2.2 (fun t ht => by
      simp only [Tryz.params11, List.mem_cons, List.mem_nil_iff, or_false] at ht
      rcases ht with rfl | rfl | rfl | rfl <;> simp) (by rw [Tryz.params11]; exact hA2) (fun q hq => hs q hq)) (fun _ _ => rfl) (by simp)
    (hg.frame _) hg.2.1 (ok_one (by kernel_rfl) rfl (okWide_bool_mk Tryz.underlying4 _))⟩
theorem inPlace : Tryz.prog.inPlace 11 = ["math.Float64bits", "math.Float64frombits", "math.RoundToEven", "slices.overlaps[maquette/api.Thing]", "math/bits.Add64"] := by kernel_rfl
theorem unfollowed : Tryz.prog.unfollowed 11 = true := by kernel_rfl
theorem recurses : Tryz.prog.recurses 11 = true := by kernel_rfl
theorem named : Tryz.prog.varsNamed 11 = ["math/bits.divideError", "math/bits.overflowError"] := by kernel_rfl
theorem closed : joinedFacts Tryz.prog 11 Tryz.f11 Rows.changeSmallSpec Rows.changeSmallRow = true := by
  unfold joinedFacts
  rw [inPlace, unfollowed, recurses, named]
  kernel_rfl
theorem over : Rows.changeSmallRow.holds Tryz.pinned (OpenSpec.ofChange Rows.changeSmallSpec) :=
  OpenClaim.holds_of_wide 11 Tryz.f11 rfl rfl rfl rfl rfl rfl rfl ⟨rfl, rfl, rfl, rfl, rfl⟩ rfl rfl rfl rfl rfl (by kernel_rfl) Tryz.func11 closed
    (of_decide_eq_true (by kernel_rfl)) (by unfold Func.isWrapper; first | (rw [if_pos (by decide +kernel)]; kernel_rfl) | (rw [if_neg (by decide +kernel)]; exact ⟨rfl, rfl⟩))
    (fun os started H enc _ => lifted os started H enc)
theorem proved : Rows.ChangeSmallSaid :=
  over
#print axioms proved
end Go.Proofs.YtbjldjihpekhaaaGreat.changeSmall
