import Derived.Test.YtbjldjihpekhaaaGreatNc
import Derived.Test.YtbjldjihpekhaaaGreatOa
import Derived.Test.YtbjldjihpekhaaaGreatQg
/- OrderEdges, plain. No conditions. -/
/-! OrderEdges, plain. -/
set_option linter.unusedVariables false
set_option linter.unusedSimpArgs false
set_option maxRecDepth 100000
set_option maxHeartbeats 0
namespace Go.DI.S
open Go.Proofs
theorem ixE_in {n : Int} (a : Int) (h1 : 1 ≤ n) (h2 : n ≤ 5) : 0 ≤ ixE a n ∧ ixE a n < n := by
  have h3 := Int.tmod_lt_of_pos a (b := n) (by omega)
  have h4 : -n < Int.tmod a n := Int.lt_tmod_of_pos a (by omega)
  have w : IntKind.i64.wrap (Int.tmod a n + n) = Int.tmod a n + n := Go.DI.wrap64 (by omega) (by omega)
  unfold ixE
  rw [w]
  exact ⟨Int.tmod_nonneg _ (by omega), Int.tmod_lt_of_pos _ (by omega)⟩
theorem ix5 (a : Int) : ixE a 5 = 0 ∨ ixE a 5 = 1 ∨ ixE a 5 = 2 ∨ ixE a 5 = 3 ∨ ixE a 5 = 4 := by
  have h := ixE_in a (n := 5) (by omega) (by omega); omega
theorem ix2 (a : Int) : ixE a 2 = 0 ∨ ixE a 2 = 1 := by
  have h := ixE_in a (n := 2) (by omega) (by omega); omega
theorem ix1 (a : Int) : ixE a 1 = 0 := by
  have h := ixE_in a (n := 1) (by omega) (by omega); omega
noncomputable def b1E : Ty.El tThing := match F_17 (1 : Int) (0 : Int) (0 : Int) (4294967296 : Int) with | some x => x.1 | none => tThing.dflt
noncomputable def b2E : Ty.El tThing := match F_17 (2 : Int) (4294967296 : Int) (0 : Int) (0 : Int) with | some x => x.1 | none => tThing.dflt
theorem hb1E : F_17 (1 : Int) (0 : Int) (0 : Int) (4294967296 : Int) = some (b1E, ()) := by kernel_rfl
theorem hb2E : F_17 (2 : Int) (4294967296 : Int) (0 : Int) (0 : Int) = some (b2E, ()) := by kernel_rfl
noncomputable def sE : Ty.El tScene := (((0 : Int), (0 : Int)), (3 : Int), [b1E, b2E])
theorem scE_eq (k : Ty.El tScene → Option (Els [.bool])) : scE k = k sE := by
  unfold scE
  rw [hb1E, hb2E]
  rfl
theorem nanE : F_nan = some ((9221120237041090561 : Nat), ()) := by kernel_rfl
theorem infE : F_inf (1 : Int) = some ((9218868437227405312 : Nat), ()) := by kernel_rfl
theorem ninfE : F_inf (-1 : Int) = some ((18442240474082181120 : Nat), ()) := by kernel_rfl
theorem cpsE : F_copysign (0 : Nat) (13830554455654793216 : Nat) = some ((9223372036854775808 : Nat), ()) := by kernel_rfl
end Go.DI.S

/-! OrderEdges, plain. -/
set_option linter.unusedVariables false
set_option linter.unusedSimpArgs false
set_option maxRecDepth 100000
set_option maxHeartbeats 0
namespace Go.DI.S
open Go.Proofs
theorem pl_0_1 (a : Int) : plE a sE (9221120237041090561 : Nat) 1 [88, 89, 87, 72, 77] 5 = some ((true, ()) : Els [.bool]) := by
  rcases ix5 a with h | h | h | h | h <;> (unfold plE; rw [h]; kernel_rfl)
theorem pl_0_3 (a : Int) : plE a sE (9221120237041090561 : Nat) 3 [88, 89] 2 = some ((true, ()) : Els [.bool]) := by
  rcases ix2 a with h | h <;> (unfold plE; rw [h]; kernel_rfl)
theorem pl_0_4 (a : Int) : plE a sE (9221120237041090561 : Nat) 4 [87] 1 = some ((true, ()) : Els [.bool]) := by
  rcases (show ixE a 1 = 0 ∨ ixE a 1 = 0 from .inl (ix1 a)) with h | h <;> (unfold plE; rw [h]; kernel_rfl)
theorem pl_0_7 (a : Int) : plE a sE (9221120237041090561 : Nat) 7 [88, 89] 2 = some ((true, ()) : Els [.bool]) := by
  rcases ix2 a with h | h <;> (unfold plE; rw [h]; kernel_rfl)
theorem pl_0_8 (a : Int) : plE a sE (9221120237041090561 : Nat) 8 [88, 89] 2 = some ((true, ()) : Els [.bool]) := by
  rcases ix2 a with h | h <;> (unfold plE; rw [h]; kernel_rfl)
theorem kd_0 (a1 a2 : Int) : kdE a1 a2 (9221120237041090561 : Nat) sE = some ((true, ()) : Els [.bool]) := by
  unfold kdE
  rcases ix5 a1 with h | h | h | h | h <;> rw [h]
  · exact pl_0_1 a2
  · exact pl_0_3 a2
  · exact pl_0_4 a2
  · exact pl_0_7 a2
  · exact pl_0_8 a2
end Go.DI.S

/-! OrderEdges, plain. -/
set_option linter.unusedVariables false
set_option linter.unusedSimpArgs false
set_option maxRecDepth 100000
set_option maxHeartbeats 0
namespace Go.DI.S
open Go.Proofs
theorem pl_1_1 (a : Int) : plE a sE (9218868437227405312 : Nat) 1 [88, 89, 87, 72, 77] 5 = some ((true, ()) : Els [.bool]) := by
  rcases ix5 a with h | h | h | h | h <;> (unfold plE; rw [h]; kernel_rfl)
theorem pl_1_3 (a : Int) : plE a sE (9218868437227405312 : Nat) 3 [88, 89] 2 = some ((true, ()) : Els [.bool]) := by
  rcases ix2 a with h | h <;> (unfold plE; rw [h]; kernel_rfl)
theorem pl_1_4 (a : Int) : plE a sE (9218868437227405312 : Nat) 4 [87] 1 = some ((true, ()) : Els [.bool]) := by
  rcases (show ixE a 1 = 0 ∨ ixE a 1 = 0 from .inl (ix1 a)) with h | h <;> (unfold plE; rw [h]; kernel_rfl)
theorem pl_1_7 (a : Int) : plE a sE (9218868437227405312 : Nat) 7 [88, 89] 2 = some ((true, ()) : Els [.bool]) := by
  rcases ix2 a with h | h <;> (unfold plE; rw [h]; kernel_rfl)
theorem pl_1_8 (a : Int) : plE a sE (9218868437227405312 : Nat) 8 [88, 89] 2 = some ((true, ()) : Els [.bool]) := by
  rcases ix2 a with h | h <;> (unfold plE; rw [h]; kernel_rfl)
theorem kd_1 (a1 a2 : Int) : kdE a1 a2 (9218868437227405312 : Nat) sE = some ((true, ()) : Els [.bool]) := by
  unfold kdE
  rcases ix5 a1 with h | h | h | h | h <;> rw [h]
  · exact pl_1_1 a2
  · exact pl_1_3 a2
  · exact pl_1_4 a2
  · exact pl_1_7 a2
  · exact pl_1_8 a2
end Go.DI.S

/-! OrderEdges, plain. -/
set_option linter.unusedVariables false
set_option linter.unusedSimpArgs false
set_option maxRecDepth 100000
set_option maxHeartbeats 0
namespace Go.DI.S
open Go.Proofs
theorem pl_2_1 (a : Int) : plE a sE (18442240474082181120 : Nat) 1 [88, 89, 87, 72, 77] 5 = some ((true, ()) : Els [.bool]) := by
  rcases ix5 a with h | h | h | h | h <;> (unfold plE; rw [h]; kernel_rfl)
theorem pl_2_3 (a : Int) : plE a sE (18442240474082181120 : Nat) 3 [88, 89] 2 = some ((true, ()) : Els [.bool]) := by
  rcases ix2 a with h | h <;> (unfold plE; rw [h]; kernel_rfl)
theorem pl_2_4 (a : Int) : plE a sE (18442240474082181120 : Nat) 4 [87] 1 = some ((true, ()) : Els [.bool]) := by
  rcases (show ixE a 1 = 0 ∨ ixE a 1 = 0 from .inl (ix1 a)) with h | h <;> (unfold plE; rw [h]; kernel_rfl)
theorem pl_2_7 (a : Int) : plE a sE (18442240474082181120 : Nat) 7 [88, 89] 2 = some ((true, ()) : Els [.bool]) := by
  rcases ix2 a with h | h <;> (unfold plE; rw [h]; kernel_rfl)
theorem pl_2_8 (a : Int) : plE a sE (18442240474082181120 : Nat) 8 [88, 89] 2 = some ((true, ()) : Els [.bool]) := by
  rcases ix2 a with h | h <;> (unfold plE; rw [h]; kernel_rfl)
theorem kd_2 (a1 a2 : Int) : kdE a1 a2 (18442240474082181120 : Nat) sE = some ((true, ()) : Els [.bool]) := by
  unfold kdE
  rcases ix5 a1 with h | h | h | h | h <;> rw [h]
  · exact pl_2_1 a2
  · exact pl_2_3 a2
  · exact pl_2_4 a2
  · exact pl_2_7 a2
  · exact pl_2_8 a2
end Go.DI.S

/-! OrderEdges, plain. -/
set_option linter.unusedVariables false
set_option linter.unusedSimpArgs false
set_option maxRecDepth 100000
set_option maxHeartbeats 0
namespace Go.DI.S
open Go.Proofs
theorem pl_3_1 (a : Int) : plE a sE (9223372036854775808 : Nat) 1 [88, 89, 87, 72, 77] 5 = some ((true, ()) : Els [.bool]) := by
  rcases ix5 a with h | h | h | h | h <;> (unfold plE; rw [h]; kernel_rfl)
theorem pl_3_3 (a : Int) : plE a sE (9223372036854775808 : Nat) 3 [88, 89] 2 = some ((true, ()) : Els [.bool]) := by
  rcases ix2 a with h | h <;> (unfold plE; rw [h]; kernel_rfl)
theorem pl_3_4 (a : Int) : plE a sE (9223372036854775808 : Nat) 4 [87] 1 = some ((true, ()) : Els [.bool]) := by
  rcases (show ixE a 1 = 0 ∨ ixE a 1 = 0 from .inl (ix1 a)) with h | h <;> (unfold plE; rw [h]; kernel_rfl)
theorem pl_3_7 (a : Int) : plE a sE (9223372036854775808 : Nat) 7 [88, 89] 2 = some ((true, ()) : Els [.bool]) := by
  rcases ix2 a with h | h <;> (unfold plE; rw [h]; kernel_rfl)
theorem pl_3_8 (a : Int) : plE a sE (9223372036854775808 : Nat) 8 [88, 89] 2 = some ((true, ()) : Els [.bool]) := by
  rcases ix2 a with h | h <;> (unfold plE; rw [h]; kernel_rfl)
theorem kd_3 (a1 a2 : Int) : kdE a1 a2 (9223372036854775808 : Nat) sE = some ((true, ()) : Els [.bool]) := by
  unfold kdE
  rcases ix5 a1 with h | h | h | h | h <;> rw [h]
  · exact pl_3_1 a2
  · exact pl_3_3 a2
  · exact pl_3_4 a2
  · exact pl_3_7 a2
  · exact pl_3_8 a2
end Go.DI.S

/-! OrderEdges, plain. -/
set_option linter.unusedVariables false
set_option linter.unusedSimpArgs false
set_option maxRecDepth 100000
set_option maxHeartbeats 0
namespace Go.DI.S
open Go.Proofs
theorem pl_4_1 (a : Int) : plE a sE (0 : Nat) 1 [88, 89, 87, 72, 77] 5 = some ((true, ()) : Els [.bool]) := by
  rcases ix5 a with h | h | h | h | h <;> (unfold plE; rw [h]; kernel_rfl)
theorem pl_4_3 (a : Int) : plE a sE (0 : Nat) 3 [88, 89] 2 = some ((true, ()) : Els [.bool]) := by
  rcases ix2 a with h | h <;> (unfold plE; rw [h]; kernel_rfl)
theorem pl_4_4 (a : Int) : plE a sE (0 : Nat) 4 [87] 1 = some ((true, ()) : Els [.bool]) := by
  rcases (show ixE a 1 = 0 ∨ ixE a 1 = 0 from .inl (ix1 a)) with h | h <;> (unfold plE; rw [h]; kernel_rfl)
theorem pl_4_7 (a : Int) : plE a sE (0 : Nat) 7 [88, 89] 2 = some ((true, ()) : Els [.bool]) := by
  rcases ix2 a with h | h <;> (unfold plE; rw [h]; kernel_rfl)
theorem pl_4_8 (a : Int) : plE a sE (0 : Nat) 8 [88, 89] 2 = some ((true, ()) : Els [.bool]) := by
  rcases ix2 a with h | h <;> (unfold plE; rw [h]; kernel_rfl)
theorem kd_4 (a1 a2 : Int) : kdE a1 a2 (0 : Nat) sE = some ((true, ()) : Els [.bool]) := by
  unfold kdE
  rcases ix5 a1 with h | h | h | h | h <;> rw [h]
  · exact pl_4_1 a2
  · exact pl_4_3 a2
  · exact pl_4_4 a2
  · exact pl_4_7 a2
  · exact pl_4_8 a2
end Go.DI.S

/-! OrderEdges, plain. -/
set_option linter.unusedVariables false
set_option linter.unusedSimpArgs false
set_option maxRecDepth 100000
set_option maxHeartbeats 0
namespace Go.DI.S
open Go.Proofs
theorem orderEdges (a1 a2 a3 a4 : Int) (h1 : Ty.wf I a1) (h2 : Ty.wf I a2) (h3 : Ty.wf I a3) (h4 : Ty.wf I a4) : F_edges a1 a2 a3 a4 = some ((true, ()) : Els [.bool]) := by
  unfold F_edges
  refine bnd alive_true (noQ rfl (bnd nanE (bnd infE (bnd ninfE (bnd cpsE ?_)))))
  rw [scE_eq, scE_eq, scE_eq, scE_eq, scE_eq]
  rcases ix5 a3 with h | h | h | h | h <;> rw [h]
  · exact kd_0 a1 a2
  · exact kd_1 a1 a2
  · exact kd_2 a1 a2
  · exact kd_3 a1 a2
  · exact kd_4 a1 a2
end Go.DI.S

