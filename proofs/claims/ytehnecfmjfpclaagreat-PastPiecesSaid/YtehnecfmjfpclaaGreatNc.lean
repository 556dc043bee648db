import Derived.Test.YtehnecfmjfpclaaGreatNb
/- The scenes of the statement may be. No conditions. -/
set_option linter.unusedVariables false
set_option linter.unusedSimpArgs false
set_option maxRecDepth 100000
set_option maxHeartbeats 0
namespace Go.DI.S
open Go.Proofs
theorem alive30 : F_30 = some ((true, ()) : Els [.bool]) := by kernel_rfl
def newS : Scene := (((0 : Int), (0 : Int)), (1 : Int), [])
theorem v_19n : F_19 = some ((newS, ()) : Els [tScene]) := by kernel_rfl
def ballT (k : Nat) : Thing := ((k : Int), (1 : Int), ((1 : Int), ((4294967296 : Int), (0 : Int)), (4294967296 : Int), ((k : Int) * (4294967296 : Int), (0 : Int)), (0 : Int), (0 : Int)), ((0 : Int), (0 : Int), (0 : Int)), [])
def bls (n : Nat) : List Thing := (List.range n).map fun i => ballT (i + 1)
def bS (n : Nat) : Scene := (((0 : Int), (0 : Int)), (50 : Int), bls n)
theorem bls_succ (n : Nat) : bls (n + 1) = bls n ++ [ballT (n + 1)] := by unfold bls; rw [List.range_succ, List.map_append]; rfl
theorem bls_len (n : Nat) : (bls n).length = n := by unfold bls; simp
theorem bls_small (n : Nat) (hn : n ≤ 1000) : Small (bls n) := ⟨by rw [bls_len]; omega, fun t ht => by
  obtain ⟨i, _, rfl⟩ := List.mem_map.1 ht
  exact Nat.zero_le _⟩
noncomputable def okS (n : Nat) : Bool := match F_20 (bS n) with | some x => x.1 | none => false
theorem okS_all : (List.range 41).all okS = true := by kernel_rfl
theorem bS_right {n : Nat} (hn : n ≤ 40) : rightB (bS n) = true := by
  have h := List.all_eq_true.1 okS_all n (List.mem_range.2 (by omega))
  unfold okS at h
  rw [v_20 (bS n) (bls_small n (by omega))] at h
  exact h
end Go.DI.S
