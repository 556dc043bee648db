import Derived.Test.YtmleimalginhhaaMn0
/- SceneMany: things that are too many; the scenes at the end. No conditions. -/
set_option maxRecDepth 100000
set_option maxHeartbeats 0
namespace Go.DI.S
theorem w_41 : F_18 (st 40) (ball ((41 : Nat) : Int)) = some (zeroS, (12 : Int), ()) := by kernel_rfl
theorem w_42 : F_18 (st 40) (ball ((42 : Nat) : Int)) = some (zeroS, (12 : Int), ()) := by kernel_rfl
theorem w_43 : F_18 (st 40) (ball ((43 : Nat) : Int)) = some (zeroS, (12 : Int), ()) := by kernel_rfl
theorem w_44 : F_18 (st 40) (ball ((44 : Nat) : Int)) = some (zeroS, (12 : Int), ()) := by kernel_rfl
theorem w_45 : F_18 (st 40) (ball ((45 : Nat) : Int)) = some (zeroS, (12 : Int), ()) := by kernel_rfl
theorem w_46 : F_18 (st 40) (ball ((46 : Nat) : Int)) = some (zeroS, (12 : Int), ()) := by kernel_rfl
theorem w_47 : F_18 (st 40) (ball ((47 : Nat) : Int)) = some (zeroS, (12 : Int), ()) := by kernel_rfl
theorem w_48 : F_18 (st 40) (ball ((48 : Nat) : Int)) = some (zeroS, (12 : Int), ()) := by kernel_rfl
theorem w_49 : F_18 (st 40) (ball ((49 : Nat) : Int)) = some (zeroS, (12 : Int), ()) := by kernel_rfl
theorem w_50 : F_18 (st 40) (ball ((50 : Nat) : Int)) = some (zeroS, (12 : Int), ()) := by kernel_rfl
theorem z_0 : tail4 ((0 : Nat) : Int) (st 0) = some (true, ()) := by kernel_rfl
theorem z_1 : tail4 ((1 : Nat) : Int) (st 1) = some (true, ()) := by kernel_rfl
theorem z_2 : tail4 ((2 : Nat) : Int) (st 2) = some (true, ()) := by kernel_rfl
theorem z_3 : tail4 ((3 : Nat) : Int) (st 3) = some (true, ()) := by kernel_rfl
theorem z_4 : tail4 ((4 : Nat) : Int) (st 4) = some (true, ()) := by kernel_rfl
theorem z_5 : tail4 ((5 : Nat) : Int) (st 5) = some (true, ()) := by kernel_rfl
theorem z_6 : tail4 ((6 : Nat) : Int) (st 6) = some (true, ()) := by kernel_rfl
theorem z_7 : tail4 ((7 : Nat) : Int) (st 7) = some (true, ()) := by kernel_rfl
theorem z_8 : tail4 ((8 : Nat) : Int) (st 8) = some (true, ()) := by kernel_rfl
theorem z_9 : tail4 ((9 : Nat) : Int) (st 9) = some (true, ()) := by kernel_rfl
theorem z_10 : tail4 ((10 : Nat) : Int) (st 10) = some (true, ()) := by kernel_rfl
theorem z_11 : tail4 ((11 : Nat) : Int) (st 11) = some (true, ()) := by kernel_rfl
theorem z_12 : tail4 ((12 : Nat) : Int) (st 12) = some (true, ()) := by kernel_rfl
theorem z_13 : tail4 ((13 : Nat) : Int) (st 13) = some (true, ()) := by kernel_rfl
theorem z_14 : tail4 ((14 : Nat) : Int) (st 14) = some (true, ()) := by kernel_rfl
theorem z_15 : tail4 ((15 : Nat) : Int) (st 15) = some (true, ()) := by kernel_rfl
theorem z_16 : tail4 ((16 : Nat) : Int) (st 16) = some (true, ()) := by kernel_rfl
theorem z_17 : tail4 ((17 : Nat) : Int) (st 17) = some (true, ()) := by kernel_rfl
theorem z_18 : tail4 ((18 : Nat) : Int) (st 18) = some (true, ()) := by kernel_rfl
theorem z_19 : tail4 ((19 : Nat) : Int) (st 19) = some (true, ()) := by kernel_rfl
theorem z_20 : tail4 ((20 : Nat) : Int) (st 20) = some (true, ()) := by kernel_rfl
theorem z_21 : tail4 ((21 : Nat) : Int) (st 21) = some (true, ()) := by kernel_rfl
theorem z_22 : tail4 ((22 : Nat) : Int) (st 22) = some (true, ()) := by kernel_rfl
theorem z_23 : tail4 ((23 : Nat) : Int) (st 23) = some (true, ()) := by kernel_rfl
theorem z_24 : tail4 ((24 : Nat) : Int) (st 24) = some (true, ()) := by kernel_rfl
theorem z_25 : tail4 ((25 : Nat) : Int) (st 25) = some (true, ()) := by kernel_rfl
theorem z_26 : tail4 ((26 : Nat) : Int) (st 26) = some (true, ()) := by kernel_rfl
theorem z_27 : tail4 ((27 : Nat) : Int) (st 27) = some (true, ()) := by kernel_rfl
theorem z_28 : tail4 ((28 : Nat) : Int) (st 28) = some (true, ()) := by kernel_rfl
theorem z_29 : tail4 ((29 : Nat) : Int) (st 29) = some (true, ()) := by kernel_rfl
theorem z_30 : tail4 ((30 : Nat) : Int) (st 30) = some (true, ()) := by kernel_rfl
theorem z_31 : tail4 ((31 : Nat) : Int) (st 31) = some (true, ()) := by kernel_rfl
theorem z_32 : tail4 ((32 : Nat) : Int) (st 32) = some (true, ()) := by kernel_rfl
theorem z_33 : tail4 ((33 : Nat) : Int) (st 33) = some (true, ()) := by kernel_rfl
theorem z_34 : tail4 ((34 : Nat) : Int) (st 34) = some (true, ()) := by kernel_rfl
theorem z_35 : tail4 ((35 : Nat) : Int) (st 35) = some (true, ()) := by kernel_rfl
theorem z_36 : tail4 ((36 : Nat) : Int) (st 36) = some (true, ()) := by kernel_rfl
theorem z_37 : tail4 ((37 : Nat) : Int) (st 37) = some (true, ()) := by kernel_rfl
theorem z_38 : tail4 ((38 : Nat) : Int) (st 38) = some (true, ()) := by kernel_rfl
theorem z_39 : tail4 ((39 : Nat) : Int) (st 39) = some (true, ()) := by kernel_rfl
theorem z_40 : tail4 ((40 : Nat) : Int) (st 40) = some (true, ()) := by kernel_rfl
theorem z_41 : tail4 ((41 : Nat) : Int) (st 40) = some (true, ()) := by kernel_rfl
theorem z_42 : tail4 ((42 : Nat) : Int) (st 40) = some (true, ()) := by kernel_rfl
theorem z_43 : tail4 ((43 : Nat) : Int) (st 40) = some (true, ()) := by kernel_rfl
theorem z_44 : tail4 ((44 : Nat) : Int) (st 40) = some (true, ()) := by kernel_rfl
theorem z_45 : tail4 ((45 : Nat) : Int) (st 40) = some (true, ()) := by kernel_rfl
theorem z_46 : tail4 ((46 : Nat) : Int) (st 40) = some (true, ()) := by kernel_rfl
theorem z_47 : tail4 ((47 : Nat) : Int) (st 40) = some (true, ()) := by kernel_rfl
theorem z_48 : tail4 ((48 : Nat) : Int) (st 40) = some (true, ()) := by kernel_rfl
theorem z_49 : tail4 ((49 : Nat) : Int) (st 40) = some (true, ()) := by kernel_rfl
theorem z_50 : tail4 ((50 : Nat) : Int) (st 40) = some (true, ()) := by kernel_rfl
end Go.DI.S
