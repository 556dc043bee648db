import Derived.Test.YtmleimalginhhaaKna
import Derived.Test.YtmleimalginhhaaKnb
import Derived.Test.YtmleimalginhhaaKnc
/- KinNests, plain: at every number it comes to true. No conditions. -/
set_option linter.unusedVariables false
set_option maxRecDepth 100000
namespace Go.DI.S
theorem kinNests (a : Int) (h : I.wf a) : F_14 a = some (true, ()) := by
  by_cases c1 : a < 1
  · unfold F_14
    rw [decide_eq_true c1, alive36]; rfl
  · by_cases c2 : a > 15
    · unfold F_14
      rw [decide_eq_false c1, decide_eq_true c2, alive36]; rfl
    · have hc : a = 1 ∨ a = 2 ∨ a = 3 ∨ a = 4 ∨ a = 5 ∨ a = 6 ∨ a = 7 ∨ a = 8 ∨ a = 9 ∨ a = 10 ∨ a = 11 ∨ a = 12 ∨ a = 13 ∨ a = 14 ∨ a = 15 := by omega
      rcases hc with rfl | rfl | rfl | rfl | rfl | rfl | rfl | rfl | rfl | rfl | rfl | rfl | rfl | rfl | rfl
      · exact nests1
      · exact nests2
      · exact nests3
      · exact nests4
      · exact nests5
      · exact nests6
      · exact nests7
      · exact nests8
      · exact nests9
      · exact nests10
      · exact nests11
      · exact nests12
      · exact nests13
      · exact nests14
      · exact nests15
end Go.DI.S
