import Derived.Test.YtmleimalginhhaaSc
/- SceneMany: the scenes that it goes through. No conditions. -/
set_option maxRecDepth 100000
set_option maxHeartbeats 0
namespace Go.DI.S
def ball (k : Int) : Ty.El tThing := (k, 1, (1, (4294967296, 0), 4294967296, (0, 0), (0, 0)), (0, 0, 0), [])
def balls : List (Ty.El tThing) := [ball 1, ball 2, ball 3, ball 4, ball 5, ball 6, ball 7, ball 8, ball 9, ball 10, ball 11, ball 12, ball 13, ball 14, ball 15, ball 16, ball 17, ball 18, ball 19, ball 20, ball 21, ball 22, ball 23, ball 24, ball 25, ball 26, ball 27, ball 28, ball 29, ball 30, ball 31, ball 32, ball 33, ball 34, ball 35, ball 36, ball 37, ball 38, ball 39, ball 40]
def st (j : Nat) : Ty.El tScene := ((0, 0), 100, balls.take j)
def zeroS : Ty.El tScene := ((0, 0), 0, [])
noncomputable def tail4 (n : Int) (s : Ty.El tScene) : Option (Els [.bool]) :=
  bif (((s.2.2.length : Nat) : Int) == if (40 : Int) < n then (40 : Int) else n) then
    (F_20 s).bind fun v14 => bif v14.1 then (F_21 s).bind fun v16 => some ((((v16.1.2.1.length : Nat) : Int) == ((s.2.2.length : Nat) : Int)), ()) else some (false, ())
  else some (false, ())
end Go.DI.S
