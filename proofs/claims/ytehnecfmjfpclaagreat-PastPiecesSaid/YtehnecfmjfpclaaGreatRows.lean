/-
  No cell of these rows narrows 'for every input' (looked for: loops, veiled, ifaces, maps, wideKeys, modest, calm, conditions, laid).
  DERIVED. THE GIVEN ROWS OF THIS SEAT. 3 by the template 'for every input the law returns true; each argument reads behind the call as it read before'; 0 by the template 'total and deterministic' (their statements: YtehnecfmjfpclaaGreatTotals.lean).
  GIVEN WITH THE SEED: the statements are not yours to turn. If you find one false, say at which input.
  Laid BY PROGRAM, IN A SANDBOX (cutbox-rows.mjs): the forced cells as the released guide's own fill.sh prints them over the translation 10816cd5843143ab… (all of the seat's roots in one cut). By AI agents, Wed Nov 11 2026. No macro, syntax, notation, axiom, sorry.
-/
import Derived.Test.YtehnecfmjfpclaaGreatChecked
import GoSem.Claim
import GoSem.ClaimJoined
import GoSem.ClaimMapViews
import Derived.JoinedTies
import Derived.KernelRfl
namespace Go.Proofs.YtehnecfmjfpclaaGreat
/- THE CELL 'sum', in the pinned program and in every row, IS THE sha256 OF THE DUMP (.gsa) THAT YtehnecfmjfpclaaGreatProg.lean LOADS. Nothing in Lean hashes anything: it is a label: what it is worth is what the hold of that sum in a sandbox is worth. -/
noncomputable def Tryz.pinned : Pinned := { name := "ytehnecfmjfpclaagreat", sum := "10816cd5843143abee10e4ac9d065e24c55bc32c011ba0659279018b45987f7e", checked := Tryz.checked }
namespace Rows
def none {H : Type} : Left H := { results := [], args := [] }

/-- 'maquettelaw23.PastLoads': WHATEVER THE INPUT: true; the input reads as it did. -/
def pastLoadsSpec : ChangeSpec := { name := "pastLoads", fn := fun _ => fun
  | [d] => { results := [.lit (.bool true)], args := [d] }
  | _ => none }
def pastLoadsRow : OpenClaim := { program := "ytehnecfmjfpclaagreat", sum := "10816cd5843143abee10e4ac9d065e24c55bc32c011ba0659279018b45987f7e", func := "maquette/maquettelaw23.PastLoads", spec := "pastLoads", unfollowed := true, recurses := true, apart := false }
def PastLoadsSaid : Prop := pastLoadsRow.holds Tryz.pinned (OpenSpec.ofChange pastLoadsSpec)

/-- ITS FALSE NEIGHBOUR: 'it returns false'. Refute it at one input. -/
def pastLoadsWrong : ChangeSpec := { name := "pastLoads", fn := fun _ => fun
  | [d] => { results := [.lit (.bool false)], args := [d] }
  | _ => none }
def PastLoadsWrongFalsely : Prop := pastLoadsRow.holds Tryz.pinned (OpenSpec.ofChange pastLoadsWrong)

/-- 'maquettelaw23.PastPieces': WHATEVER THE INPUT: true; the input reads as it did. -/
def pastPiecesSpec : ChangeSpec := { name := "pastPieces", fn := fun _ => fun
  | [d] => { results := [.lit (.bool true)], args := [d] }
  | _ => none }
def pastPiecesRow : OpenClaim := { program := "ytehnecfmjfpclaagreat", sum := "10816cd5843143abee10e4ac9d065e24c55bc32c011ba0659279018b45987f7e", func := "maquette/maquettelaw23.PastPieces", spec := "pastPieces", unfollowed := true, recurses := true, apart := false }
def PastPiecesSaid : Prop := pastPiecesRow.holds Tryz.pinned (OpenSpec.ofChange pastPiecesSpec)

/-- ITS FALSE NEIGHBOUR: 'it returns false'. Refute it at one input. -/
def pastPiecesWrong : ChangeSpec := { name := "pastPieces", fn := fun _ => fun
  | [d] => { results := [.lit (.bool false)], args := [d] }
  | _ => none }
def PastPiecesWrongFalsely : Prop := pastPiecesRow.holds Tryz.pinned (OpenSpec.ofChange pastPiecesWrong)

/-- 'maquettelaw19.SceneBack': WHATEVER THE INPUT: true; the input reads as it did. -/
def sceneBackSpec : ChangeSpec := { name := "sceneBack", fn := fun _ => fun
  | [d1, d2, d3, d4] => { results := [.lit (.bool true)], args := [d1, d2, d3, d4] }
  | _ => none }
def sceneBackRow : OpenClaim := { program := "ytehnecfmjfpclaagreat", sum := "10816cd5843143abee10e4ac9d065e24c55bc32c011ba0659279018b45987f7e", func := "maquette/maquettelaw19.SceneBack", spec := "sceneBack", inPlace := ["slices.overlaps[maquette/api.Thing]", "math/bits.Add64"], unfollowed := true, recurses := true, named := ["math/bits.divideError", "math/bits.overflowError"], apart := false }
def SceneBackSaid : Prop := sceneBackRow.holds Tryz.pinned (OpenSpec.ofChange sceneBackSpec)

/-- ITS FALSE NEIGHBOUR: 'it returns false'. Refute it at one input. -/
def sceneBackWrong : ChangeSpec := { name := "sceneBack", fn := fun _ => fun
  | [d1, d2, d3, d4] => { results := [.lit (.bool false)], args := [d1, d2, d3, d4] }
  | _ => none }
def SceneBackWrongFalsely : Prop := sceneBackRow.holds Tryz.pinned (OpenSpec.ofChange sceneBackWrong)

/- THE SECOND FORM. 'bulk': how many values and letters a reading holds, each counted each time it is reached (what is shared counts as often as it is met; a slice's spare places count too). A statement '..UptoSaid' is the law's where the arguments, and the package variables that the reading takes, are together of bulk at most 1048576: NARROWER than '..Said'. Prove '..Said' where nothing that the law and all that it calls make is longer than what came in: it says more and counts as full. Else prove '..UptoSaid'. A law counts once. -/
mutual
def uptoBulk {H : Type} : DataW H → Nat
  | .lit (.string bytes) => bytes.length + 1
  | .lit _ => 1
  | .nil => 1
  | .ptr d => uptoBulk d + 1
  | .slice elems spare => uptoBulkAll elems + uptoBulkAll spare + 1
  | .agg parts => uptoBulkAll parts + 1
  | .iface _ d => uptoBulk d + 1
  | .map entries => uptoBulkEntries entries + 1
  | .held _ => 1
def uptoBulkAll {H : Type} : List (DataW H) → Nat
  | [] => 0
  | d :: r => uptoBulk d + uptoBulkAll r
def uptoBulkEntries {H : Type} : List (Lit × DataW H) → Nat
  | [] => 0
  | x :: r => uptoBulkEntry x + uptoBulkEntries r
def uptoBulkEntry {H : Type} : Lit × DataW H → Nat
  | (.string bytes, d) => bytes.length + uptoBulk d + 1
  | (_, d) => uptoBulk d + 1
 end
def uptoSmall : (H : Type) → List (DataW H) → Bool := fun _ ds => decide (uptoBulkAll ds ≤ 1048576)
def OpenSpec.upto (s : _root_.Go.ChangeSpec) : _root_.Go.OpenSpec := { _root_.Go.OpenSpec.ofChange s with cond := some uptoSmall }

/-- 'maquettelaw23.PastLoads', WHERE WHAT IT READS IS OF BULK AT MOST 1048576: true; the input reads as it did. -/
def pastLoadsUptoRow : OpenClaim := { program := "ytehnecfmjfpclaagreat", sum := "10816cd5843143abee10e4ac9d065e24c55bc32c011ba0659279018b45987f7e", func := "maquette/maquettelaw23.PastLoads", spec := "pastLoads", unfollowed := true, recurses := true, apart := false, narrowed := true }
def PastLoadsUptoSaid : Prop := pastLoadsUptoRow.holds Tryz.pinned (OpenSpec.upto pastLoadsSpec)

/-- 'maquettelaw23.PastPieces', WHERE WHAT IT READS IS OF BULK AT MOST 1048576: true; the input reads as it did. -/
def pastPiecesUptoRow : OpenClaim := { program := "ytehnecfmjfpclaagreat", sum := "10816cd5843143abee10e4ac9d065e24c55bc32c011ba0659279018b45987f7e", func := "maquette/maquettelaw23.PastPieces", spec := "pastPieces", unfollowed := true, recurses := true, apart := false, narrowed := true }
def PastPiecesUptoSaid : Prop := pastPiecesUptoRow.holds Tryz.pinned (OpenSpec.upto pastPiecesSpec)

/-- 'maquettelaw19.SceneBack', WHERE WHAT IT READS IS OF BULK AT MOST 1048576: true; the input reads as it did. -/
def sceneBackUptoRow : OpenClaim := { program := "ytehnecfmjfpclaagreat", sum := "10816cd5843143abee10e4ac9d065e24c55bc32c011ba0659279018b45987f7e", func := "maquette/maquettelaw19.SceneBack", spec := "sceneBack", inPlace := ["slices.overlaps[maquette/api.Thing]", "math/bits.Add64"], unfollowed := true, recurses := true, named := ["math/bits.divideError", "math/bits.overflowError"], apart := false, narrowed := true }
def SceneBackUptoSaid : Prop := sceneBackUptoRow.holds Tryz.pinned (OpenSpec.upto sceneBackSpec)

end Rows
end Go.Proofs.YtehnecfmjfpclaaGreat
