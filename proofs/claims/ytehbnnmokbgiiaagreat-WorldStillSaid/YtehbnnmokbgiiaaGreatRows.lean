/-
  No cell of these rows narrows 'for every input' (looked for: loops, veiled, ifaces, maps, wideKeys, modest, calm, conditions, laid).
  DERIVED. THE GIVEN ROWS OF THIS SEAT. 11 by the template 'for every input the law returns true; each argument reads behind the call as it read before'; 0 by the template 'total and deterministic' (their statements: YtehbnnmokbgiiaaGreatTotals.lean).
  GIVEN WITH THE SEED: the statements are not yours to turn. If you find one false, say at which input.
  Laid BY PROGRAM, IN A SANDBOX (cutbox-rows.mjs): the forced cells as the released guide's own fill.sh prints them over the translation 3c798f10ea26a3b5… (all of the seat's roots in one cut). By AI agents, Wed Nov 11 2026. No macro, syntax, notation, axiom, sorry.
-/
import Derived.Test.YtehbnnmokbgiiaaGreatChecked
import GoSem.Claim
import GoSem.ClaimJoined
import GoSem.ClaimMapViews
import Derived.JoinedTies
import Derived.KernelRfl
namespace Go.Proofs.YtehbnnmokbgiiaaGreat
/- THE CELL 'sum', in the pinned program and in every row, IS THE sha256 OF THE DUMP (.gsa) THAT YtehbnnmokbgiiaaGreatProg.lean LOADS. Nothing in Lean hashes anything: it is a label: what it is worth is what the hold of that sum in a sandbox is worth. -/
noncomputable def Tryz.pinned : Pinned := { name := "ytehbnnmokbgiiaagreat", sum := "3c798f10ea26a3b59004ad87dbc237a4401de5f7f23e8c123eba43b28008a3b8", checked := Tryz.checked }
namespace Rows
def none {H : Type} : Left H := { results := [], args := [] }

/-- 'maquettelaw12.WorldParts': WHATEVER THE INPUT: true; the input reads as it did. -/
def worldPartsSpec : ChangeSpec := { name := "worldParts", fn := fun _ => fun
  | [d1, d2, d3, d4, d5] => { results := [.lit (.bool true)], args := [d1, d2, d3, d4, d5] }
  | _ => none }
def worldPartsRow : OpenClaim := { program := "ytehbnnmokbgiiaagreat", sum := "3c798f10ea26a3b59004ad87dbc237a4401de5f7f23e8c123eba43b28008a3b8", func := "maquette/maquettelaw12.WorldParts", spec := "worldParts", inPlace := ["math/bits.Add64"], unfollowed := true, recurses := true, named := ["math/bits.divideError", "math/bits.overflowError"], apart := false }
def WorldPartsSaid : Prop := worldPartsRow.holds Tryz.pinned (OpenSpec.ofChange worldPartsSpec)

/-- ITS FALSE NEIGHBOUR: 'it returns false'. Refute it at one input. -/
def worldPartsWrong : ChangeSpec := { name := "worldParts", fn := fun _ => fun
  | [d1, d2, d3, d4, d5] => { results := [.lit (.bool false)], args := [d1, d2, d3, d4, d5] }
  | _ => none }
def WorldPartsWrongFalsely : Prop := worldPartsRow.holds Tryz.pinned (OpenSpec.ofChange worldPartsWrong)

/-- 'maquettelaw12.WorldMomentum': WHATEVER THE INPUT: true; the input reads as it did. -/
def worldMomentumSpec : ChangeSpec := { name := "worldMomentum", fn := fun _ => fun
  | [d1, d2, d3] => { results := [.lit (.bool true)], args := [d1, d2, d3] }
  | _ => none }
def worldMomentumRow : OpenClaim := { program := "ytehbnnmokbgiiaagreat", sum := "3c798f10ea26a3b59004ad87dbc237a4401de5f7f23e8c123eba43b28008a3b8", func := "maquette/maquettelaw12.WorldMomentum", spec := "worldMomentum", inPlace := ["math/bits.Add64"], unfollowed := true, recurses := true, named := ["math/bits.divideError", "math/bits.overflowError"], apart := false }
def WorldMomentumSaid : Prop := worldMomentumRow.holds Tryz.pinned (OpenSpec.ofChange worldMomentumSpec)

/-- ITS FALSE NEIGHBOUR: 'it returns false'. Refute it at one input. -/
def worldMomentumWrong : ChangeSpec := { name := "worldMomentum", fn := fun _ => fun
  | [d1, d2, d3] => { results := [.lit (.bool false)], args := [d1, d2, d3] }
  | _ => none }
def WorldMomentumWrongFalsely : Prop := worldMomentumRow.holds Tryz.pinned (OpenSpec.ofChange worldMomentumWrong)

/-- 'maquettelaw12.WorldStill': WHATEVER THE INPUT: true; the input reads as it did. -/
def worldStillSpec : ChangeSpec := { name := "worldStill", fn := fun _ => fun
  | [d1, d2] => { results := [.lit (.bool true)], args := [d1, d2] }
  | _ => none }
def worldStillRow : OpenClaim := { program := "ytehbnnmokbgiiaagreat", sum := "3c798f10ea26a3b59004ad87dbc237a4401de5f7f23e8c123eba43b28008a3b8", func := "maquette/maquettelaw12.WorldStill", spec := "worldStill", inPlace := ["math/bits.Add64"], unfollowed := true, recurses := true, named := ["math/bits.divideError", "math/bits.overflowError"], apart := false }
def WorldStillSaid : Prop := worldStillRow.holds Tryz.pinned (OpenSpec.ofChange worldStillSpec)

/-- ITS FALSE NEIGHBOUR: 'it returns false'. Refute it at one input. -/
def worldStillWrong : ChangeSpec := { name := "worldStill", fn := fun _ => fun
  | [d1, d2] => { results := [.lit (.bool false)], args := [d1, d2] }
  | _ => none }
def WorldStillWrongFalsely : Prop := worldStillRow.holds Tryz.pinned (OpenSpec.ofChange worldStillWrong)

/-- 'maquettelaw12.WorldFalls': WHATEVER THE INPUT: true; the input reads as it did. -/
def worldFallsSpec : ChangeSpec := { name := "worldFalls", fn := fun _ => fun
  | [d1, d2] => { results := [.lit (.bool true)], args := [d1, d2] }
  | _ => none }
def worldFallsRow : OpenClaim := { program := "ytehbnnmokbgiiaagreat", sum := "3c798f10ea26a3b59004ad87dbc237a4401de5f7f23e8c123eba43b28008a3b8", func := "maquette/maquettelaw12.WorldFalls", spec := "worldFalls", inPlace := ["math/bits.Add64"], unfollowed := true, recurses := true, named := ["math/bits.divideError", "math/bits.overflowError"], apart := false }
def WorldFallsSaid : Prop := worldFallsRow.holds Tryz.pinned (OpenSpec.ofChange worldFallsSpec)

/-- ITS FALSE NEIGHBOUR: 'it returns false'. Refute it at one input. -/
def worldFallsWrong : ChangeSpec := { name := "worldFalls", fn := fun _ => fun
  | [d1, d2] => { results := [.lit (.bool false)], args := [d1, d2] }
  | _ => none }
def WorldFallsWrongFalsely : Prop := worldFallsRow.holds Tryz.pinned (OpenSpec.ofChange worldFallsWrong)

/-- 'maquettelaw12.WorldFails': WHATEVER THE INPUT: true; the input reads as it did. -/
def worldFailsSpec : ChangeSpec := { name := "worldFails", fn := fun _ => fun
  | [d1, d2, d3, d4] => { results := [.lit (.bool true)], args := [d1, d2, d3, d4] }
  | _ => none }
def worldFailsRow : OpenClaim := { program := "ytehbnnmokbgiiaagreat", sum := "3c798f10ea26a3b59004ad87dbc237a4401de5f7f23e8c123eba43b28008a3b8", func := "maquette/maquettelaw12.WorldFails", spec := "worldFails", inPlace := ["math/bits.Add64"], unfollowed := true, recurses := true, named := ["math/bits.divideError", "math/bits.overflowError"], apart := false }
def WorldFailsSaid : Prop := worldFailsRow.holds Tryz.pinned (OpenSpec.ofChange worldFailsSpec)

/-- ITS FALSE NEIGHBOUR: 'it returns false'. Refute it at one input. -/
def worldFailsWrong : ChangeSpec := { name := "worldFails", fn := fun _ => fun
  | [d1, d2, d3, d4] => { results := [.lit (.bool false)], args := [d1, d2, d3, d4] }
  | _ => none }
def WorldFailsWrongFalsely : Prop := worldFailsRow.holds Tryz.pinned (OpenSpec.ofChange worldFailsWrong)

/-- 'maquettelaw12.WorldAlone': WHATEVER THE INPUT: true; the input reads as it did. -/
def worldAloneSpec : ChangeSpec := { name := "worldAlone", fn := fun _ => fun
  | [d1, d2, d3] => { results := [.lit (.bool true)], args := [d1, d2, d3] }
  | _ => none }
def worldAloneRow : OpenClaim := { program := "ytehbnnmokbgiiaagreat", sum := "3c798f10ea26a3b59004ad87dbc237a4401de5f7f23e8c123eba43b28008a3b8", func := "maquette/maquettelaw12.WorldAlone", spec := "worldAlone", inPlace := ["math/bits.Add64"], unfollowed := true, recurses := true, named := ["math/bits.divideError", "math/bits.overflowError"], apart := false }
def WorldAloneSaid : Prop := worldAloneRow.holds Tryz.pinned (OpenSpec.ofChange worldAloneSpec)

/-- ITS FALSE NEIGHBOUR: 'it returns false'. Refute it at one input. -/
def worldAloneWrong : ChangeSpec := { name := "worldAlone", fn := fun _ => fun
  | [d1, d2, d3] => { results := [.lit (.bool false)], args := [d1, d2, d3] }
  | _ => none }
def WorldAloneWrongFalsely : Prop := worldAloneRow.holds Tryz.pinned (OpenSpec.ofChange worldAloneWrong)

/-- 'maquettelaw12.WorldRefused': WHATEVER THE INPUT: true; the input reads as it did. -/
def worldRefusedSpec : ChangeSpec := { name := "worldRefused", fn := fun _ => fun
  | [d1, d2, d3, d4] => { results := [.lit (.bool true)], args := [d1, d2, d3, d4] }
  | _ => none }
def worldRefusedRow : OpenClaim := { program := "ytehbnnmokbgiiaagreat", sum := "3c798f10ea26a3b59004ad87dbc237a4401de5f7f23e8c123eba43b28008a3b8", func := "maquette/maquettelaw12.WorldRefused", spec := "worldRefused", inPlace := ["math/bits.Add64"], unfollowed := true, recurses := true, named := ["math/bits.divideError", "math/bits.overflowError"], apart := false }
def WorldRefusedSaid : Prop := worldRefusedRow.holds Tryz.pinned (OpenSpec.ofChange worldRefusedSpec)

/-- ITS FALSE NEIGHBOUR: 'it returns false'. Refute it at one input. -/
def worldRefusedWrong : ChangeSpec := { name := "worldRefused", fn := fun _ => fun
  | [d1, d2, d3, d4] => { results := [.lit (.bool false)], args := [d1, d2, d3, d4] }
  | _ => none }
def WorldRefusedWrongFalsely : Prop := worldRefusedRow.holds Tryz.pinned (OpenSpec.ofChange worldRefusedWrong)

/-- 'maquettelaw12.WorldSame': WHATEVER THE INPUT: true; the input reads as it did. -/
def worldSameSpec : ChangeSpec := { name := "worldSame", fn := fun _ => fun
  | [d1, d2, d3, d4] => { results := [.lit (.bool true)], args := [d1, d2, d3, d4] }
  | _ => none }
def worldSameRow : OpenClaim := { program := "ytehbnnmokbgiiaagreat", sum := "3c798f10ea26a3b59004ad87dbc237a4401de5f7f23e8c123eba43b28008a3b8", func := "maquette/maquettelaw12.WorldSame", spec := "worldSame", inPlace := ["math/bits.Add64"], unfollowed := true, recurses := true, named := ["math/bits.divideError", "math/bits.overflowError"], apart := false }
def WorldSameSaid : Prop := worldSameRow.holds Tryz.pinned (OpenSpec.ofChange worldSameSpec)

/-- ITS FALSE NEIGHBOUR: 'it returns false'. Refute it at one input. -/
def worldSameWrong : ChangeSpec := { name := "worldSame", fn := fun _ => fun
  | [d1, d2, d3, d4] => { results := [.lit (.bool false)], args := [d1, d2, d3, d4] }
  | _ => none }
def WorldSameWrongFalsely : Prop := worldSameRow.holds Tryz.pinned (OpenSpec.ofChange worldSameWrong)

/-- 'maquettelaw22.ChangeTells': WHATEVER THE INPUT: true; the input reads as it did. -/
def changeTellsSpec : ChangeSpec := { name := "changeTells", fn := fun _ => fun
  | [d1, d2, d3, d4, d5, d6, d7] => { results := [.lit (.bool true)], args := [d1, d2, d3, d4, d5, d6, d7] }
  | _ => none }
def changeTellsRow : OpenClaim := { program := "ytehbnnmokbgiiaagreat", sum := "3c798f10ea26a3b59004ad87dbc237a4401de5f7f23e8c123eba43b28008a3b8", func := "maquette/maquettelaw22.ChangeTells", spec := "changeTells", unfollowed := true, recurses := true, apart := false }
def ChangeTellsSaid : Prop := changeTellsRow.holds Tryz.pinned (OpenSpec.ofChange changeTellsSpec)

/-- ITS FALSE NEIGHBOUR: 'it returns false'. Refute it at one input. -/
def changeTellsWrong : ChangeSpec := { name := "changeTells", fn := fun _ => fun
  | [d1, d2, d3, d4, d5, d6, d7] => { results := [.lit (.bool false)], args := [d1, d2, d3, d4, d5, d6, d7] }
  | _ => none }
def ChangeTellsWrongFalsely : Prop := changeTellsRow.holds Tryz.pinned (OpenSpec.ofChange changeTellsWrong)

/-- 'maquettelaw23.PastPieces': WHATEVER THE INPUT: true; the input reads as it did. -/
def pastPiecesSpec : ChangeSpec := { name := "pastPieces", fn := fun _ => fun
  | [d] => { results := [.lit (.bool true)], args := [d] }
  | _ => none }
def pastPiecesRow : OpenClaim := { program := "ytehbnnmokbgiiaagreat", sum := "3c798f10ea26a3b59004ad87dbc237a4401de5f7f23e8c123eba43b28008a3b8", func := "maquette/maquettelaw23.PastPieces", spec := "pastPieces", unfollowed := true, recurses := true, apart := false }
def PastPiecesSaid : Prop := pastPiecesRow.holds Tryz.pinned (OpenSpec.ofChange pastPiecesSpec)

/-- ITS FALSE NEIGHBOUR: 'it returns false'. Refute it at one input. -/
def pastPiecesWrong : ChangeSpec := { name := "pastPieces", fn := fun _ => fun
  | [d] => { results := [.lit (.bool false)], args := [d] }
  | _ => none }
def PastPiecesWrongFalsely : Prop := pastPiecesRow.holds Tryz.pinned (OpenSpec.ofChange pastPiecesWrong)

/-- 'maquettelaw19.SceneBack': WHATEVER THE INPUT: true; the input reads as it did. -/
def sceneBackSpec : ChangeSpec := { name := "sceneBack", fn := fun _ => fun
  | [d1, d2, d3, d4] => { results := [.lit (.bool true)], args := [d1, d2, d3, d4] }
  | _ => none }
def sceneBackRow : OpenClaim := { program := "ytehbnnmokbgiiaagreat", sum := "3c798f10ea26a3b59004ad87dbc237a4401de5f7f23e8c123eba43b28008a3b8", func := "maquette/maquettelaw19.SceneBack", spec := "sceneBack", inPlace := ["slices.overlaps[maquette/api.Thing]", "math/bits.Add64"], unfollowed := true, recurses := true, named := ["math/bits.divideError", "math/bits.overflowError"], apart := false }
def SceneBackSaid : Prop := sceneBackRow.holds Tryz.pinned (OpenSpec.ofChange sceneBackSpec)

/-- ITS FALSE NEIGHBOUR: 'it returns false'. Refute it at one input. -/
def sceneBackWrong : ChangeSpec := { name := "sceneBack", fn := fun _ => fun
  | [d1, d2, d3, d4] => { results := [.lit (.bool false)], args := [d1, d2, d3, d4] }
  | _ => none }
def SceneBackWrongFalsely : Prop := sceneBackRow.holds Tryz.pinned (OpenSpec.ofChange sceneBackWrong)

/- THE SECOND FORM. 'bulk': how many values and letters a reading holds, each counted each time it is reached (what is shared counts as often as it is met; a slice's spare places count too). A statement '..UptoSaid' is the law's where the arguments, and the package variables that the reading takes, are together of bulk at most 1048576: NARROWER than '..Said'. Prove '..Said' where nothing that the law and all that it calls make is longer than what came in: it says more and counts as full. Else prove '..UptoSaid'. A law counts once. -/
mutual
def uptoBulk {H : Type} : DataW H → Nat
  | .lit (.string bytes) => bytes.length + 1
  | .lit _ => 1
  | .nil => 1
  | .ptr d => uptoBulk d + 1
  | .slice elems spare => uptoBulkAll elems + uptoBulkAll spare + 1
  | .agg parts => uptoBulkAll parts + 1
  | .iface _ d => uptoBulk d + 1
  | .map entries => uptoBulkEntries entries + 1
  | .held _ => 1
def uptoBulkAll {H : Type} : List (DataW H) → Nat
  | [] => 0
  | d :: r => uptoBulk d + uptoBulkAll r
def uptoBulkEntries {H : Type} : List (Lit × DataW H) → Nat
  | [] => 0
  | x :: r => uptoBulkEntry x + uptoBulkEntries r
def uptoBulkEntry {H : Type} : Lit × DataW H → Nat
  | (.string bytes, d) => bytes.length + uptoBulk d + 1
  | (_, d) => uptoBulk d + 1
 end
def uptoSmall : (H : Type) → List (DataW H) → Bool := fun _ ds => decide (uptoBulkAll ds ≤ 1048576)
def OpenSpec.upto (s : _root_.Go.ChangeSpec) : _root_.Go.OpenSpec := { _root_.Go.OpenSpec.ofChange s with cond := some uptoSmall }

/-- 'maquettelaw12.WorldParts', WHERE WHAT IT READS IS OF BULK AT MOST 1048576: true; the input reads as it did. -/
def worldPartsUptoRow : OpenClaim := { program := "ytehbnnmokbgiiaagreat", sum := "3c798f10ea26a3b59004ad87dbc237a4401de5f7f23e8c123eba43b28008a3b8", func := "maquette/maquettelaw12.WorldParts", spec := "worldParts", inPlace := ["math/bits.Add64"], unfollowed := true, recurses := true, named := ["math/bits.divideError", "math/bits.overflowError"], apart := false, narrowed := true }
def WorldPartsUptoSaid : Prop := worldPartsUptoRow.holds Tryz.pinned (OpenSpec.upto worldPartsSpec)

/-- 'maquettelaw12.WorldMomentum', WHERE WHAT IT READS IS OF BULK AT MOST 1048576: true; the input reads as it did. -/
def worldMomentumUptoRow : OpenClaim := { program := "ytehbnnmokbgiiaagreat", sum := "3c798f10ea26a3b59004ad87dbc237a4401de5f7f23e8c123eba43b28008a3b8", func := "maquette/maquettelaw12.WorldMomentum", spec := "worldMomentum", inPlace := ["math/bits.Add64"], unfollowed := true, recurses := true, named := ["math/bits.divideError", "math/bits.overflowError"], apart := false, narrowed := true }
def WorldMomentumUptoSaid : Prop := worldMomentumUptoRow.holds Tryz.pinned (OpenSpec.upto worldMomentumSpec)

/-- 'maquettelaw12.WorldStill', WHERE WHAT IT READS IS OF BULK AT MOST 1048576: true; the input reads as it did. -/
def worldStillUptoRow : OpenClaim := { program := "ytehbnnmokbgiiaagreat", sum := "3c798f10ea26a3b59004ad87dbc237a4401de5f7f23e8c123eba43b28008a3b8", func := "maquette/maquettelaw12.WorldStill", spec := "worldStill", inPlace := ["math/bits.Add64"], unfollowed := true, recurses := true, named := ["math/bits.divideError", "math/bits.overflowError"], apart := false, narrowed := true }
def WorldStillUptoSaid : Prop := worldStillUptoRow.holds Tryz.pinned (OpenSpec.upto worldStillSpec)

/-- 'maquettelaw12.WorldFalls', WHERE WHAT IT READS IS OF BULK AT MOST 1048576: true; the input reads as it did. -/
def worldFallsUptoRow : OpenClaim := { program := "ytehbnnmokbgiiaagreat", sum := "3c798f10ea26a3b59004ad87dbc237a4401de5f7f23e8c123eba43b28008a3b8", func := "maquette/maquettelaw12.WorldFalls", spec := "worldFalls", inPlace := ["math/bits.Add64"], unfollowed := true, recurses := true, named := ["math/bits.divideError", "math/bits.overflowError"], apart := false, narrowed := true }
def WorldFallsUptoSaid : Prop := worldFallsUptoRow.holds Tryz.pinned (OpenSpec.upto worldFallsSpec)

/-- 'maquettelaw12.WorldFails', WHERE WHAT IT READS IS OF BULK AT MOST 1048576: true; the input reads as it did. -/
def worldFailsUptoRow : OpenClaim := { program := "ytehbnnmokbgiiaagreat", sum := "3c798f10ea26a3b59004ad87dbc237a4401de5f7f23e8c123eba43b28008a3b8", func := "maquette/maquettelaw12.WorldFails", spec := "worldFails", inPlace := ["math/bits.Add64"], unfollowed := true, recurses := true, named := ["math/bits.divideError", "math/bits.overflowError"], apart := false, narrowed := true }
def WorldFailsUptoSaid : Prop := worldFailsUptoRow.holds Tryz.pinned (OpenSpec.upto worldFailsSpec)

/-- 'maquettelaw12.WorldAlone', WHERE WHAT IT READS IS OF BULK AT MOST 1048576: true; the input reads as it did. -/
def worldAloneUptoRow : OpenClaim := { program := "ytehbnnmokbgiiaagreat", sum := "3c798f10ea26a3b59004ad87dbc237a4401de5f7f23e8c123eba43b28008a3b8", func := "maquette/maquettelaw12.WorldAlone", spec := "worldAlone", inPlace := ["math/bits.Add64"], unfollowed := true, recurses := true, named := ["math/bits.divideError", "math/bits.overflowError"], apart := false, narrowed := true }
def WorldAloneUptoSaid : Prop := worldAloneUptoRow.holds Tryz.pinned (OpenSpec.upto worldAloneSpec)

/-- 'maquettelaw12.WorldRefused', WHERE WHAT IT READS IS OF BULK AT MOST 1048576: true; the input reads as it did. -/
def worldRefusedUptoRow : OpenClaim := { program := "ytehbnnmokbgiiaagreat", sum := "3c798f10ea26a3b59004ad87dbc237a4401de5f7f23e8c123eba43b28008a3b8", func := "maquette/maquettelaw12.WorldRefused", spec := "worldRefused", inPlace := ["math/bits.Add64"], unfollowed := true, recurses := true, named := ["math/bits.divideError", "math/bits.overflowError"], apart := false, narrowed := true }
def WorldRefusedUptoSaid : Prop := worldRefusedUptoRow.holds Tryz.pinned (OpenSpec.upto worldRefusedSpec)

/-- 'maquettelaw12.WorldSame', WHERE WHAT IT READS IS OF BULK AT MOST 1048576: true; the input reads as it did. -/
def worldSameUptoRow : OpenClaim := { program := "ytehbnnmokbgiiaagreat", sum := "3c798f10ea26a3b59004ad87dbc237a4401de5f7f23e8c123eba43b28008a3b8", func := "maquette/maquettelaw12.WorldSame", spec := "worldSame", inPlace := ["math/bits.Add64"], unfollowed := true, recurses := true, named := ["math/bits.divideError", "math/bits.overflowError"], apart := false, narrowed := true }
def WorldSameUptoSaid : Prop := worldSameUptoRow.holds Tryz.pinned (OpenSpec.upto worldSameSpec)

/-- 'maquettelaw22.ChangeTells', WHERE WHAT IT READS IS OF BULK AT MOST 1048576: true; the input reads as it did. -/
def changeTellsUptoRow : OpenClaim := { program := "ytehbnnmokbgiiaagreat", sum := "3c798f10ea26a3b59004ad87dbc237a4401de5f7f23e8c123eba43b28008a3b8", func := "maquette/maquettelaw22.ChangeTells", spec := "changeTells", unfollowed := true, recurses := true, apart := false, narrowed := true }
def ChangeTellsUptoSaid : Prop := changeTellsUptoRow.holds Tryz.pinned (OpenSpec.upto changeTellsSpec)

/-- 'maquettelaw23.PastPieces', WHERE WHAT IT READS IS OF BULK AT MOST 1048576: true; the input reads as it did. -/
def pastPiecesUptoRow : OpenClaim := { program := "ytehbnnmokbgiiaagreat", sum := "3c798f10ea26a3b59004ad87dbc237a4401de5f7f23e8c123eba43b28008a3b8", func := "maquette/maquettelaw23.PastPieces", spec := "pastPieces", unfollowed := true, recurses := true, apart := false, narrowed := true }
def PastPiecesUptoSaid : Prop := pastPiecesUptoRow.holds Tryz.pinned (OpenSpec.upto pastPiecesSpec)

/-- 'maquettelaw19.SceneBack', WHERE WHAT IT READS IS OF BULK AT MOST 1048576: true; the input reads as it did. -/
def sceneBackUptoRow : OpenClaim := { program := "ytehbnnmokbgiiaagreat", sum := "3c798f10ea26a3b59004ad87dbc237a4401de5f7f23e8c123eba43b28008a3b8", func := "maquette/maquettelaw19.SceneBack", spec := "sceneBack", inPlace := ["slices.overlaps[maquette/api.Thing]", "math/bits.Add64"], unfollowed := true, recurses := true, named := ["math/bits.divideError", "math/bits.overflowError"], apart := false, narrowed := true }
def SceneBackUptoSaid : Prop := sceneBackUptoRow.holds Tryz.pinned (OpenSpec.upto sceneBackSpec)

end Rows
end Go.Proofs.YtehbnnmokbgiiaaGreat
