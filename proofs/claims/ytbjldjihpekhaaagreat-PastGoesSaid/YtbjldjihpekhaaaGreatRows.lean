/-
  No cell of these rows narrows 'for every input' (looked for: loops, veiled, ifaces, maps, wideKeys, modest, calm, conditions, laid).
  DERIVED. THE GIVEN ROWS OF THIS SEAT. 10 by the template 'for every input the law returns true; each argument reads behind the call as it read before'; 0 by the template 'total and deterministic' (their statements: YtbjldjihpekhaaaGreatTotals.lean).
  GIVEN WITH THE SEED: the statements are not yours to turn. If you find one false, say at which input.
  Laid BY PROGRAM, IN A SANDBOX (cutbox-rows.mjs): the forced cells as the released guide's own fill.sh prints them over the translation 0859e9417172064b… (all of the seat's roots in one cut). By AI agents, Wed Nov 11 2026. No macro, syntax, notation, axiom, sorry.
-/
import Derived.Test.YtbjldjihpekhaaaGreatChecked
import GoSem.Claim
import GoSem.ClaimJoined
import GoSem.ClaimMapViews
import Derived.JoinedTies
import Derived.KernelRfl
namespace Go.Proofs.YtbjldjihpekhaaaGreat
/- THE CELL 'sum', in the pinned program and in every row, IS THE sha256 OF THE DUMP (.gsa) THAT YtbjldjihpekhaaaGreatProg.lean LOADS. Nothing in Lean hashes anything: it is a label: what it is worth is what the hold of that sum in a sandbox is worth. -/
noncomputable def Tryz.pinned : Pinned := { name := "ytbjldjihpekhaaagreat", sum := "0859e9417172064bd73e456aa0574e0bb7068615a387cbcfcabdce95b4302698", checked := Tryz.checked }
namespace Rows
def none {H : Type} : Left H := { results := [], args := [] }

/-- 'maquettelaw21.OrderTells': WHATEVER THE INPUT: true; the input reads as it did. -/
def orderTellsSpec : ChangeSpec := { name := "orderTells", fn := fun _ => fun
  | [d1, d2, d3] => { results := [.lit (.bool true)], args := [d1, d2, d3] }
  | _ => none }
def orderTellsRow : OpenClaim := { program := "ytbjldjihpekhaaagreat", sum := "0859e9417172064bd73e456aa0574e0bb7068615a387cbcfcabdce95b4302698", func := "maquette/maquettelaw21.OrderTells", spec := "orderTells", inPlace := ["math.Float64frombits", "math.Float64bits", "math.RoundToEven", "slices.overlaps[maquette/api.Thing]", "math/bits.Add64"], unfollowed := true, recurses := true, named := ["math/bits.divideError", "math/bits.overflowError"], apart := false }
def OrderTellsSaid : Prop := orderTellsRow.holds Tryz.pinned (OpenSpec.ofChange orderTellsSpec)

/-- ITS FALSE NEIGHBOUR: 'it returns false'. Refute it at one input. -/
def orderTellsWrong : ChangeSpec := { name := "orderTells", fn := fun _ => fun
  | [d1, d2, d3] => { results := [.lit (.bool false)], args := [d1, d2, d3] }
  | _ => none }
def OrderTellsWrongFalsely : Prop := orderTellsRow.holds Tryz.pinned (OpenSpec.ofChange orderTellsWrong)

/-- 'maquettelaw21.OrderUndoes': WHATEVER THE INPUT: true; the input reads as it did. -/
def orderUndoesSpec : ChangeSpec := { name := "orderUndoes", fn := fun _ => fun
  | [d1, d2, d3, d4, d5, d6] => { results := [.lit (.bool true)], args := [d1, d2, d3, d4, d5, d6] }
  | _ => none }
def orderUndoesRow : OpenClaim := { program := "ytbjldjihpekhaaagreat", sum := "0859e9417172064bd73e456aa0574e0bb7068615a387cbcfcabdce95b4302698", func := "maquette/maquettelaw21.OrderUndoes", spec := "orderUndoes", inPlace := ["math.Float64frombits", "math.Float64bits", "math.RoundToEven", "slices.overlaps[maquette/api.Thing]", "math/bits.Add64"], unfollowed := true, recurses := true, named := ["math/bits.divideError", "math/bits.overflowError"], apart := false }
def OrderUndoesSaid : Prop := orderUndoesRow.holds Tryz.pinned (OpenSpec.ofChange orderUndoesSpec)

/-- ITS FALSE NEIGHBOUR: 'it returns false'. Refute it at one input. -/
def orderUndoesWrong : ChangeSpec := { name := "orderUndoes", fn := fun _ => fun
  | [d1, d2, d3, d4, d5, d6] => { results := [.lit (.bool false)], args := [d1, d2, d3, d4, d5, d6] }
  | _ => none }
def OrderUndoesWrongFalsely : Prop := orderUndoesRow.holds Tryz.pinned (OpenSpec.ofChange orderUndoesWrong)

/-- 'maquettelaw21.OrderRefused': WHATEVER THE INPUT: true; the input reads as it did. -/
def orderRefusedSpec : ChangeSpec := { name := "orderRefused", fn := fun _ => fun
  | [d1, d2, d3, d4] => { results := [.lit (.bool true)], args := [d1, d2, d3, d4] }
  | _ => none }
def orderRefusedRow : OpenClaim := { program := "ytbjldjihpekhaaagreat", sum := "0859e9417172064bd73e456aa0574e0bb7068615a387cbcfcabdce95b4302698", func := "maquette/maquettelaw21.OrderRefused", spec := "orderRefused", inPlace := ["math.Float64frombits", "math.Float64bits", "math.RoundToEven", "slices.overlaps[maquette/api.Thing]", "math/bits.Add64"], unfollowed := true, recurses := true, named := ["math/bits.divideError", "math/bits.overflowError"], apart := false }
def OrderRefusedSaid : Prop := orderRefusedRow.holds Tryz.pinned (OpenSpec.ofChange orderRefusedSpec)

/-- ITS FALSE NEIGHBOUR: 'it returns false'. Refute it at one input. -/
def orderRefusedWrong : ChangeSpec := { name := "orderRefused", fn := fun _ => fun
  | [d1, d2, d3, d4] => { results := [.lit (.bool false)], args := [d1, d2, d3, d4] }
  | _ => none }
def OrderRefusedWrongFalsely : Prop := orderRefusedRow.holds Tryz.pinned (OpenSpec.ofChange orderRefusedWrong)

/-- 'maquettelaw21.OrderSizes': WHATEVER THE INPUT: true; the input reads as it did. -/
def orderSizesSpec : ChangeSpec := { name := "orderSizes", fn := fun _ => fun
  | [d1, d2, d3] => { results := [.lit (.bool true)], args := [d1, d2, d3] }
  | _ => none }
def orderSizesRow : OpenClaim := { program := "ytbjldjihpekhaaagreat", sum := "0859e9417172064bd73e456aa0574e0bb7068615a387cbcfcabdce95b4302698", func := "maquette/maquettelaw21.OrderSizes", spec := "orderSizes", inPlace := ["math.Float64frombits", "math.Float64bits", "math.RoundToEven", "slices.overlaps[maquette/api.Thing]", "math/bits.Add64"], unfollowed := true, recurses := true, named := ["math/bits.divideError", "math/bits.overflowError"], apart := false }
def OrderSizesSaid : Prop := orderSizesRow.holds Tryz.pinned (OpenSpec.ofChange orderSizesSpec)

/-- ITS FALSE NEIGHBOUR: 'it returns false'. Refute it at one input. -/
def orderSizesWrong : ChangeSpec := { name := "orderSizes", fn := fun _ => fun
  | [d1, d2, d3] => { results := [.lit (.bool false)], args := [d1, d2, d3] }
  | _ => none }
def OrderSizesWrongFalsely : Prop := orderSizesRow.holds Tryz.pinned (OpenSpec.ofChange orderSizesWrong)

/-- 'maquettelaw21.OrderMakes': WHATEVER THE INPUT: true; the input reads as it did. -/
def orderMakesSpec : ChangeSpec := { name := "orderMakes", fn := fun _ => fun
  | [d1, d2, d3, d4, d5, d6] => { results := [.lit (.bool true)], args := [d1, d2, d3, d4, d5, d6] }
  | _ => none }
def orderMakesRow : OpenClaim := { program := "ytbjldjihpekhaaagreat", sum := "0859e9417172064bd73e456aa0574e0bb7068615a387cbcfcabdce95b4302698", func := "maquette/maquettelaw21.OrderMakes", spec := "orderMakes", inPlace := ["math.Float64frombits", "math.Float64bits", "math.RoundToEven", "slices.overlaps[maquette/api.Thing]", "math/bits.Add64"], unfollowed := true, recurses := true, named := ["math/bits.divideError", "math/bits.overflowError"], apart := false }
def OrderMakesSaid : Prop := orderMakesRow.holds Tryz.pinned (OpenSpec.ofChange orderMakesSpec)

/-- ITS FALSE NEIGHBOUR: 'it returns false'. Refute it at one input. -/
def orderMakesWrong : ChangeSpec := { name := "orderMakes", fn := fun _ => fun
  | [d1, d2, d3, d4, d5, d6] => { results := [.lit (.bool false)], args := [d1, d2, d3, d4, d5, d6] }
  | _ => none }
def OrderMakesWrongFalsely : Prop := orderMakesRow.holds Tryz.pinned (OpenSpec.ofChange orderMakesWrong)

/-- 'maquettelaw21.OrderUngroups': WHATEVER THE INPUT: true; the input reads as it did. -/
def orderUngroupsSpec : ChangeSpec := { name := "orderUngroups", fn := fun _ => fun
  | [d1, d2] => { results := [.lit (.bool true)], args := [d1, d2] }
  | _ => none }
def orderUngroupsRow : OpenClaim := { program := "ytbjldjihpekhaaagreat", sum := "0859e9417172064bd73e456aa0574e0bb7068615a387cbcfcabdce95b4302698", func := "maquette/maquettelaw21.OrderUngroups", spec := "orderUngroups", inPlace := ["math.Float64frombits", "math.Float64bits", "math.RoundToEven", "slices.overlaps[maquette/api.Thing]", "math/bits.Add64"], unfollowed := true, recurses := true, named := ["math/bits.divideError", "math/bits.overflowError"], apart := false }
def OrderUngroupsSaid : Prop := orderUngroupsRow.holds Tryz.pinned (OpenSpec.ofChange orderUngroupsSpec)

/-- ITS FALSE NEIGHBOUR: 'it returns false'. Refute it at one input. -/
def orderUngroupsWrong : ChangeSpec := { name := "orderUngroups", fn := fun _ => fun
  | [d1, d2] => { results := [.lit (.bool false)], args := [d1, d2] }
  | _ => none }
def OrderUngroupsWrongFalsely : Prop := orderUngroupsRow.holds Tryz.pinned (OpenSpec.ofChange orderUngroupsWrong)

/-- 'maquettelaw21.OrderTurns': WHATEVER THE INPUT: true; the input reads as it did. -/
def orderTurnsSpec : ChangeSpec := { name := "orderTurns", fn := fun _ => fun
  | [d1, d2, d3] => { results := [.lit (.bool true)], args := [d1, d2, d3] }
  | _ => none }
def orderTurnsRow : OpenClaim := { program := "ytbjldjihpekhaaagreat", sum := "0859e9417172064bd73e456aa0574e0bb7068615a387cbcfcabdce95b4302698", func := "maquette/maquettelaw21.OrderTurns", spec := "orderTurns", inPlace := ["math.Float64frombits", "math.Float64bits", "math.RoundToEven", "slices.overlaps[maquette/api.Thing]", "math/bits.Add64"], unfollowed := true, recurses := true, named := ["math/bits.divideError", "math/bits.overflowError"], apart := false }
def OrderTurnsSaid : Prop := orderTurnsRow.holds Tryz.pinned (OpenSpec.ofChange orderTurnsSpec)

/-- ITS FALSE NEIGHBOUR: 'it returns false'. Refute it at one input. -/
def orderTurnsWrong : ChangeSpec := { name := "orderTurns", fn := fun _ => fun
  | [d1, d2, d3] => { results := [.lit (.bool false)], args := [d1, d2, d3] }
  | _ => none }
def OrderTurnsWrongFalsely : Prop := orderTurnsRow.holds Tryz.pinned (OpenSpec.ofChange orderTurnsWrong)

/-- 'maquettelaw21.OrderEdges': WHATEVER THE INPUT: true; the input reads as it did. -/
def orderEdgesSpec : ChangeSpec := { name := "orderEdges", fn := fun _ => fun
  | [d1, d2, d3, d4] => { results := [.lit (.bool true)], args := [d1, d2, d3, d4] }
  | _ => none }
def orderEdgesRow : OpenClaim := { program := "ytbjldjihpekhaaagreat", sum := "0859e9417172064bd73e456aa0574e0bb7068615a387cbcfcabdce95b4302698", func := "maquette/maquettelaw21.OrderEdges", spec := "orderEdges", inPlace := ["math.Float64frombits", "math.Float64bits", "math.RoundToEven", "slices.overlaps[maquette/api.Thing]", "math/bits.Add64"], unfollowed := true, recurses := true, named := ["math/bits.divideError", "math/bits.overflowError"], apart := false }
def OrderEdgesSaid : Prop := orderEdgesRow.holds Tryz.pinned (OpenSpec.ofChange orderEdgesSpec)

/-- ITS FALSE NEIGHBOUR: 'it returns false'. Refute it at one input. -/
def orderEdgesWrong : ChangeSpec := { name := "orderEdges", fn := fun _ => fun
  | [d1, d2, d3, d4] => { results := [.lit (.bool false)], args := [d1, d2, d3, d4] }
  | _ => none }
def OrderEdgesWrongFalsely : Prop := orderEdgesRow.holds Tryz.pinned (OpenSpec.ofChange orderEdgesWrong)

/-- 'maquettelaw22.ChangeSmall': WHATEVER THE INPUT: true; the input reads as it did. -/
def changeSmallSpec : ChangeSpec := { name := "changeSmall", fn := fun _ => fun
  | [d1, d2, d3, d4] => { results := [.lit (.bool true)], args := [d1, d2, d3, d4] }
  | _ => none }
def changeSmallRow : OpenClaim := { program := "ytbjldjihpekhaaagreat", sum := "0859e9417172064bd73e456aa0574e0bb7068615a387cbcfcabdce95b4302698", func := "maquette/maquettelaw22.ChangeSmall", spec := "changeSmall", inPlace := ["math.Float64bits", "math.Float64frombits", "math.RoundToEven", "slices.overlaps[maquette/api.Thing]", "math/bits.Add64"], unfollowed := true, recurses := true, named := ["math/bits.divideError", "math/bits.overflowError"], apart := false }
def ChangeSmallSaid : Prop := changeSmallRow.holds Tryz.pinned (OpenSpec.ofChange changeSmallSpec)

/-- ITS FALSE NEIGHBOUR: 'it returns false'. Refute it at one input. -/
def changeSmallWrong : ChangeSpec := { name := "changeSmall", fn := fun _ => fun
  | [d1, d2, d3, d4] => { results := [.lit (.bool false)], args := [d1, d2, d3, d4] }
  | _ => none }
def ChangeSmallWrongFalsely : Prop := changeSmallRow.holds Tryz.pinned (OpenSpec.ofChange changeSmallWrong)

/-- 'maquettelaw23.PastGoes': WHATEVER THE INPUT: true; the input reads as it did. -/
def pastGoesSpec : ChangeSpec := { name := "pastGoes", fn := fun _ => fun
  | [d] => { results := [.lit (.bool true)], args := [d] }
  | _ => none }
def pastGoesRow : OpenClaim := { program := "ytbjldjihpekhaaagreat", sum := "0859e9417172064bd73e456aa0574e0bb7068615a387cbcfcabdce95b4302698", func := "maquette/maquettelaw23.PastGoes", spec := "pastGoes", inPlace := ["math.Float64bits", "math.Float64frombits", "math.RoundToEven", "slices.overlaps[maquette/api.Thing]", "math/bits.Add64"], unfollowed := true, recurses := true, named := ["math/bits.divideError", "math/bits.overflowError"], apart := false }
def PastGoesSaid : Prop := pastGoesRow.holds Tryz.pinned (OpenSpec.ofChange pastGoesSpec)

/-- ITS FALSE NEIGHBOUR: 'it returns false'. Refute it at one input. -/
def pastGoesWrong : ChangeSpec := { name := "pastGoes", fn := fun _ => fun
  | [d] => { results := [.lit (.bool false)], args := [d] }
  | _ => none }
def PastGoesWrongFalsely : Prop := pastGoesRow.holds Tryz.pinned (OpenSpec.ofChange pastGoesWrong)

/- THE SECOND FORM. 'bulk': how many values and letters a reading holds, each counted each time it is reached (what is shared counts as often as it is met; a slice's spare places count too). A statement '..UptoSaid' is the law's where the arguments, and the package variables that the reading takes, are together of bulk at most 1048576: NARROWER than '..Said'. Prove '..Said' where nothing that the law and all that it calls make is longer than what came in: it says more and counts as full. Else prove '..UptoSaid'. A law counts once. -/
mutual
def uptoBulk {H : Type} : DataW H → Nat
  | .lit (.string bytes) => bytes.length + 1
  | .lit _ => 1
  | .nil => 1
  | .ptr d => uptoBulk d + 1
  | .slice elems spare => uptoBulkAll elems + uptoBulkAll spare + 1
  | .agg parts => uptoBulkAll parts + 1
  | .iface _ d => uptoBulk d + 1
  | .map entries => uptoBulkEntries entries + 1
  | .held _ => 1
def uptoBulkAll {H : Type} : List (DataW H) → Nat
  | [] => 0
  | d :: r => uptoBulk d + uptoBulkAll r
def uptoBulkEntries {H : Type} : List (Lit × DataW H) → Nat
  | [] => 0
  | x :: r => uptoBulkEntry x + uptoBulkEntries r
def uptoBulkEntry {H : Type} : Lit × DataW H → Nat
  | (.string bytes, d) => bytes.length + uptoBulk d + 1
  | (_, d) => uptoBulk d + 1
 end
def uptoSmall : (H : Type) → List (DataW H) → Bool := fun _ ds => decide (uptoBulkAll ds ≤ 1048576)
def OpenSpec.upto (s : _root_.Go.ChangeSpec) : _root_.Go.OpenSpec := { _root_.Go.OpenSpec.ofChange s with cond := some uptoSmall }

/-- 'maquettelaw21.OrderTells', WHERE WHAT IT READS IS OF BULK AT MOST 1048576: true; the input reads as it did. -/
def orderTellsUptoRow : OpenClaim := { program := "ytbjldjihpekhaaagreat", sum := "0859e9417172064bd73e456aa0574e0bb7068615a387cbcfcabdce95b4302698", func := "maquette/maquettelaw21.OrderTells", spec := "orderTells", inPlace := ["math.Float64frombits", "math.Float64bits", "math.RoundToEven", "slices.overlaps[maquette/api.Thing]", "math/bits.Add64"], unfollowed := true, recurses := true, named := ["math/bits.divideError", "math/bits.overflowError"], apart := false, narrowed := true }
def OrderTellsUptoSaid : Prop := orderTellsUptoRow.holds Tryz.pinned (OpenSpec.upto orderTellsSpec)

/-- 'maquettelaw21.OrderUndoes', WHERE WHAT IT READS IS OF BULK AT MOST 1048576: true; the input reads as it did. -/
def orderUndoesUptoRow : OpenClaim := { program := "ytbjldjihpekhaaagreat", sum := "0859e9417172064bd73e456aa0574e0bb7068615a387cbcfcabdce95b4302698", func := "maquette/maquettelaw21.OrderUndoes", spec := "orderUndoes", inPlace := ["math.Float64frombits", "math.Float64bits", "math.RoundToEven", "slices.overlaps[maquette/api.Thing]", "math/bits.Add64"], unfollowed := true, recurses := true, named := ["math/bits.divideError", "math/bits.overflowError"], apart := false, narrowed := true }
def OrderUndoesUptoSaid : Prop := orderUndoesUptoRow.holds Tryz.pinned (OpenSpec.upto orderUndoesSpec)

/-- 'maquettelaw21.OrderRefused', WHERE WHAT IT READS IS OF BULK AT MOST 1048576: true; the input reads as it did. -/
def orderRefusedUptoRow : OpenClaim := { program := "ytbjldjihpekhaaagreat", sum := "0859e9417172064bd73e456aa0574e0bb7068615a387cbcfcabdce95b4302698", func := "maquette/maquettelaw21.OrderRefused", spec := "orderRefused", inPlace := ["math.Float64frombits", "math.Float64bits", "math.RoundToEven", "slices.overlaps[maquette/api.Thing]", "math/bits.Add64"], unfollowed := true, recurses := true, named := ["math/bits.divideError", "math/bits.overflowError"], apart := false, narrowed := true }
def OrderRefusedUptoSaid : Prop := orderRefusedUptoRow.holds Tryz.pinned (OpenSpec.upto orderRefusedSpec)

/-- 'maquettelaw21.OrderSizes', WHERE WHAT IT READS IS OF BULK AT MOST 1048576: true; the input reads as it did. -/
def orderSizesUptoRow : OpenClaim := { program := "ytbjldjihpekhaaagreat", sum := "0859e9417172064bd73e456aa0574e0bb7068615a387cbcfcabdce95b4302698", func := "maquette/maquettelaw21.OrderSizes", spec := "orderSizes", inPlace := ["math.Float64frombits", "math.Float64bits", "math.RoundToEven", "slices.overlaps[maquette/api.Thing]", "math/bits.Add64"], unfollowed := true, recurses := true, named := ["math/bits.divideError", "math/bits.overflowError"], apart := false, narrowed := true }
def OrderSizesUptoSaid : Prop := orderSizesUptoRow.holds Tryz.pinned (OpenSpec.upto orderSizesSpec)

/-- 'maquettelaw21.OrderMakes', WHERE WHAT IT READS IS OF BULK AT MOST 1048576: true; the input reads as it did. -/
def orderMakesUptoRow : OpenClaim := { program := "ytbjldjihpekhaaagreat", sum := "0859e9417172064bd73e456aa0574e0bb7068615a387cbcfcabdce95b4302698", func := "maquette/maquettelaw21.OrderMakes", spec := "orderMakes", inPlace := ["math.Float64frombits", "math.Float64bits", "math.RoundToEven", "slices.overlaps[maquette/api.Thing]", "math/bits.Add64"], unfollowed := true, recurses := true, named := ["math/bits.divideError", "math/bits.overflowError"], apart := false, narrowed := true }
def OrderMakesUptoSaid : Prop := orderMakesUptoRow.holds Tryz.pinned (OpenSpec.upto orderMakesSpec)

/-- 'maquettelaw21.OrderUngroups', WHERE WHAT IT READS IS OF BULK AT MOST 1048576: true; the input reads as it did. -/
def orderUngroupsUptoRow : OpenClaim := { program := "ytbjldjihpekhaaagreat", sum := "0859e9417172064bd73e456aa0574e0bb7068615a387cbcfcabdce95b4302698", func := "maquette/maquettelaw21.OrderUngroups", spec := "orderUngroups", inPlace := ["math.Float64frombits", "math.Float64bits", "math.RoundToEven", "slices.overlaps[maquette/api.Thing]", "math/bits.Add64"], unfollowed := true, recurses := true, named := ["math/bits.divideError", "math/bits.overflowError"], apart := false, narrowed := true }
def OrderUngroupsUptoSaid : Prop := orderUngroupsUptoRow.holds Tryz.pinned (OpenSpec.upto orderUngroupsSpec)

/-- 'maquettelaw21.OrderTurns', WHERE WHAT IT READS IS OF BULK AT MOST 1048576: true; the input reads as it did. -/
def orderTurnsUptoRow : OpenClaim := { program := "ytbjldjihpekhaaagreat", sum := "0859e9417172064bd73e456aa0574e0bb7068615a387cbcfcabdce95b4302698", func := "maquette/maquettelaw21.OrderTurns", spec := "orderTurns", inPlace := ["math.Float64frombits", "math.Float64bits", "math.RoundToEven", "slices.overlaps[maquette/api.Thing]", "math/bits.Add64"], unfollowed := true, recurses := true, named := ["math/bits.divideError", "math/bits.overflowError"], apart := false, narrowed := true }
def OrderTurnsUptoSaid : Prop := orderTurnsUptoRow.holds Tryz.pinned (OpenSpec.upto orderTurnsSpec)

/-- 'maquettelaw21.OrderEdges', WHERE WHAT IT READS IS OF BULK AT MOST 1048576: true; the input reads as it did. -/
def orderEdgesUptoRow : OpenClaim := { program := "ytbjldjihpekhaaagreat", sum := "0859e9417172064bd73e456aa0574e0bb7068615a387cbcfcabdce95b4302698", func := "maquette/maquettelaw21.OrderEdges", spec := "orderEdges", inPlace := ["math.Float64frombits", "math.Float64bits", "math.RoundToEven", "slices.overlaps[maquette/api.Thing]", "math/bits.Add64"], unfollowed := true, recurses := true, named := ["math/bits.divideError", "math/bits.overflowError"], apart := false, narrowed := true }
def OrderEdgesUptoSaid : Prop := orderEdgesUptoRow.holds Tryz.pinned (OpenSpec.upto orderEdgesSpec)

/-- 'maquettelaw22.ChangeSmall', WHERE WHAT IT READS IS OF BULK AT MOST 1048576: true; the input reads as it did. -/
def changeSmallUptoRow : OpenClaim := { program := "ytbjldjihpekhaaagreat", sum := "0859e9417172064bd73e456aa0574e0bb7068615a387cbcfcabdce95b4302698", func := "maquette/maquettelaw22.ChangeSmall", spec := "changeSmall", inPlace := ["math.Float64bits", "math.Float64frombits", "math.RoundToEven", "slices.overlaps[maquette/api.Thing]", "math/bits.Add64"], unfollowed := true, recurses := true, named := ["math/bits.divideError", "math/bits.overflowError"], apart := false, narrowed := true }
def ChangeSmallUptoSaid : Prop := changeSmallUptoRow.holds Tryz.pinned (OpenSpec.upto changeSmallSpec)

/-- 'maquettelaw23.PastGoes', WHERE WHAT IT READS IS OF BULK AT MOST 1048576: true; the input reads as it did. -/
def pastGoesUptoRow : OpenClaim := { program := "ytbjldjihpekhaaagreat", sum := "0859e9417172064bd73e456aa0574e0bb7068615a387cbcfcabdce95b4302698", func := "maquette/maquettelaw23.PastGoes", spec := "pastGoes", inPlace := ["math.Float64bits", "math.Float64frombits", "math.RoundToEven", "slices.overlaps[maquette/api.Thing]", "math/bits.Add64"], unfollowed := true, recurses := true, named := ["math/bits.divideError", "math/bits.overflowError"], apart := false, narrowed := true }
def PastGoesUptoSaid : Prop := pastGoesUptoRow.holds Tryz.pinned (OpenSpec.upto pastGoesSpec)

end Rows
end Go.Proofs.YtbjldjihpekhaaaGreat
