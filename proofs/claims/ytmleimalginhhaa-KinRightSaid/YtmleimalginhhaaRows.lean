/-
  No cell of these rows narrows 'for every input' (looked for: loops, veiled, ifaces, maps, wideKeys, modest, calm, conditions, laid).
  DERIVED. THE GIVEN ROWS OF THIS SEAT. 13 by the template 'for every input the law returns true; each argument reads behind the call as it read before'; 0 by the template 'total and deterministic' (their statements: YtmleimalginhhaaTotals.lean).
  GIVEN WITH THE SEED: the statements are not yours to turn. If you find one false, say at which input.
  Laid BY PROGRAM, IN A SANDBOX (cutbox-rows.mjs): the forced cells as the released guide's own fill.sh prints them over the translation 15e5315e7037feb6… (all of the seat's roots in one cut). By AI agents, Wed Nov 11 2026. No macro, syntax, notation, axiom, sorry.
-/
import Derived.Test.YtmleimalginhhaaChecked
import GoSem.Claim
import GoSem.ClaimJoined
import GoSem.ClaimMapViews
import Derived.JoinedTies
import Derived.KernelRfl
namespace Go.Proofs.Ytmleimalginhhaa
/- THE CELL 'sum', in the pinned program and in every row, IS THE sha256 OF THE DUMP (.gsa) THAT YtmleimalginhhaaProg.lean LOADS. Nothing in Lean hashes anything: it is a label: what it is worth is what the hold of that sum in a sandbox is worth. -/
noncomputable def Try.pinned : Pinned := { name := "ytmleimalginhhaa", sum := "15e5315e7037feb67f8d7f9877d0a4c07c0b5e83adee8e5dbab55f75d2fd3346", checked := Try.checked }
namespace Rows
def none {H : Type} : Left H := { results := [], args := [] }

/-- 'maquettelaw19.SceneCycles': WHATEVER THE INPUT: true; the input reads as it did. -/
def sceneCyclesSpec : ChangeSpec := { name := "sceneCycles", fn := fun _ => fun
  | [d] => { results := [.lit (.bool true)], args := [d] }
  | _ => none }
def sceneCyclesRow : OpenClaim := { program := "ytmleimalginhhaa", sum := "15e5315e7037feb67f8d7f9877d0a4c07c0b5e83adee8e5dbab55f75d2fd3346", func := "maquette/maquettelaw19.SceneCycles", spec := "sceneCycles", inPlace := ["slices.overlaps[maquette/api.Thing]"], unfollowed := true, recurses := true, apart := false }
def SceneCyclesSaid : Prop := sceneCyclesRow.holds Try.pinned (OpenSpec.ofChange sceneCyclesSpec)

/-- ITS FALSE NEIGHBOUR: 'it returns false'. Refute it at one input. -/
def sceneCyclesWrong : ChangeSpec := { name := "sceneCycles", fn := fun _ => fun
  | [d] => { results := [.lit (.bool false)], args := [d] }
  | _ => none }
def SceneCyclesWrongFalsely : Prop := sceneCyclesRow.holds Try.pinned (OpenSpec.ofChange sceneCyclesWrong)

/-- 'maquettelaw19.SceneMany': WHATEVER THE INPUT: true; the input reads as it did. -/
def sceneManySpec : ChangeSpec := { name := "sceneMany", fn := fun _ => fun
  | [d] => { results := [.lit (.bool true)], args := [d] }
  | _ => none }
def sceneManyRow : OpenClaim := { program := "ytmleimalginhhaa", sum := "15e5315e7037feb67f8d7f9877d0a4c07c0b5e83adee8e5dbab55f75d2fd3346", func := "maquette/maquettelaw19.SceneMany", spec := "sceneMany", inPlace := ["slices.overlaps[maquette/api.Thing]"], unfollowed := true, recurses := true, apart := false }
def SceneManySaid : Prop := sceneManyRow.holds Try.pinned (OpenSpec.ofChange sceneManySpec)

/-- ITS FALSE NEIGHBOUR: 'it returns false'. Refute it at one input. -/
def sceneManyWrong : ChangeSpec := { name := "sceneMany", fn := fun _ => fun
  | [d] => { results := [.lit (.bool false)], args := [d] }
  | _ => none }
def SceneManyWrongFalsely : Prop := sceneManyRow.holds Try.pinned (OpenSpec.ofChange sceneManyWrong)

/-- 'maquettelaw19.SceneWithout': WHATEVER THE INPUT: true; the input reads as it did. -/
def sceneWithoutSpec : ChangeSpec := { name := "sceneWithout", fn := fun _ => fun
  | [d1, d2, d3, d4] => { results := [.lit (.bool true)], args := [d1, d2, d3, d4] }
  | _ => none }
def sceneWithoutRow : OpenClaim := { program := "ytmleimalginhhaa", sum := "15e5315e7037feb67f8d7f9877d0a4c07c0b5e83adee8e5dbab55f75d2fd3346", func := "maquette/maquettelaw19.SceneWithout", spec := "sceneWithout", inPlace := ["slices.overlaps[maquette/api.Thing]"], unfollowed := true, recurses := true, apart := false }
def SceneWithoutSaid : Prop := sceneWithoutRow.holds Try.pinned (OpenSpec.ofChange sceneWithoutSpec)

/-- ITS FALSE NEIGHBOUR: 'it returns false'. Refute it at one input. -/
def sceneWithoutWrong : ChangeSpec := { name := "sceneWithout", fn := fun _ => fun
  | [d1, d2, d3, d4] => { results := [.lit (.bool false)], args := [d1, d2, d3, d4] }
  | _ => none }
def SceneWithoutWrongFalsely : Prop := sceneWithoutRow.holds Try.pinned (OpenSpec.ofChange sceneWithoutWrong)

/-- 'maquettelaw19.SceneUses': WHATEVER THE INPUT: true; the input reads as it did. -/
def sceneUsesSpec : ChangeSpec := { name := "sceneUses", fn := fun _ => fun
  | [d1, d2, d3] => { results := [.lit (.bool true)], args := [d1, d2, d3] }
  | _ => none }
def sceneUsesRow : OpenClaim := { program := "ytmleimalginhhaa", sum := "15e5315e7037feb67f8d7f9877d0a4c07c0b5e83adee8e5dbab55f75d2fd3346", func := "maquette/maquettelaw19.SceneUses", spec := "sceneUses", inPlace := ["slices.overlaps[maquette/api.Thing]"], unfollowed := true, recurses := true, apart := false }
def SceneUsesSaid : Prop := sceneUsesRow.holds Try.pinned (OpenSpec.ofChange sceneUsesSpec)

/-- ITS FALSE NEIGHBOUR: 'it returns false'. Refute it at one input. -/
def sceneUsesWrong : ChangeSpec := { name := "sceneUses", fn := fun _ => fun
  | [d1, d2, d3] => { results := [.lit (.bool false)], args := [d1, d2, d3] }
  | _ => none }
def SceneUsesWrongFalsely : Prop := sceneUsesRow.holds Try.pinned (OpenSpec.ofChange sceneUsesWrong)

/-- 'maquettelaw19.SceneBytes': WHATEVER THE INPUT: true; the input reads as it did. -/
def sceneBytesSpec : ChangeSpec := { name := "sceneBytes", fn := fun _ => fun
  | [d1, d2, d3, d4, d5, d6] => { results := [.lit (.bool true)], args := [d1, d2, d3, d4, d5, d6] }
  | _ => none }
def sceneBytesRow : OpenClaim := { program := "ytmleimalginhhaa", sum := "15e5315e7037feb67f8d7f9877d0a4c07c0b5e83adee8e5dbab55f75d2fd3346", func := "maquette/maquettelaw19.SceneBytes", spec := "sceneBytes", inPlace := ["slices.overlaps[maquette/api.Thing]"], unfollowed := true, recurses := true, apart := false }
def SceneBytesSaid : Prop := sceneBytesRow.holds Try.pinned (OpenSpec.ofChange sceneBytesSpec)

/-- ITS FALSE NEIGHBOUR: 'it returns false'. Refute it at one input. -/
def sceneBytesWrong : ChangeSpec := { name := "sceneBytes", fn := fun _ => fun
  | [d1, d2, d3, d4, d5, d6] => { results := [.lit (.bool false)], args := [d1, d2, d3, d4, d5, d6] }
  | _ => none }
def SceneBytesWrongFalsely : Prop := sceneBytesRow.holds Try.pinned (OpenSpec.ofChange sceneBytesWrong)

/-- 'maquettelaw23.PastBound': WHATEVER THE INPUT: true; the input reads as it did. -/
def pastBoundSpec : ChangeSpec := { name := "pastBound", fn := fun _ => fun
  | [d] => { results := [.lit (.bool true)], args := [d] }
  | _ => none }
def pastBoundRow : OpenClaim := { program := "ytmleimalginhhaa", sum := "15e5315e7037feb67f8d7f9877d0a4c07c0b5e83adee8e5dbab55f75d2fd3346", func := "maquette/maquettelaw23.PastBound", spec := "pastBound", unfollowed := true, recurses := true, apart := false }
def PastBoundSaid : Prop := pastBoundRow.holds Try.pinned (OpenSpec.ofChange pastBoundSpec)

/-- ITS FALSE NEIGHBOUR: 'it returns false'. Refute it at one input. -/
def pastBoundWrong : ChangeSpec := { name := "pastBound", fn := fun _ => fun
  | [d] => { results := [.lit (.bool false)], args := [d] }
  | _ => none }
def PastBoundWrongFalsely : Prop := pastBoundRow.holds Try.pinned (OpenSpec.ofChange pastBoundWrong)

/-- 'maquettelaw23.PastClears': WHATEVER THE INPUT: true; the input reads as it did. -/
def pastClearsSpec : ChangeSpec := { name := "pastClears", fn := fun _ => fun
  | [d1, d2] => { results := [.lit (.bool true)], args := [d1, d2] }
  | _ => none }
def pastClearsRow : OpenClaim := { program := "ytmleimalginhhaa", sum := "15e5315e7037feb67f8d7f9877d0a4c07c0b5e83adee8e5dbab55f75d2fd3346", func := "maquette/maquettelaw23.PastClears", spec := "pastClears", unfollowed := true, recurses := true, apart := false }
def PastClearsSaid : Prop := pastClearsRow.holds Try.pinned (OpenSpec.ofChange pastClearsSpec)

/-- ITS FALSE NEIGHBOUR: 'it returns false'. Refute it at one input. -/
def pastClearsWrong : ChangeSpec := { name := "pastClears", fn := fun _ => fun
  | [d1, d2] => { results := [.lit (.bool false)], args := [d1, d2] }
  | _ => none }
def PastClearsWrongFalsely : Prop := pastClearsRow.holds Try.pinned (OpenSpec.ofChange pastClearsWrong)

/-- 'maquettelaw23.PastEmpty': WHATEVER THE INPUT: true; the input reads as it did. -/
def pastEmptySpec : ChangeSpec := { name := "pastEmpty", fn := fun _ => fun
  | [d1, d2, d3] => { results := [.lit (.bool true)], args := [d1, d2, d3] }
  | _ => none }
def pastEmptyRow : OpenClaim := { program := "ytmleimalginhhaa", sum := "15e5315e7037feb67f8d7f9877d0a4c07c0b5e83adee8e5dbab55f75d2fd3346", func := "maquette/maquettelaw23.PastEmpty", spec := "pastEmpty", unfollowed := true, recurses := true, apart := false }
def PastEmptySaid : Prop := pastEmptyRow.holds Try.pinned (OpenSpec.ofChange pastEmptySpec)

/-- ITS FALSE NEIGHBOUR: 'it returns false'. Refute it at one input. -/
def pastEmptyWrong : ChangeSpec := { name := "pastEmpty", fn := fun _ => fun
  | [d1, d2, d3] => { results := [.lit (.bool false)], args := [d1, d2, d3] }
  | _ => none }
def PastEmptyWrongFalsely : Prop := pastEmptyRow.holds Try.pinned (OpenSpec.ofChange pastEmptyWrong)

/-- 'maquettelaw20.KinUps': WHATEVER THE INPUT: true; the input reads as it did. -/
def kinUpsSpec : ChangeSpec := { name := "kinUps", fn := fun _ => fun
  | [d1, d2, d3] => { results := [.lit (.bool true)], args := [d1, d2, d3] }
  | _ => none }
def kinUpsRow : OpenClaim := { program := "ytmleimalginhhaa", sum := "15e5315e7037feb67f8d7f9877d0a4c07c0b5e83adee8e5dbab55f75d2fd3346", func := "maquette/maquettelaw20.KinUps", spec := "kinUps", inPlace := ["slices.overlaps[maquette/api.Thing]"], unfollowed := true, recurses := true, apart := false }
def KinUpsSaid : Prop := kinUpsRow.holds Try.pinned (OpenSpec.ofChange kinUpsSpec)

/-- ITS FALSE NEIGHBOUR: 'it returns false'. Refute it at one input. -/
def kinUpsWrong : ChangeSpec := { name := "kinUps", fn := fun _ => fun
  | [d1, d2, d3] => { results := [.lit (.bool false)], args := [d1, d2, d3] }
  | _ => none }
def KinUpsWrongFalsely : Prop := kinUpsRow.holds Try.pinned (OpenSpec.ofChange kinUpsWrong)

/-- 'maquettelaw20.KinDrops': WHATEVER THE INPUT: true; the input reads as it did. -/
def kinDropsSpec : ChangeSpec := { name := "kinDrops", fn := fun _ => fun
  | [d1, d2] => { results := [.lit (.bool true)], args := [d1, d2] }
  | _ => none }
def kinDropsRow : OpenClaim := { program := "ytmleimalginhhaa", sum := "15e5315e7037feb67f8d7f9877d0a4c07c0b5e83adee8e5dbab55f75d2fd3346", func := "maquette/maquettelaw20.KinDrops", spec := "kinDrops", inPlace := ["slices.overlaps[maquette/api.Thing]"], unfollowed := true, recurses := true, apart := false }
def KinDropsSaid : Prop := kinDropsRow.holds Try.pinned (OpenSpec.ofChange kinDropsSpec)

/-- ITS FALSE NEIGHBOUR: 'it returns false'. Refute it at one input. -/
def kinDropsWrong : ChangeSpec := { name := "kinDrops", fn := fun _ => fun
  | [d1, d2] => { results := [.lit (.bool false)], args := [d1, d2] }
  | _ => none }
def KinDropsWrongFalsely : Prop := kinDropsRow.holds Try.pinned (OpenSpec.ofChange kinDropsWrong)

/-- 'maquettelaw20.KinRight': WHATEVER THE INPUT: true; the input reads as it did. -/
def kinRightSpec : ChangeSpec := { name := "kinRight", fn := fun _ => fun
  | [d1, d2, d3, d4, d5, d6] => { results := [.lit (.bool true)], args := [d1, d2, d3, d4, d5, d6] }
  | _ => none }
def kinRightRow : OpenClaim := { program := "ytmleimalginhhaa", sum := "15e5315e7037feb67f8d7f9877d0a4c07c0b5e83adee8e5dbab55f75d2fd3346", func := "maquette/maquettelaw20.KinRight", spec := "kinRight", inPlace := ["slices.overlaps[maquette/api.Thing]"], unfollowed := true, recurses := true, apart := false }
def KinRightSaid : Prop := kinRightRow.holds Try.pinned (OpenSpec.ofChange kinRightSpec)

/-- ITS FALSE NEIGHBOUR: 'it returns false'. Refute it at one input. -/
def kinRightWrong : ChangeSpec := { name := "kinRight", fn := fun _ => fun
  | [d1, d2, d3, d4, d5, d6] => { results := [.lit (.bool false)], args := [d1, d2, d3, d4, d5, d6] }
  | _ => none }
def KinRightWrongFalsely : Prop := kinRightRow.holds Try.pinned (OpenSpec.ofChange kinRightWrong)

/-- 'maquettelaw20.KinNests': WHATEVER THE INPUT: true; the input reads as it did. -/
def kinNestsSpec : ChangeSpec := { name := "kinNests", fn := fun _ => fun
  | [d] => { results := [.lit (.bool true)], args := [d] }
  | _ => none }
def kinNestsRow : OpenClaim := { program := "ytmleimalginhhaa", sum := "15e5315e7037feb67f8d7f9877d0a4c07c0b5e83adee8e5dbab55f75d2fd3346", func := "maquette/maquettelaw20.KinNests", spec := "kinNests", inPlace := ["slices.overlaps[maquette/api.Thing]"], unfollowed := true, recurses := true, apart := false }
def KinNestsSaid : Prop := kinNestsRow.holds Try.pinned (OpenSpec.ofChange kinNestsSpec)

/-- ITS FALSE NEIGHBOUR: 'it returns false'. Refute it at one input. -/
def kinNestsWrong : ChangeSpec := { name := "kinNests", fn := fun _ => fun
  | [d] => { results := [.lit (.bool false)], args := [d] }
  | _ => none }
def KinNestsWrongFalsely : Prop := kinNestsRow.holds Try.pinned (OpenSpec.ofChange kinNestsWrong)

/-- 'maquettelaw20.KinCopies': WHATEVER THE INPUT: true; the input reads as it did. -/
def kinCopiesSpec : ChangeSpec := { name := "kinCopies", fn := fun _ => fun
  | [d1, d2, d3] => { results := [.lit (.bool true)], args := [d1, d2, d3] }
  | _ => none }
def kinCopiesRow : OpenClaim := { program := "ytmleimalginhhaa", sum := "15e5315e7037feb67f8d7f9877d0a4c07c0b5e83adee8e5dbab55f75d2fd3346", func := "maquette/maquettelaw20.KinCopies", spec := "kinCopies", inPlace := ["slices.overlaps[maquette/api.Thing]"], unfollowed := true, recurses := true, apart := false }
def KinCopiesSaid : Prop := kinCopiesRow.holds Try.pinned (OpenSpec.ofChange kinCopiesSpec)

/-- ITS FALSE NEIGHBOUR: 'it returns false'. Refute it at one input. -/
def kinCopiesWrong : ChangeSpec := { name := "kinCopies", fn := fun _ => fun
  | [d1, d2, d3] => { results := [.lit (.bool false)], args := [d1, d2, d3] }
  | _ => none }
def KinCopiesWrongFalsely : Prop := kinCopiesRow.holds Try.pinned (OpenSpec.ofChange kinCopiesWrong)

/- THE SECOND FORM. 'bulk': how many values and letters a reading holds, each counted each time it is reached (what is shared counts as often as it is met; a slice's spare places count too). A statement '..UptoSaid' is the law's where the arguments, and the package variables that the reading takes, are together of bulk at most 1048576: NARROWER than '..Said'. Prove '..Said' where nothing that the law and all that it calls make is longer than what came in: it says more and counts as full. Else prove '..UptoSaid'. A law counts once. -/
mutual
def uptoBulk {H : Type} : DataW H → Nat
  | .lit (.string bytes) => bytes.length + 1
  | .lit _ => 1
  | .nil => 1
  | .ptr d => uptoBulk d + 1
  | .slice elems spare => uptoBulkAll elems + uptoBulkAll spare + 1
  | .agg parts => uptoBulkAll parts + 1
  | .iface _ d => uptoBulk d + 1
  | .map entries => uptoBulkEntries entries + 1
  | .held _ => 1
def uptoBulkAll {H : Type} : List (DataW H) → Nat
  | [] => 0
  | d :: r => uptoBulk d + uptoBulkAll r
def uptoBulkEntries {H : Type} : List (Lit × DataW H) → Nat
  | [] => 0
  | x :: r => uptoBulkEntry x + uptoBulkEntries r
def uptoBulkEntry {H : Type} : Lit × DataW H → Nat
  | (.string bytes, d) => bytes.length + uptoBulk d + 1
  | (_, d) => uptoBulk d + 1
 end
def uptoSmall : (H : Type) → List (DataW H) → Bool := fun _ ds => decide (uptoBulkAll ds ≤ 1048576)
def OpenSpec.upto (s : _root_.Go.ChangeSpec) : _root_.Go.OpenSpec := { _root_.Go.OpenSpec.ofChange s with cond := some uptoSmall }

/-- 'maquettelaw19.SceneCycles', WHERE WHAT IT READS IS OF BULK AT MOST 1048576: true; the input reads as it did. -/
def sceneCyclesUptoRow : OpenClaim := { program := "ytmleimalginhhaa", sum := "15e5315e7037feb67f8d7f9877d0a4c07c0b5e83adee8e5dbab55f75d2fd3346", func := "maquette/maquettelaw19.SceneCycles", spec := "sceneCycles", inPlace := ["slices.overlaps[maquette/api.Thing]"], unfollowed := true, recurses := true, apart := false, narrowed := true }
def SceneCyclesUptoSaid : Prop := sceneCyclesUptoRow.holds Try.pinned (OpenSpec.upto sceneCyclesSpec)

/-- 'maquettelaw19.SceneMany', WHERE WHAT IT READS IS OF BULK AT MOST 1048576: true; the input reads as it did. -/
def sceneManyUptoRow : OpenClaim := { program := "ytmleimalginhhaa", sum := "15e5315e7037feb67f8d7f9877d0a4c07c0b5e83adee8e5dbab55f75d2fd3346", func := "maquette/maquettelaw19.SceneMany", spec := "sceneMany", inPlace := ["slices.overlaps[maquette/api.Thing]"], unfollowed := true, recurses := true, apart := false, narrowed := true }
def SceneManyUptoSaid : Prop := sceneManyUptoRow.holds Try.pinned (OpenSpec.upto sceneManySpec)

/-- 'maquettelaw19.SceneWithout', WHERE WHAT IT READS IS OF BULK AT MOST 1048576: true; the input reads as it did. -/
def sceneWithoutUptoRow : OpenClaim := { program := "ytmleimalginhhaa", sum := "15e5315e7037feb67f8d7f9877d0a4c07c0b5e83adee8e5dbab55f75d2fd3346", func := "maquette/maquettelaw19.SceneWithout", spec := "sceneWithout", inPlace := ["slices.overlaps[maquette/api.Thing]"], unfollowed := true, recurses := true, apart := false, narrowed := true }
def SceneWithoutUptoSaid : Prop := sceneWithoutUptoRow.holds Try.pinned (OpenSpec.upto sceneWithoutSpec)

/-- 'maquettelaw19.SceneUses', WHERE WHAT IT READS IS OF BULK AT MOST 1048576: true; the input reads as it did. -/
def sceneUsesUptoRow : OpenClaim := { program := "ytmleimalginhhaa", sum := "15e5315e7037feb67f8d7f9877d0a4c07c0b5e83adee8e5dbab55f75d2fd3346", func := "maquette/maquettelaw19.SceneUses", spec := "sceneUses", inPlace := ["slices.overlaps[maquette/api.Thing]"], unfollowed := true, recurses := true, apart := false, narrowed := true }
def SceneUsesUptoSaid : Prop := sceneUsesUptoRow.holds Try.pinned (OpenSpec.upto sceneUsesSpec)

/-- 'maquettelaw19.SceneBytes', WHERE WHAT IT READS IS OF BULK AT MOST 1048576: true; the input reads as it did. -/
def sceneBytesUptoRow : OpenClaim := { program := "ytmleimalginhhaa", sum := "15e5315e7037feb67f8d7f9877d0a4c07c0b5e83adee8e5dbab55f75d2fd3346", func := "maquette/maquettelaw19.SceneBytes", spec := "sceneBytes", inPlace := ["slices.overlaps[maquette/api.Thing]"], unfollowed := true, recurses := true, apart := false, narrowed := true }
def SceneBytesUptoSaid : Prop := sceneBytesUptoRow.holds Try.pinned (OpenSpec.upto sceneBytesSpec)

/-- 'maquettelaw23.PastBound', WHERE WHAT IT READS IS OF BULK AT MOST 1048576: true; the input reads as it did. -/
def pastBoundUptoRow : OpenClaim := { program := "ytmleimalginhhaa", sum := "15e5315e7037feb67f8d7f9877d0a4c07c0b5e83adee8e5dbab55f75d2fd3346", func := "maquette/maquettelaw23.PastBound", spec := "pastBound", unfollowed := true, recurses := true, apart := false, narrowed := true }
def PastBoundUptoSaid : Prop := pastBoundUptoRow.holds Try.pinned (OpenSpec.upto pastBoundSpec)

/-- 'maquettelaw23.PastClears', WHERE WHAT IT READS IS OF BULK AT MOST 1048576: true; the input reads as it did. -/
def pastClearsUptoRow : OpenClaim := { program := "ytmleimalginhhaa", sum := "15e5315e7037feb67f8d7f9877d0a4c07c0b5e83adee8e5dbab55f75d2fd3346", func := "maquette/maquettelaw23.PastClears", spec := "pastClears", unfollowed := true, recurses := true, apart := false, narrowed := true }
def PastClearsUptoSaid : Prop := pastClearsUptoRow.holds Try.pinned (OpenSpec.upto pastClearsSpec)

/-- 'maquettelaw23.PastEmpty', WHERE WHAT IT READS IS OF BULK AT MOST 1048576: true; the input reads as it did. -/
def pastEmptyUptoRow : OpenClaim := { program := "ytmleimalginhhaa", sum := "15e5315e7037feb67f8d7f9877d0a4c07c0b5e83adee8e5dbab55f75d2fd3346", func := "maquette/maquettelaw23.PastEmpty", spec := "pastEmpty", unfollowed := true, recurses := true, apart := false, narrowed := true }
def PastEmptyUptoSaid : Prop := pastEmptyUptoRow.holds Try.pinned (OpenSpec.upto pastEmptySpec)

/-- 'maquettelaw20.KinUps', WHERE WHAT IT READS IS OF BULK AT MOST 1048576: true; the input reads as it did. -/
def kinUpsUptoRow : OpenClaim := { program := "ytmleimalginhhaa", sum := "15e5315e7037feb67f8d7f9877d0a4c07c0b5e83adee8e5dbab55f75d2fd3346", func := "maquette/maquettelaw20.KinUps", spec := "kinUps", inPlace := ["slices.overlaps[maquette/api.Thing]"], unfollowed := true, recurses := true, apart := false, narrowed := true }
def KinUpsUptoSaid : Prop := kinUpsUptoRow.holds Try.pinned (OpenSpec.upto kinUpsSpec)

/-- 'maquettelaw20.KinDrops', WHERE WHAT IT READS IS OF BULK AT MOST 1048576: true; the input reads as it did. -/
def kinDropsUptoRow : OpenClaim := { program := "ytmleimalginhhaa", sum := "15e5315e7037feb67f8d7f9877d0a4c07c0b5e83adee8e5dbab55f75d2fd3346", func := "maquette/maquettelaw20.KinDrops", spec := "kinDrops", inPlace := ["slices.overlaps[maquette/api.Thing]"], unfollowed := true, recurses := true, apart := false, narrowed := true }
def KinDropsUptoSaid : Prop := kinDropsUptoRow.holds Try.pinned (OpenSpec.upto kinDropsSpec)

/-- 'maquettelaw20.KinRight', WHERE WHAT IT READS IS OF BULK AT MOST 1048576: true; the input reads as it did. -/
def kinRightUptoRow : OpenClaim := { program := "ytmleimalginhhaa", sum := "15e5315e7037feb67f8d7f9877d0a4c07c0b5e83adee8e5dbab55f75d2fd3346", func := "maquette/maquettelaw20.KinRight", spec := "kinRight", inPlace := ["slices.overlaps[maquette/api.Thing]"], unfollowed := true, recurses := true, apart := false, narrowed := true }
def KinRightUptoSaid : Prop := kinRightUptoRow.holds Try.pinned (OpenSpec.upto kinRightSpec)

/-- 'maquettelaw20.KinNests', WHERE WHAT IT READS IS OF BULK AT MOST 1048576: true; the input reads as it did. -/
def kinNestsUptoRow : OpenClaim := { program := "ytmleimalginhhaa", sum := "15e5315e7037feb67f8d7f9877d0a4c07c0b5e83adee8e5dbab55f75d2fd3346", func := "maquette/maquettelaw20.KinNests", spec := "kinNests", inPlace := ["slices.overlaps[maquette/api.Thing]"], unfollowed := true, recurses := true, apart := false, narrowed := true }
def KinNestsUptoSaid : Prop := kinNestsUptoRow.holds Try.pinned (OpenSpec.upto kinNestsSpec)

/-- 'maquettelaw20.KinCopies', WHERE WHAT IT READS IS OF BULK AT MOST 1048576: true; the input reads as it did. -/
def kinCopiesUptoRow : OpenClaim := { program := "ytmleimalginhhaa", sum := "15e5315e7037feb67f8d7f9877d0a4c07c0b5e83adee8e5dbab55f75d2fd3346", func := "maquette/maquettelaw20.KinCopies", spec := "kinCopies", inPlace := ["slices.overlaps[maquette/api.Thing]"], unfollowed := true, recurses := true, apart := false, narrowed := true }
def KinCopiesUptoSaid : Prop := kinCopiesUptoRow.holds Try.pinned (OpenSpec.upto kinCopiesSpec)

end Rows
end Go.Proofs.Ytmleimalginhhaa
