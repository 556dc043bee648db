import Derived.Test.YtehnecfmjfpclaaGreatKa
import Derived.Laws.IdiomCopy
import Derived.Laws.Externs
import Derived.Lib.Overlaps
import Derived.Lib.AppendZeros
import Derived.Lib.JoinLaws
import Derived.Shelf.Spec.SlicesInsert
import Derived.Lib.AppendZerosOnto
import Derived.Laws.NewBlocks
import Derived.Test.YtehnecfmjfpclaaGreatDie
/- slices.Insert at things; scene.With. No conditions. -/
set_option linter.unusedVariables false
set_option linter.unusedSimpArgs false
set_option maxRecDepth 100000
namespace Go.DI.S
open Go.Proofs Go.Shelf Go.RowKit Go.Lib
end Go.DI.S
set_option linter.unusedVariables false
set_option linter.unusedSimpArgs false
set_option maxRecDepth 100000
namespace Go.DI.S
open Go.Proofs
theorem brep_row {w : World} {R : Nat → Prop} {ρ ρ' : Nm} {b : Nat} {N : BN} {bt : TypeId} {t : Ty} {l : List t.El} (h : BRep w R ρ b N (.row bt t l)) : BRep w R ρ' b N (.row bt t l) := by
  obtain ⟨h1, h2⟩ := h
  refine ⟨h1, fun hg => ?_⟩
  obtain ⟨arr, k1, k2, k3, k4⟩ := h2 hg
  refine ⟨arr, k1, k2, k3, fun j o c hj hc => ?_⟩
  obtain ⟨u, m1, m2⟩ := k4 j o c hj hc
  exact ⟨u, m1, t.namelessC _ c (List.mem_of_getElem? hc) _ _ _ _ _ m2⟩
def nm0 (b : Nat) (N : BN) : Nm := fun i => if i = 0 then some (b, N) else none
theorem nm0_0 (b : Nat) (N : BN) : nm0 b N 0 = some (b, N) := rfl
theorem rel_nm0 {w : World} {R : Nat → Prop} {b : Nat} {N : BN} {bt : TypeId} {t : Ty} {l : List t.El} (h : BRep w R (nm0 b N) b N (.row bt t l)) (hre : Real R b N (.row bt t l)) (hro : ∀ c, R c → c < w.heap.size) :
    Rel R (nm0 b N) [some (.row bt t l)] w := by
  have one : ∀ (k : Nat) (bk : ABlk), ([some (ABlk.row bt t l)] : AH)[k]? = some (some bk) → k = 0 ∧ bk = .row bt t l := by
    intro k bk hk
    cases k with
    | zero => simp at hk; exact ⟨rfl, hk.symm⟩
    | succ k => simp at hk
  refine ⟨fun k blk hk => ?_, fun k k' bk bk' c Nk Nk' hk hk' _ _ _ _ => ?_, fun k hk => ?_, hro⟩
  · obtain ⟨rfl, rfl⟩ := one k blk hk
    exact ⟨b, N, rfl, h, hre⟩
  · rw [(one k _ hk).1, (one k' _ hk').1]
  · have : k ≠ 0 := by rintro rfl; simp at hk
    exact if_neg this
theorem lv_nm0 {b : Nat} {N : BN} {bt : TypeId} {t : Ty} {l : List t.El} {c : Nat} (h : Lv (nm0 b N) [some (.row bt t l)] c) : c = b ∧ N.gh = false := by
  obtain ⟨k, blk, M, hk, hn, hg⟩ := h
  cases k with
  | zero =>
    rw [nm0_0] at hn
    simp only [Option.some.injEq, Prod.mk.injEq] at hn
    obtain ⟨rfl, rfl⟩ := hn
    exact ⟨rfl, hg⟩
  | succ k => simp at hk
theorem row_back {R : Nat → Prop} {ρ : Nm} {w w' : World} {l v l2 : List Thing} {nb cap : Nat} {N : BN} {h0 : AH} (hr : Rel R ρ h0 w)
    (h1 : w'.os = w.os) (h2 : w'.tape = w.tape) (h3 : w'.output = w.output) (h4 : w.heap.size ≤ w'.heap.size) (hdr : w.drawn ≤ w'.drawn) (hkeep : ∀ k, k < w.heap.size → k ≠ nb → w'.heap[k]? = w.heap[k]?)
    (hnb : (Lv ρ h0 nb ∧ ∃ a1 t1, w.heap[nb]? = some (.cells a1 t1 (0, 0))) ∨ w.heap.size ≤ nb) {arr2 : Array Value} (hb2 : w'.heap[nb]? = some (.cells arr2 52 (0, 0))) (hl2 : l2.length * 14 ≤ arr2.size) (hcells : VReps w R ρ (tThing.flat l2) (arr2.toList.take (l2.length * 14))) (hlc : l2.length ≤ cap) (hcap : cap * 14 ≤ arr2.size) :
    ∃ R' ρ', VRep w' R' ρ' (.orow tThing 0) (.slice (some ⟨nb, 0, none⟩) l2.length cap) ∧ Rel R' ρ' [some (.row 52 tThing l2)] w' ∧ FrmW 0 R ρ h0 w R' ρ' [some (.row 52 tThing l2)] w' := by
  have hnR : ¬ R nb := by
    intro hR
    rcases hnb with ⟨⟨i, blk, M, hi, hn, hg⟩, _⟩ | h
    · exact hr.notLive hR ⟨i, blk, M, hi, hn, hg⟩
    · have := hr.ro nb hR; omega
  have hB : BRep w' R ρ nb ⟨arr2.size, l2.length, false⟩ (.row 52 tThing l2) := cells_row ⟨arr2, hb2, rfl, by rw [tThing.flat_len]; exact hl2, by
    rw [tThing.flat_len]
    exact hcells.mono (fun k hk => hkeep k (hr.ro k hk) (fun e => hnR (e ▸ hk))) (fun _ h => h) (Nm.le_refl _)⟩ rfl
  refine ⟨R, nm0 nb ⟨arr2.size, l2.length, false⟩, .orow (N := ⟨arr2.size, l2.length, false⟩) rfl rfl hlc hcap, rel_nm0 (brep_row hB) (.inl ⟨rfl, hnR⟩) (fun c hc => Nat.lt_of_lt_of_le (hr.ro c hc) h4),
    ⟨h1, h2, h3, h4, fun _ h => h, fun c hc hnl => hkeep c hc (fun e => ?_), fun c hl => ?_, fun _ h => .inl h, hdr, fun i bn hi => absurd hi (Nat.not_lt_zero _)⟩⟩
  · subst e
    rcases hnb with ⟨h, _⟩ | h
    · exact hnl h
    · omega
  · rw [(lv_nm0 hl).1]
    rcases hnb with ⟨h, _⟩ | h
    · exact .inl h
    · exact .inr h
end Go.DI.S
set_option linter.unusedVariables false
set_option maxRecDepth 100000
set_option maxHeartbeats 0
namespace Go.DI.S
open Go.Proofs
end Go.DI.S
