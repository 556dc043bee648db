import Derived.Test.YtmleimalginhhaaSb
import Derived.WalkKit
import Derived.Shelf.RegionOpenPlain
import Derived.Deep.LoopGhost
import Derived.Deep.RegionLaw
import Derived.Lib.Walk
import Derived.Lib.SliceRun
/- slices.Delete at things. No conditions. -/
/-! slices.Delete at things: what is behind the gap comes up to it, in place. -/
set_option linter.unusedVariables false
set_option linter.unusedSimpArgs false
set_option maxRecDepth 100000
namespace Go.DI.S
open Go.Proofs Go.Shelf Go.RowKit Go.Lib

/-- clear at a row's part, at elements of any size. -/
theorem clear_cells (w : World) {P : Program} (t e : TypeId) (z : Value) (ht : P.underlying t = some (.slice e)) (hv : ∀ w, (zeroValue e).run P w = .ok z w) (b o n c : Nat) (hn : 0 < n) (hz : ∀ v ∈ z.cells.toList, v.oneCell' = true) (hz0 : 0 < z.cells.size)
    (hc : ∀ j, j < n * z.cells.size → (w.cell? ⟨b, o + j, none⟩).isSome = true) (hf : ∀ j, j < n * z.cells.size → w.frozen? ⟨b, o + j, none⟩ = false) :
    ∃ zs : List Value, zs.length = n * z.cells.size ∧ ∀ ty, (Builtin.clear_ #[t] ty #[.slice (some ⟨b, o, none⟩) n c]).run P w = .ok (.tuple #[]) (w.setCells b o zs) := by
  have hlen : (Builtin.zeroCells z.cells n).toList.length = n * z.cells.size := by simp [Builtin.zeroCells]
  have hone : ∀ v ∈ (Builtin.zeroCells z.cells n).toList, v.oneCell' = true := by
    intro v hv'
    simp only [Builtin.zeroCells, Array.toList_map, List.mem_map] at hv'
    obtain ⟨i, _, rfl⟩ := hv'
    have hlt : i % z.cells.size < z.cells.size := Nat.mod_lt _ hz0
    rw [getElem!_pos z.cells _ hlt]
    exact hz _ (by simp)
  have hst := run_storeCells_cells (P := P) b o (Builtin.zeroCells z.cells n).toList 0 w (by rw [hlen]; simpa using hc) (by rw [hlen]; simpa using hf) hone
  simp only [Nat.add_zero] at hst
  obtain ⟨m, rfl⟩ : ∃ m, n = m + 1 := ⟨n - 1, by omega⟩
  exact ⟨_, hlen, fun ty => by simp [Builtin.clear_, run_underlying ht, hv, hst]⟩

/-- slices.Delete at things: the cells. -/
theorem delete_cells (w : World) (b i j n cap : Nat) (arr : Array Value) (hb : w.heap[b]? = some (.cells arr 32 (0, 0))) (h1 : ∀ t, t < n * 14 → ∃ u, arr[t]? = some u ∧ u.oneCell' = true)
    (hn : n ≤ cap) (hcap : cap * 14 ≤ arr.size) (hij : i ≤ j) (hj : j ≤ n) :
    Calls Try.prog 58 #[.slice (some ⟨b, 0, none⟩) n cap, .int .i64 i, .int .i64 j] w fun e w' => e = .returned (.slice (some ⟨b, 0, none⟩) (n - (j - i)) cap) ∧
      ∃ news zs : List Value, news.length = (n - j) * 14 ∧ (∀ t, t < (n - j) * 14 → news[t]? = arr[j * 14 + t]?) ∧ zs.length = (j - i) * 14 ∧
        w' = if i = j then w else (w.drew.setCells b (i * 14) news).setCells b ((i + (n - j)) * 14) zs := by
  have mixed : Try.prog.follows .mixedOrders := by kernel_rfl
  have hcell' : ∀ (arr : Array Value) (W : World) (t : Nat), W.heap[b]? = some (.cells arr 32 (0, 0)) → W.cell? ⟨b, t, none⟩ = arr[t]? := fun arr W t h => by simp [World.cell?, h]
  have hfroz' : ∀ (arr : Array Value) (W : World) (t : Nat), W.heap[b]? = some (.cells arr 32 (0, 0)) → W.frozen? ⟨b, t, none⟩ = false := fun arr W t h => by simp [World.frozen?, h]
  have hcell : ∀ (W : World) (t : Nat), W.heap[b]? = some (.cells arr 32 (0, 0)) → W.cell? ⟨b, t, none⟩ = arr[t]? := fun W t h => by simp [World.cell?, h]
  have hfroz : ∀ (W : World) (t : Nat), W.heap[b]? = some (.cells arr 32 (0, 0)) → W.frozen? ⟨b, t, none⟩ = false := fun W t h => by simp [World.frozen?, h]
  by_cases heq : i = j
  · subst heq
    have h0 : Calls Try.prog 58 #[.slice (some ⟨b, 0, none⟩) n cap, .int .i64 i, .int .i64 i] w fun e w' => e = .returned (.slice (some ⟨b, 0, none⟩) n cap) ∧ w' = w := by
      clear hb h1 hcell hfroz
      go_enter Try.func58, Try.ntmps58
      go_wp2
      all_goals (go_ret; exact ⟨rfl, rfl⟩)
    refine h0.mono ?_
    rintro e w' ⟨rfl, rfl⟩
    refine ⟨by rw [Nat.sub_self, Nat.sub_zero], (arr.toList.drop (i * 14)).take ((n - i) * 14), [], by simp; omega, fun t ht => by rw [List.getElem?_take_of_lt ht, List.getElem?_drop, Array.getElem?_toList], by simp, by simp⟩
  · have hlt : i < j := by omega
    obtain ⟨i0, hi0, hz1⟩ : ∃ i0, Try.prog.info? 32 = some i0 ∧ i0.size = 14 := Option.map_eq_some_iff.1 (show (Try.prog.info? 32).map (·.size) = some 14 by kernel_rfl)
    -- the cells that are moved to the left
    obtain ⟨news, hnews⟩ : ∃ news, news = (arr.toList.drop (j * 14)).take ((n - j) * 14) := ⟨_, rfl⟩
    have hasz : arr.toList.length = arr.size := by simp
    have hlen : news.length = (n - j) * 14 := by rw [hnews]; simp; omega
    have hget : ∀ t, t < (n - j) * 14 → news[t]? = arr[j * 14 + t]? := by
      intro t ht
      rw [hnews, List.getElem?_take_of_lt ht, List.getElem?_drop, Array.getElem?_toList]
    obtain ⟨A, hA, hsrc⟩ : ∃ A : Addr, (if cap = j then some (⟨b, 0, none⟩ : Addr) else some ⟨b, j * 14, none⟩) = some A ∧ Hid (∀ t u, news[t]? = some u → w.drew.cell? (A.add t) = some u) := by
      by_cases h : cap = j
      · refine ⟨⟨b, 0, none⟩, by simp [h], fun t u hu => ?_⟩
        have h0 : news.length = 0 := by rw [hlen]; omega
        rw [List.length_eq_zero_iff.1 h0] at hu
        simp at hu
      · refine ⟨⟨b, j * 14, none⟩, by simp [h], fun t u hu => ?_⟩
        have ht : t < (n - j) * 14 := by
          have := (List.getElem?_eq_some_iff.1 hu).1
          rwa [hlen] at this
        rw [hget t ht] at hu
        rw [Addr.add_lit, ← hu]
        exact hcell w _ hb
    have s2 : Hid (∀ u ∈ news, u.oneCell' = true) := by
      intro u hu
      obtain ⟨t, ht⟩ := List.mem_iff_getElem?.1 hu
      have ht' : t < (n - j) * 14 := by
        have := (List.getElem?_eq_some_iff.1 ht).1
        rwa [hlen] at this
      rw [hget t ht'] at ht
      obtain ⟨u', hu', h'⟩ := h1 (j * 14 + t) (by omega)
      rw [hu'] at ht
      exact (Option.some.inj ht) ▸ h'
    have s3 : Hid (∀ t, t < news.length → (w.drew.cell? ⟨b, 0 + i * 14 + t, none⟩).isSome = true ∧ w.drew.frozen? ⟨b, 0 + i * 14 + t, none⟩ = false) := by
      intro t ht
      rw [hlen] at ht
      obtain ⟨u', hu', h'⟩ := h1 (i * 14 + t) (by omega)
      rw [Nat.zero_add]
      refine ⟨?_, hfroz w.drew _ hb⟩
      rw [hcell w.drew _ hb, hu']; rfl
    -- the world behind the append, behind a name
    obtain ⟨W1, hW1⟩ : ∃ W1, W1 = w.drew.setCells b (0 + i * 14) news := ⟨_, rfl⟩
    obtain ⟨arr1, hb1, hsz1⟩ : ∃ arr1, W1.heap[b]? = some (.cells arr1 32 (0, 0)) ∧ arr1.size = arr.size := by
      obtain ⟨arr', h5, h6⟩ := heap_setCells (b := b) news (0 + i * 14) w.drew arr hb (by rw [hlen]; omega)
      refine ⟨arr', by rw [hW1]; exact h5, ?_⟩
      have := congrArg List.length h6
      simp at this
      omega
    obtain ⟨zs, hz, hcl⟩ : ∃ zs : List Value, zs.length = (j - i) * 14 ∧ ∀ ty, (Builtin.clear_ #[34] ty #[.slice (some ⟨b, (i + (n - j)) * 14, none⟩) (n - (i + (n - j))) (cap - (i + (n - j)))]).run Try.prog W1 = .ok (.tuple #[]) (W1.setCells b ((i + (n - j)) * 14) zs) := by
      have hlt : ∀ t, t < (n - (i + (n - j))) * 14 → (i + (n - j)) * 14 + t < arr1.size := by intro t ht; omega
      obtain ⟨zs, hz, hr⟩ := clear_cells W1 (P := Try.prog) 34 32 _ Try.underlying34 Try.zeroValue32 b ((i + (n - j)) * 14) (n - (i + (n - j))) (cap - (i + (n - j))) (by omega) (by intro v hv; simp [Value.cells] at hv; rcases hv with rfl | rfl <;> rfl) (by simp [Value.cells])
        (fun t ht => by have ht : t < (n - (i + (n - j))) * 14 := ht; rw [hcell' arr1 W1 _ hb1, Array.getElem?_eq_getElem (hlt t ht)]; rfl) (fun t ht => hfroz' arr1 W1 _ hb1)
      exact ⟨zs, by rw [hz]; show _ * 14 = _; congr 1; omega, hr⟩
    have X : Aside (W1 = w.drew.setCells b (0 + i * 14) news) := hW1
    have hW : Hid (W1 = w.drew.setCells b (0 + i * 14) news) := hW1
    have s1 : Hid (news.length = (n - j) * 14) := hlen
    have s4 : Hid (∀ t, t < (n - j) * 14 → news[t]? = arr[j * 14 + t]?) := hget
    have hic : i ≤ cap := by omega
    have hjc : j ≤ cap := by omega
    have s5 : Hid (zs.length = (j - i) * 14) := hz
    have hne : Hid (¬ i = j) := heq
    clear hW1 hb1 hsz1 hget hnews hlen hcell hfroz hcell' hfroz' h1 hb hasz hz heq hcap
    go_enter Try.func58, Try.ntmps58
    go_wp2_with fail
    go_region_law_o (refine step_append_room rfl (.tmp 22) (.tmp 25) 34 rfl 32 i0 14 Try.underlying34 hi0 hz1 b 0 i cap (by simp [Act.eval, Act.put]) A (n - j) (cap - j) news (by simp [Act.eval, Act.put]) s1.out hsrc.out s2.out (by omega) s3.out ?_; rw [← hW.out])
    go_wp2
    go_ret
    refine ⟨by rw [show n - (j - i) = i + (n - j) by omega]; rfl, news, s1.out, s4.out, zs, s5.out, ?_⟩
    rw [X.out, Nat.zero_add]

/-- A row of the caller's that is handed over, changed in place, and handed back. -/
theorem row_moved {R : Nat → Prop} {ρ : Nm} {w w' : World} {bt : TypeId} {t : Ty} {l l2 : List t.El} {b cap : Nat} {N : BN} (hr : Rel R ρ [some (.row bt t l)] w) (hn : ρ 0 = some (b, N)) (hg : N.gh = false)
    (h1 : w'.os = w.os) (h2 : w'.tape = w.tape) (h3 : w'.output = w.output) (h4 : w'.heap.size = w.heap.size) (hkeep : ∀ k, k ≠ b → w'.heap[k]? = w.heap[k]?) {arr arr2 : Array Value} (hb : w.heap[b]? = some (.cells arr bt (0, 0))) (hb2 : w'.heap[b]? = some (.cells arr2 bt (0, 0)))
    (hsz : arr2.size = N.n) (hl2 : l2.length * t.sz ≤ N.n) (hcells : VReps w R ρ (t.flat l2) (arr2.toList.take (l2.length * t.sz))) (hlc : l2.length ≤ cap) (hcap : cap * t.sz ≤ N.n) :
    ∃ R' ρ', VRep w' R' ρ' (.orow t 1) (.slice (some ⟨b, 0, none⟩) l2.length cap) ∧ Rel R' ρ' [none, some (.row bt t l2)] w' ∧ Frm R ρ [some (.row bt t l)] w R' ρ' [none, some (.row bt t l2)] w' := by
  obtain ⟨b', N', hn', hB, hre⟩ := hr.live 0 _ rfl
  rw [hn] at hn'
  simp only [Option.some.injEq, Prod.mk.injEq] at hn'
  obtain ⟨rfl, rfl⟩ := hn'
  have hnR : ¬ R b := hre.notR hg
  have h01 : ρ 1 = none := hr.dom 1 (Nat.le_refl _)
  have hle : ρ.le (ρ.upd 1 (b, { N with len := l2.length })) := by
    intro k x hk
    by_cases e : k = 1
    · subst e; rw [h01] at hk; cases hk
    · rw [Nm.upd, if_neg e]; exact hk
  have hu1 : (ρ.upd 1 (b, { N with len := l2.length })) 1 = some (b, { N with len := l2.length }) := by rw [Nm.upd, if_pos rfl]
  have hlv : ∀ c, Lv (ρ.upd 1 (b, { N with len := l2.length })) [none, some (.row bt t l2)] c → c = b := by
    rintro c ⟨k, blk, M, hk, hn', hg'⟩
    cases k with
    | zero => simp at hk
    | succ k => cases k with
      | zero => rw [hu1] at hn'; simp only [Option.some.injEq, Prod.mk.injEq] at hn'; exact hn'.1.symm
      | succ k => simp at hk
  refine ⟨R, ρ.upd 1 (b, { N with len := l2.length }), .orow (N := { N with len := l2.length }) hu1 hg hlc hcap, ⟨fun k blk hk => ?_, fun k k' bk bk' c Nk Nk' hk hk' _ _ _ _ => ?_, fun k hk => ?_, fun c hc => by rw [h4]; exact hr.ro c hc⟩,
    ⟨h1, h2, h3, by rw [h4]; exact Nat.le_refl _, hle, fun _ h => h, fun c hc hnl => hkeep c (fun e => hnl (e ▸ ⟨0, _, N, rfl, hn, hg⟩)), fun c hl => .inl (by rw [hlv c hl]; exact ⟨0, _, N, rfl, hn, hg⟩), fun _ h => .inl h, by simp, fun x hx hxn => ?_, fun a ha => ?_⟩⟩
  · cases k with
    | zero => simp at hk
    | succ k => cases k with
      | zero =>
        simp only [Nat.zero_add, List.getElem?_cons_succ, List.getElem?_cons_zero, Option.some.injEq] at hk
        subst hk
        refine ⟨b, { N with len := l2.length }, hu1, cells_row ⟨arr2, hb2, hsz, by rw [t.flat_len]; exact hl2, ?_⟩ rfl, .inl ⟨hg, hnR⟩⟩
        rw [t.flat_len]
        exact hcells.mono (fun k hk => hkeep k (fun e => hnR (e ▸ hk))) (fun _ h => h) hle
      | succ k => simp at hk
  · have one : ∀ (k : Nat) (bk : ABlk), ([none, some (ABlk.row bt t l2)] : AH)[k]? = some (some bk) → k = 1 := by
      intro k bk hk
      cases k with
      | zero => simp at hk
      | succ k => cases k with
        | zero => rfl
        | succ k => simp at hk
    rw [one k _ hk, one k' _ hk']
  · have : k ≠ 1 := by rintro rfl; simp at hk
    rw [Nm.upd, if_neg this]
    exact hr.dom k (by simp at hk ⊢; omega)
  · have : x = 0 := by simpa using hx
    subst this
    rw [hn] at hxn; cases hxn
  · by_cases e : a.block = b
    · simp [World.frozen?, e, hb, hb2]
    · exact frozen_block (hkeep _ e)

theorem cut_list {α : Type} {A A1 A2 news zs : List α} {p o : Nat} (h1 : A1 = A.take p ++ news ++ A.drop (p + news.length)) (h2 : A2 = A1.take o ++ zs ++ A1.drop (o + zs.length)) (h : o = p + news.length) (hp : p ≤ A.length) : A2.take o = A.take p ++ news := by
  have k1 : (A.take p ++ news).length = o := by rw [h]; simp; omega
  have k2 : A1.take o = A.take p ++ news := by rw [h1, List.take_left' k1]
  rw [h2, k2, List.append_assoc, List.take_left' k1]
def F_58 (l : List (Ty.El tThing)) (i j : Int) : Option (List (Ty.El tThing)) := bif decide ((0 : Int) ≤ i) && (decide (i < j) && decide (j ≤ (l.length : Int))) then some (l.take i.toNat ++ l.drop j.toNat) else none
noncomputable def E_58 : Ent := .mov 58 [] ⟨[.ty I, .ty I], 32, tThing, 32, tThing, fun l x => F_58 l (show Int from x.1) (show Int from x.2.1)⟩
theorem e_58 : E_58.Ok CT.P := by
  intro l x y hxy R ρ w vs hr hvs
  obtain ⟨(x1 : Int), (x2 : Int), x3⟩ := x
  cases x3
  have hxy : F_58 l x1 x2 = some y := hxy
  unfold F_58 at hxy
  cases hb : decide (0 ≤ x1) && (decide (x1 < x2) && decide (x2 ≤ l.length)) with
  | false => rw [hb] at hxy; cases hxy
  | true =>
  rw [hb] at hxy
  obtain rfl := Option.some.inj hxy
  simp only [Bool.and_eq_true, decide_eq_true_eq] at hb
  obtain ⟨g1, g2, g3⟩ := hb
  obtain ⟨i, rfl⟩ := Int.eq_ofNat_of_zero_le g1
  obtain ⟨j, rfl⟩ := Int.eq_ofNat_of_zero_le (by omega : 0 ≤ x2)
  have hij : i < j := by omega
  have hj : j ≤ l.length := by omega
  have hr : Rel R ρ [some (.row 32 tThing l)] w := hr
  have hvs : VReps w R ρ [.orow tThing 0, .int .i64 i, .int .i64 j] vs.toList := hvs
  obtain ⟨u0, us, hu, k1, k2⟩ := hvs.cons_inv
  obtain ⟨u1, us1, rfl, k3, k4⟩ := k2.cons_inv
  obtain ⟨u2, us2, rfl, k5, k6⟩ := k4.cons_inv
  obtain rfl := k6.nil_inv
  have hv : vs = #[u0, u1, u2] := Array.toList_inj.1 (by simpa using hu)
  subst hv
  cases k3
  cases k5
  show Calls Try.prog 58 _ w _
  cases k1 with
  | @orow _ _ b N cap hn hg hlc hc =>
    obtain ⟨b', N', hn', hB, hre⟩ := hr.live 0 _ rfl
    rw [hn] at hn'
    simp only [Option.some.injEq, Prod.mk.injEq] at hn'
    obtain ⟨rfl, rfl⟩ := hn'
    have q1 : N.len = l.length := hB.1
    obtain ⟨arr, q3, q4, q5, q6⟩ := row_cells hB hg
    rw [tThing.flat_len] at q5 q6
    have hs14 : tThing.sz = 14 := rfl
    rw [hs14] at q5 q6 hc
    rw [q1] at hlc ⊢
    have hone : ∀ t, t < l.length * 14 → ∃ u, arr[t]? = some u ∧ u.oneCell' = true := by
      intro t ht
      have hta : t < arr.size := by rw [q4]; omega
      refine ⟨arr[t], Array.getElem?_eq_getElem hta, ?_⟩
      have hf : t < (tThing.flat l).length := by rw [tThing.flat_len]; exact ht
      exact (q6.2 t _ _ (List.getElem?_eq_getElem hf) (by rw [List.getElem?_take_of_lt ht, Array.getElem?_toList, Array.getElem?_eq_getElem hta])).notAgg (List.all_eq_true.1 (tThing.flat_one l) _ (List.getElem_mem hf))
    refine (delete_cells w b i j l.length cap arr q3 hone hlc (by rw [q4]; exact hc) (Nat.le_of_lt hij) hj).mono ?_
    rintro e w' ⟨rfl, news, zs, n1, n2, n3, rfl⟩
    rw [if_neg (by omega)]
    have ha : arr.toList.length = N.n := by simpa using q4
    obtain ⟨a1, b1, b2⟩ := heap_setCells (b := b) news (i * 14) w.drew arr q3 (by rw [n1, q4]; omega)
    have hl1 : a1.size = N.n := by have := congrArg List.length b2; simp [n1] at this; omega
    obtain ⟨a2, c1, c2⟩ := heap_setCells (b := b) zs ((i + (l.length - j)) * 14) _ a1 b1 (by rw [n3, hl1]; omega)
    have hl2 : a2.size = N.n := by have := congrArg List.length c2; simp [n3] at this; omega
    obtain ⟨d1, d2, d3, d4⟩ := setCells_size (b := b) zs ((i + (l.length - j)) * 14) (w.drew.setCells b (i * 14) news)
    obtain ⟨e1, e2, e3, e4⟩ := setCells_size (b := b) news (i * 14) w.drew
    have hlen : (l.take i ++ l.drop j).length = l.length - (j - i) := by simp; omega
    have hcut : a2.toList.take ((l.length - (j - i)) * 14) = (arr.toList.take (l.length * 14)).take (i * 14) ++ (arr.toList.take (l.length * 14)).drop (j * 14) := by
      have hnews : news = (arr.toList.take (l.length * 14)).drop (j * 14) := by
        apply List.ext_getElem?
        intro t
        by_cases ht : t < (l.length - j) * 14
        · rw [n2 t ht, List.getElem?_drop, List.getElem?_take_of_lt (by omega), Array.getElem?_toList]
        · rw [List.getElem?_eq_none (by omega), List.getElem?_eq_none (by simp; omega)]
      have e0 : (l.length - (j - i)) * 14 = (i + (l.length - j)) * 14 := by congr 1; omega
      rw [e0, cut_list b2 c2 (by rw [n1]; omega) (by omega), List.take_take, Nat.min_eq_left (by omega), hnews]
    have hfl : tThing.flat (l.take i ++ l.drop j) = (tThing.flat l).take (i * 14) ++ (tThing.flat l).drop (j * 14) := by
      have k1 : tThing.flat l = tThing.flat (l.take i) ++ tThing.flat (l.drop i) := by rw [← tThing.flat_append, List.take_append_drop]
      have k2 : tThing.flat l = tThing.flat (l.take j) ++ tThing.flat (l.drop j) := by rw [← tThing.flat_append, List.take_append_drop]
      have k3 : (tThing.flat (l.take i)).length = i * 14 := by rw [tThing.flat_len, hs14]; simp; omega
      have k4 : (tThing.flat (l.take j)).length = j * 14 := by rw [tThing.flat_len, hs14]; simp; omega
      rw [tThing.flat_append]
      congr 1
      · rw [k1, List.take_left' k3]
      · rw [k2, List.drop_left' k4]
    obtain ⟨R', ρ', r1, r2, r3⟩ := row_moved (l2 := l.take i ++ l.drop j) (cap := cap) hr hn hg (d2.trans e2) (d3.trans e3) (d4.trans e4) (d1.trans e1) (fun k hk => by rw [setCells_keep _ _ _ k hk, setCells_keep _ _ _ k hk]; rfl) q3 c1 hl2 (by rw [hlen, hs14]; omega) (by
      rw [hlen, hs14, hcut, hfl]
      exact (q6.take _).append (q6.drop _)) (by rw [hlen]; omega) hc
    rw [hlen] at r1
    exact ⟨R', ρ', _, ⟨rfl, r1⟩, r2, r3⟩
  | @onil _ _ b N hn hg =>
    obtain ⟨b', N', hn', hB, hre⟩ := hr.live 0 _ rfl
    rw [hn] at hn'
    simp only [Option.some.injEq, Prod.mk.injEq] at hn'
    obtain ⟨rfl, rfl⟩ := hn'
    have hl0 : l = [] := by
      rcases hre with ⟨h5, _⟩ | ⟨_, t, ty, h5⟩
      · rw [hg] at h5; cases h5
      · injection h5 with _ h6 h7
        subst h6
        exact eq_of_heq h7
    subst hl0
    simp at hj
    omega
end Go.DI.S

