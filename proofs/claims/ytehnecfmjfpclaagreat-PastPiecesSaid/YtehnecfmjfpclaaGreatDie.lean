import Derived.Test.YtehnecfmjfpclaaGreatDid
import Derived.ChangeStays
import Derived.IntWalk
import Derived.RowKit3
/- A reading of programs by functions on data, and that it is right. No conditions. -/
set_option linter.unusedVariables false
set_option linter.unusedSimpArgs false
namespace Go.DI
def Ty.wf : (t : Ty) → t.El → Prop
  | .unit, _ => True
  | .int k, n => (Lit.int k n).wf = true
  | .bool, _ => True
  | .str, s => s.length ≤ maxLen
  | .flt k, b => (Lit.float k b).wf = true
  | .list t, l => l.length ≤ maxLen ∧ ∀ x ∈ l, t.wf x
  | .wrap a, x => a.wf x
  | .pair a b, x => a.wf x.1 ∧ b.wf x.2
def RdF (P : Program) (rd : Ty → TypeId → Prop) : Ty → Nat → List Field → Prop
  | τ, off, [f] => f.offset = off ∧ P.cellsOf f.type = τ.sz ∧ rd τ f.type
  | .pair a b, off, f :: g :: r => f.offset = off ∧ P.cellsOf f.type = a.sz ∧ rd a f.type ∧ RdF P rd b (off + a.sz) (g :: r)
  | _, _, _ => False
def Rd (P : Program) : Nat → Ty → TypeId → Prop
  | 0, _, _ => False
  | n + 1, τ, t => match τ with
    | .int k => P.underlying t = some (.int k)
    | .bool => P.underlying t = some .bool
    | .str => P.underlying t = some .string
    | .flt k => P.underlying t = some (.float k)
    | .list τ' => ∃ e, P.underlying t = some (.slice e) ∧ Rd P n τ' e ∧ P.cellsOf e = τ'.sz ∧ 0 < τ'.sz
    | .pair a b => ∃ fs, P.underlying t = some (.struct fs) ∧ P.cellsOf t = (Ty.pair a b).sz ∧ RdF P (Rd P n) (.pair a b) 0 fs.toList
    | _ => False
theorem trod_float {H : Type} {enc : TypeId × Value → H} {P : Program} {w : World} {base : Nat} {spare : Nat → Bool} {held : Bool} {fuel : Nat} {t : TypeId} {cs : List Value} {x : DataW H × List MemPlace} {k : FloatKind} (ht : P.underlying t = some (.float k)) (h : DataW.trod enc P w base spare held fuel t cs = some x) : ∃ b, cs = [.float k b] ∧ (Lit.float k b).wf = true := by
  cases fuel with
  | zero => simp [DataW.trod] at h
  | succ n =>
    unfold DataW.trod at h
    rw [ht] at h
    split at h <;> simp_all
section
variable {H : Type} {enc : TypeId × Value → H} {P : Program} {W : World} {held : Bool} {ρ : Nm}
theorem rdF_ok {n : Nat} (ih : ∀ (τ : Ty) (t : TypeId), Rd P n τ t → ∀ (fuel : Nat) (cs : List Value) (y : DataW H × List MemPlace), DataW.trod enc P W 0 (fun _ => true) held fuel t cs = some y → ∃ x : τ.El, τ.wf x ∧ VReps W (fun b => b < W.heap.size) ρ (τ.enc x).cells cs) :
    ∀ (fs : List Field) (τ : Ty) (off : Nat), RdF P (Rd P n) τ off fs → ∀ (m : Nat) (cs : List Value),
      (∀ (i : Nat) (f : Field), fs[i]? = some f → ∃ y, DataW.trod enc P W 0 (fun _ => true) held m f.type ((cs.drop f.offset).take (P.cellsOf f.type)) = some y) →
      ∃ x : τ.El, τ.wf x ∧ VReps W (fun b => b < W.heap.size) ρ (τ.enc x).cells ((cs.drop off).take τ.sz)
  | [], τ, off, h, m, cs, hf => by cases τ <;> simp [RdF] at h
  | [f], τ, off, h, m, cs, hf => by
    have h : f.offset = off ∧ P.cellsOf f.type = τ.sz ∧ Rd P n τ f.type := by cases τ <;> exact h
    obtain ⟨ho, hc, hr⟩ := h
    obtain ⟨y, hy⟩ := hf 0 f rfl
    rw [ho, hc] at hy
    exact ih τ f.type hr m _ y hy
  | f :: g :: r, τ, off, h, m, cs, hf => by
    cases τ with
    | pair a b =>
      obtain ⟨ho, hc, hr, hrest⟩ := h
      obtain ⟨y, hy⟩ := hf 0 f rfl
      rw [ho, hc] at hy
      obtain ⟨x1, w1, v1⟩ := ih a f.type hr m _ y hy
      obtain ⟨x2, w2, v2⟩ := rdF_ok ih (g :: r) b (off + a.sz) hrest m cs (fun i f hi => hf (i + 1) f hi)
      refine ⟨(x1, x2), ⟨w1, w2⟩, ?_⟩
      have : (cs.drop off).take (Ty.pair a b).sz = (cs.drop off).take a.sz ++ (cs.drop (off + a.sz)).take b.sz := by
        show (cs.drop off).take (a.sz + b.sz) = _
        rw [List.take_add, List.drop_drop]
      rw [this]
      exact v1.append v2
    | _ => simp [RdF] at h
theorem rd_ok : ∀ (n : Nat) (τ : Ty) (t : TypeId), Rd P n τ t → ∀ (fuel : Nat) (cs : List Value) (y : DataW H × List MemPlace), DataW.trod enc P W 0 (fun _ => true) held fuel t cs = some y → ∃ x : τ.El, τ.wf x ∧ VReps W (fun b => b < W.heap.size) ρ (τ.enc x).cells cs
  | 0, τ, t, h, _, _, _, _ => by simp [Rd] at h
  | n + 1, τ, t, h, fuel, cs, y, hy => by
    cases τ with
    | int k =>
      obtain ⟨m, rfl, rfl, hw⟩ := DataW.trod_int h hy
      exact ⟨m, hw, .cons (.int _ _) .nil⟩
    | bool =>
      obtain ⟨b, rfl, rfl⟩ := DataW.trod_bool h hy
      exact ⟨b, trivial, .cons (.bool _) .nil⟩
    | str =>
      obtain ⟨s, rfl, rfl, hs⟩ := DataW.trod_string h hy
      exact ⟨s.data.toList, by show s.data.toList.length ≤ maxLen; simpa using hs, .cons (.str _) .nil⟩
    | flt k =>
      obtain ⟨b, rfl, hw⟩ := trod_float h hy
      exact ⟨b, hw, .cons (.flt _ _) .nil⟩
    | unit => simp [Rd] at h
    | wrap a => simp [Rd] at h
    | list τ' =>
      obtain ⟨e, ht, he, hc, hp⟩ := h
      rcases DataW.trod_slice ht hy with ⟨rfl, rfl⟩ | ⟨a, len, cap, elems, rest, m, rfl, rfl, rfl, hb, hl, hm, hlen, hel, _, _⟩
      · exact ⟨[], ⟨Nat.zero_le _, fun x hx => by simp at hx⟩, .cons (.lst (.ronil _ _ _ _)) .nil⟩
      · have each : ∀ i, ∃ (x : τ'.El) (cs' : List Value), i < len → τ'.wf x ∧ W.cells? 0 (a.add (i * τ'.sz)) τ'.sz = some cs' ∧ VReps W (fun b => b < W.heap.size) ρ (τ'.enc x).cells cs' := by
          intro i
          by_cases hi : i < len
          · have h1 := hel i hi
            rw [hc] at h1
            rw [List.getElem?_eq_getElem (by omega)] at h1
            obtain ⟨cs', hcs, hy'⟩ := Option.bind_eq_some_iff.1 h1
            obtain ⟨x, hw, hv⟩ := rd_ok n τ' e he m cs' _ hy'
            exact ⟨x, cs', fun _ => ⟨hw, hcs, hv⟩⟩
          · exact ⟨τ'.dflt, [], fun h => absurd h hi⟩
        have hx : ∃ f : Nat → τ'.El, ∃ g : Nat → List Value, ∀ i, i < len → τ'.wf (f i) ∧ W.cells? 0 (a.add (i * τ'.sz)) τ'.sz = some (g i) ∧ VReps W (fun b => b < W.heap.size) ρ (τ'.enc (f i)).cells (g i) :=
          ⟨fun i => Classical.choose (each i), fun i => Classical.choose (Classical.choose_spec (each i)), fun i hi => Classical.choose_spec (Classical.choose_spec (each i)) hi⟩
        obtain ⟨f, g, hfg⟩ := hx
        have hll : ((List.range len).map f).length = len := by simp
        refine ⟨(List.range len).map f, ⟨by rw [hll]; omega, fun x hx => ?_⟩, .cons (.lst ?_) .nil⟩
        · obtain ⟨i, hi, rfl⟩ := List.mem_map.1 hx
          exact (hfg i (List.mem_range.1 hi)).1
        · rw [hll]
          have hat : ∀ j, j < len → τ'.at ((List.range len).map f) j = τ'.enc (f j) := by
            intro j hj
            unfold Ty.at
            congr 1
            rw [List.getD_eq_getElem?_getD, List.getElem?_map, List.getElem?_range hj]; rfl
          by_cases h0 : len = 0
          · subst h0; exact .ronil _ _ _ _
          · have hpos : 0 < len := Nat.pos_of_ne_zero h0
            have h1 := (World.cells?_some (hfg 0 hpos).2.1)
            have h2 := h1.2.2 0 hp
            rw [List.getElem?_eq_getElem (by omega)] at h2
            have hspot : a.spot = none := by
              have := World.cell?_spot h2
              simpa [Addr.add] using this
            obtain ⟨b, off, spot⟩ := a
            simp only at hspot
            subst hspot
            have hbl : b < W.heap.size := by
              rw [Addr.add_mid, Addr.add_mid] at h2
              unfold World.cell? at h2
              split at h2
              · rename_i hh; exact (Array.getElem?_eq_some_iff.1 hh).1
              · cases h2
            refine .ro (fun j o => (g j).getD o undef) hbl hl (fun j _ => τ'.at_len _ j) (fun j o c hj ho => ?_) (fun j o c hj ho => ?_)
            · rw [hat j hj] at ho
              obtain ⟨_, k2, k3⟩ := hfg j hj
              have k4 := World.cells?_some k2
              have hol : o < τ'.sz := by rw [← τ'.enc_len (f j)]; exact (List.getElem?_eq_some_iff.1 ho).1
              have k5 := k4.2.2 o hol
              rw [Addr.add_mid, Addr.add_mid] at k5
              rw [← Nat.add_assoc, k5, List.getElem?_eq_getElem (by omega), List.getD_eq_getElem?_getD, List.getElem?_eq_getElem (by omega)]
              rfl
            · rw [hat j hj] at ho
              obtain ⟨_, k2, k3⟩ := hfg j hj
              obtain ⟨u, hu, hv⟩ := k3.get ho
              rw [List.getD_eq_getElem?_getD, hu]
              exact hv
    | pair a b =>
      obtain ⟨fs, ht, hc, hf⟩ := h
      obtain ⟨xs, m, rfl, rfl, hcl, hxl, hx⟩ := DataW.trod_struct ht hy
      have h1 := rdF_ok (fun τ t hr fuel cs y hy => rd_ok n τ t hr fuel cs y hy) fs.toList (.pair a b) 0 hf m cs (fun i f hi => by
        have hi' : fs[i]? = some f := by simpa using hi
        have := hx i f hi'
        have hlt : i < xs.length := by rw [hxl]; exact (Array.getElem?_eq_some_iff.1 hi').1
        rw [List.getElem?_eq_getElem hlt] at this
        exact ⟨_, this⟩)
      rw [List.drop_zero, List.take_of_length_le (by rw [hcl, hc]; exact Nat.le_refl _)] at h1
      exact h1
end
end Go.DI
set_option linter.unusedVariables false
set_option linter.unusedSimpArgs false
namespace Go.DI
def offsB (P : Program) : Nat → List Field → Bool
  | _, [] => true
  | off, f :: r => f.offset == off && offsB P (off + P.cellsOf f.type) r
def kidsB (P : Program) (L : List TypeId) : Bool := L.all fun t => match P.underlying t with
  | some (.pointer e) => L.contains e
  | some (.slice e) => L.contains e && Nat.blt 0 (P.cellsOf e)
  | some (.array n e) => L.contains e && P.cellsOf t == n * P.cellsOf e
  | some (.struct fs) => fs.toList.all (fun f => L.contains f.type) && P.cellsOf t == (fs.toList.map fun f => P.cellsOf f.type).sum && offsB P 0 fs.toList
  | some (.map _ e) => L.contains e
  | _ => true
theorem offsB_ok {P : Program} : ∀ {fs : List Field} {off : Nat}, offsB P off fs = true → ∀ (j : Nat) f, fs[j]? = some f → f.offset = off + ((fs.take j).map fun f => P.cellsOf f.type).sum
  | [], off, h, j, f, hf => by simp at hf
  | g :: r, off, h, j, f, hf => by
    simp only [offsB, Bool.and_eq_true, beq_iff_eq] at h
    cases j with
    | zero =>
      simp at hf; subst hf
      simpa using h.1
    | succ j =>
      have := offsB_ok h.2 j f (by simpa using hf)
      rw [this]
      simp [Nat.add_assoc]
theorem kidsB_ok {P : Program} {L : List TypeId} (h : kidsB P L = true) : Kids P (· ∈ L) ∧ ∀ {t e : TypeId}, t ∈ L → P.underlying t = some (.slice e) → 0 < P.cellsOf e := by
  have h1 : ∀ t ∈ L, _ := List.all_eq_true.1 h
  refine ⟨⟨fun {t e} ht hu => ?_, fun {t e} ht hu => ?_, fun {t e n} ht hu => ?_, fun {t fs} ht hu => ?_, fun {t k e} ht hu => ?_⟩, fun {t e} ht hu => ?_⟩
  · have := h1 t ht; rw [hu] at this; simpa using this
  · have := h1 t ht; rw [hu] at this; simp only [Bool.and_eq_true] at this; simpa using this.1
  · have := h1 t ht; rw [hu] at this; simp only [Bool.and_eq_true, beq_iff_eq] at this; exact ⟨by simpa using this.1, this.2⟩
  · have := h1 t ht
    rw [hu] at this
    simp only [Bool.and_eq_true, beq_iff_eq, List.all_eq_true] at this
    refine ⟨fun f hf => by simpa using this.1.1 f hf, this.1.2, fun j f hf => ?_⟩
    have := offsB_ok this.2 j f hf
    rw [this, Nat.zero_add]
  · have := h1 t ht; rw [hu] at this; simpa using this
  · have := h1 t ht; rw [hu] at this; simp only [Bool.and_eq_true] at this; exact Nat.le_of_ble_eq_true this.2
section
variable {H : Type} {enc : TypeId × Value → H} {P : Program} {W W' : World} {ρ : Nm}
theorem same_place (hk : ∀ b, b < W.heap.size → W'.heap[b]? = W.heap[b]?) {p : MemPlace} (hp : p.block < W.heap.size) : W.sameAt W' p := by
  cases p with
  | cell b off => exact World.cell?_of_block (w := W) (hk b hp)
  | map b => exact hk b hp
theorem args_stay {L : List TypeId} (hL : kidsB P L = true) (hk : ∀ b, b < W.heap.size → W'.heap[b]? = W.heap[b]?) {sp : Nat → Bool} : ∀ {ts : List TypeId} {vs : List Value} {ds : List (DataW H)} {p : List MemPlace}, (∀ t ∈ ts, t ∈ L) →
    DataW.TrodAll enc P W 0 (fun _ => true) true ts vs ds p → (∀ q ∈ p, sp q.block = true) → DataW.TrodAll enc P W' 0 sp true ts vs ds p
  | [], [], [], p, _, h, _ => h
  | t :: ts, v :: vs, d :: ds, p, ht, h, hs => by
    have hlt := DataW.TrodAll.lt h
    obtain ⟨p1, p2, ⟨fuel, h1⟩, h2, rfl⟩ := h
    obtain ⟨K, hsz⟩ := kidsB_ok hL
    exact ⟨p1, p2, ⟨fuel, DataW.trod_stays K hsz (fun h => by cases h) (ht t List.mem_cons_self) h1 (fun q hq => same_place hk (hlt q (List.mem_append_left _ hq))) (fun q hq => hs q (List.mem_append_left _ hq))⟩,
      args_stay hL hk (fun t ht' => ht t (List.mem_cons_of_mem _ ht')) h2 (fun q hq => hs q (List.mem_append_right _ hq)), rfl⟩
  | [], _ :: _, _, _, _, h, _ => h.elim
  | [], [], _ :: _, _, _, h, _ => h.elim
  | _ :: _, [], _, _, _, h, _ => h.elim
  | _ :: _, _ :: _, [], _, _, h, _ => h.elim
theorem arg_open {n : Nat} {τ : Ty} {t : TypeId} (hR : Rd P (n + 1) τ t) {r : Reach} {base : Nat} {v : Value} (hv : Value.okWide P W r base t v) {d : DataW H} {p : List MemPlace} (h : DataW.Trod enc P W 0 (fun _ => true) true t v d p) :
    ∃ x : τ.El, τ.wf x ∧ VRep W (fun b => b < W.heap.size) ρ (τ.enc x) v := by
  obtain ⟨fuel, h⟩ := h
  obtain ⟨x, hw, hx⟩ := rd_ok (ρ := ρ) (n + 1) τ t hR fuel _ _ h
  refine ⟨x, hw, ?_⟩
  have one : ∀ c, (τ.enc x).cells = [c] → τ.enc x = c → (∀ us, v ≠ .agg us) → VRep W (fun b => b < W.heap.size) ρ (τ.enc x) v := by
    intro c hc he hn
    rw [hc] at hx
    have hcv : v.cells.toList = [v] := by
      cases v <;> first | rfl | exact absurd rfl (hn _)
    rw [hcv] at hx
    obtain ⟨u, us, e, h1, _⟩ := hx.cons_inv
    simp only [List.cons.injEq] at e
    rw [e.1, he]; exact h1
  cases τ with
  | int k =>
    have ht : P.underlying t = some (.int k) := hR
    refine one _ rfl rfl fun us e => ?_
    subst e
    simp [Value.okWide, Cell.okWide, Cell.ok, ht] at hv
  | bool =>
    have ht : P.underlying t = some .bool := hR
    refine one _ rfl rfl fun us e => ?_
    subst e
    simp [Value.okWide, Cell.okWide, Cell.ok, ht] at hv
  | str =>
    have ht : P.underlying t = some .string := hR
    refine one _ rfl rfl fun us e => ?_
    subst e
    simp [Value.okWide, Cell.okWide, Cell.ok, ht] at hv
  | flt k =>
    have ht : P.underlying t = some (.float k) := hR
    refine one _ rfl rfl fun us e => ?_
    subst e
    simp [Value.okWide, Cell.okWide, Cell.ok, ht] at hv
  | unit => simp [Rd] at hR
  | wrap a => simp [Rd] at hR
  | list τ' =>
    obtain ⟨e, ht, _⟩ := hR
    refine one _ rfl rfl fun us e => ?_
    subst e
    simp [Value.okWide, Cell.okWide, Cell.ok, ht] at hv
  | pair a b =>
    obtain ⟨fs, ht, _⟩ := hR
    simp only [Value.okWide, ht] at hv
    obtain ⟨cs, rfl, _⟩ := hv
    exact .agg' hx
end
end Go.DI
set_option linter.unusedVariables false
namespace Go.DI
section
variable {X Y : Type} {G : X → Option (X ⊕ Y)}
theorem rounds_in {x x' : X} (h : G x = some (.inl x')) (m : Nat) : roundsT G (m + 1) x = roundsT G m x' := by
  simp only [roundsT, h, Option.bind_some, Sum.elim_inl]
theorem rounds_out {x : X} {y : Y} (h : G x = some (.inr y)) (m : Nat) : roundsT G (m + 1) x = some y := by
  simp only [roundsT, h, Option.bind_some, Sum.elim_inr]
theorem rounds_to {inv : Nat → X} {n : Nat} {y : Y} (hs : ∀ i, i < n → G (inv i) = some (.inl (inv (i + 1)))) (he : G (inv n) = some (.inr y)) : ∀ (d i m : Nat), i + d = n → d < m → roundsT G m (inv i) = some y
  | 0, i, m, h, hm => by
    obtain ⟨m, rfl⟩ : ∃ k, m = k + 1 := ⟨m - 1, by omega⟩
    have : i = n := by omega
    subst this
    exact rounds_out he m
  | d + 1, i, m, h, hm => by
    obtain ⟨m, rfl⟩ : ∃ k, m = k + 1 := ⟨m - 1, by omega⟩
    rw [rounds_in (hs i (by omega)) m]
    exact rounds_to hs he d (i + 1) m (by omega) (by omega)
end
end Go.DI
set_option linter.unusedVariables false
namespace Go.DI
section
variable {X Y α σ : Type}
def scan (step : σ → α → σ ⊕ Y) (fin : σ → Y) : List α → σ → Y
  | [], s => fin s
  | a :: l, s => match step s a with
    | .inl s' => scan step fin l s'
    | .inr y => y
theorem scan_loop {G : X → Option (X ⊕ Y)} {l : List α} {mk : Nat → σ → X} {step : σ → α → σ ⊕ Y} {fin : σ → Y} (Inv : Nat → σ → Prop)
    (hs : ∀ k a s, Inv k s → l[k]? = some a → G (mk k s) = some (match step s a with | .inl s' => .inl (mk (k + 1) s') | .inr y => .inr y))
    (hI : ∀ k a s s', Inv k s → l[k]? = some a → step s a = .inl s' → Inv (k + 1) s')
    (he : ∀ s, Inv l.length s → G (mk l.length s) = some (.inr (fin s))) : ∀ (d m k : Nat) (s : σ), k + d = l.length → d < m → Inv k s → roundsT G m (mk k s) = some (scan step fin (l.drop k) s)
  | 0, m, k, s, hk, hm, hi => by
    obtain ⟨m, rfl⟩ : ∃ j, m = j + 1 := ⟨m - 1, by omega⟩
    have : k = l.length := by omega
    subst this
    rw [rounds_out (he s hi), List.drop_length]
    rfl
  | d + 1, m, k, s, hk, hm, hi => by
    obtain ⟨m, rfl⟩ : ∃ j, m = j + 1 := ⟨m - 1, by omega⟩
    have hlt : k < l.length := by omega
    have ha : l[k]? = some l[k] := List.getElem?_eq_getElem hlt
    rw [List.drop_eq_getElem_cons hlt]
    have h1 := hs k _ s hi ha
    cases hst : step s l[k] with
    | inl s' =>
      rw [hst] at h1
      rw [rounds_in h1]
      simp only [scan, hst]
      exact scan_loop Inv hs hI he d m (k + 1) s' (by omega) (by omega) (hI k _ s s' hi ha hst)
    | inr y =>
      rw [hst] at h1
      rw [rounds_out h1]
      simp only [scan, hst]
theorem scan_all {G : X → Option (X ⊕ Y)} {l : List α} {mk : Nat → σ → X} {step : σ → α → σ ⊕ Y} {fin : σ → Y} {m : Nat} {s : σ} (hm : l.length < m)
    (hs : ∀ k a s, l[k]? = some a → G (mk k s) = some (match step s a with | .inl s' => .inl (mk (k + 1) s') | .inr y => .inr y))
    (he : ∀ s, G (mk l.length s) = some (.inr (fin s))) : roundsT G m (mk 0 s) = some (scan step fin l s) := by
  have := scan_loop (G := G) (l := l) (mk := mk) (step := step) (fin := fin) (fun _ _ => True) (fun k a s _ h => hs k a s h) (fun _ _ _ _ _ _ _ => trivial) (fun s _ => he s) l.length m 0 s (by omega) hm trivial
  simpa using this
theorem rounds_mu {G : X → Option (X ⊕ Y)} (Inv : X → Prop) (μ : X → Nat) (Q : Y → Prop) (hs : ∀ x, Inv x → (∃ x', G x = some (.inl x') ∧ Inv x' ∧ μ x' < μ x) ∨ ∃ y, G x = some (.inr y) ∧ Q y) : ∀ (m : Nat) (x : X), Inv x → μ x < m → ∃ y, roundsT G m x = some y ∧ Q y
  | 0, x, hi, hm => by omega
  | m + 1, x, hi, hm => by
    rcases hs x hi with ⟨x', h1, h2, h3⟩ | ⟨y, h1, h2⟩
    · rw [rounds_in h1]
      exact rounds_mu Inv μ Q hs m x' h2 (by omega)
    · exact ⟨y, rounds_out h1 m, h2⟩
end
theorem wrap64 {x : Int} (h1 : -9223372036854775808 ≤ x) (h2 : x < 9223372036854775808) : IntKind.i64.wrap x = x := by
  apply IntWalk.i64_in <;> omega
end Go.DI
set_option linter.unusedVariables false
set_option linter.unusedSimpArgs false
namespace Go.DI
def Bl.encS (σ : Nat → Nat) : (b : Bl) → b.El → ABlk
  | .var bt cs, x => .cells bt (encCs σ cs x)
  | .row bt t, l => .row bt t l
  | .tmap kt vt, m => .tmap kt vt m
def encBS (σ : Nat → Nat) : (bs : List Bl) → BlksEl bs → AH
  | [], _ => []
  | b :: r, x => some (b.encS σ x.1) :: encBS σ r x.2
def encRS (σ : Nat → Nat) : (rs : List (Nat × It)) → RegsEl rs → List AV → List AV
  | [], _, l => l
  | p :: r, x, l => encRS σ r x.2 (l.set p.1 (p.2.enc σ x.1))
theorem encBS_len (σ : Nat → Nat) : ∀ (bs : List Bl) (x : BlksEl bs), (encBS σ bs x).length = bs.length
  | [], _ => rfl
  | b :: r, x => by simp [encBS, encBS_len σ r]
theorem encBS_at (σ : Nat → Nat) : ∀ (bs : List Bl) (x : BlksEl bs) (k : Nat) (blk : ABlk), (encBS σ bs x)[k]? = some (some blk) → ∃ (b : Bl) (y : b.El), blk = b.encS σ y ∧ (encB bs x)[k]? = some (some (b.enc y)) ∧ ∀ j ∈ b.names, j ∈ bs.flatMap Bl.names
  | [], x, k, blk, h => by simp [encBS] at h
  | b :: r, x, 0, blk, h => by
    simp only [encBS, List.getElem?_cons_zero, Option.some.injEq] at h
    exact ⟨b, x.1, h.symm, rfl, fun j hj => by simp only [List.flatMap_cons, List.mem_append]; exact .inl hj⟩
  | b :: r, x, k + 1, blk, h => by
    simp only [encBS, List.getElem?_cons_succ] at h
    obtain ⟨b', y, h1, h2, h3⟩ := encBS_at σ r x.2 k blk h
    exact ⟨b', y, h1, h2, fun j hj => by simp only [List.flatMap_cons, List.mem_append]; exact .inr (h3 j hj)⟩
section
variable {w : World} {R : Nat → Prop} {ρ ρ' : Nm} {σ : Nat → Nat}
theorem encCs_rename : ∀ (cs : List It) (x : ItsEl cs) {us : List Value}, (∀ i ∈ namesOf cs, ρ' (σ i) = ρ i) → VReps w R ρ (encCs id cs x) us → VReps w R ρ' (encCs σ cs x) us
  | [], x, us, hn, hv => by
    obtain rfl := hv.nil_inv
    exact .nil
  | it :: r, x, us, hn, hv => by
    have hl : (it.enc σ x.1).cells.length = (it.enc id x.1).cells.length := by
      cases it with
      | comp cs => exact encCos_len (σ := σ) (τ := id) cs x.1
      | _ => rfl
    have h1 := hv.take (it.enc id x.1).cells.length
    have h2 := hv.drop (it.enc id x.1).cells.length
    simp only [encCs, List.take_left', List.drop_left'] at h1 h2
    have k1 := it.renameC (σ := id) (τ := σ) (ρ' := ρ') x.1 (fun i hi => hn i (by simp only [namesOf, List.flatMap_cons, List.mem_append]; exact .inl hi)) h1
    have k2 := encCs_rename r x.2 (fun i hi => hn i (by simp only [namesOf, List.flatMap_cons, List.mem_append]; exact .inr hi)) h2
    have := k1.append k2
    rwa [List.take_append_drop] at this
theorem Bl.encS_ok (b : Bl) (x : b.El) {n : Nat} {N : BN} {R0 : Nat → Prop} (hn : ∀ i ∈ b.names, ρ' (σ i) = ρ i) (hb : BRep w R ρ n N (b.enc x)) (hre : Real R0 n N (b.enc x)) : BRep w R ρ' n N (b.encS σ x) ∧ Real R0 n N (b.encS σ x) := by
  cases b with
  | var bt cs =>
    obtain ⟨arr, h1, h2, h3, h4⟩ := hb
    have h5 := encCs_rename (ρ' := ρ') (σ := σ) cs x hn h4
    have hlen : (encCs σ cs x).length = (encCs id cs x).length := by
      have h6 := h5.1
      have h7 := h4.1
      omega
    exact ⟨⟨arr, h1, h2, by show (encCs σ cs x).length ≤ _; omega, by
      show VReps w R ρ' (encCs σ cs x) (arr.toList.take (encCs σ cs x).length)
      rw [hlen]; exact h5⟩, .inl hre.cells⟩
  | row bt t => exact ⟨row_any hb, hre⟩
  | tmap kt vt => exact (Bl.dec_ok (σ := σ) (Bl.tmap kt vt) (blk := .tmap kt vt x) (x := x) (by simp [Bl.dec]) hre (fun i hi => by simp [Bl.names] at hi) hb)
theorem encRS_rename : ∀ (rs : List (Nat × It)) (x : RegsEl rs) {l l' : List AV} {us : List Value}, (∀ i ∈ rs.flatMap (·.2.names), ρ' (σ i) = ρ i) → l'.length = l.length → (∀ (k : Nat) c' u, l'[k]? = some c' → us[k]? = some u → (∀ c, l[k]? = some c → VRep w R ρ c u) → VRep w R ρ' c' u) →
    VReps w R ρ (encR rs x l) us → VReps w R ρ' (encRS σ rs x l') us
  | [], x, l, l', us, hn, hl, h, hv => ⟨by show us.length = l'.length; rw [hl]; exact hv.1, fun k c' u hc hu => h k c' u hc hu fun c hc => hv.2 k c u hc hu⟩
  | p :: r, x, l, l', us, hn, hl, h, hv => by
    refine encRS_rename r x.2 (l := l.set p.1 (p.2.enc id x.1)) (l' := l'.set p.1 (p.2.enc σ x.1)) (fun i hi => hn i (by simp only [List.flatMap_cons, List.mem_append]; exact .inr hi)) (by simp [hl]) (fun k c' u hc' hu hk => ?_) hv
    rw [List.getElem?_set] at hc'
    split at hc'
    · rename_i hpk
      subst hpk
      split at hc'
      · rename_i hlt
        injection hc' with hc'; subst hc'
        refine p.2.rename (σ := id) (τ := σ) x.1 (fun i hi => hn i (by simp only [List.flatMap_cons, List.mem_append]; exact .inl hi)) (hk _ ?_)
        rw [List.getElem?_set, if_pos rfl, if_pos (by omega)]
      · cases hc'
    · rename_i hpk
      refine h k c' u hc' hu fun c hc => hk c ?_
      rw [List.getElem?_set, if_neg hpk]; exact hc
end
def putS : List Nat → AH → AH → AH
  | [], _, h => h
  | k :: r, [], h => putS r [] (h.set k none)
  | k :: r, b :: n, h => putS r n (h.set k b)
theorem putS_len : ∀ (sl : List Nat) (n h : AH), (putS sl n h).length = h.length
  | [], _, _ => rfl
  | k :: r, [], h => by simp [putS, putS_len r]
  | k :: r, b :: n, h => by simp [putS, putS_len r]
theorem putS_out : ∀ (sl : List Nat) (n h : AH) (i : Nat), i ∉ sl → (putS sl n h)[i]? = h[i]?
  | [], _, _, _, _ => rfl
  | k :: r, [], h, i, hi => by
    simp only [List.mem_cons, not_or] at hi
    simp only [putS]
    rw [putS_out r _ _ i hi.2, List.getElem?_set, if_neg (fun e => hi.1 e.symm)]
  | k :: r, b :: n, h, i, hi => by
    simp only [List.mem_cons, not_or] at hi
    simp only [putS]
    rw [putS_out r _ _ i hi.2, List.getElem?_set, if_neg (fun e => hi.1 e.symm)]
theorem putS_in : ∀ (sl : List Nat) (n h : AH) (k i : Nat), nodupB sl = true → sl[k]? = some i → i < h.length → (putS sl n h)[i]? = some ((n[k]?).join)
  | [], _, _, k, i, _, hk, _ => by simp at hk
  | j :: r, n, h, k, i, hn, hk, hi => by
    simp only [nodupB, Bool.and_eq_true, Bool.not_eq_true'] at hn
    have hj : j ∉ r := by simpa using hn.1
    cases k with
    | zero =>
      simp only [List.getElem?_cons_zero, Option.some.injEq] at hk
      subst hk
      cases n with
      | nil => simp only [putS]; rw [putS_out r _ _ j hj, List.getElem?_set, if_pos rfl, if_pos hi]; rfl
      | cons b n => simp only [putS]; rw [putS_out r _ _ j hj, List.getElem?_set, if_pos rfl, if_pos hi]; rfl
    | succ k =>
      simp only [List.getElem?_cons_succ] at hk
      cases n with
      | nil => simp only [putS]; rw [putS_in r [] _ k i hn.2 hk (by simpa using hi)]; simp
      | cons b n => simp only [putS]; rw [putS_in r n _ k i hn.2 hk (by simpa using hi)]; simp
structure GenE where
  /-- So many of the blocks stay where they are. -/
  pin : Nat
  steps : List Stp
  inp : LayD
  out : LayD
  F : inp.El → Option out.El
def GenE.Ok (P : Program) (g : FuncId) (e : GenE) : Prop := ∀ x y, e.F x = some y →
  ∀ (R : Nat → Prop) (ρ : Nm) (w : World) (vs : Array Value), Rel R ρ (e.inp.enc x).h w → VReps w R ρ (e.inp.enc x).r vs.toList →
    Calls P g vs w fun q w' => ∃ R' ρ' u, q = .returned u ∧ VRep w' R' ρ' (resV (e.out.enc y).r) u ∧ Rel R' ρ' (e.out.enc y).h w' ∧ FrmW e.pin R ρ (e.inp.enc x).h w R' ρ' (e.out.enc y).h w'
def behind (pin : Nat) (sl : List Nat) (H : Nat) (k : Nat) : Nat := if Nat.blt k pin then sl.getD k 0 else H + (k - pin)
def GenE.call (e : GenE) {β : Type} (h : AH) (args : List AV) (K : AV → AH → Option β) : Option β :=
  forceS (runStps e.steps ⟨args, h⟩) fun s =>
  match e.inp.dec 0 s with
  | some x => if Nat.ble e.pin e.inp.blks.length && (Nat.ble e.pin e.out.blks.length && e.out.names.all (fun i => decide (i < e.out.blks.length))) then
      (e.F x).bind fun y => K (resV (encRS (behind e.pin (e.inp.sig s) s.h.length) e.out.regs y.1 (List.replicate e.out.n .any)))
        (putS (e.inp.sig s) ((encBS (behind e.pin (e.inp.sig s) s.h.length) e.out.blks y.2).take e.pin) s.h ++ (encBS (behind e.pin (e.inp.sig s) s.h.length) e.out.blks y.2).drop e.pin)
    else none
  | none => none
theorem resV_rename {w : World} {R : Nat → Prop} {ρ ρ' : Nm} {l l' : List AV} {u : Value} (hl : l'.length = l.length) (h : ∀ us, VReps w R ρ l us → VReps w R ρ' l' us) (hv : VRep w R ρ (resV l) u) : VRep w R ρ' (resV l') u := by
  rcases VReps.resV_inv hv with ⟨c, rfl, h1⟩ | ⟨us, rfl, hus, he, hne⟩
  · obtain ⟨c', rfl⟩ : ∃ c', l' = [c'] := by
      cases l' with
      | nil => simp at hl
      | cons c' r => cases r with
        | nil => exact ⟨c', rfl⟩
        | cons _ _ => simp at hl
    obtain ⟨u', us', he, h3, _⟩ := VReps.cons_inv (h [u] (.cons h1 .nil))
    simp only [List.cons.injEq] at he
    obtain ⟨rfl, rfl⟩ := he
    exact h3
  · have h2 := h _ hus
    have : resV l' = .tup l' := by
      unfold resV
      split
      · rename_i c
        exfalso
        cases l with
        | nil => simp at hl
        | cons d r => cases r with
          | nil => exact hne d rfl
          | cons _ _ => simp at hl
      · rfl
    rw [this]
    exact .tup' h2
theorem encR_len : ∀ (rs : List (Nat × It)) (x : RegsEl rs) (l : List AV), (encR rs x l).length = l.length
  | [], _, _ => rfl
  | p :: r, x, l => by simp [encR, encR_len r]
theorem encRS_len (σ : Nat → Nat) : ∀ (rs : List (Nat × It)) (x : RegsEl rs) (l : List AV), (encRS σ rs x l).length = l.length
  | [], _, _ => rfl
  | p :: r, x, l => by simp [encRS, encRS_len σ r]
theorem gen_call {P : Program} {g : FuncId} {pin : Nat} {steps : List Stp} {inp out : LayD} {End : Ending → Value → Prop} {x : inp.El} {y : out.El}
    (he : ∀ (R : Nat → Prop) (ρ : Nm) (w : World) (vs : Array Value), Rel R ρ (inp.enc x).h w → VReps w R ρ (inp.enc x).r vs.toList →
      Calls P g vs w fun q w' => ∃ R' ρ' u, End q u ∧ VRep w' R' ρ' (resV (out.enc y).r) u ∧ Rel R' ρ' (out.enc y).h w' ∧ FrmW pin R ρ (inp.enc x).h w R' ρ' (out.enc y).h w')
    {h : AH} {args : List AV} {s : AS} (hs : runStps steps ⟨args, h⟩ = s) (hx : inp.dec 0 s = some x) (hp1 : pin ≤ inp.blks.length) (hp2 : pin ≤ out.blks.length) (hnm : out.names.all (fun i => decide (i < out.blks.length)) = true) :
    ∀ (R : Nat → Prop) (ρ : Nm) (w : World) (vs : Array Value), Rel R ρ h w → VReps w R ρ args vs.toList →
      Calls P g vs w fun q w' => ∃ R' ρ' u, End q u ∧ VRep w' R' ρ' (resV (encRS (behind pin (inp.sig s) s.h.length) out.regs y.1 (List.replicate out.n .any))) u ∧
        Rel R' ρ' (putS (inp.sig s) ((encBS (behind pin (inp.sig s) s.h.length) out.blks y.2).take pin) s.h ++ (encBS (behind pin (inp.sig s) s.h.length) out.blks y.2).drop pin) w' ∧
        Frm R ρ h w R' ρ' (putS (inp.sig s) ((encBS (behind pin (inp.sig s) s.h.length) out.blks y.2).take pin) s.h ++ (encBS (behind pin (inp.sig s) s.h.length) out.blks y.2).drop pin) w' := by
      intro R ρ w vs hr hvs
      obtain ⟨R1, ρ1, r1, a1, f1⟩ := runStps_ok steps ⟨args, h⟩ R ρ { tmps := vs, defers := [] } w hr hvs
      rw [hs] at r1 a1 f1
      obtain ⟨c1, c2, _, c4, hX⟩ := inp.okX 0 s x hx
      obtain ⟨ρ2, n2, r2, a2, f2⟩ := hX R1 ρ1 _ w r1 a1
      refine (he R1 ρ2 w vs r2 a2).mono ?_
      rintro q w' ⟨R', ρ', u, hend, hu, r3, f3⟩
      generalize hsl : inp.sig s = sl at *
      generalize hH : s.h.length = H at *
      generalize hh2 : (inp.enc x).h = h2 at *
      have hh3 : (out.enc y).h = encB out.blks y.2 := rfl
      rw [hh3] at r3 f3
      -- a passed block's place
      have hslot : ∀ k, k < sl.length → sl[k]? = some (sl.getD k 0) := fun k hk => by
        rw [List.getD_eq_getElem?_getD, List.getElem?_eq_getElem hk]; rfl
      have hslH : ∀ k, k < sl.length → sl.getD k 0 < H := fun k hk => by
        obtain ⟨blk, hb⟩ := c4 k (by omega)
        rw [← hH]; exact (List.getElem?_eq_some_iff.1 hb).1
      have hmem : ∀ i, i ∈ sl → ∃ k, k < sl.length ∧ sl.getD k 0 = i := fun i hi => by
        obtain ⟨k, hk, rfl⟩ := List.mem_iff_getElem.1 hi
        exact ⟨k, hk, by rw [List.getD_eq_getElem?_getD, List.getElem?_eq_getElem hk]; rfl⟩
      let ρf : Nm := fun i => if i < H then ρ1 i else ρ' (pin + (i - H))
      have hf1 : ∀ i, i < H → ρf i = ρ1 i := fun i hi => if_pos hi
      have hf2 : ∀ i, H ≤ i → ρf i = ρ' (pin + (i - H)) := fun i hi => if_neg (by omega)
      have hb1 : ∀ k, k < pin → behind pin sl H k = sl.getD k 0 := fun k hk => by
        unfold behind; rw [if_pos]; rw [Nat.blt_eq]; exact hk
      have hb2 : ∀ k, pin ≤ k → behind pin sl H k = H + (k - pin) := fun k hk => by
        unfold behind; rw [if_neg]; rw [Nat.blt_eq]; omega
      have hpin : ∀ k, k < pin → ρ1 (sl.getD k 0) = ρ' k := fun k hk => by
        obtain ⟨blk, hb⟩ := c4 k (by omega)
        obtain ⟨b, N, h1, _, _⟩ := r1.live _ _ hb
        have h2 : ρ2 k = some (b, N) := (n2 k (by omega)).trans h1
        rw [h1, f3.pins k _ hk h2]
      have hren : ∀ k, k < out.blks.length → ρf (behind pin sl H k) = ρ' k := fun k hk => by
        by_cases hkp : k < pin
        · rw [hb1 k hkp, hf1 _ (hslH k (by omega)), hpin k hkp]
        · rw [hb2 k (by omega), hf2 _ (by omega)]
          congr 1; omega
      have hnames : ∀ i ∈ out.names, i < out.blks.length := fun i hi => by
        simpa using List.all_eq_true.1 hnm i hi
      -- what is live of what was passed
      have hlv2 : ∀ b, Lv ρ2 h2 b → Lv ρ1 s.h b := by
        rintro b hl
        rcases f2.lives b hl with h | h
        · exact h
        · exfalso
          have := r2.lv_lt hl; omega
      have hlv3 : ∀ b, Lv ρ2 h2 b → ∃ k N, k < sl.length ∧ ρ1 (sl.getD k 0) = some (b, N) ∧ N.gh = false := by
        rintro b ⟨k, blk, N, hk, hn, hg⟩
        have hk2 : k < inp.blks.length := by
          have h4 := (List.getElem?_eq_some_iff.1 hk).1
          rw [← hh2] at h4
          have : (inp.enc x).h = encB inp.blks x.2 := rfl
          rw [this, encB_len] at h4; exact h4
        exact ⟨k, N, by omega, by rw [← n2 k hk2]; exact hn, hg⟩
      have hkeep : ∀ b, b < w.heap.size → ¬ Lv ρ2 h2 b → w'.heap[b]? = w.heap[b]? := f3.keeps
      have hRk : ∀ k, R1 k → w'.heap[k]? = w.heap[k]? := fun k hk => hkeep k (r1.ro k hk) fun hl => r1.notLive hk (hlv2 k hl)
      -- an old block that was not passed
      have hold : ∀ (i : Nat) (blk : ABlk), i ∉ sl → s.h[i]? = some (some blk) → ∀ b N, ρ1 i = some (b, N) → N.gh = false → ¬ Lv ρ2 h2 b := by
        intro i blk hi hb b N hn hg hl
        obtain ⟨k, N', hk, hn', hg'⟩ := hlv3 b hl
        obtain ⟨blk', hb'⟩ := c4 k (by omega)
        have := r1.inj i _ _ _ b N N' hb hb' hn hn' hg hg'
        exact hi (by rw [this]; exact List.mem_of_getElem? (hslot k hk))
      generalize hnew : encBS (behind pin sl H) out.blks y.2 = new
      have hnl : new.length = out.blks.length := by rw [← hnew, encBS_len]
      have hnew_at : ∀ (k : Nat) (blk : ABlk), new[k]? = some (some blk) → ∃ (b : Bl) (y' : b.El), blk = b.encS (behind pin sl H) y' ∧ (encB out.blks y.2)[k]? = some (some (b.enc y')) ∧ ∀ j ∈ b.names, ρf (behind pin sl H j) = ρ' j := by
        intro k blk hk
        rw [← hnew] at hk
        obtain ⟨b, y', h1, h2, h3⟩ := encBS_at _ _ _ _ _ hk
        exact ⟨b, y', h1, h2, fun j hj => hren j (hnames j (by simp only [LayD.names, List.mem_append]; exact .inr (h3 j hj)))⟩
      -- which block stands where
      have hhf : ∀ (i : Nat) (blk : ABlk), (putS sl (new.take pin) s.h ++ new.drop pin)[i]? = some (some blk) → (i ∉ sl ∧ i < H ∧ s.h[i]? = some (some blk)) ∨ ∃ k, k < out.blks.length ∧ i = behind pin sl H k ∧ new[k]? = some (some blk) := by
        intro i blk hi
        by_cases hiH : i < H
        · rw [List.getElem?_append_left (by rw [putS_len, hH]; exact hiH)] at hi
          by_cases him : i ∈ sl
          · obtain ⟨k, hk, hki⟩ := hmem i him
            rw [putS_in sl _ _ k i c2 (by rw [hslot k hk, hki]) (by rw [hH]; exact hiH)] at hi
            simp only [Option.some.injEq] at hi
            have hkp : k < pin := by
              by_cases hkp : k < pin
              · exact hkp
              · rw [List.getElem?_take_eq_none (by omega)] at hi; cases hi
            rw [List.getElem?_take_of_lt hkp] at hi
            refine .inr ⟨k, by omega, by rw [hb1 k hkp, hki], ?_⟩
            cases hn : new[k]? with
            | none => rw [hn] at hi; cases hi
            | some c => rw [hn] at hi; cases c with
              | none => cases hi
              | some c => simp at hi; rw [hi]
          · rw [putS_out sl _ _ i him] at hi
            exact .inl ⟨him, hiH, hi⟩
        · rw [List.getElem?_append_right (by rw [putS_len, hH]; omega), putS_len, hH, List.getElem?_drop] at hi
          have := (List.getElem?_eq_some_iff.1 hi).1
          exact .inr ⟨pin + (i - H), by omega, by rw [hb2 _ (by omega)]; omega, hi⟩
      have hlf : ∀ (i : Nat) (blk : ABlk) (b : Nat) (N : BN), (putS sl (new.take pin) s.h ++ new.drop pin)[i]? = some (some blk) → ρf i = some (b, N) → N.gh = false → Lv ρ1 s.h b ∨ w.heap.size ≤ b := by
        intro i blk b N hi hn hg
        rcases hhf i blk hi with ⟨h1, h2, h3⟩ | ⟨k, h1, rfl, h3⟩
        · rw [hf1 i h2] at hn
          exact .inl ⟨i, blk, N, h3, hn, hg⟩
        · obtain ⟨b', y', _, h5, _⟩ := hnew_at k blk h3
          rw [hren k h1] at hn
          rcases f3.lives b ⟨k, _, N, h5, hn, hg⟩ with h | h
          · exact .inl (hlv2 b h)
          · exact .inr h
      have rf : Rel R' ρf (putS sl (new.take pin) s.h ++ new.drop pin) w' := by
        refine ⟨fun i blk hi => ?_, fun i j bi bj b Ni Nj hi hj hni hnj hgi hgj => ?_, fun i hi => ?_, r3.ro⟩
        · rcases hhf i blk hi with ⟨h1, h2, h3⟩ | ⟨k, h1, rfl, h3⟩
          · obtain ⟨b, N, k1, k2, k3⟩ := r1.live i blk h3
            refine ⟨b, N, by rw [hf1 i h2]; exact k1, k2.mono k3 (fun hg => hkeep b (k2.lt hg) (hold i blk h1 h3 b N k1 hg)) hRk f3.ros (fun j bn hj => ?_), ?_⟩
            · rw [hf1 j]
              · exact hj
              · rcases Nat.lt_or_ge j H with h | h
                · exact h
                · rw [r1.dom j (by omega)] at hj; cases hj
            · rcases k3 with ⟨h4, h5⟩ | h4
              · refine .inl ⟨h4, fun hR => ?_⟩
                rcases f3.rolds b hR with h6 | h6 | h6
                · exact h5 h6
                · exact hold i blk h1 h3 b N k1 h4 h6
                · have := k2.lt h4; omega
              · exact .inr h4
          · obtain ⟨bb, y', rfl, h5, h6⟩ := hnew_at k blk h3
            obtain ⟨b, N, k1, k2, k3⟩ := r3.live k _ h5
            obtain ⟨k4, k5⟩ := bb.encS_ok y' h6 k2 k3
            exact ⟨b, N, by rw [hren k h1]; exact k1, k4, k5⟩
        · rcases hhf i bi hi with ⟨h1, h2, h3⟩ | ⟨k, h1, rfl, h3⟩ <;> rcases hhf j bj hj with ⟨h4, h5, h6⟩ | ⟨m, h4, rfl, h6⟩
          · rw [hf1 i h2] at hni
            rw [hf1 j h5] at hnj
            exact r1.inj i j bi bj b Ni Nj h3 h6 hni hnj hgi hgj
          · exfalso
            rw [hf1 i h2] at hni
            obtain ⟨_, y', _, k5, _⟩ := hnew_at m bj h6
            rw [hren m h4] at hnj
            rcases f3.lives b ⟨m, _, Nj, k5, hnj, hgj⟩ with h | h
            · exact hold i bi h1 h3 b Ni hni hgi h
            · have := r1.lv_lt ⟨i, bi, Ni, h3, hni, hgi⟩; omega
          · exfalso
            rw [hf1 j h5] at hnj
            obtain ⟨_, y', _, k5, _⟩ := hnew_at k bi h3
            rw [hren k h1] at hni
            rcases f3.lives b ⟨k, _, Ni, k5, hni, hgi⟩ with h | h
            · exact hold j bj h4 h6 b Nj hnj hgj h
            · have := r1.lv_lt ⟨j, bj, Nj, h6, hnj, hgj⟩; omega
          · obtain ⟨_, y1, _, k5, _⟩ := hnew_at k bi h3
            obtain ⟨_, y2, _, k6, _⟩ := hnew_at m bj h6
            rw [hren k h1] at hni
            rw [hren m h4] at hnj
            rw [r3.inj k m _ _ b Ni Nj k5 k6 hni hnj hgi hgj]
        · have hi : H + (new.length - pin) ≤ i := by
            simpa [putS_len, hH] using hi
          rw [hf2 i (by omega)]
          exact r3.dom _ (by rw [encB_len]; omega)
      have ff : Frm R1 ρ1 s.h w R' ρf (putS sl (new.take pin) s.h ++ new.drop pin) w' := by
        refine ⟨f3.os, f3.tape, f3.output, f3.size, fun i bn hi => ?_, f3.ros, fun b hb hl => hkeep b hb fun h => hl (hlv2 b h), ?_, fun b hb => ?_, by simp [putS_len], fun i hi hn => ?_, f3.frz⟩
        · rw [hf1 i]
          · exact hi
          · rcases Nat.lt_or_ge i H with h | h
            · exact h
            · rw [r1.dom i (by omega)] at hi; cases hi
        · rintro b ⟨i, blk, N, hi, hn, hg⟩
          exact hlf i blk b N hi hn hg
        · rcases f3.rolds b hb with h | h | h
          · exact .inl h
          · exact .inr (.inl (hlv2 b h))
          · exact .inr (.inr h)
        · rw [hf1 i (by omega)]; exact hn
      refine ⟨R', ρf, u, hend, ?_, rf, f1.trans ff⟩
      refine resV_rename (l := (out.enc y).r) (by rw [encRS_len]; show _ = (encR _ _ _).length; rw [encR_len]) (fun us hus => ?_) hu
      refine encRS_rename (l := List.replicate out.n .any) (l' := List.replicate out.n .any) out.regs y.1 (fun i hi => hren i (hnames i (by simp only [LayD.names, List.mem_append]; exact .inl hi))) rfl (fun k c' u hc' hu _ => ?_) hus
      rw [List.getElem?_replicate] at hc'
      split at hc'
      · injection hc' with hc'; subst hc'; exact .any _
      · cases hc'
theorem GenE.call_ok {P : Program} {g : FuncId} {e : GenE} (he : e.Ok P g) {β : Type} {h : AH} {args : List AV} {K : AV → AH → Option β} {z : β} (hc : e.call h args K = some z) : ∃ v h', K v h' = some z ∧ CallOk P g args h v h' := by
  unfold GenE.call at hc
  rw [forceS_eq] at hc
  split at hc
  · rename_i x hx
    split at hc
    · rename_i hcond
      simp only [Bool.and_eq_true] at hcond
      obtain ⟨hp1, hp2, hnm⟩ := hcond
      have hp1 := Nat.le_of_ble_eq_true hp1
      have hp2 := Nat.le_of_ble_eq_true hp2
      obtain ⟨y, hy, hK⟩ := Option.bind_eq_some_iff.1 hc
      exact ⟨_, _, hK, gen_call (End := fun q u => q = .returned u) (fun R ρ w vs hr hvs => he x y hy R ρ w vs hr hvs) rfl hx hp1 hp2 hnm⟩
    · cases hc
  · cases hc
end Go.DI
set_option linter.unusedVariables false
set_option linter.unusedSimpArgs false
namespace Go.DI
section
variable {C : Cfg} {T : Tb}
def retX (C : Cfg) (out : LayD) (steps : List Stp) (res : List ResultVar) (x : AX) (s : AS) : Option out.El := match x with
  | .ret | .normal => match resA C s res with
    | some l => out.dec C.pin (runStps steps ⟨l, s.h⟩)
    | none => none
  | _ => none
def funcX (C : Cfg) (T : Tb) (inp out : LayD) (steps : List Stp) (dr : DrT out.El) (lp : LpT out.El) (fn : Func) (c : Code) (x : inp.El) : Option out.El :=
  codeT C T dr lp c ⟨(inp.enc x).r ++ List.replicate (fn.ntmps - (inp.enc x).r.length) .undef, (inp.enc x).h⟩ (retX C out steps fn.results.toList)
theorem retX_fin {inp out : LayD} {osteps : List Stp} {f : FuncId} {fn : Func} {c : Code} (hfn : C.P.funcs[f]? = some fn) (hb : fn.body = some c) {x : inp.El} {y : out.El} {ex : AX} {s' : AS} (hK : retX C out osteps fn.results.toList ex s' = some y)
    (hca : CA C c ⟨(inp.enc x).r ++ List.replicate (fn.ntmps - (inp.enc x).r.length) .undef, (inp.enc x).h⟩ ex s') {R : Nat → Prop} {ρ : Nm} {w : World} {vs : Array Value} (hr : Rel R ρ (inp.enc x).h w) (hvs : VReps w R ρ (inp.enc x).r vs.toList) :
    Calls C.P f vs w fun q w' => ∃ R' ρ' u, q = .returned u ∧ VRep w' R' ρ' (resV (out.enc y).r) u ∧ Rel R' ρ' (out.enc y).h w' ∧ FrmW C.pin R ρ (inp.enc x).h w R' ρ' (out.enc y).h w' := by
  have key : (ex = .ret ∨ ex = .normal) ∧ ∃ l, resA C s' fn.results.toList = some l ∧ out.dec C.pin (runStps osteps ⟨l, s'.h⟩) = some y := by
    unfold retX at hK
    split at hK
    · split at hK
      · rename_i l hl; exact ⟨.inl rfl, l, hl, hK⟩
      · cases hK
    · split at hK
      · rename_i l hl; exact ⟨.inr rfl, l, hl, hK⟩
      · cases hK
    · cases hK
  obtain ⟨hx, l, hl, hd⟩ := key
  have hsz : vs.size = (inp.enc x).r.length := by have := hvs.1; simpa using this
  have ha : RegRep w R ρ ((inp.enc x).r ++ List.replicate (fn.ntmps - (inp.enc x).r.length) .undef) { tmps := vs ++ Array.replicate (fn.ntmps - vs.size) undef, defers := [] } := by
    unfold RegRep
    simp only [Array.toList_append, Array.toList_replicate, hsz]
    exact hvs.append (VReps.replicate .undef _)
  refine calls_of_wp hfn hb ?_
  refine wp_mono (hca R ρ _ w hr ha rfl) ?_
  rintro e a' w' ⟨hd', R', ρ', hr', ha', f', hx'⟩
  obtain ⟨us, h1, h2⟩ := resA_ok (C := C) hr' ha' hl
  obtain ⟨R2, ρ2, r2, a2, f2⟩ := ((runStps_ok osteps ⟨l, s'.h⟩).weak.trans (out.ok C.pin _ y hd)) R' ρ' { tmps := us.toArray, defers := [] } w' hr' (by simpa [RegRep] using h2)
  have h3 : VReps w' R2 ρ2 (out.enc y).r us := by simpa [RegRep] using a2
  have hres : ∃ v, (results fn a'.tmps).run C.P w' = .ok v w' ∧ VRep w' R2 ρ2 (resV (out.enc y).r) v := by
    have hm : (fn.results.mapM (resF a'.tmps)).run C.P w' = .ok us.toArray w' := by
      rw [Array.mapM_eq_mapM_toList, Sem.run_map, h1]; rfl
    rw [results_eq, Sem.run_bind]
    refine ⟨if h : us.toArray.size = 1 then us.toArray[0] else .tuple us.toArray, by rw [hm]; rfl, ?_⟩
    generalize (out.enc y).r = l3 at h3
    cases l3 with
    | nil =>
      obtain rfl := h3.nil_inv
      exact .tup' .nil
    | cons c1 l3 =>
      obtain ⟨u1, us', rfl, h4, h5⟩ := h3.cons_inv
      cases l3 with
      | nil =>
        obtain rfl := h5.nil_inv
        simpa [resV] using h4
      | cons c2 l3 =>
        have : ¬ ((u1 :: us').toArray.size = 1) := by
          have := h5.1
          simp at this ⊢
          intro he; rw [he] at this; simp at this
        rw [dif_neg this]
        exact .tup' (.cons h4 h5)
  obtain ⟨u, hv1, hv2⟩ := hres
  have ff := f'.trans f2
  rcases hx with rfl | rfl
  · have he : e = .ret := hx'
    subst he
    exact ⟨hd', u, hv1, R2, ρ2, u, rfl, hv2, r2, ff⟩
  · have he : e = .normal := hx'
    subst he
    exact ⟨hd', u, hv1, R2, ρ2, u, rfl, hv2, r2, ff⟩
theorem funcX_ok (hC : C.Ok) (hT : T.Ok C.P) {inp out : LayD} {steps osteps : List Stp} {F : inp.El → Option out.El} {dr : DrT out.El} {lp : LpT out.El} (hdr : DrTOk C dr) {f : FuncId} {fn : Func} {c : Code} (hfn : C.P.funcs[f]? = some fn) (hb : fn.body = some c) (hlp : LpTOk C lp (loopsOf c))
    (hF : ∀ x, funcX C T inp out osteps dr lp fn c x = F x) : (GenE.mk C.pin steps inp out F).Ok C.P f := by
  intro x y hxy R ρ w vs hr hvs
  obtain ⟨ex, s', hK, hca⟩ := codeT_ok hC hT hdr c hlp _ _ _ ((hF x).trans hxy)
  exact retX_fin hfn hb hK hca hr hvs
def Ent.mkGen (g : FuncId) (ks : List FuncId) (e : GenE) : Ent := .gen g ks ⟨fun h args K => e.call h args K⟩
theorem Ent.mkGen_ok {P : Program} {g : FuncId} {ks : List FuncId} {e : GenE} (he : e.Ok P g) : (Ent.mkGen g ks e).Ok P := fun β h args K z hc => e.call_ok he hc
theorem Ent.ofGen (hC : C.Ok) (hT : T.Ok C.P) {inp out : LayD} {steps osteps : List Stp} {F : inp.El → Option out.El} {g : FuncId} {ks : List FuncId} {lp : LpT out.El} {fn : Func} {c : Code} (hfn : C.P.funcs[g]? = some fn) (hb : fn.body = some c) (hlp : LpTOk C lp (loopsOf c))
    (hF : ∀ x, funcX C T inp out osteps (drT C T) lp fn c x = F x) : (Ent.mkGen g ks ⟨C.pin, steps, inp, out, F⟩).Ok C.P :=
  Ent.mkGen_ok (funcX_ok hC hT (drT_ok hC hT) hfn hb hlp hF)
end
end Go.DI
set_option linter.unusedVariables false
set_option linter.unusedSimpArgs false
namespace Go.DI
def rdFB (P : Program) (rd : Ty → TypeId → Bool) : Ty → Nat → List Field → Bool
  | τ, off, [f] => Nat.beq f.offset off && (Nat.beq (P.cellsOf f.type) τ.sz && rd τ f.type)
  | .pair a b, off, f :: g :: r => Nat.beq f.offset off && (Nat.beq (P.cellsOf f.type) a.sz && (rd a f.type && rdFB P rd b (off + a.sz) (g :: r)))
  | _, _, _ => false
def rdB (P : Program) : Nat → Ty → TypeId → Bool
  | 0, _, _ => false
  | n + 1, τ, t => match τ with
    | .int k => match P.underlying t with
      | some (.int k') => decide (k' = k)
      | _ => false
    | .bool => match P.underlying t with
      | some .bool => true
      | _ => false
    | .str => match P.underlying t with
      | some .string => true
      | _ => false
    | .flt k => match P.underlying t with
      | some (.float k') => decide (k' = k)
      | _ => false
    | .list τ' => match P.underlying t with
      | some (.slice e) => rdB P n τ' e && (Nat.beq (P.cellsOf e) τ'.sz && Nat.blt 0 τ'.sz)
      | _ => false
    | .pair a b => match P.underlying t with
      | some (.struct fs) => Nat.beq (P.cellsOf t) (Ty.pair a b).sz && rdFB P (rdB P n) (.pair a b) 0 fs.toList
      | _ => false
    | _ => false
theorem rdFB_ok {P : Program} {rd : Ty → TypeId → Bool} {rd' : Ty → TypeId → Prop} (h : ∀ τ t, rd τ t = true → rd' τ t) : ∀ (fs : List Field) (τ : Ty) (off : Nat), rdFB P rd τ off fs = true → RdF P rd' τ off fs
  | [], τ, off, hb => by cases τ <;> simp [rdFB] at hb
  | [f], τ, off, hb => by
    have hb : (Nat.beq f.offset off && (Nat.beq (P.cellsOf f.type) τ.sz && rd τ f.type)) = true := by cases τ <;> exact hb
    simp only [Bool.and_eq_true] at hb
    have : f.offset = off ∧ P.cellsOf f.type = τ.sz ∧ rd' τ f.type := ⟨Nat.eq_of_beq_eq_true hb.1, Nat.eq_of_beq_eq_true hb.2.1, h _ _ hb.2.2⟩
    cases τ <;> exact this
  | f :: g :: r, τ, off, hb => by
    cases τ with
    | pair a b =>
      simp only [rdFB, Bool.and_eq_true] at hb
      exact ⟨Nat.eq_of_beq_eq_true hb.1, Nat.eq_of_beq_eq_true hb.2.1, h _ _ hb.2.2.1, rdFB_ok h (g :: r) b _ hb.2.2.2⟩
    | _ => simp [rdFB] at hb
theorem rdB_ok {P : Program} : ∀ (n : Nat) (τ : Ty) (t : TypeId), rdB P n τ t = true → Rd P n τ t
  | 0, τ, t, h => by simp [rdB] at h
  | n + 1, τ, t, h => by
    cases τ with
    | int k =>
      simp only [rdB] at h
      split at h
      · rename_i k' hk
        have : k' = k := by simpa using h
        subst this
        exact hk
      · cases h
    | bool =>
      simp only [rdB] at h
      split at h
      · rename_i hk; exact hk
      · cases h
    | str =>
      simp only [rdB] at h
      split at h
      · rename_i hk; exact hk
      · cases h
    | flt k =>
      simp only [rdB] at h
      split at h
      · rename_i k' hk
        have : k' = k := by simpa using h
        subst this
        exact hk
      · cases h
    | list τ' =>
      simp only [rdB] at h
      split at h
      · rename_i e hk
        simp only [Bool.and_eq_true] at h
        exact ⟨e, hk, rdB_ok n τ' e h.1, Nat.eq_of_beq_eq_true h.2.1, by simpa [Nat.blt_eq] using h.2.2⟩
      · cases h
    | pair a b =>
      simp only [rdB] at h
      split at h
      · rename_i fs hk
        simp only [Bool.and_eq_true] at h
        exact ⟨fs, hk, Nat.eq_of_beq_eq_true h.1, rdFB_ok (fun τ t => rdB_ok n τ t) _ _ _ h.2⟩
      · cases h
    | unit => simp [rdB] at h
    | wrap a => simp [rdB] at h
def Stays (w w' : World) : Prop := w.keptBut w' (fun _ => False) ∧ (∀ a, a.block < w.heap.size → w'.frozen? a = w.frozen? a) ∧ ∀ b, b < w.heap.size → w'.heap[b]? = w.heap[b]?
theorem stays_of {w w' : World} {R R' : Nat → Prop} {ρ' : Nm} {h' : AH} (f : Frm R ρ0 [] w R' ρ' h' w') : Stays w w' := by
  refine ⟨⟨f.os, f.output, fun b hb => ?_⟩, fun a ha => frozen_block (f.keeps _ ha Lv.none), fun b hb => f.keeps b hb Lv.none⟩
  rw [f.keeps b hb Lv.none]
  cases w.heap[b]? with
  | none => rfl
  | some o => cases o <;> simp
theorem Stays.frame {W w' : World} (h : Stays W w') (may : MemPlace → Prop) : W.keptBut w' may := World.keptBut_mono (fun _ f => f.elim) h.1
theorem law_gen {C : Cfg} {g : FuncId} {ks : List FuncId} {ps : List PTy} {F : Ps ps → Option (Els [.bool])} {hd : Bool} (he : (Ent.fn g ks ⟨ps, [.bool], F, hd⟩).Ok C.P) {x : Ps ps} (h : F x = some (true, ())) {w : World} {vs : Array Value}
    (hv : VReps w (fun b => b < w.heap.size) ρ0 (encPs ps x) vs.toList) :
    Calls C.P g vs w fun e w' => e = .returned (.bool true) ∧ Stays w w' := by
  have h1 := he x (true, ()) h
  refine (h1 (fun b => b < w.heap.size) ρ0 w vs (.base fun b hb => hb) hv).mono ?_
  rintro e w' ⟨R', ρ', v, ⟨rfl, hv⟩, _, f⟩
  have hv : VRep w' R' ρ' (.bool true) v := hv
  cases hv
  exact ⟨rfl, stays_of f⟩
section
open Go.ChangeShapes Go.WideShapes
variable {H : Type} {enc : TypeId × Value → H} {P : Program}
theorem post_of_stay {f : Func} {s : ChangeSpec} {apart fresh handsOn again : Bool} {W W' : World} {args : Array Value} {v : Value} {ds gs : List (DataW H)} {before pa pv : List MemPlace}
    (hW : DataW.Whole enc P f.params.toList s.vars apart W args.toList ds gs before)
    (hres : ∀ (b : Nat) (sp : Nat → Bool) (hd : Bool), DataW.TrodAll enc P W' b sp hd f.resultTypes.toList (v.resultList f.resultTypes.size) (s.fn H (ds ++ gs)).results [])
    (hargs : ∀ sp : Nat → Bool, (∀ p ∈ before, sp p.block = true) → DataW.TrodAll enc P W' 0 sp true f.params.toList args.toList (s.fn H (ds ++ gs)).args pa)
    (hvars : ∀ sp : Nat → Bool, (∀ p ∈ before, sp p.block = true) → DataW.TrodVars enc P W' sp s.vars (s.fn H (ds ++ gs)).vars pv)
    (hps : before = pa ++ pv) (hk : W.keptBut W' (· ∈ before)) (hfz : ∀ a, a.block < W.heap.size → W'.frozen? a = W.frozen? a)
    (hok : ∀ (j : Nat) (t : TypeId) (r : Value), f.resultTypes[j]? = some t → (v.resultList f.resultTypes.size)[j]? = some r → Value.okWide P W' .any 0 t r) :
    s.post enc P f apart fresh handsOn again W args v W' := by
  have hold : ∀ p ∈ before, (fun b => decide (b < W.heap.size)) p.block = true := fun p hp => by simpa using hW.lt p hp
  refine ⟨ds, gs, before, [], pa, pv, hW, hres _ _ _, hargs _ hold, hvars _ hold, World.keptBut_mono (fun p hp => ⟨hp, ?_⟩) hk, fun _ => ?_⟩
  · rw [hps, List.mem_append] at hp
    exact Or.inr hp
  · have hlt := hW.lt
    obtain ⟨_, _, _, _, _, hz, hn⟩ := hW
    refine ⟨hok, _, _, ([] ++ pa) ++ pv, ⟨[] ++ pa, pv, trodAll_append (hargs _ (fun _ _ => rfl)) (hres _ _ _), hvars _ (fun _ _ => rfl), rfl, ?_, ?_⟩, ?_⟩
    · intro b off hp
      have hp' : MemPlace.cell b off ∈ before := by rw [hps]; simpa using hp
      rw [hfz ⟨b, off, none⟩ (hlt _ hp')]
      exact hz b off hp'
    · intro ha
      have := hn ha
      rw [hps] at this
      simpa using this
    · intro p hp _
      rw [hps]
      simpa using hp
end
end Go.DI
set_option linter.unusedVariables false
set_option linter.unusedSimpArgs false
namespace Go.DI
section
variable {C : Cfg} {T : Tb}
def faultV (ft : TypeId) (e : Int) : AV := .iface ft (.agg [.int .i64 e])
structure FnPE where
  ft : TypeId
  ps : List PTy
  rs : List Ty
  F : Ps ps → Option (Els rs ⊕ Int)
  hid : Bool := false
def FnPE.Ok (P : Program) (g : FuncId) (e : FnPE) : Prop :=
  (∀ x y, e.F x = some (.inl y) → AC P g (encPs e.ps x) [] (.ret (resV (encs e.rs y))) []) ∧
  ∀ x n, e.F x = some (.inr n) → AC P g (encPs e.ps x) [] (.pan (faultV e.ft n)) []
def FnPE.run (e : FnPE) {β : Type} (h : AH) (args : List AV) (K Kp : AV → AH → Option β) : Option β := match frzArgs e.ps h args with
  | some (x, h1) => (e.F x).bind fun r => Sum.elim (fun y => if e.hid then K (resV ((encs e.rs y).map hideV)) h else K (resV (encs e.rs y)) (if allNoRef e.rs then h else h1)) (fun n => Kp (faultV e.ft n) h) r
  | none => none
structure GenPE where
  ft : TypeId
  pin : Nat
  steps : List Stp
  inp : LayD
  out : LayD
  F : inp.El → Option (out.El ⊕ Int)
def GenPE.Ok (P : Program) (g : FuncId) (e : GenPE) : Prop :=
  (∀ x y, e.F x = some (.inl y) → ∀ (R : Nat → Prop) (ρ : Nm) (w : World) (vs : Array Value), Rel R ρ (e.inp.enc x).h w → VReps w R ρ (e.inp.enc x).r vs.toList →
    Calls P g vs w fun q w' => ∃ R' ρ' u, q = .returned u ∧ VRep w' R' ρ' (resV (e.out.enc y).r) u ∧ Rel R' ρ' (e.out.enc y).h w' ∧ FrmW e.pin R ρ (e.inp.enc x).h w R' ρ' (e.out.enc y).h w') ∧
  ∀ x n, e.F x = some (.inr n) → ∀ (R : Nat → Prop) (ρ : Nm) (w : World) (vs : Array Value), Rel R ρ (e.inp.enc x).h w → VReps w R ρ (e.inp.enc x).r vs.toList →
    Calls P g vs w fun q w' => ∃ R' u, q = .panicked [{ v := u, recovered := false }] ∧ VRep w' R' ρ0 (faultV e.ft n) u ∧ Rel R' ρ0 [] w' ∧ FrmW 0 R ρ (e.inp.enc x).h w R' ρ0 [] w'
def GenPE.run (e : GenPE) {β : Type} (h : AH) (args : List AV) (K Kp : AV → AH → Option β) : Option β :=
  forceS (runStps e.steps ⟨args, h⟩) fun s =>
  match e.inp.dec 0 s with
  | some x => if Nat.ble e.pin e.inp.blks.length && (Nat.ble e.pin e.out.blks.length && e.out.names.all (fun i => decide (i < e.out.blks.length))) then
      (e.F x).bind fun r => Sum.elim (fun y => K (resV (encRS (behind e.pin (e.inp.sig s) s.h.length) e.out.regs y.1 (List.replicate e.out.n .any)))
        (putS (e.inp.sig s) ((encBS (behind e.pin (e.inp.sig s) s.h.length) e.out.blks y.2).take e.pin) s.h ++ (encBS (behind e.pin (e.inp.sig s) s.h.length) e.out.blks y.2).drop e.pin))
        (fun n => Kp (faultV e.ft n) (putS (e.inp.sig s) [] s.h)) r
    else none
  | none => none
structure TryE where
  pin : Nat
  steps : List Stp
  inp : LayD
  out : LayD
  F : inp.El → Option (out.El ⊕ Int)
def TryE.Ok (P : Program) (g : FuncId) (e : TryE) : Prop :=
  (∀ x y, e.F x = some (.inl y) → ∀ (R : Nat → Prop) (ρ : Nm) (w : World) (vs : Array Value), Rel R ρ (e.inp.enc x).h w → VReps w R ρ (e.inp.enc x).r vs.toList →
    Calls P g vs w fun q w' => ∃ R' ρ' u, q = .returned u ∧ VRep w' R' ρ' (resV (e.out.enc y).r) u ∧ Rel R' ρ' (e.out.enc y).h w' ∧ FrmW e.pin R ρ (e.inp.enc x).h w R' ρ' (e.out.enc y).h w') ∧
  ∀ x n, e.F x = some (.inr n) → ∀ (R : Nat → Prop) (ρ : Nm) (w : World) (vs : Array Value), Rel R ρ (e.inp.enc x).h w → VReps w R ρ (e.inp.enc x).r vs.toList →
    Calls P g vs w fun q w' => ∃ R', q = .returned (.int .i64 n) ∧ Rel R' ρ0 [] w' ∧ FrmW 0 R ρ (e.inp.enc x).h w R' ρ0 [] w'
def TryE.run (e : TryE) {β : Type} (h : AH) (args : List AV) (K : AV → AH → Option β) : Option β :=
  forceS (runStps e.steps ⟨args, h⟩) fun s =>
  match e.inp.dec 0 s with
  | some x => if Nat.ble e.pin e.inp.blks.length && (Nat.ble e.pin e.out.blks.length && e.out.names.all (fun i => decide (i < e.out.blks.length))) then
      (e.F x).bind fun r => Sum.elim (fun y => K (resV (encRS (behind e.pin (e.inp.sig s) s.h.length) e.out.regs y.1 (List.replicate e.out.n .any)))
        (putS (e.inp.sig s) ((encBS (behind e.pin (e.inp.sig s) s.h.length) e.out.blks y.2).take e.pin) s.h ++ (encBS (behind e.pin (e.inp.sig s) s.h.length) e.out.blks y.2).drop e.pin))
        (fun n => K (.int .i64 n) (putS (e.inp.sig s) [] s.h)) r
    else none
  | none => none
end
end Go.DI
set_option linter.unusedVariables false
set_option linter.unusedSimpArgs false
namespace Go.DI
section
variable {C : Cfg} {T : Tb}
end
end Go.DI
set_option linter.unusedVariables false
set_option linter.unusedSimpArgs false
namespace Go.DI
section
variable {C : Cfg} {T : Tb}
structure GenQE where
  ft : TypeId
  pin : Nat
  inp : LayD
  out : LayD
  pout : LayD
  F : inp.El → Option (out.El ⊕ (Int × pout.El))
def GenQE.Ok (P : Program) (g : FuncId) (e : GenQE) : Prop :=
  (∀ x y, e.F x = some (.inl y) → ∀ (R : Nat → Prop) (ρ : Nm) (w : World) (vs : Array Value), Rel R ρ (e.inp.enc x).h w → VReps w R ρ (e.inp.enc x).r vs.toList →
    Calls P g vs w fun q w' => ∃ R' ρ' u, q = .returned u ∧ VRep w' R' ρ' (resV (e.out.enc y).r) u ∧ Rel R' ρ' (e.out.enc y).h w' ∧ FrmW e.pin R ρ (e.inp.enc x).h w R' ρ' (e.out.enc y).h w') ∧
  ∀ x n, e.F x = some (.inr n) → ∀ (R : Nat → Prop) (ρ : Nm) (w : World) (vs : Array Value), Rel R ρ (e.inp.enc x).h w → VReps w R ρ (e.inp.enc x).r vs.toList →
    Calls P g vs w fun q w' => ∃ R' ρ' u, q = .panicked [{ v := u, recovered := false }] ∧ VRep w' R' ρ' (faultV e.ft n.1) u ∧ Rel R' ρ' (e.pout.enc n.2).h w' ∧ FrmW e.pin R ρ (e.inp.enc x).h w R' ρ' (e.pout.enc n.2).h w'
end
end Go.DI
