import Derived.Orders
import Derived.Below
import Derived.WalkKit
import Derived.Laws.StructEq
import Derived.Laws.BytesArg
import Derived.Laws.Pointers
import Derived.Laws.Cover3
import Derived.Deep.MidRow
import Derived.Deep.AppendSrc
import Derived.Lib.Strings
import Derived.Laws.Slices
import Derived.Laws.AppendOwn
import Derived.Deep.Upon
/- A reading of programs by functions on data, and that it is right. No conditions. -/
set_option linter.unusedVariables false
namespace Go.DI
inductive Ty where
  | unit
  | int (k : IntKind)
  | bool
  | str
  | flt (k : FloatKind)
  | list (t : Ty)
  | wrap (a : Ty)
  | pair (a b : Ty)
deriving DecidableEq
@[reducible] def Ty.El : Ty → Type
  | .unit => Unit
  | .int _ => Int
  | .bool => Bool
  | .str => List UInt8
  | .flt _ => Nat
  | .list t => List t.El
  | .wrap a => a.El
  | .pair a b => a.El × b.El
def Ty.sz : Ty → Nat
  | .unit => 0
  | .wrap a => a.sz
  | .pair a b => a.sz + b.sz
  | _ => 1
def Ty.dflt : (t : Ty) → t.El
  | .unit => ()
  | .int _ => (0 : Int)
  | .bool => false
  | .str => ([] : List UInt8)
  | .flt _ => (0 : Nat)
  | .list _ => []
  | .wrap a => a.dflt
  | .pair a b => (a.dflt, b.dflt)
inductive AV where
  | any
  | undef
  | int (k : IntKind) (n : Int)
  | bool (b : Bool)
  | str (s : List UInt8)
  | flt (k : FloatKind) (b : Nat)
  | nilp
  | ptr (i off : Nat)
  | roa (sz n : Nat) (f : Nat → AV) (j o : Nat)
  | nils
  | ro (sz n : Nat) (f : Nat → AV)
  | own (sz i off len : Nat)
  | lst (t : Ty) (l : List t.El)
  | orow (t : Ty) (i : Nat)
  | optr (t : Ty) (i j o : Nat)
  | nilm
  | map (i : Nat)
  | func (f : FuncId) (first caps : List AV)
  | nilf
  | iface (t : TypeId) (v : AV)
  | nili
  | agg (cs : List AV)
  | tup (vs : List AV)
  | slc
instance : Inhabited AV := ⟨.any⟩
def AV.cells : AV → List AV
  | .agg cs => cs
  | v => [v]
def AV.one : AV → Bool
  | .any | .undef | .agg _ | .tup _ => false
  | _ => true
inductive ABlk where
  | cells (t : TypeId) (cs : List AV)
  | map (es : List (AV × AV))
  | row (t : TypeId) (ty : Ty) (l : List ty.El)
  | tmap (kt vt : Ty) (m : List (kt.El × vt.El))
abbrev AH := List (Option ABlk)
structure BN where
  n : Nat
  len : Nat
  gh : Bool := false
abbrev Nm := Nat → Option (Nat × BN)
def Ty.enc : (t : Ty) → t.El → AV
  | .unit, _ => .agg []
  | .int k, n => .int k n
  | .bool, b => .bool b
  | .str, s => .str s
  | .flt k, b => .flt k b
  | .list t, l => .lst t l
  | .wrap a, x => .agg (a.enc x).cells
  | .pair a b, x => .agg ((a.enc x.1).cells ++ (b.enc x.2).cells)
def Ty.at (t : Ty) (l : List t.El) (j : Nat) : AV := t.enc (l.getD j t.dflt)
inductive VRep (w : World) (R : Nat → Prop) (ρ : Nm) : AV → Value → Prop
  | any (v : Value) : VRep w R ρ .any v
  | undef : VRep w R ρ .undef (.tuple #[])
  | int (k n) : VRep w R ρ (.int k n) (.int k n)
  | bool (b) : VRep w R ρ (.bool b) (.bool b)
  | str (s : ByteArray) : VRep w R ρ (.str s.data.toList) (.string s)
  | flt (k b) : VRep w R ρ (.flt k b) (.float k b)
  | nilp : VRep w R ρ .nilp (.pointer none)
  | ptr {i off b N} (h : ρ i = some (b, N)) : VRep w R ρ (.ptr i off) (.pointer (some ⟨b, off, none⟩))
  | roa {sz n f j o b off0} (u : Nat → Nat → Value) (hj : j < n) (hR : R b) (hsz : ∀ j, j < n → (f j).cells.length = sz)
      (hc : ∀ (j o : Nat) (c : AV), j < n → (f j).cells[o]? = some c → w.cell? ⟨b, off0 + (j * sz + o), none⟩ = some (u j o))
      (hv : ∀ (j o : Nat) (c : AV), j < n → (f j).cells[o]? = some c → VRep w R ρ c (u j o)) :
      VRep w R ρ (.roa sz n f j o) (.pointer (some ⟨b, off0 + (j * sz + o), none⟩))
  | nils : VRep w R ρ .nils (.slice none 0 0)
  | slc (a n c) : VRep w R ρ .slc (.slice a n c)
  | ronil (sz f a cap) : VRep w R ρ (.ro sz 0 f) (.slice a 0 cap)
  | ro {sz n f b off0 cap} (u : Nat → Nat → Value) (hR : R b) (hl : n ≤ cap) (hsz : ∀ j, j < n → (f j).cells.length = sz)
      (hc : ∀ (j o : Nat) (c : AV), j < n → (f j).cells[o]? = some c → w.cell? ⟨b, off0 + (j * sz + o), none⟩ = some (u j o))
      (hv : ∀ (j o : Nat) (c : AV), j < n → (f j).cells[o]? = some c → VRep w R ρ c (u j o)) :
      VRep w R ρ (.ro sz n f) (.slice (some ⟨b, off0, none⟩) n cap)
  | own {sz i off len b N cap} (h : ρ i = some (b, N)) (hl : len ≤ cap) (hc : off + cap * sz ≤ N.n) : VRep w R ρ (.own sz i off len) (.slice (some ⟨b, off, none⟩) len cap)
  | lst {t : Ty} {l : List t.El} {v : Value} (h : VRep w R ρ (.ro t.sz l.length (t.at l)) v) : VRep w R ρ (.lst t l) v
  | orow {t : Ty} {i b N cap} (h : ρ i = some (b, N)) (hg : N.gh = false) (hl : N.len ≤ cap) (hc : cap * t.sz ≤ N.n) : VRep w R ρ (.orow t i) (.slice (some ⟨b, 0, none⟩) N.len cap)
  | onil {t : Ty} {i b N} (h : ρ i = some (b, N)) (hg : N.gh = true) : VRep w R ρ (.orow t i) (.slice none 0 0)
  | optr {t : Ty} {i j o b N} (h : ρ i = some (b, N)) (hj : j < N.len) : VRep w R ρ (.optr t i j o) (.pointer (some ⟨b, j * t.sz + o, none⟩))
  | nilm : VRep w R ρ .nilm (.map none)
  | map {i b N} (h : ρ i = some (b, N)) : VRep w R ρ (.map i) (.map (some b))
  | func {f first caps} (vf vc : Array Value) (hf0 : vf.size = first.length) (hc0 : vc.size = caps.length)
      (hf : ∀ (k : Nat) (c : AV) (u : Value), first[k]? = some c → vf[k]? = some u → VRep w R ρ c u)
      (hc : ∀ (k : Nat) (c : AV) (u : Value), caps[k]? = some c → vc[k]? = some u → VRep w R ρ c u) : VRep w R ρ (.func f first caps) (.func (.func f) vf vc)
  | nilf : VRep w R ρ .nilf .nilFunc
  | iface {t v u} (h : VRep w R ρ v u) : VRep w R ρ (.iface t v) (.iface t u)
  | nili : VRep w R ρ .nili .nilIface
  | agg {cs} (us : Array Value) (h0 : us.size = cs.length) (h : ∀ (k : Nat) (c : AV) (u : Value), cs[k]? = some c → us[k]? = some u → VRep w R ρ c u) : VRep w R ρ (.agg cs) (.agg us)
  | tup {cs} (us : Array Value) (h0 : us.size = cs.length) (h : ∀ (k : Nat) (c : AV) (u : Value), cs[k]? = some c → us[k]? = some u → VRep w R ρ c u) : VRep w R ρ (.tup cs) (.tuple us)
def Nm.le (ρ ρ' : Nm) : Prop := ∀ i bn, ρ i = some bn → ρ' i = some bn
theorem Nm.le_refl (ρ : Nm) : ρ.le ρ := fun _ _ h => h
theorem Nm.le_trans {a b c : Nm} (h : a.le b) (k : b.le c) : a.le c := fun i bn hi => k i bn (h i bn hi)
theorem VRep.mono {w w' : World} {R R' : Nat → Prop} {ρ ρ' : Nm} {av : AV} {v : Value} (h : VRep w R ρ av v)
    (hw : ∀ b, R b → w'.heap[b]? = w.heap[b]?) (hR : ∀ b, R b → R' b) (hρ : ρ.le ρ') : VRep w' R' ρ' av v := by
  induction h with
  | any v => exact .any v
  | undef => exact .undef
  | int k n => exact .int k n
  | bool b => exact .bool b
  | str s => exact .str s
  | flt k b => exact .flt k b
  | nilp => exact .nilp
  | ptr h => exact .ptr (hρ _ _ h)
  | @roa sz n f j o b off0 u hj hRb hsz hc hv ih =>
    refine .roa u hj (hR _ hRb) hsz (fun j o c hx hc' => ?_) ih
    have := hc j o c hx hc'
    rw [World.cell?_of_block (w := w) (hw b hRb)]; exact this
  | nils => exact .nils
  | slc a n c => exact .slc a n c
  | ronil sz f a cap => exact .ronil sz f a cap
  | @ro sz n f b off0 cap u hRb hl hsz hc hv ih =>
    refine .ro u (hR _ hRb) hl hsz (fun j o c hx hc' => ?_) ih
    have := hc j o c hx hc'
    rw [World.cell?_of_block (w := w) (hw b hRb)]; exact this
  | own h hl hc => exact .own (hρ _ _ h) hl hc
  | lst _ ih => exact .lst ih
  | orow h hg hl hc => exact .orow (hρ _ _ h) hg hl hc
  | onil h hg => exact .onil (hρ _ _ h) hg
  | optr h hj => exact .optr (hρ _ _ h) hj
  | nilm => exact .nilm
  | map h => exact .map (hρ _ _ h)
  | func vf vc hf0 hc0 _ _ ihf ihc => exact .func vf vc hf0 hc0 ihf ihc
  | nilf => exact .nilf
  | iface _ ih => exact .iface ih
  | nili => exact .nili
  | agg us h0 _ ih => exact .agg us h0 ih
  | tup us h0 _ ih => exact .tup us h0 ih
def VReps (w : World) (R : Nat → Prop) (ρ : Nm) (cs : List AV) (us : List Value) : Prop :=
  us.length = cs.length ∧ ∀ (k : Nat) (c : AV) (u : Value), cs[k]? = some c → us[k]? = some u → VRep w R ρ c u
theorem VReps.mono {w w' : World} {R R' : Nat → Prop} {ρ ρ' : Nm} {av : List AV} {v : List Value} (h : VReps w R ρ av v)
    (hw : ∀ b, R b → w'.heap[b]? = w.heap[b]?) (hR : ∀ b, R b → R' b) (hρ : ρ.le ρ') : VReps w' R' ρ' av v :=
  ⟨h.1, fun k c u hc hu => (h.2 k c u hc hu).mono hw hR hρ⟩
section
variable {w : World} {R : Nat → Prop} {ρ : Nm}
theorem VReps.nil : VReps w R ρ [] [] := ⟨rfl, fun k c u h => by simp at h⟩
theorem VReps.cons {c : AV} {u : Value} {cs : List AV} {us : List Value} (h : VRep w R ρ c u) (hs : VReps w R ρ cs us) : VReps w R ρ (c :: cs) (u :: us) := by
  refine ⟨by simp [hs.1], fun k c' u' hc hu => ?_⟩
  cases k with
  | zero => simp at hc hu; subst hc; subst hu; exact h
  | succ k => exact hs.2 k c' u' (by simpa using hc) (by simpa using hu)
theorem VReps.cons_inv {c : AV} {cs : List AV} {us : List Value} (h : VReps w R ρ (c :: cs) us) : ∃ u us', us = u :: us' ∧ VRep w R ρ c u ∧ VReps w R ρ cs us' := by
  cases us with
  | nil => have := h.1; simp at this
  | cons u us =>
    refine ⟨u, us, rfl, h.2 0 c u rfl rfl, by have := h.1; simpa using this, fun k c' u' hc hu => h.2 (k + 1) c' u' (by simpa using hc) (by simpa using hu)⟩
theorem VReps.nil_inv {us : List Value} (h : VReps w R ρ [] us) : us = [] := List.eq_nil_of_length_eq_zero (by simpa using h.1)
theorem VReps.append {cs ds : List AV} {us vs : List Value} (h : VReps w R ρ cs us) (k : VReps w R ρ ds vs) : VReps w R ρ (cs ++ ds) (us ++ vs) := by
  induction cs generalizing us with
  | nil => rw [h.nil_inv]; exact k
  | cons c cs ih =>
    obtain ⟨u, us', rfl, h1, h2⟩ := h.cons_inv
    exact .cons h1 (ih h2)
theorem VReps.drop {cs : List AV} {us : List Value} (h : VReps w R ρ cs us) (n : Nat) : VReps w R ρ (cs.drop n) (us.drop n) :=
  ⟨by simp [h.1], fun k c u hc hu => h.2 (n + k) c u (by simpa [List.getElem?_drop] using hc) (by simpa [List.getElem?_drop] using hu)⟩
theorem VReps.take {cs : List AV} {us : List Value} (h : VReps w R ρ cs us) (n : Nat) : VReps w R ρ (cs.take n) (us.take n) := by
  refine ⟨by simp [h.1], fun k c u hc hu => ?_⟩
  rw [List.getElem?_take] at hc hu
  split at hc
  · rename_i hk; rw [if_pos hk] at hu; exact h.2 k c u hc hu
  · cases hc
theorem VReps.set {cs : List AV} {us : List Value} (h : VReps w R ρ cs us) (n : Nat) {c : AV} {u : Value} (hc : VRep w R ρ c u) : VReps w R ρ (cs.set n c) (us.set n u) := by
  refine ⟨by simp [h.1], fun k c' u' hc' hu' => ?_⟩
  rw [List.getElem?_set] at hc' hu'
  split at hc'
  · rename_i hk
    rw [if_pos hk] at hu'
    split at hc'
    · split at hu'
      · simp at hc' hu'; subst hc'; subst hu'; exact hc
      · cases hu'
    · cases hc'
  · rename_i hk
    rw [if_neg hk] at hu'
    exact h.2 k c' u' hc' hu'
theorem VReps.get {cs : List AV} {us : List Value} (h : VReps w R ρ cs us) {k : Nat} {c : AV} (hc : cs[k]? = some c) : ∃ u, us[k]? = some u ∧ VRep w R ρ c u := by
  have hk := (List.getElem?_eq_some_iff.1 hc).1
  have hk' : k < us.length := by rw [h.1]; exact hk
  exact ⟨us[k], List.getElem?_eq_getElem hk', h.2 k c _ hc (List.getElem?_eq_getElem hk')⟩
theorem VReps.replicate {c : AV} {u : Value} (h : VRep w R ρ c u) (n : Nat) : VReps w R ρ (List.replicate n c) (List.replicate n u) := by
  induction n with
  | zero => exact .nil
  | succ n ih => exact .cons h ih
theorem VRep.agg' {cs : List AV} {us : Array Value} (h : VReps w R ρ cs us.toList) : VRep w R ρ (.agg cs) (.agg us) :=
  .agg us (by simpa using h.1) fun k c u hc hu => h.2 k c u hc (by simpa using hu)
theorem VRep.tup' {cs : List AV} {us : Array Value} (h : VReps w R ρ cs us.toList) : VRep w R ρ (.tup cs) (.tuple us) :=
  .tup us (by simpa using h.1) fun k c u hc hu => h.2 k c u hc (by simpa using hu)
theorem VRep.agg_inv {cs : List AV} {v : Value} (h : VRep w R ρ (.agg cs) v) : ∃ us : Array Value, v = .agg us ∧ VReps w R ρ cs us.toList := by
  cases h with
  | agg us h0 h => exact ⟨us, rfl, by simpa using h0, fun k c u hc hu => h k c u hc (by simpa using hu)⟩
theorem VRep.tup_inv {cs : List AV} {v : Value} (h : VRep w R ρ (.tup cs) v) : ∃ us : Array Value, v = .tuple us ∧ VReps w R ρ cs us.toList := by
  cases h with
  | tup us h0 h => exact ⟨us, rfl, by simpa using h0, fun k c u hc hu => h k c u hc (by simpa using hu)⟩
theorem VRep.ro_slice {sz n : Nat} {f : Nat → AV} {v : Value} (h : VRep w R ρ (.ro sz n f) v) : ∃ a c, v = .slice a n c := by
  cases h with
  | ronil _ _ a cap => exact ⟨a, cap, rfl⟩
  | ro => exact ⟨_, _, rfl⟩
theorem VRep.cells {av : AV} {v : Value} (h : VRep w R ρ av v) (h1 : av.one = true ∨ ∃ cs, av = .agg cs) : VReps w R ρ av.cells v.cells.toList := by
  rcases h1 with h1 | ⟨cs, rfl⟩
  · have e1 : av.cells = [av] := by cases av <;> simp [AV.one] at h1 <;> rfl
    have e2 : v.cells.toList = [v] := by cases h <;> simp [AV.one] at h1 <;> first | rfl | (rename_i h; obtain ⟨a, c, rfl⟩ := h.ro_slice; rfl)
    rw [e1, e2]
    exact .cons h .nil
  · obtain ⟨us, rfl, hu⟩ := h.agg_inv
    exact hu
theorem VRep.notAgg {av : AV} {v : Value} (h : VRep w R ρ av v) (h1 : av.one = true) : v.oneCell' = true := by
  cases h <;> simp [AV.one] at h1 <;> first | rfl | (rename_i h; obtain ⟨a, c, rfl⟩ := h.ro_slice; rfl)
end
def BRep (w : World) (R : Nat → Prop) (ρ : Nm) (b : Nat) (N : BN) : ABlk → Prop
  | .row t ty l => N.len = l.length ∧ (N.gh = false → ∃ arr, w.heap[b]? = some (.cells arr t (0, 0)) ∧ arr.size = N.n ∧ l.length * ty.sz ≤ N.n ∧
      ∀ (j o : Nat) (c : AV), j < l.length → (ty.at l j).cells[o]? = some c → ∃ u, arr[j * ty.sz + o]? = some u ∧ VRep w R ρ c u)
  | .cells t cs => ∃ arr, w.heap[b]? = some (.cells arr t (0, 0)) ∧ arr.size = N.n ∧ cs.length ≤ N.n ∧ VReps w R ρ cs (arr.toList.take cs.length)
  | .tmap kt vt m => ∃ arr clock, w.heap[b]? = some (.map arr clock) ∧ VReps w R ρ (m.map fun p => kt.enc p.1) (arr.toList.map (·.key)) ∧ VReps w R ρ (m.map fun p => vt.enc p.2) (arr.toList.map (·.val))
  | .map es => ∃ arr clock, w.heap[b]? = some (.map arr clock) ∧ VReps w R ρ (es.map (·.1)) (arr.toList.map (·.key)) ∧ VReps w R ρ (es.map (·.2)) (arr.toList.map (·.val))
def Lv (ρ : Nm) (h : AH) (b : Nat) : Prop := ∃ i blk N, h[i]? = some (some blk) ∧ ρ i = some (b, N) ∧ N.gh = false
def Real (R : Nat → Prop) (b : Nat) (N : BN) (blk : ABlk) : Prop := (N.gh = false ∧ ¬ R b) ∨ (N.gh = true ∧ ∃ t ty, blk = .row t ty [])
theorem Real.cells {R : Nat → Prop} {b : Nat} {N : BN} {t : TypeId} {cs : List AV} (h : Real R b N (.cells t cs)) : N.gh = false ∧ ¬ R b := by
  rcases h with h | ⟨_, _, _, h⟩
  · exact h
  · cases h
theorem Real.map {R : Nat → Prop} {b : Nat} {N : BN} {es : List (AV × AV)} (h : Real R b N (.map es)) : N.gh = false ∧ ¬ R b := by
  rcases h with h | ⟨_, _, _, h⟩
  · exact h
  · cases h
theorem Real.tmap {R : Nat → Prop} {b : Nat} {N : BN} {kt vt : Ty} {m : List (kt.El × vt.El)} (h : Real R b N (.tmap kt vt m)) : N.gh = false ∧ ¬ R b := by
  rcases h with h | ⟨_, _, _, h⟩
  · exact h
  · cases h
theorem Real.notR {R : Nat → Prop} {b : Nat} {N : BN} {blk : ABlk} (h : Real R b N blk) (hg : N.gh = false) : ¬ R b := by
  rcases h with h | ⟨h, _⟩
  · exact h.2
  · rw [hg] at h; cases h
structure Rel (R : Nat → Prop) (ρ : Nm) (h : AH) (w : World) : Prop where
  live : ∀ i blk, h[i]? = some (some blk) → ∃ b N, ρ i = some (b, N) ∧ BRep w R ρ b N blk ∧ Real R b N blk
  inj : ∀ i j bi bj b Ni Nj, h[i]? = some (some bi) → h[j]? = some (some bj) → ρ i = some (b, Ni) → ρ j = some (b, Nj) → Ni.gh = false → Nj.gh = false → i = j
  dom : ∀ i, h.length ≤ i → ρ i = none
  ro : ∀ b, R b → b < w.heap.size
structure Frm (R : Nat → Prop) (ρ : Nm) (h : AH) (w : World) (R' : Nat → Prop) (ρ' : Nm) (h' : AH) (w' : World) : Prop where
  os : w'.os = w.os
  tape : w'.tape = w.tape
  output : w'.output = w.output
  size : w.heap.size ≤ w'.heap.size
  names : ρ.le ρ'
  ros : ∀ b, R b → R' b
  keeps : ∀ b, b < w.heap.size → ¬ Lv ρ h b → w'.heap[b]? = w.heap[b]?
  lives : ∀ b, Lv ρ' h' b → Lv ρ h b ∨ w.heap.size ≤ b
  rolds : ∀ b, R' b → R b ∨ Lv ρ h b ∨ w.heap.size ≤ b
  hlen : h.length ≤ h'.length
  fresh : ∀ x, x < h.length → ρ x = none → ρ' x = none
  frz : w.drawn ≤ w'.drawn
theorem Frm.refl (R : Nat → Prop) (ρ : Nm) (h : AH) (w : World) : Frm R ρ h w R ρ h w :=
  ⟨rfl, rfl, rfl, Nat.le_refl _, Nm.le_refl _, fun _ h => h, fun _ _ _ => rfl, fun _ h => .inl h, fun _ h => .inl h, Nat.le_refl _, fun _ _ h => h, (by first | exact Nat.le_refl _ | exact Nat.le_succ _)⟩
theorem Frm.trans {R R1 R2 : Nat → Prop} {ρ ρ1 ρ2 : Nm} {h h1 h2 : AH} {w w1 w2 : World} (a : Frm R ρ h w R1 ρ1 h1 w1) (b : Frm R1 ρ1 h1 w1 R2 ρ2 h2 w2) : Frm R ρ h w R2 ρ2 h2 w2 where
  os := b.os.trans a.os
  tape := b.tape.trans a.tape
  output := b.output.trans a.output
  size := Nat.le_trans a.size b.size
  names := Nm.le_trans a.names b.names
  ros := fun x hx => b.ros x (a.ros x hx)
  keeps := fun x hx hl => by
    rw [b.keeps x (Nat.lt_of_lt_of_le hx a.size) (fun hl1 => ?_), a.keeps x hx hl]
    rcases a.lives x hl1 with h | h
    · exact hl h
    · omega
  lives := fun x hx => by
    rcases b.lives x hx with h | h
    · exact a.lives x h
    · exact .inr (Nat.le_trans a.size h)
  rolds := fun x hx => by
    rcases b.rolds x hx with h | h | h
    · exact a.rolds x h
    · rcases a.lives x h with h | h
      · exact .inr (.inl h)
      · exact .inr (.inr h)
    · exact .inr (.inr (Nat.le_trans a.size h))
  hlen := Nat.le_trans a.hlen b.hlen
  fresh := fun x hx hn => b.fresh x (Nat.lt_of_lt_of_le hx a.hlen) (a.fresh x hx hn)
  frz := Nat.le_trans a.frz b.frz
theorem Rel.notLive {R : Nat → Prop} {ρ : Nm} {h : AH} {w : World} (hr : Rel R ρ h w) {b : Nat} (hb : R b) : ¬ Lv ρ h b := by
  rintro ⟨i, blk, N, hi, hn, hg⟩
  obtain ⟨b', N', hn', _, hnR⟩ := hr.live i blk hi
  rw [hn] at hn'
  simp only [Option.some.injEq, Prod.mk.injEq] at hn'
  obtain ⟨rfl, rfl⟩ := hn'
  exact hnR.notR hg hb
theorem Frm.roKeeps {R R' : Nat → Prop} {ρ ρ' : Nm} {h h' : AH} {w w' : World} (f : Frm R ρ h w R' ρ' h' w') (hr : Rel R ρ h w) : ∀ b, R b → w'.heap[b]? = w.heap[b]? :=
  fun b hb => f.keeps b (hr.ro b hb) (hr.notLive hb)
theorem VRep.frm {R R' : Nat → Prop} {ρ ρ' : Nm} {h h' : AH} {w w' : World} {av : AV} {v : Value} (hv : VRep w R ρ av v) (f : Frm R ρ h w R' ρ' h' w') (hr : Rel R ρ h w) : VRep w' R' ρ' av v :=
  hv.mono (f.roKeeps hr) f.ros f.names
theorem VReps.frm {R R' : Nat → Prop} {ρ ρ' : Nm} {h h' : AH} {w w' : World} {av : List AV} {v : List Value} (hv : VReps w R ρ av v) (f : Frm R ρ h w R' ρ' h' w') (hr : Rel R ρ h w) : VReps w' R' ρ' av v :=
  hv.mono (f.roKeeps hr) f.ros f.names
end Go.DI
set_option linter.unusedVariables false
set_option linter.unusedSimpArgs false
namespace Go.DI
structure Cfg where
  P : Program
  isFn : FuncId → Bool
  eqf : TypeId → Option (List (TypeId × Nat))
  /-- So many blocks keep their names. -/
  pin : Nat := 0
structure Cfg.Ok (C : Cfg) : Prop where
  fn : ∀ g, C.isFn g = true → ∃ f, C.P.funcs[g]? = some f ∧ (f.name == "runtime.NumGoroutine") = false ∧ f.body.isNone = false
  eq : ∀ t l, C.eqf t = some l → C.P.stoodInHeld t = false ∧ C.P.eqGuardType C.P.depth t = false ∧ C.P.underlying t = some (.struct (C.P.fieldsOf t)) ∧
    ((C.P.fieldsOf t).toList.filter (fun f => decide (f.name ≠ "_"))).map (fun f => (f.type, f.offset)) = l
  mixed : C.P.follows .mixedOrders = true
def ofConst1 : Value → Option AV
  | .int k n => some (.int k n)
  | .bool b => some (.bool b)
  | .string s => some (.str s.data.toList)
  | .float k b => some (.flt k b)
  | .pointer none => some .nilp
  | .slice none 0 0 => some .nils
  | .map none => some .nilm
  | .nilFunc => some .nilf
  | .nilIface => some .nili
  | .func (.func f) ⟨[]⟩ ⟨[]⟩ => some (.func f [] [])
  | .tuple ⟨[]⟩ => some .undef
  | _ => none
def ofConsts : List Value → Option (List AV)
  | [] => some []
  | v :: r => match ofConst1 v, ofConsts r with
    | some x, some l => some (x :: l)
    | _, _ => none
def ofConst : Value → Option AV
  | .agg ⟨cs⟩ => (ofConsts cs).map .agg
  | .iface t v => (ofConst1 v).map (.iface t)
  | v => ofConst1 v
section
variable {w : World} {R : Nat → Prop} {ρ : Nm}
theorem ofConst1_ok {v : Value} {av : AV} (h : ofConst1 v = some av) : VRep w R ρ av v := by
  unfold ofConst1 at h
  split at h <;> first | (injection h with h; subst h; constructor; done) | (cases h; done) | skip
  · injection h with h; subst h
    exact .func #[] #[] rfl rfl (fun k c u hc => by simp at hc) (fun k c u hc => by simp at hc)
theorem ofConsts_ok : ∀ {vs : List Value} {l : List AV}, ofConsts vs = some l → VReps w R ρ l vs
  | [], l, h => by simp [ofConsts] at h; subst h; exact .nil
  | v :: r, l, h => by
    simp only [ofConsts] at h
    split at h
    · rename_i x l' hx hl
      injection h with h; subst h
      exact .cons (ofConst1_ok hx) (ofConsts_ok hl)
    · cases h
theorem ofConst_ok {v : Value} {av : AV} (h : ofConst v = some av) : VRep w R ρ av v := by
  unfold ofConst at h
  split at h
  · rename_i cs
    obtain ⟨l, hl, rfl⟩ := Option.map_eq_some_iff.1 h
    exact .agg' (ofConsts_ok hl)
  · obtain ⟨l, hl, rfl⟩ := Option.map_eq_some_iff.1 h
    exact .iface (ofConst1_ok hl)
  · exact ofConst1_ok h
end
def evO (regs : List AV) : Operand → Option AV
  | .tmp t => some ((regs[t]?).getD .undef)
  | .const v => ofConst v
  | .func f => some (.func f [] [])
  | .global _ => none
def RegRep (w : World) (R : Nat → Prop) (ρ : Nm) (regs : List AV) (a : Act) : Prop := VReps w R ρ regs a.tmps.toList
theorem evO_ok {w : World} {R : Nat → Prop} {ρ : Nm} {regs : List AV} {a : Act} (h : RegRep w R ρ regs a) {x : Operand} {av : AV} (hx : evO regs x = some av) : VRep w R ρ av (a.eval x) := by
  cases x with
  | tmp t =>
    simp only [evO, Option.some.injEq] at hx
    subst hx
    simp only [Act.eval]
    cases ht : regs[t]? with
    | none =>
      have : a.tmps[t]? = none := by
        rw [List.getElem?_eq_none_iff] at ht
        rw [Array.getElem?_eq_none_iff]
        have := h.1; simp at this; omega
      simp only [Option.getD_none, Array.getD_eq_getD_getElem?, this]
      exact .undef
    | some c =>
      obtain ⟨u, hu, hv⟩ := h.get ht
      have hu' : a.tmps[t]? = some u := by simpa using hu
      simp only [Option.getD_some, Array.getD_eq_getD_getElem?, hu']
      exact hv
  | const v => exact ofConst_ok hx
  | func f =>
    simp only [evO, Option.some.injEq] at hx
    subst hx
    exact .func #[] #[] rfl rfl (fun k c u hc => by simp at hc) (fun k c u hc => by simp at hc)
  | global g => simp [evO] at hx
def partA (C : Cfg) (t : TypeId) (cs : List AV) (off : Nat) : Option AV :=
  match C.P.underlying t, C.P.info? t with
  | some d, some i => if d.isRow then (if off + i.size ≤ cs.length then some (.agg ((cs.drop off).take i.size)) else none) else cs[off]?
  | _, _ => none
theorem isAgg_run {P : Program} {t : TypeId} {d : TypeDesc} (h : P.underlying t = some d) (w : World) : (isAgg t).run P w = .ok d.isRow w := by
  unfold isAgg
  rw [Sem.run_bind, run_underlying h w]
  cases d <;> simp
theorem sizeOf_run {P : Program} {t : TypeId} {i : TypeInfo} (h : P.info? t = some i) (w : World) : (sizeOf t).run P w = .ok i.size w := by
  simp [sizeOf, typeInfo, h]
theorem zeroValue_run {P : Program} {t : TypeId} {i : TypeInfo} {z : Value} (h : P.info? t = some i) (hz : i.zero = some z) (w : World) : (zeroValue t).run P w = .ok z w := by
  simp [zeroValue, typeInfo, h, hz]
section
variable {C : Cfg} {w : World} {R : Nat → Prop} {ρ : Nm}
theorem part_ok {t : TypeId} {cs : List AV} {us : Array Value} {off : Nat} {av : AV} (h : VReps w R ρ cs us.toList) (hp : partA C t cs off = some av) :
    ∃ u, (∀ w', (part t us off).run C.P w' = .ok u w') ∧ VRep w R ρ av u := by
  unfold partA at hp
  split at hp
  · rename_i d i hd hi
    split at hp
    · rename_i hrow
      split at hp
      · rename_i hle
        injection hp with hp; subst hp
        refine ⟨.agg (us.extract off (off + i.size)), fun w' => ?_, ?_⟩
        · simp [part, isAgg_run hd, hrow, sizeOf_run hi]
        · refine .agg' ?_
          rw [Array.toList_extract]
          have := (h.drop off).take i.size
          rw [show List.extract us.toList off (off + i.size) = (us.toList.drop off).take i.size from by simp [List.extract_eq_drop_take']]
          exact this
      · cases hp
    · rename_i hrow
      obtain ⟨u, hu, hv⟩ := h.get hp
      refine ⟨u, fun w' => ?_, hv⟩
      have hu' : us[off]? = some u := by simpa using hu
      simp [part, isAgg_run hd, hrow, hu']
  · cases hp
theorem load_at {b o0 : Nat} {cs : List AV} {us : List Value} {t : TypeId} {off : Nat} {av : AV} (h : VReps w R ρ cs us)
    (hc : ∀ (k : Nat) (u : Value), us[k]? = some u → w.cell? ⟨b, o0 + k, none⟩ = some u) (hp : partA C t cs off = some av) :
    ∃ u, (Instr.loadAt t (.pointer (some ⟨b, o0 + off, none⟩))).run C.P w = .ok u w ∧ VRep w R ρ av u := by
  unfold partA at hp
  split at hp
  · rename_i d i hd hi
    split at hp
    · rename_i hrow
      split at hp
      · rename_i hle
        injection hp with hp; subst hp
        refine ⟨.agg ((us.drop off).take i.size).toArray, ?_, .agg' (by simpa using (h.drop off).take i.size)⟩
        refine run_loadAt_mid w b (o0 + off) t ((us.drop off).take i.size) d (fun j v hv => ?_) hd hrow ?_
        · rw [List.getElem?_take] at hv
          split at hv
          · rw [List.getElem?_drop] at hv
            have := hc _ _ hv
            rwa [Nat.add_assoc]
          · cases hv
        · have := h.1
          simp [hi, List.length_take, List.length_drop]; omega
      · cases hp
    · rename_i hrow
      obtain ⟨u, hu, hv⟩ := h.get hp
      refine ⟨u, ?_, hv⟩
      simp [Instr.loadAt, Instr.sureAddr, loadVar, isAgg_run hd, hrow, hc _ _ hu]
  · cases hp
end
def loadA (C : Cfg) (h : AH) (t : TypeId) : AV → Option AV
  | .ptr i off => match h[i]? with
    | some (some (.cells _ cs)) => partA C t cs off
    | _ => none
  | .roa _ n f j o => partA C t (f j).cells o
  | _ => none
theorem block_cells {w : World} {b : Nat} {arr : Array Value} {t : TypeId} {fr : Nat × Nat} (hb : w.heap[b]? = some (.cells arr t fr)) (k : Nat) (u : Value) (hu : arr[k]? = some u) : w.cell? ⟨b, k, none⟩ = some u := by
  simp [World.cell?, hb, hu]
theorem loadA_ok {C : Cfg} {w : World} {R : Nat → Prop} {ρ : Nm} {h : AH} (hr : Rel R ρ h w) {t : TypeId} {x av : AV} {v : Value} (hx : VRep w R ρ x v) (hl : loadA C h t x = some av) :
    ∃ u, (Instr.loadAt t v).run C.P w = .ok u w ∧ VRep w R ρ av u := by
  cases x <;> simp only [loadA] at hl <;> try (cases hl; done)
  · rename_i i off
    cases hx with
    | @ptr _ _ b N hn =>
    split at hl
    · rename_i tt cs hi
      obtain ⟨b', N', hn', ⟨arr, hb, hN, hle, hv⟩, _⟩ := hr.live _ _ hi
      rw [hn] at hn'
      simp only [Option.some.injEq, Prod.mk.injEq] at hn'
      obtain ⟨rfl, rfl⟩ := hn'
      have := load_at (b := b) (o0 := 0) (off := off) hv (fun k u hu => by
        rw [List.getElem?_take] at hu
        split at hu
        · rw [Nat.zero_add]; exact block_cells hb k u (by simpa using hu)
        · cases hu) hl
      simpa using this
    · cases hl
  · rename_i sz n f j o
    cases hx with
    | @roa _ _ _ _ _ b off0 u hj hRb hsz hc hv =>
    · have := load_at (C := C) (w := w) (R := R) (ρ := ρ) (b := b) (o0 := off0 + j * sz) (off := o) (cs := (f j).cells) (us := (List.range (f j).cells.length).map (u j)) (t := t) (av := av)
        ⟨by simp, fun k c v hk hv' => by
          have hkl := (List.getElem?_eq_some_iff.1 hk).1
          simp [List.getElem?_map, List.getElem?_range hkl] at hv'
          subst hv'
          exact hv j k c hj hk⟩
        (fun k v hk => by
          have hkl : k < (f j).cells.length := by
            have := (List.getElem?_eq_some_iff.1 hk).1; simpa using this
          simp [List.getElem?_map, List.getElem?_range hkl] at hk
          subst hk
          have := hc j k _ hj (List.getElem?_eq_getElem hkl)
          rwa [Nat.add_assoc]) hl
      rwa [Nat.add_assoc] at this
def bAnd (k : IntKind) (a b : Int) : Int := k.wrap ((BitVec.ofInt k.bits a) &&& (BitVec.ofInt k.bits b)).toNat
def bOr (k : IntKind) (a b : Int) : Int := k.wrap ((BitVec.ofInt k.bits a) ||| (BitVec.ofInt k.bits b)).toNat
def bXor (k : IntKind) (a b : Int) : Int := k.wrap ((BitVec.ofInt k.bits a) ^^^ (BitVec.ofInt k.bits b)).toNat
def bAndNot (k : IntKind) (a b : Int) : Int := k.wrap ((BitVec.ofInt k.bits a) &&& ~~~(BitVec.ofInt k.bits b)).toNat
def intBin (op : BinOp) (k : IntKind) (a b : Int) : Option AV :=
  match op with
  | .add => some (.int k (k.wrap (a + b)))
  | .sub => some (.int k (k.wrap (a - b)))
  | .mul => some (.int k (k.wrap (a * b)))
  | .quo => if b = 0 then none else some (.int k (k.wrap (a.tdiv b)))
  | .rem => if b = 0 then none else some (.int k (a.tmod b))
  | .and => some (.int k (bAnd k a b))
  | .or => some (.int k (bOr k a b))
  | .xor => some (.int k (bXor k a b))
  | .andNot => some (.int k (bAndNot k a b))
  | .eql => some (.bool (a == b))
  | .neq => some (.bool (a != b))
  | .lss => some (.bool (decide (a < b)))
  | .leq => some (.bool (decide (a ≤ b)))
  | .gtr => some (.bool (decide (a > b)))
  | .geq => some (.bool (decide (a ≥ b)))
  | _ => none
def eqFieldsA (C : Cfg) (f : TypeId → AV → AV → Option Bool) (xs ys : List AV) : List (TypeId × Nat) → Option Bool
  | [] => some true
  | (ft, off) :: l => match partA C ft xs off, partA C ft ys off with
    | some a, some b => match f ft a b, eqFieldsA C f xs ys l with
      | some r, some s => some (r && s)
      | _, _ => none
    | _, _ => none
def eqA (C : Cfg) : Nat → TypeId → AV → AV → Option Bool
  | 0, _, _, _ => none
  | d + 1, t, x, y => match C.P.underlying t, x, y with
    | some .bool, .bool a, .bool b => some (a == b)
    | some (.int _), .int k a, .int k' b => if k = k' then some (a == b) else none
    | some .string, .str a, .str b => some (a == b)
    | some (.struct _), .agg xs, .agg ys => match C.eqf t with
      | some l => eqFieldsA C (eqA C d) xs ys l
      | none => none
    | some (.pointer _), .nilp, .nilp => some true
    | some (.pointer _), .nilp, .ptr _ _ | some (.pointer _), .ptr _ _, .nilp => some false
    | some (.slice _), .nils, .nils => some true
    | some (.slice _), .own _ _ _ _, .nils | some (.slice _), .nils, .own _ _ _ _ => some false
    | some (.slice _), .ro _ (_ + 1) _, .nils | some (.slice _), .nils, .ro _ (_ + 1) _ => some false
    | some (.map _ _), .nilm, .nilm => some true
    | some (.map _ _), .map _, .nilm | some (.map _ _), .nilm, .map _ => some false
    | some (.interface _), .nili, .iface _ _ | some (.interface _), .iface _ _, .nili => some false
    | _, _, _ => none
section
variable {C : Cfg} (hC : C.Ok) {w : World} {R : Nat → Prop} {ρ : Nm}
theorem eqFields_ok {d : Nat} {f : TypeId → AV → AV → Option Bool}
    (ih : ∀ t x y r u v, f t x y = some r → VRep w R ρ x u → VRep w R ρ y v → (Op.equalIn d t u v).run C.P w = .ok r w)
    {xs ys : List AV} {us vs : Array Value} (hx : VReps w R ρ xs us.toList) (hy : VReps w R ρ ys vs.toList) :
    ∀ (fs : List Field) (r : Bool), eqFieldsA C f xs ys ((fs.filter (fun f => decide (f.name ≠ "_"))).map (fun f => (f.type, f.offset))) = some r →
      (Op.eqFields d us vs fs).run C.P w = .ok r w := by
  intro fs
  induction fs with
  | nil => intro r h; simp [eqFieldsA] at h; subst h; simp [Op.eqFields]
  | cons g fs ihf =>
    intro r h
    by_cases hg : g.name ≠ "_"
    · simp only [List.filter_cons, hg, ne_eq, not_false_eq_true, decide_true, if_true, List.map_cons, eqFieldsA] at h
      split at h
      · rename_i a b ha hb
        split at h
        · rename_i r1 r2 h1 h2
          injection h with h; subst h
          obtain ⟨u, hu, hru⟩ := part_ok hx ha
          obtain ⟨v, hv, hrv⟩ := part_ok hy hb
          have h3 := ih _ _ _ _ _ _ h1 hru hrv
          have h4 := ihf r2 h2
          simp only [Op.eqFields, hg, ne_eq, not_false_eq_true, if_true, Sem.run_bind, hu, hv, Result.andThen_ok, h3]
          cases r1 <;> simp [h4]
        · cases h
      · cases h
    · have hg' : (decide (g.name ≠ "_")) = false := by simpa using hg
      rw [List.filter_cons, hg'] at h
      simp only [Bool.false_eq_true, if_false] at h
      simp only [Op.eqFields, hg, if_false]
      exact ihf r h
include hC in
theorem eqA_ok : ∀ (d : Nat) (t : TypeId) (x y : AV) (r : Bool) (u v : Value), eqA C d t x y = some r → VRep w R ρ x u → VRep w R ρ y v → (Op.equalIn d t u v).run C.P w = .ok r w := by
  intro d
  induction d with
  | zero => intro t x y r u v h; simp [eqA] at h
  | succ d ih =>
    intro t x y r u v h hx hy
    unfold eqA at h
    split at h
    · rename_i a b hu
      injection h with h; subst h
      cases hx; cases hy
      exact run_equalIn_bool w d t a b hu
    · rename_i k k' a k'' b hu
      split at h
      · rename_i hk
        injection h with h; subst h; subst hk
        cases hx; cases hy
        exact run_equalIn_int w d t _ _ a b hu
      · cases h
    · rename_i a b hu
      injection h with h; subst h
      cases hx; cases hy
      rename_i s1 s2
      rw [run_equalIn_string w d t s1 s2 hu, ByteArray.toList_eq, ByteArray.toList_eq]
    · rename_i fs xs ys hu
      split at h
      · rename_i l hl
        obtain ⟨us, rfl, hus⟩ := hx.agg_inv
        obtain ⟨vs, rfl, hvs⟩ := hy.agg_inv
        obtain ⟨h1, h2, h3, h4⟩ := hC.eq t l hl
        rw [run_equalIn_struct w d t us vs h3 h1]
        rw [← h4] at h
        exact eqFields_ok ih hus hvs _ _ h
      · cases h
    all_goals first | (cases h; done) | skip
    all_goals
      rename_i hu
      injection h with h; subst h
      cases hx; cases hy
      simp [Op.equalIn, run_underlying hu]
end
end Go.DI
set_option linter.unusedVariables false
set_option linter.unusedSimpArgs false
namespace Go.DI
def AV.num : AV → Bool
  | .int _ _ | .str _ | .flt _ _ => true
  | _ => false
def fAr (op : BinOp) (k : FloatKind) (a b : Nat) : Option Nat := match op with
  | .add => k.format.add a b
  | .sub => k.format.sub a b
  | .mul => k.format.mul a b
  | .quo => k.format.div a b
  | _ => none
def fOk (op : BinOp) (k : FloatKind) (a b : Nat) : Bool := (fAr op k a b).isSome
def fVal (op : BinOp) (k : FloatKind) (a b : Nat) : Nat := (fAr op k a b).getD 0
def fEq (k : FloatKind) (a b : Nat) : Bool := k.format.order a b == some .eq
def fNe (k : FloatKind) (a b : Nat) : Bool := k.format.order a b != some .eq
def fLt (k : FloatKind) (a b : Nat) : Bool := k.format.order a b == some .lt
def fLe (k : FloatKind) (a b : Nat) : Bool := k.format.order a b == some .lt || k.format.order a b == some .eq
def fGt (k : FloatKind) (a b : Nat) : Bool := k.format.order a b == some .gt
def fGe (k : FloatKind) (a b : Nat) : Bool := k.format.order a b == some .gt || k.format.order a b == some .eq
def fltBin (op : BinOp) (k : FloatKind) (a b : Nat) : Option AV :=
  match op with
  | .eql => some (.bool (fEq k a b))
  | .neq => some (.bool (fNe k a b))
  | .lss => some (.bool (fLt k a b))
  | .leq => some (.bool (fLe k a b))
  | .gtr => some (.bool (fGt k a b))
  | .geq => some (.bool (fGe k a b))
  | .add | .sub | .mul | .quo => bif fOk op k a b then some (.flt k (fVal op k a b)) else none
  | _ => none
def binA (C : Cfg) (op : BinOp) (t : TypeId) (x y : AV) : Option AV :=
  match op, x, y with
  | .shl, .int k a, .int _ b => if b < 0 then none else some (.int k (k.wrap (a * 2 ^ (min b.toNat k.bits))))
  | .shr, .int k a, .int _ b => if b < 0 then none else some (.int k (a.fdiv (2 ^ (min b.toNat k.bits))))
  | op, .int k a, .int k' b => if k = k' then intBin op k a b else none
  | op, .flt k a, .flt k' b => if k = k' then fltBin op k a b else none
  | .add, .str a, .str b => if a.length + b.length ≤ 4611686018427387904 then some (.str (a ++ b)) else none
  | .eql, .str a, .str b => some (.bool (a == b))
  | .neq, .str a, .str b => some (.bool (!(a == b)))
  | .eql, x, y => if x.num then none else match eqA C 10000 t x y with
    | some r => some (.bool r)
    | none => none
  | .neq, x, y => if x.num then none else match eqA C 10000 t x y with
    | some r => some (.bool !r)
    | none => none
  | _, _, _ => none
section
variable {C : Cfg} {w : World} {R : Nat → Prop} {ρ : Nm}
theorem intBin_ok {op : BinOp} {k : IntKind} {a b : Int} {t : TypeId} {av : AV} (h : intBin op k a b = some av) :
    ∃ u, (binOp op t (.int k a) (.int k b)).run C.P w = .ok u w ∧ VRep w R ρ av u := by
  cases op <;> simp only [intBin] at h <;> (try (cases h; done)) <;> (try (split at h <;> (try (cases h; done)))) <;>
    (injection h with h; subst h; refine ⟨_, ?_, by constructor⟩; simp [binOp, Op.intArith, Op.intCmp, Op.intBits, Op.intDiv, bAnd, bOr, bXor, bAndNot, *])
theorem fltBin_ok {op : BinOp} {k : FloatKind} {a b : Nat} {t : TypeId} {av : AV} (h : fltBin op k a b = some av) :
    ∃ u, (binOp op t (.float k a) (.float k b)).run C.P w = .ok u w ∧ VRep w R ρ av u := by
  have ar : ∀ op, fltBin op k a b = (bif fOk op k a b then some (.flt k (fVal op k a b)) else none) → fltBin op k a b = some av → (∃ r, fAr op k a b = some r ∧ av = .flt k r) := by
    intro op h1 h2
    rw [h1] at h2
    unfold fOk fVal at h2
    cases hr : fAr op k a b with
    | none => rw [hr] at h2; cases h2
    | some r => rw [hr] at h2; exact ⟨r, rfl, by simpa using h2.symm⟩
  cases op
  case eql => injection h with h; subst h; exact ⟨_, by simp [binOp, Op.floatCmp]; rfl, .bool _⟩
  case neq => injection h with h; subst h; exact ⟨_, by simp [binOp, Op.floatCmp]; rfl, .bool _⟩
  case lss => injection h with h; subst h; exact ⟨_, by simp [binOp, Op.floatCmp]; rfl, .bool _⟩
  case leq => injection h with h; subst h; exact ⟨_, by simp [binOp, Op.floatCmp]; rfl, .bool _⟩
  case gtr => injection h with h; subst h; exact ⟨_, by simp [binOp, Op.floatCmp]; rfl, .bool _⟩
  case geq => injection h with h; subst h; exact ⟨_, by simp [binOp, Op.floatCmp]; rfl, .bool _⟩
  case add =>
    obtain ⟨r, h1, rfl⟩ := ar .add rfl h
    have h1 : k.format.add a b = some r := h1
    exact ⟨.float k r, by simp [binOp, Op.floatArith, h1], .flt _ _⟩
  case sub =>
    obtain ⟨r, h1, rfl⟩ := ar .sub rfl h
    have h1 : k.format.sub a b = some r := h1
    exact ⟨.float k r, by simp [binOp, Op.floatArith, h1], .flt _ _⟩
  case mul =>
    obtain ⟨r, h1, rfl⟩ := ar .mul rfl h
    have h1 : k.format.mul a b = some r := h1
    exact ⟨.float k r, by simp [binOp, Op.floatArith, h1], .flt _ _⟩
  case quo =>
    obtain ⟨r, h1, rfl⟩ := ar .quo rfl h
    have h1 : k.format.div a b = some r := h1
    exact ⟨.float k r, by simp [binOp, Op.floatArith, h1], .flt _ _⟩
  all_goals cases h
theorem eqGuard_plain {op : BinOp} {t : TypeId} {x y : Operand} {u v : Value} (h1 : ∀ us, u ≠ .agg us) (h2 : u ≠ .nilIface) : (eqGuard op t x y u v).run C.P w = .ok () w := by
  unfold eqGuard
  cases u <;> first | (exact absurd rfl (h1 _)) | (exact absurd rfl h2) | (cases op <;> simp)
inductive Pairs (C : Cfg) (t : TypeId) : Value → Value → Prop
  | bool (a b) : Pairs C t (.bool a) (.bool b)
  | agg (a b) (h : C.P.eqGuardType C.P.depth t = false) : Pairs C t (.agg a) (.agg b)
  | ptr (a b) : (a = none ∨ b = none) → Pairs C t (.pointer a) (.pointer b)
  | slice (a n c b m d) : Pairs C t (.slice a n c) (.slice b m d)
  | map (a b) : Pairs C t (.map a) (.map b)
  | in1 (ty v) : Pairs C t .nilIface (.iface ty v)
  | in2 (ty v) : Pairs C t (.iface ty v) .nilIface
theorem eqA_pairs (hC : C.Ok) {d : Nat} {t : TypeId} {x y : AV} {r : Bool} {u v : Value} (h : eqA C d t x y = some r) (hn : x.num = false) (hx : VRep w R ρ x u) (hy : VRep w R ρ y v) : Pairs C t u v := by
  cases d with
  | zero => simp [eqA] at h
  | succ d =>
    unfold eqA at h
    split at h <;> (try (cases h; done)) <;> (try (simp [AV.num] at hn; done))
    · cases hx; cases hy; constructor
    · split at h
      · rename_i l hl
        obtain ⟨us, rfl, _⟩ := hx.agg_inv
        obtain ⟨vs, rfl, _⟩ := hy.agg_inv
        exact .agg _ _ (hC.eq t l hl).2.1
      · cases h
    all_goals (cases hx; cases hy; constructor)
    all_goals simp
theorem Pairs.guard {t : TypeId} {op : BinOp} {x y : Operand} {u v : Value} (h : Pairs C t u v) : (eqGuard op t x y u v).run C.P w = .ok () w := by
  cases h with
  | agg a b h => exact run_eqGuard_agg w op t x y a b h
  | in1 ty v => unfold eqGuard; cases op <;> simp
  | bool a b => exact eqGuard_plain (fun us => by simp) (by simp)
  | ptr a b _ => exact eqGuard_plain (fun us => by simp) (by simp)
  | slice a n c b m d => exact eqGuard_plain (fun us => by simp) (by simp)
  | map a b => exact eqGuard_plain (fun us => by simp) (by simp)
  | in2 ty v => exact eqGuard_plain (fun us => by simp) (by simp)
theorem Pairs.eql {t : TypeId} {u v : Value} (h : Pairs C t u v) : binOp .eql t u v = (do pure (.bool (← Op.equal t u v))) := by
  cases h <;> rfl
theorem Pairs.neq {t : TypeId} {u v : Value} (h : Pairs C t u v) : binOp .neq t u v = (do pure (.bool (!(← Op.equal t u v)))) := by
  cases h <;> rfl
theorem binA_ok (hC : C.Ok) {op : BinOp} {t : TypeId} {x y av : AV} {u v : Value} {ox oy : Operand} (h : binA C op t x y = some av) (hx : VRep w R ρ x u) (hy : VRep w R ρ y v) :
    ∃ r, (do eqGuard op t ox oy u v; binOp op t u v).run C.P w = .ok r w ∧ VRep w R ρ av r := by
  unfold binA at h
  split at h
  · -- shl
    cases hx; cases hy
    split at h
    · cases h
    · rename_i hb
      injection h with h; subst h
      refine ⟨_, ?_, .int _ _⟩
      rw [Sem.run_bind, eqGuard_plain (fun _ => by simp) (by simp)]
      simp [binOp, Op.shift, hb]
  · cases hx; cases hy
    split at h
    · cases h
    · rename_i hb
      injection h with h; subst h
      refine ⟨_, ?_, .int _ _⟩
      rw [Sem.run_bind, eqGuard_plain (fun _ => by simp) (by simp)]
      simp [binOp, Op.shift, hb]
  · cases hx; cases hy
    split at h
    · rename_i hk
      subst hk
      obtain ⟨r, hr, hv⟩ := intBin_ok (C := C) (w := w) (R := R) (ρ := ρ) (t := t) h
      refine ⟨r, ?_, hv⟩
      rw [Sem.run_bind, eqGuard_plain (fun _ => by simp) (by simp)]
      exact hr
    · cases h
  · cases hx; cases hy
    split at h
    · rename_i hk
      subst hk
      obtain ⟨r, hr, hv⟩ := fltBin_ok (C := C) (w := w) (R := R) (ρ := ρ) (t := t) h
      refine ⟨r, ?_, hv⟩
      rw [Sem.run_bind, eqGuard_plain (fun _ => by simp) (by simp)]
      exact hr
    · cases h
  · cases hx; cases hy
    rename_i s1 s2
    split at h
    · rename_i hle
      injection h with h; subst h
      have hn : ¬ (((s1.size + s2.size : Nat) : Int) > IntKind.i64.max) := by
        have hm : IntKind.i64.max = 9223372036854775807 := by decide
        rw [hm]
        have e1 : s1.data.toList.length = s1.size := Array.length_toList
        have e2 : s2.data.toList.length = s2.size := Array.length_toList
        omega
      refine ⟨.string (s1 ++ s2), ?_, ?_⟩
      · rw [Sem.run_bind, eqGuard_plain (fun _ => by simp) (by simp)]
        simp only [Result.andThen_ok, binOp, Op.stringOp, hn, if_false, Sem.run_pure]
      · have : s1.data.toList ++ s2.data.toList = (s1 ++ s2).data.toList := by simp [ByteArray.data_append]
        rw [this]; exact .str _
    · cases h
  · cases hx; cases hy
    rename_i s1 s2
    injection h with h; subst h
    refine ⟨_, ?_, .bool _⟩
    rw [Sem.run_bind, eqGuard_plain (fun _ => by simp) (by simp)]
    simp [binOp, Op.stringOp, ByteArray.toList_eq]
  · cases hx; cases hy
    rename_i s1 s2
    injection h with h; subst h
    refine ⟨_, ?_, .bool _⟩
    rw [Sem.run_bind, eqGuard_plain (fun _ => by simp) (by simp)]
    simp [binOp, Op.stringOp, ByteArray.toList_eq]
  · split at h
    · cases h
    · rename_i hn
      split at h
      · rename_i r hr
        injection h with h; subst h
        have he : (Op.equal t u v).run C.P w = .ok r w := eqA_ok hC 10000 t _ _ r u v hr hx hy
        have hp := eqA_pairs hC hr (by simpa using hn) hx hy
        refine ⟨.bool r, ?_, .bool _⟩
        rw [Sem.run_bind, hp.guard, hp.eql]
        simp only [Result.andThen_ok, Sem.run_bind, he, Sem.run_pure]
      · cases h
  · split at h
    · cases h
    · rename_i hn
      split at h
      · rename_i r hr
        injection h with h; subst h
        have he : (Op.equal t u v).run C.P w = .ok r w := eqA_ok hC 10000 t _ _ r u v hr hx hy
        have hp := eqA_pairs hC hr (by simpa using hn) hx hy
        refine ⟨.bool !r, ?_, .bool _⟩
        rw [Sem.run_bind, hp.guard, hp.neq]
        simp only [Result.andThen_ok, Sem.run_bind, he, Sem.run_pure]
      · cases h
  · cases h
end
end Go.DI
set_option linter.unusedVariables false
set_option linter.unusedSimpArgs false
namespace Go.DI
def fNeg (k : FloatKind) (b : Nat) : Nat := Op.negFloat k b
def unA (op : UnOp) : AV → Option AV
  | .flt k b => match op with
    | .neg => some (.flt k (fNeg k b))
    | _ => none
  | .int k n => match op with
    | .neg => some (.int k (k.wrap (0 - n)))
    | .xor => intBin .xor k (if k.signed then -1 else k.max) n
    | _ => none
  | .bool b => match op with
    | .not => some (.bool !b)
    | _ => none
  | _ => none
def bytesA : List AV → Option (List Int)
  | [] => some []
  | .int .u8 n :: r => match bytesA r with
    | some l => some (n :: l)
    | none => none
  | _ :: _ => none
def fInt (s : FloatKind) (b : Nat) : Int := ((s.decode b).toInt .zero).getD 0
def fIntOk (s : FloatKind) (b : Nat) (d : IntKind) : Bool := match (s.decode b).toInt .zero with
  | some n => decide (d.min ≤ n) && decide (n ≤ d.max)
  | none => false
theorem fInt_run {P : Program} {w : World} {s : FloatKind} {b : Nat} {d : IntKind} (h : fIntOk s b d = true) : (Conv.floatToInt s b d).run P w = .ok (.int d (fInt s b)) w := by
  unfold fIntOk at h
  unfold Conv.floatToInt fInt
  split at h
  · rename_i n hn
    simp only [Bool.and_eq_true, decide_eq_true_eq] at h
    simp [hn, h]
  · cases h
def convA (C : Cfg) (h : AH) (src dst : TypeId) (x : AV) : Option AV :=
  match C.P.underlying src, C.P.underlying dst, x with
  | some _, some (.int k), .int _ n => some (.int k (k.wrap n))
  | some _, some .string, .str s => some (.str s)
  | some _, some (.float k), .int _ n => some (.flt k (k.nearest n))
  | some _, some (.float k), .flt s b => if s = k then some (.flt k b) else none
  | some _, some (.int k), .flt s b => bif fIntOk s b k then some (.int k (fInt s b)) else none
  | some (.slice e), some .string, .nils => match C.P.underlying e with
    | some (.int .u8) => some (.str [])
    | _ => none
  | some (.slice e), some .string, .own 1 i off len => match C.P.underlying e, h[i]? with
    | some (.int .u8), some (some (.cells _ cs)) => if off + len ≤ cs.length then (bytesA ((cs.drop off).take len)).map (fun l => .str (l.map fun n => UInt8.ofNat n.toNat)) else none
    | _, _ => none
  | _, _, _ => none
def bndA (lo hi : Option (Option AV)) (len : Nat) : Option (Nat × Nat) :=
  match hi with
  | none => match lo with
    | none => some (0, len)
    | some (some (.int _ l)) => if 0 ≤ l ∧ l ≤ len then some (l.toNat, len) else none
    | _ => none
  | some (some (.int _ h)) => if 0 ≤ h ∧ h ≤ len then (match lo with
    | none => some (0, h.toNat)
    | some (some (.int _ l)) => if 0 ≤ l ∧ l ≤ h then some (l.toNat, h.toNat) else none
    | _ => none) else none
  | _ => none
def sliceA (C : Cfg) (t : TypeId) (x : AV) (lo hi : Option (Option AV)) : Option AV :=
  match C.P.underlying t, x with
  | some .string, .str s => match bndA lo hi s.length with
    | some (l, h) => some (.str ((s.drop l).take (h - l)))
    | none => none
  | some (.slice e), .ro sz n f => match C.P.info? e with
    | some i => if i.size = sz then (match bndA lo hi n with
      | some (l, h) => some (.ro sz (h - l) (fun j => f (l + j)))
      | none => none) else none
    | none => none
  | some (.slice e), .own sz i off len => match C.P.info? e with
    | some ti => if ti.size = sz then (match bndA lo hi len with
      | some (l, h) => if l = h ∧ l ≠ 0 then some (.ro sz 0 (fun _ => .any)) else some (.own sz i (off + l * sz) (h - l))
      | none => none) else none
    | none => none
  | some (.slice e), .nils => match bndA lo hi 0 with
    | some (l, h) => match C.P.info? e with
      | some _ => some .nils
      | none => none
    | none => none
  | _, _ => none
def fieldAddrA (C : Cfg) (s : TypeId) (x : AV) (f : Nat) : Option AV :=
  match C.P.underlying s with
  | some (.struct fields) => match fields[f]? with
    | some fd => match C.P.info? fd.type with
      | some i => if i.size = 0 then none else match x with
        | .ptr j off => some (.ptr j (off + fd.offset))
        | .roa sz n g j o => some (.roa sz n g j (o + fd.offset))
        | _ => none
      | none => none
    | none => none
  | _ => none
def indexAddrA (C : Cfg) (t : TypeId) (x ix : AV) : Option AV :=
  match ix with
  | .int _ i => match C.P.underlying t, x with
    | some (.slice e), .own sz j off len => match C.P.info? e with
      | some ti => if ti.size = sz ∧ 0 ≤ i ∧ i < len then some (.ptr j (off + i.toNat * sz)) else none
      | none => none
    | some (.slice e), .ro sz n f => match C.P.info? e with
      | some ti => if ti.size = sz ∧ 0 ≤ i ∧ i < n then some (.roa sz n f i.toNat 0) else none
      | none => none
    | some (.array n e), .ptr j off => match C.P.info? e with
      | some ti => if 0 ≤ i ∧ i < n then some (.ptr j (off + i.toNat * ti.size)) else none
      | none => none
    | some (.array n e), .roa sz m f j o => match C.P.info? e with
      | some ti => if 0 ≤ i ∧ i < n then some (.roa sz m f j (o + i.toNat * ti.size)) else none
      | none => none
    | _, _ => none
  | _ => none
def indexA (C : Cfg) (t : TypeId) (x ix : AV) : Option AV :=
  match ix with
  | .int _ i => match C.P.underlying t, x with
    | some .string, .str s => if 0 ≤ i then (match s[i.toNat]? with
      | some b => some (.int .u8 b.toNat)
      | none => none) else none
    | some (.array n e), .agg cs => match C.P.info? e with
      | some ti => if 0 ≤ i ∧ i < n then partA C e cs (i.toNat * ti.size) else none
      | none => none
    | _, _ => none
  | _ => none
def fieldA (C : Cfg) (s : TypeId) (x : AV) (f : Nat) : Option AV :=
  match C.P.underlying s, x with
  | some (.struct fields), .agg cs => match fields[f]? with
    | some fd => partA C fd.type cs fd.offset
    | none => none
  | _, _ => none
def sameA : TypeDesc → AV → AV → Option Bool
  | .int _, .int k a, .int k' b => if k = k' then some (a == b) else none
  | .string, .str a, .str b => some (a == b)
  | .bool, .bool a, .bool b => some (a == b)
  | _, _, _ => none
def findA (d : TypeDesc) (k : AV) : List (AV × AV) → Nat → Option (Option (Nat × AV))
  | [], _ => some none
  | e :: es, i => match sameA d k e.1 with
    | some true => some (some (i, e.2))
    | some false => findA d k es (i + 1)
    | none => none
def keyOk : TypeDesc → Bool
  | .int _ | .string | .bool => true
  | _ => false
def zeroA (C : Cfg) (t : TypeId) : Option AV := match C.P.info? t with
  | some i => match i.zero with
    | some z => ofConst z
    | none => none
  | none => none
def mapOf (h : AH) : AV → Option (List (AV × AV))
  | .nilm => some []
  | .map i => match h[i]? with
    | some (some (.map es)) => some es
    | _ => none
  | _ => none
def lookupA (C : Cfg) (h : AH) (t : TypeId) (x k : AV) (ok : Bool) : Option AV :=
  match C.P.underlying t with
  | some (.map kt e) => match C.P.underlying kt with
    | some d => if keyOk d then (match mapOf h x with
      | some es => match findA d k es 0 with
        | some (some (_, v)) => some (if ok then .tup [v, .bool true] else v)
        | some none => match zeroA C e with
          | some z => some (if ok then .tup [z, .bool false] else z)
          | none => none
        | none => none
      | none => none) else none
    | none => none
  | _ => none
def typeAssertA (C : Cfg) (x : AV) (asserted : TypeId) (ok : Bool) : Option AV :=
  match C.P.underlying asserted with
  | some (.interface _) => none
  | some _ => match x with
    | .iface t v => if t = asserted then some (if ok then .tup [v, .bool true] else v)
      else if ok then (zeroA C asserted).map (fun z => .tup [z, .bool false]) else none
    | .nili => if ok then (zeroA C asserted).map (fun z => .tup [z, .bool false]) else none
    | _ => none
  | none => none
def mapO {α β : Type} (f : α → Option β) : List α → Option (List β)
  | [] => some []
  | x :: r => match f x, mapO f r with
    | some y, some l => some (y :: l)
    | _, _ => none
def pureOp (C : Cfg) (h : AH) (ev : Operand → Option AV) : Op → Option AV
  | .move x | .assign x => ev x
  | .pick c a b => match ev c with
    | some (.bool true) => ev a
    | some (.bool false) => ev b
    | _ => none
  | .load t a => match ev a with
    | some x => loadA C h t x
    | none => none
  | .nilCheck x => match ev x with
    | some (.ptr i off) => some (.ptr i off)
    | some (.roa sz n f j o) => some (.roa sz n f j o)
    | some (.func f a b) => some (.func f a b)
    | _ => none
  | .binOp op t x y _ => match ev x, ev y with
    | some a, some b => binA C op t a b
    | _, _ => none
  | .unOp op _ x => match ev x with
    | some a => unA op a
    | none => none
  | .convert src dst x => match ev x with
    | some a => convA C h src dst a
    | none => none
  | .makeInterface t x => match C.P.underlying t, ev x with
    | some (.interface _), _ => none
    | some _, some a => some (.iface t a)
    | _, _ => none
  | .makeFunc (.func f) first caps => match mapO ev first.toList, mapO ev caps.toList with
    | some a, some b => some (.func f a b)
    | _, _ => none
  | .slice t x lo hi none => match ev x with
    | some a => sliceA C t a (lo.map ev) (hi.map ev)
    | none => none
  | .fieldAddr s x f => match ev x with
    | some a => fieldAddrA C s a f
    | none => none
  | .field s x f => match ev x with
    | some a => fieldA C s a f
    | none => none
  | .indexAddr t x ix => match ev x, ev ix with
    | some a, some b => indexAddrA C t a b
    | _, _ => none
  | .index t x ix => match ev x, ev ix with
    | some a, some b => indexA C t a b
    | _, _ => none
  | .lookup t x k ok => match ev x, ev k with
    | some a, some b => lookupA C h t a b ok
    | _, _ => none
  | .typeAssert x _ t ok => match ev x with
    | some a => typeAssertA C a t ok
    | none => none
  | .extract t i => match ev t with
    | some (.tup vs) => vs[i]?
    | _ => none
  | _ => none
section
variable {C : Cfg} {w : World} {R : Nat → Prop} {ρ : Nm} {h : AH}
theorem unA_ok {op : UnOp} {x av : AV} {u : Value} (h : unA op x = some av) (hx : VRep w R ρ x u) : ∃ r, (Op.unary op u).run C.P w = .ok r w ∧ VRep w R ρ av r := by
  unfold unA at h
  split at h
  · cases hx
    split at h
    · injection h with h; subst h
      exact ⟨_, by simp [Op.unary, fNeg], .flt _ _⟩
    · cases h
  · cases hx
    split at h
    · injection h with h; subst h
      exact ⟨_, by simp [Op.unary, Op.intArith], .int _ _⟩
    · simp only [intBin, Option.some.injEq] at h; subst h
      exact ⟨_, by simp [Op.unary, Op.intBits, bXor], .int _ _⟩
    · cases h
  · cases hx
    split at h
    · injection h with h; subst h
      exact ⟨_, by simp [Op.unary], .bool _⟩
    · cases h
  · cases h
theorem bytesA_ok : ∀ {cs : List AV} {l : List Int} {us : List Value}, bytesA cs = some l → VReps w R ρ cs us → us = l.map (Value.int .u8)
  | [], l, us, h, hv => by simp [bytesA] at h; subst h; simp [hv.nil_inv]
  | c :: r, l, us, h, hv => by
    unfold bytesA at h
    split at h
    · rename_i h0; cases h0
    · rename_i n r' heq
      injection heq with h1 h2; subst h1; subst h2
      split at h
      · rename_i l' hl
        injection h with h; subst h
        obtain ⟨u, us', rfl, hu, hus⟩ := hv.cons_inv
        cases hu
        simp [bytesA_ok hl hus]
      · cases h
    · cases h
theorem convA_ok (hr : Rel R ρ h w) {src dst : TypeId} {x av : AV} {u : Value} (hc : convA C h src dst x = some av) (hx : VRep w R ρ x u) : ∃ r, (convert src dst u).run C.P w = .ok r w ∧ VRep w R ρ av r := by
  unfold convA at hc
  split at hc
  · rename_i d k k' n hs hd
    injection hc with hc; subst hc
    cases hx
    exact ⟨_, by simp [convert, run_underlying hs, run_underlying hd, Conv.intToInt], .int _ _⟩
  · rename_i d s hs hd
    injection hc with hc; subst hc
    cases hx
    exact ⟨_, by simp [convert, run_underlying hs, run_underlying hd], .str _⟩
  · rename_i d k k' n hs hd
    injection hc with hc; subst hc
    cases hx
    exact ⟨_, by simp [convert, run_underlying hs, run_underlying hd, Conv.intToFloat], .flt _ _⟩
  · rename_i d k s b hs hd
    split at hc
    · rename_i hsk
      subst hsk
      injection hc with hc; subst hc
      cases hx
      exact ⟨_, by simp [convert, run_underlying hs, run_underlying hd, Conv.floatToFloat], .flt _ _⟩
    · cases hc
  · rename_i d k s b hs hd
    cases hb : fIntOk s b k with
    | false => rw [hb] at hc; cases hc
    | true =>
      rw [hb] at hc
      injection hc with hc; subst hc
      cases hx
      exact ⟨_, by simp [convert, run_underlying hs, run_underlying hd, fInt_run hb], .int _ _⟩
  · rename_i e hs hd
    split at hc
    · rename_i he
      injection hc with hc; subst hc
      cases hx
      exact ⟨_, run_convert_bytes_nil w src e hs he 0 0 dst hd, .str ByteArray.empty⟩
    · cases hc
  · rename_i e i off len hs hd
    split at hc
    · rename_i he hi
      rename_i t cs
      split at hc
      · rename_i hle
        obtain ⟨l, hl, rfl⟩ := Option.map_eq_some_iff.1 hc
        cases hx with
        | @own _ _ _ _ b N cap hn hlc hcN =>
        obtain ⟨b', N', hn', ⟨arr, hb, hN, hlen, hv⟩, _⟩ := hr.live _ _ hi
        rw [hn] at hn'
        simp only [Option.some.injEq, Prod.mk.injEq] at hn'
        obtain ⟨rfl, rfl⟩ := hn'
        have hv2 := (hv.drop off).take len
        have hus := bytesA_ok hl hv2
        have hll : l.length = len := by
          have h1 := hv2.1
          rw [hus] at h1
          simp at h1
          omega
        refine ⟨_, run_convert_bytes_arg w src e hs he b off len cap l hll (fun i hi => ?_) dst hd, ?_⟩
        · have h1 : (l.map (Value.int .u8))[i]? = some (.int .u8 (l.getD i 0)) := by
            simp [List.getElem?_map, List.getD_eq_getElem?_getD, List.getElem?_eq_getElem (show i < l.length by omega)]
          rw [← hus, List.getElem?_take, if_pos hi, List.getElem?_drop, List.getElem?_take] at h1
          split at h1
          · exact block_cells hb _ _ (by simpa using h1)
          · cases h1
        · have := VRep.str (w := w) (R := R) (ρ := ρ) (strOfNums l)
          rw [strOfNums_data] at this
          exact this
      · cases hc
    · cases hc
  · cases hc
theorem bnd_run (isSlice : Bool) {lo hi : Option (Option AV)} {vlo vhi : Option Value} {len cap l hh : Nat} (hb : bndA lo hi len = some (l, hh)) (hle : len ≤ cap)
    (hlo : ∀ a, lo = some (some a) → ∃ v, vlo = some v ∧ VRep w R ρ a v) (hhi : ∀ a, hi = some (some a) → ∃ v, vhi = some v ∧ VRep w R ρ a v) (hlo0 : lo = none → vlo = none) (hhi0 : hi = none → vhi = none) :
    (Instr.sliceBounds isSlice len cap vlo vhi none).run C.P w = .ok (l, hh, cap) w ∧ l ≤ hh ∧ hh ≤ len := by
  unfold bndA at hb
  split at hb
  · obtain rfl := hhi0 rfl
    split at hb
    · obtain rfl := hlo0 rfl
      simp only [Option.some.injEq, Prod.mk.injEq] at hb; obtain ⟨rfl, rfl⟩ := hb
      exact ⟨by simp [Instr.sliceBounds], by omega, by omega⟩
    · rename_i k l0
      obtain ⟨v, rfl, hv⟩ := hlo _ rfl
      cases hv
      split at hb
      · rename_i hl
        simp only [Option.some.injEq, Prod.mk.injEq] at hb; obtain ⟨rfl, rfl⟩ := hb
        exact ⟨by simp [Instr.sliceBounds, Instr.sliceBound, asIntOf, hl], by omega, by omega⟩
      · cases hb
    · cases hb
  · rename_i k h0
    obtain ⟨vh, rfl, hvh⟩ := hhi _ rfl
    cases hvh
    split at hb
    · rename_i hh0
      have hh1 : 0 ≤ h0 ∧ h0 ≤ (cap : Int) := by omega
      have e0 : (h0.toNat : Int) = h0 := Int.toNat_of_nonneg hh0.1
      split at hb
      · obtain rfl := hlo0 rfl
        simp only [Option.some.injEq, Prod.mk.injEq] at hb; obtain ⟨rfl, rfl⟩ := hb
        exact ⟨by simp [Instr.sliceBounds, Instr.sliceBound, asIntOf, hh1], by omega, by omega⟩
      · rename_i k' l0
        obtain ⟨v, rfl, hv⟩ := hlo _ rfl
        cases hv
        split at hb
        · rename_i hl
          have hl1 : 0 ≤ l0 ∧ l0 ≤ ((h0.toNat : Nat) : Int) := by omega
          simp only [Option.some.injEq, Prod.mk.injEq] at hb; obtain ⟨rfl, rfl⟩ := hb
          refine ⟨?_, by omega, by omega⟩
          simp only [Instr.sliceBounds, Instr.sliceBound, asIntOf, Sem.run_bind, Sem.run_pure, Result.andThen_ok, Sem.run_ite]
          rw [if_pos hh1]
          simp only [Result.andThen_ok]
          rw [if_pos hl1]
          rfl
        · cases hb
      · cases hb
    · cases hb
  · cases hb
end
end Go.DI
set_option linter.unusedVariables false
set_option linter.unusedSimpArgs false
namespace Go.DI
section
variable {C : Cfg} {w : World} {R : Nat → Prop} {ρ : Nm} {h : AH}
theorem str_cut (s : ByteArray) (l hh : Nat) : VRep w R ρ (.str ((s.data.toList.drop l).take (hh - l))) (.string (s.extract l hh)) := by
  rw [← Lib.extract_data]; exact .str _
theorem sliceA_ok {t : TypeId} {x av : AV} {u : Value} {lo hi : Option (Option AV)} {vlo vhi : Option Value} (hs : sliceA C t x lo hi = some av) (hx : VRep w R ρ x u)
    (hlo : ∀ a, lo = some (some a) → ∃ v, vlo = some v ∧ VRep w R ρ a v) (hhi : ∀ a, hi = some (some a) → ∃ v, vhi = some v ∧ VRep w R ρ a v) (hlo0 : lo = none → vlo = none) (hhi0 : hi = none → vhi = none) :
    ∃ r, (Instr.sliceAt t u vlo vhi none).run C.P w = .ok r w ∧ VRep w R ρ av r := by
  unfold sliceA at hs
  split at hs
  · rename_i s ht
    cases hx with
    | str s =>
    split at hs
    · rename_i l hh hb
      injection hs with hs; subst hs
      have hl : s.data.toList.length = s.size := Array.length_toList
      rw [hl] at hb
      obtain ⟨h1, _, _⟩ := bnd_run (C := C) false hb (Nat.le_refl _) hlo hhi hlo0 hhi0
      exact ⟨_, by simp [Instr.sliceAt, Instr.slice, run_underlying ht, h1], str_cut s l hh⟩
    · cases hs
  · rename_i e sz n f ht
    split at hs
    · rename_i ti hi'
      split at hs
      · rename_i hsz
        subst hsz
        split at hs
        · rename_i l hh hb
          injection hs with hs; subst hs
          cases hx with
          | ronil _ _ a cap =>
            obtain ⟨h1, h2, h3⟩ := bnd_run (C := C) true hb (Nat.zero_le cap) hlo hhi hlo0 hhi0
            have hl0 : l = 0 := by omega
            have hh0 : hh = 0 := by omega
            subst hl0; subst hh0
            refine ⟨_, by simp [Instr.sliceAt, Instr.slice, run_underlying ht, h1, sizeOf_run hi']; rfl, ?_⟩
            exact .ronil _ _ _ _
          | @ro _ _ _ b off0 cap v hR hl hz hc hv =>
            obtain ⟨h1, h2, h3⟩ := bnd_run (C := C) true hb hl hlo hhi hlo0 hhi0
            refine ⟨_, by simp [Instr.sliceAt, Instr.slice, run_underlying ht, h1, sizeOf_run hi']; rfl, ?_⟩
            by_cases he : hh - l = 0
            · rw [he]
              exact .ronil _ _ _ _
            · have hne : ¬ (cap = l) := by omega
              rw [if_neg hne]
              have := VRep.ro (w := w) (R := R) (ρ := ρ) (sz := ti.size) (n := hh - l) (f := fun j => f (l + j)) (b := b) (off0 := off0 + l * ti.size) (cap := cap - l) (fun j o => v (l + j) o) hR (by omega)
                (fun j hj => hz (l + j) (by omega))
                (fun j o c hj ho => by
                  have := hc (l + j) o c (by omega) ho
                  rw [← this]
                  congr 2
                  rw [Nat.add_mul]; omega)
                (fun j o c hj ho => hv (l + j) o c (by omega) ho)
              simpa [Addr.add_mid] using this
        · cases hs
      · cases hs
    · cases hs
  · rename_i e sz i off len ht
    split at hs
    · rename_i ti hi'
      split at hs
      · rename_i hsz
        subst hsz
        split at hs
        · rename_i l hh hb
          cases hx with
          | @own _ _ _ _ b N cap hn hlc hcN =>
          obtain ⟨h1, h2, h3⟩ := bnd_run (C := C) true hb hlc hlo hhi hlo0 hhi0
          refine ⟨_, by simp [Instr.sliceAt, Instr.slice, run_underlying ht, h1, sizeOf_run hi']; rfl, ?_⟩
          split at hs
          · rename_i hc
            injection hs with hs; subst hs
            rw [show hh - l = 0 from by omega]
            exact .ronil _ _ _ _
          · rename_i hc
            injection hs with hs; subst hs
            have hm : off + l * ti.size + (cap - l) * ti.size ≤ N.n := by
              have : l * ti.size + (cap - l) * ti.size = cap * ti.size := by rw [← Nat.add_mul]; congr 1; omega
              omega
            by_cases hcl : cap = l
            · have hl0 : l = 0 := by omega
              subst hl0
              rw [if_pos hcl]
              simp
              have : hh = 0 := by omega
              subst this
              exact .own hn (by omega) (by omega)
            · rw [if_neg hcl]
              simp only [Option.map_some, Addr.add_mid]
              exact .own hn (by omega) hm
        · cases hs
      · cases hs
    · cases hs
  · rename_i e ht
    split at hs
    · rename_i l hh hb
      split at hs
      · rename_i ti hi'
        injection hs with hs; subst hs
        cases hx
        obtain ⟨h1, h2, h3⟩ := bnd_run (C := C) true hb (Nat.le_refl 0) hlo hhi hlo0 hhi0
        have hl0 : l = 0 := by omega
        have hh0 : hh = 0 := by omega
        subst hl0; subst hh0
        refine ⟨_, by simp [Instr.sliceAt, Instr.slice, run_underlying ht, h1, sizeOf_run hi']; rfl, ?_⟩
        exact .nils
      · cases hs
    · cases hs
  · cases hs
theorem fieldAddrA_ok {s : TypeId} {x av : AV} {f : Nat} {u : Value} (hf : fieldAddrA C s x f = some av) (hx : VRep w R ρ x u) : ∃ r, (Instr.fieldAt s u f).run C.P w = .ok r w ∧ VRep w R ρ av r := by
  unfold fieldAddrA at hf
  split at hf
  · rename_i fields hs
    split at hf
    · rename_i fd hfd
      split at hf
      · rename_i ti hi
        split at hf
        · cases hf
        · rename_i hsz
          split at hf
          · rename_i j off
            injection hf with hf; subst hf
            cases hx with
            | @ptr _ _ b N hn =>
            refine ⟨.pointer (some ⟨b, off + fd.offset, none⟩), ?_, .ptr hn⟩
            simp [Instr.fieldAt, run_underlying hs, hfd, Instr.sureAddr, fieldPlace, sizeOf_run hi, hsz, Addr.add_mid]
          · rename_i sz n g j o
            injection hf with hf; subst hf
            cases hx with
            | @roa _ _ _ _ _ b off0 v hj hR hz hc hv =>
            refine ⟨.pointer (some ⟨b, off0 + (j * sz + (o + fd.offset)), none⟩), ?_, .roa v hj hR hz hc hv⟩
            simp [Instr.fieldAt, run_underlying hs, hfd, Instr.sureAddr, fieldPlace, sizeOf_run hi, hsz, Addr.add_mid, Nat.add_assoc]
          · cases hf
      · cases hf
    · cases hf
  · cases hf
theorem indexAddrA_ok {t : TypeId} {x ix av : AV} {u v : Value} (hf : indexAddrA C t x ix = some av) (hx : VRep w R ρ x u) (hi : VRep w R ρ ix v) : ∃ r, (Instr.indexAt t u v).run C.P w = .ok r w ∧ VRep w R ρ av r := by
  unfold indexAddrA at hf
  split at hf
  · rename_i k i
    cases hi
    split at hf
    · rename_i e sz j off len ht
      split at hf
      · rename_i ti hti
        split at hf
        · rename_i hc
          obtain ⟨rfl, hc⟩ := hc
          injection hf with hf; subst hf
          cases hx with
          | @own _ _ _ _ b N cap hn hlc hcN =>
          exact ⟨.pointer (some ⟨b, off + i.toNat * ti.size, none⟩), by simp [Instr.indexAt, run_underlying ht, asIntOf, hc, sizeOf_run hti, Addr.add_mid], .ptr hn⟩
        · cases hf
      · cases hf
    · rename_i e sz n f ht
      split at hf
      · rename_i ti hti
        split at hf
        · rename_i hc
          obtain ⟨rfl, hc⟩ := hc
          injection hf with hf; subst hf
          cases hx with
          | ronil _ _ a cap => omega
          | @ro _ _ _ b off0 cap v hR hl hz hcc hv =>
          refine ⟨.pointer (some ⟨b, off0 + (i.toNat * ti.size + 0), none⟩), by simp [Instr.indexAt, run_underlying ht, asIntOf, hc, sizeOf_run hti, Addr.add_mid], .roa v (by omega) hR hz hcc hv⟩
        · cases hf
      · cases hf
    · rename_i n e j off ht
      split at hf
      · rename_i ti hti
        split at hf
        · rename_i hc
          injection hf with hf; subst hf
          cases hx with
          | @ptr _ _ b N hn =>
          exact ⟨.pointer (some ⟨b, off + i.toNat * ti.size, none⟩), by simp [Instr.indexAt, run_underlying ht, asIntOf, hc, sizeOf_run hti, Addr.add_mid, Instr.sureAddr], .ptr hn⟩
        · cases hf
      · cases hf
    · rename_i n e sz m f j o ht
      split at hf
      · rename_i ti hti
        split at hf
        · rename_i hc
          injection hf with hf; subst hf
          cases hx with
          | @roa _ _ _ _ _ b off0 v hj hR hz hcc hv =>
          refine ⟨.pointer (some ⟨b, off0 + (j * sz + (o + i.toNat * ti.size)), none⟩), ?_, .roa v (by omega) hR hz hcc hv⟩
          simp [Instr.indexAt, run_underlying ht, asIntOf, hc, sizeOf_run hti, Addr.add_mid, Instr.sureAddr, Nat.add_assoc]
        · cases hf
      · cases hf
    · cases hf
  · cases hf
theorem indexA_ok {t : TypeId} {x ix av : AV} {u v : Value} (hf : indexA C t x ix = some av) (hx : VRep w R ρ x u) (hi : VRep w R ρ ix v) : ∃ r, (Instr.index t u v).run C.P w = .ok r w ∧ VRep w R ρ av r := by
  unfold indexA at hf
  split at hf
  · rename_i k i
    cases hi
    split at hf
    · rename_i s ht
      cases hx with
      | str s =>
      split at hf
      · rename_i h0
        split at hf
        · rename_i b hb
          injection hf with hf; subst hf
          have hb' : s[i.toNat]? = some b := by
            obtain ⟨hlt, hb⟩ := List.getElem?_eq_some_iff.1 hb
            have hlt' : i.toNat < s.size := by rw [Array.length_toList] at hlt; exact hlt
            rw [getElem?_pos s i.toNat hlt']
            exact congrArg some hb
          exact ⟨_, by simp [Instr.index, run_underlying ht, asIntOf, h0, hb'], .int _ _⟩
        · cases hf
      · cases hf
    · rename_i n e cs ht
      obtain ⟨us, rfl, hus⟩ := hx.agg_inv
      split at hf
      · rename_i ti hti
        split at hf
        · rename_i hc
          obtain ⟨r, hr, hv⟩ := part_ok hus hf
          exact ⟨r, by simp [Instr.index, run_underlying ht, asIntOf, hc, sizeOf_run hti, hr], hv⟩
        · cases hf
      · cases hf
    · cases hf
  · cases hf
theorem fieldA_ok {s : TypeId} {x av : AV} {f : Nat} {u : Value} (hf : fieldA C s x f = some av) (hx : VRep w R ρ x u) : ∃ r, (Instr.field s u f).run C.P w = .ok r w ∧ VRep w R ρ av r := by
  unfold fieldA at hf
  split at hf
  · rename_i fields cs hs
    obtain ⟨us, rfl, hus⟩ := hx.agg_inv
    split at hf
    · rename_i fd hfd
      obtain ⟨r, hr, hv⟩ := part_ok hus hf
      exact ⟨r, by simp [Instr.field, run_underlying hs, hfd, asAgg, hr], hv⟩
    · cases hf
  · cases hf
theorem sameA_ok {d : TypeDesc} {x y : AV} {r : Bool} {u v : Value} (hs : sameA d x y = some r) (hx : VRep w R ρ x u) (hy : VRep w R ρ y v) : Instr.sameNow d u v = some r := by
  unfold sameA at hs
  split at hs
  · split at hs
    · rename_i hk
      injection hs with hs; subst hs; subst hk
      cases hx; cases hy
      simp [Instr.sameNow]
    · cases hs
  · injection hs with hs; subst hs
    cases hx; cases hy
    simp [Instr.sameNow, beq_toListBytes, ByteArray.toList_eq]
  · injection hs with hs; subst hs
    cases hx; cases hy
    simp [Instr.sameNow]
  · cases hs
theorem findA_ok {d : TypeDesc} {k : AV} {u : Value} (hk : VRep w R ρ k u) : ∀ {es : List (AV × AV)} {i : Nat} {r : Option (Nat × AV)} {us : List MapEntry}, findA d k es i = some r →
    VReps w R ρ (es.map (·.1)) (us.map (·.key)) → VReps w R ρ (es.map (·.2)) (us.map (·.val)) →
    (r = none ∧ Instr.findNow d u us i = some none) ∨ ∃ n a v, r = some (n, a) ∧ i ≤ n ∧ n < i + us.length ∧ Instr.findNow d u us i = some (some (n, v)) ∧ VRep w R ρ a v ∧ es[n - i]?.map (·.2) = some a ∧
      ∃ e, us[n - i]? = some e ∧ e.val = v ∧ Instr.sameNow d u e.key = some true
  | [], i, r, us, hf, h1, h2 => by
    simp [findA] at hf; subst hf
    have : us = [] := by simpa using h1.nil_inv
    subst this
    exact .inl ⟨rfl, rfl⟩
  | e :: es, i, r, us, hf, h1, h2 => by
    cases us with
    | nil => have := h1.1; simp at this
    | cons m us =>
      simp only [List.map_cons] at h1 h2
      obtain ⟨_, _, heq1, hk1, hk2⟩ := h1.cons_inv
      obtain ⟨_, _, heq2, hv1, hv2⟩ := h2.cons_inv
      simp only [List.cons.injEq] at heq1 heq2
      obtain ⟨rfl, rfl⟩ := heq1
      obtain ⟨rfl, rfl⟩ := heq2
      unfold findA at hf
      split at hf
      · rename_i hs
        injection hf with hf; subst hf
        have := sameA_ok hs hk hk1
        exact .inr ⟨i, e.2, m.val, rfl, Nat.le_refl _, by simp, by simp [Instr.findNow, this], hv1, by simp, m, by simp, rfl, this⟩
      · rename_i hs
        have := sameA_ok hs hk hk1
        rcases findA_ok hk hf hk2 hv2 with ⟨rfl, h3⟩ | ⟨n, a, v, rfl, h3, h4, h5, h6, h7, e', h8, h9, h10⟩
        · exact .inl ⟨rfl, by simp [Instr.findNow, this, h3]⟩
        · refine .inr ⟨n, a, v, rfl, by omega, by simp; omega, by simp [Instr.findNow, this, h5], h6, ?_, e', ?_, h9, h10⟩
          · rw [show n - i = (n - (i + 1)) + 1 from by omega, List.getElem?_cons_succ]; exact h7
          · rw [show n - i = (n - (i + 1)) + 1 from by omega, List.getElem?_cons_succ]; exact h8
      · cases hf
theorem checkKey_run {P : Program} {b : Bool} {n : Nat} {t : TypeId} {d : TypeDesc} (v : Value) (ht : P.underlying t = some d) (hd : keyOk d = true) (w : World) : (Instr.checkKey b (n + 1) t v).run P w = .ok () w := by
  unfold Instr.checkKey
  rw [Sem.run_bind, run_underlying ht]
  cases d <;> simp [keyOk] at hd <;> simp
theorem zeroA_ok {t : TypeId} {av : AV} (hz : zeroA C t = some av) : ∃ z, (∀ w', (zeroValue t).run C.P w' = .ok z w') ∧ ∀ w' R ρ, VRep w' R ρ av z := by
  unfold zeroA at hz
  split at hz
  · rename_i ti hi
    split at hz
    · rename_i z hz'
      exact ⟨z, fun w' => zeroValue_run hi hz' w', fun w' R ρ => ofConst_ok hz⟩
    · cases hz
  · cases hz
def MapIs (w : World) (u : Value) (us : Array MapEntry) : Prop := (u = .map none ∧ us = #[]) ∨ ∃ b clock, u = .map (some b) ∧ w.heap[b]? = some (.map us clock)
theorem lookup_found {t kt e : TypeId} {d : TypeDesc} {u v x : Value} {us : Array MapEntry} {n : Nat} {ok : Bool} (ht : C.P.underlying t = some (.map kt e)) (hd : C.P.underlying kt = some d) (hko : keyOk d = true)
    (hu : MapIs w u us) (hf : Instr.findNow d v us.toList 0 = some (some (n, x))) : (Instr.lookup t u v ok).run C.P w = .ok (if ok then .tuple #[x, .bool true] else x) w := by
  have hck : (Instr.checkKey us.isEmpty 10000 kt v).run C.P w = .ok () w := checkKey_run (n := 9999) v hd hko w
  rcases hu with ⟨rfl, rfl⟩ | ⟨b, clock, rfl, hb⟩
  · simp [Instr.findNow] at hf
  · unfold Instr.lookup
    simp only [Sem.run_bind, run_underlying ht, Result.andThen_ok, getObj, Sem.run, hb, Sem.run_pure, hck, Instr.findKey, run_underlying hd, hf]
theorem lookup_none {t kt e : TypeId} {d : TypeDesc} {u v z : Value} {us : Array MapEntry} {ok : Bool} (ht : C.P.underlying t = some (.map kt e)) (hd : C.P.underlying kt = some d) (hko : keyOk d = true)
    (hu : MapIs w u us) (hf : Instr.findNow d v us.toList 0 = some none) (hz : (zeroValue e).run C.P w = .ok z w) : (Instr.lookup t u v ok).run C.P w = .ok (if ok then .tuple #[z, .bool false] else z) w := by
  have hck : (Instr.checkKey us.isEmpty 10000 kt v).run C.P w = .ok () w := checkKey_run (n := 9999) v hd hko w
  rcases hu with ⟨rfl, rfl⟩ | ⟨b, clock, rfl, hb⟩
  · have hck : (Instr.checkKey true 10000 kt v).run C.P w = .ok () w := checkKey_run (n := 9999) v hd hko w
    unfold Instr.lookup
    simp [run_underlying ht, hck, Instr.findKey, run_underlying hd, hf, hz]
  · unfold Instr.lookup
    simp only [Sem.run_bind, run_underlying ht, Result.andThen_ok, getObj, Sem.run, hb, Sem.run_pure, hck, Instr.findKey, run_underlying hd, hf, hz]
theorem map_is (hr : Rel R ρ h w) {x : AV} {u : Value} {es : List (AV × AV)} (hx : VRep w R ρ x u) (hes : mapOf h x = some es) :
    ∃ us : Array MapEntry, MapIs w u us ∧ VReps w R ρ (es.map (·.1)) (us.toList.map (·.key)) ∧ VReps w R ρ (es.map (·.2)) (us.toList.map (·.val)) := by
  unfold mapOf at hes
  split at hes
  · cases hx
    injection hes with hes; subst hes
    exact ⟨#[], .inl ⟨rfl, rfl⟩, .nil, .nil⟩
  · rename_i i
    split at hes
    · rename_i es' hi
      injection hes with hes; subst hes
      cases hx with
      | @map _ b N hn =>
      obtain ⟨b', N', hn', ⟨arr, clock, hb, h1, h2⟩, _⟩ := hr.live _ _ hi
      rw [hn] at hn'
      simp only [Option.some.injEq, Prod.mk.injEq] at hn'
      obtain ⟨rfl, rfl⟩ := hn'
      exact ⟨arr, .inr ⟨b, clock, rfl, hb⟩, h1, h2⟩
    · cases hes
  · cases hes
theorem lookupA_ok (hr : Rel R ρ h w) {t : TypeId} {x k av : AV} {ok : Bool} {u v : Value} (hl : lookupA C h t x k ok = some av) (hx : VRep w R ρ x u) (hk : VRep w R ρ k v) :
    ∃ r, (Instr.lookup t u v ok).run C.P w = .ok r w ∧ VRep w R ρ av r := by
  unfold lookupA at hl
  split at hl
  · rename_i kt e ht
    split at hl
    · rename_i d hd
      split at hl
      · rename_i hko
        split at hl
        · rename_i es hes
          obtain ⟨us, hus, h1, h2⟩ := map_is hr hx hes
          split at hl
          · rename_i n a hf
            injection hl with hl; subst hl
            rcases findA_ok hk hf h1 h2 with ⟨h3, _⟩ | ⟨n', a', v', h3, _, _, h5, h6, _⟩
            · cases h3
            · simp only [Option.some.injEq, Prod.mk.injEq] at h3
              obtain ⟨rfl, rfl⟩ := h3
              refine ⟨_, lookup_found ht hd hko hus h5, ?_⟩
              cases ok
              · simpa using h6
              · exact .tup' (.cons h6 (.cons (.bool _) .nil))
          · rename_i hf
            split at hl
            · rename_i z hz
              injection hl with hl; subst hl
              obtain ⟨z', hz1, hz2⟩ := zeroA_ok hz
              rcases findA_ok hk hf h1 h2 with ⟨_, h5⟩ | ⟨n', a', v', h3, _⟩
              · refine ⟨_, lookup_none ht hd hko hus h5 (hz1 w), ?_⟩
                cases ok
                · simpa using hz2 w R ρ
                · exact .tup' (.cons (hz2 w R ρ) (.cons (.bool _) .nil))
              · cases h3
            · cases hl
          · cases hl
        · cases hl
      · cases hl
    · cases hl
  · cases hl
theorem mapO_ok {ev : Operand → Option AV} {f : Operand → Value} (hev : ∀ x av, ev x = some av → VRep w R ρ av (f x)) : ∀ {xs : List Operand} {l : List AV}, mapO ev xs = some l → VReps w R ρ l (xs.map f)
  | [], l, h => by simp [mapO] at h; subst h; exact .nil
  | x :: r, l, h => by
    simp only [mapO] at h
    split at h
    · rename_i y l' hy hl
      injection h with h; subst h
      exact .cons (hev _ _ hy) (mapO_ok hev hl)
    · cases h
theorem typeAssertA_ok {x av : AV} {t xt : TypeId} {ok : Bool} {u : Value} (hl : typeAssertA C x t ok = some av) (hx : VRep w R ρ x u) : ∃ r, (Instr.typeAssert u xt t ok).run C.P w = .ok r w ∧ VRep w R ρ av r := by
  unfold typeAssertA at hl
  split at hl
  · cases hl
  · rename_i d hni ht
    have hni' : ∀ ms, d ≠ .interface ms := fun ms h => hni ms h
    split at hl
    · rename_i t' v
      cases hx with
      | iface hv =>
      split at hl
      · rename_i heq
        injection hl with hl; subst hl; subst heq
        rename_i u'
        refine ⟨if ok then .tuple #[u', .bool true] else u', ?_, ?_⟩
        · unfold Instr.typeAssert
          simp only [Sem.run_bind, run_underlying ht, Result.andThen_ok]
          cases d <;> first | (exact absurd rfl (hni' _)) | simp
        · cases ok
          · simpa using hv
          · exact .tup' (.cons hv (.cons (.bool _) .nil))
      · rename_i hne
        split at hl
        · rename_i hok
          obtain ⟨z, hz, rfl⟩ := Option.map_eq_some_iff.1 hl
          obtain ⟨z', hz1, hz2⟩ := zeroA_ok hz
          refine ⟨.tuple #[z', .bool false], ?_, .tup' (.cons (hz2 _ _ _) (.cons (.bool _) .nil))⟩
          unfold Instr.typeAssert
          simp only [Sem.run_bind, run_underlying ht, Result.andThen_ok]
          cases d <;> first | (exact absurd rfl (hni' _)) | simp [hne, hok, hz1]
        · cases hl
    · cases hx
      split at hl
      · rename_i hok
        obtain ⟨z, hz, rfl⟩ := Option.map_eq_some_iff.1 hl
        obtain ⟨z', hz1, hz2⟩ := zeroA_ok hz
        refine ⟨.tuple #[z', .bool false], ?_, .tup' (.cons (hz2 _ _ _) (.cons (.bool _) .nil))⟩
        unfold Instr.typeAssert
        simp only [Sem.run_bind, run_underlying ht, Result.andThen_ok]
        cases d <;> first | (exact absurd rfl (hni' _)) | simp [hok, hz1]
      · cases hl
    · cases hl
  · cases hl
theorem pureOp_ok (hC : C.Ok) (hr : Rel R ρ h w) {ev : Operand → Option AV} {a : Act} (hev : ∀ x av, ev x = some av → VRep w R ρ av (a.eval x)) {o : Oper} {av : AV} (hp : pureOp C h ev o.op = some av) :
    ∃ u, (execOp a.eval o).run C.P w = .ok (.value u) w ∧ VRep w R ρ av u := by
  have lift : ∀ (s : Sem Value), (∃ r, s.run C.P w = .ok r w ∧ VRep w R ρ av r) → ∃ u, (do pure (.value (← s)) : Sem Next).run C.P w = .ok (.value u) w ∧ VRep w R ρ av u := by
    rintro s ⟨r, h1, h2⟩
    exact ⟨r, by rw [Sem.run_bind, h1]; rfl, h2⟩
  obtain ⟨dst, op, type, pos, after, guard⟩ := o
  cases op <;> simp only [pureOp] at hp <;> (try (cases hp; done)) <;> simp only [execOp]
  case move x => exact ⟨_, rfl, hev _ _ hp⟩
  case assign x => exact ⟨_, rfl, hev _ _ hp⟩
  case pick c x y =>
    split at hp
    · rename_i hc
      have := hev _ _ hc
      generalize a.eval c = cv at this
      cases this
      exact ⟨_, by simp [asBool], hev _ _ hp⟩
    · rename_i hc
      have := hev _ _ hc
      generalize a.eval c = cv at this
      cases this
      exact ⟨_, by simp [asBool], hev _ _ hp⟩
    · cases hp
  case load t x =>
    split at hp
    · rename_i y hy
      exact lift _ (loadA_ok hr (hev _ _ hy) hp)
    · cases hp
  case nilCheck x =>
    split at hp
    · rename_i i off hy
      have := hev _ _ hy
      generalize a.eval x = v at this
      injection hp with hp; subst hp
      cases this with
      | ptr hn => exact ⟨_, rfl, .ptr hn⟩
    · rename_i sz n f j o hy
      have := hev _ _ hy
      generalize a.eval x = v at this
      injection hp with hp; subst hp
      cases this with
      | roa u hj hR hsz hc hv => exact ⟨_, rfl, .roa u hj hR hsz hc hv⟩
    · rename_i f fa fb hy
      have := hev _ _ hy
      generalize a.eval x = v at this
      injection hp with hp; subst hp
      cases this with
      | func vf vc h1 h2 h3 h4 => exact ⟨_, rfl, .func vf vc h1 h2 h3 h4⟩
    · cases hp
  case binOp op t x y ty =>
    split at hp
    · rename_i c d hc hd
      exact lift _ (binA_ok hC hp (hev _ _ hc) (hev _ _ hd))
    · cases hp
  case unOp op t x =>
    split at hp
    · rename_i c hc
      exact lift _ (unA_ok hp (hev _ _ hc))
    · cases hp
  case convert src dst x =>
    split at hp
    · rename_i c hc
      exact lift _ (convA_ok hr hp (hev _ _ hc))
    · cases hp
  case makeInterface t x =>
    split at hp
    · cases hp
    · rename_i d c hni hd hc
      injection hp with hp; subst hp
      refine lift _ ⟨.iface t (a.eval x), ?_, .iface (hev _ _ hc)⟩
      unfold Instr.makeInterface
      rw [Sem.run_bind, run_underlying hd]
      cases d <;> first | (exact absurd rfl (hni _)) | simp
    · cases hp
  case makeFunc fn first caps =>
    cases fn <;> simp only at hp <;> (try (cases hp; done))
    split at hp
    · rename_i x y hx hy
      injection hp with hp; subst hp
      have h1 := mapO_ok hev hx
      have h2 := mapO_ok hev hy
      refine lift _ ⟨.func _ (first.map a.eval) (caps.map a.eval), rfl, .func _ _ (by have := h1.1; simpa using this) (by have := h2.1; simpa using this)
        (fun k c u hc hu => h1.2 k c u hc (by simpa using hu)) (fun k c u hc hu => h2.2 k c u hc (by simpa using hu))⟩
    · cases hp
  case slice t x lo hi mx =>
    cases mx <;> simp only at hp <;> (try (cases hp; done))
    split at hp
    · rename_i c hc
      refine lift _ (sliceA_ok hp (hev _ _ hc) ?_ ?_ ?_ ?_)
      · intro b hb
        obtain ⟨x, rfl, hx⟩ := Option.map_eq_some_iff.1 hb
        exact ⟨_, rfl, hev _ _ hx⟩
      · intro b hb
        obtain ⟨x, rfl, hx⟩ := Option.map_eq_some_iff.1 hb
        exact ⟨_, rfl, hev _ _ hx⟩
      · intro hb
        rw [Option.map_eq_none_iff] at hb; rw [hb]; rfl
      · intro hb
        rw [Option.map_eq_none_iff] at hb; rw [hb]; rfl
    · cases hp
  case fieldAddr s x f =>
    split at hp
    · rename_i c hc
      exact lift _ (fieldAddrA_ok hp (hev _ _ hc))
    · cases hp
  case field s x f =>
    split at hp
    · rename_i c hc
      exact lift _ (fieldA_ok hp (hev _ _ hc))
    · cases hp
  case indexAddr t x ix =>
    split at hp
    · rename_i c d hc hd
      exact lift _ (indexAddrA_ok hp (hev _ _ hc) (hev _ _ hd))
    · cases hp
  case index t x ix =>
    split at hp
    · rename_i c d hc hd
      exact lift _ (indexA_ok hp (hev _ _ hc) (hev _ _ hd))
    · cases hp
  case lookup t x k ok =>
    split at hp
    · rename_i c d hc hd
      exact lift _ (lookupA_ok hr hp (hev _ _ hc) (hev _ _ hd))
    · cases hp
  case typeAssert x xt t ok =>
    split at hp
    · rename_i c hc
      exact lift _ (typeAssertA_ok hp (hev _ _ hc))
    · cases hp
  case extract t i =>
    split at hp
    · rename_i vs hc
      obtain ⟨us, hu, hus⟩ := (hev _ _ hc).tup_inv
      obtain ⟨r, hr', hv⟩ := hus.get hp
      refine lift _ ⟨r, ?_, hv⟩
      have : us[i]? = some r := by simpa using hr'
      simp [hu, Instr.extract, this]
    · cases hp
end
end Go.DI
set_option linter.unusedVariables false
set_option linter.unusedSimpArgs false
namespace Go.DI
theorem heap_alloc_old (w : World) (o : Obj) (k : Nat) (h : k < w.heap.size) : (w.alloc o).heap[k]? = w.heap[k]? := by
  show (w.heap.push o)[k]? = _
  rw [Array.getElem?_push, if_neg (by omega)]
theorem heap_setCell_other (w : World) (a : Addr) (u : Value) (k : Nat) (h : k ≠ a.block) : (w.setCell a u).heap[k]? = w.heap[k]? := by
  simp [World.setCell, Array.getElem?_modify, Ne.symm h]
def Nm.upd (ρ : Nm) (i : Nat) (bn : Nat × BN) : Nm := fun j => if j = i then some bn else ρ j
theorem Nm.le_upd {ρ : Nm} {i : Nat} {bn : Nat × BN} (h : ρ i = none) : ρ.le (ρ.upd i bn) := fun j b hj => by
  unfold Nm.upd
  split
  · rename_i he; subst he; rw [h] at hj; cases hj
  · exact hj
theorem Nm.upd_self (ρ : Nm) (i : Nat) (bn : Nat × BN) : ρ.upd i bn i = some bn := by simp [Nm.upd]
theorem Nm.upd_ne {ρ : Nm} {i j : Nat} {bn : Nat × BN} (h : j ≠ i) : ρ.upd i bn j = ρ j := by simp [Nm.upd, h]
section
variable {w w' : World} {R : Nat → Prop} {ρ ρ' : Nm} {h : AH}
theorem BRep.mono {R' R0 : Nat → Prop} {b : Nat} {N : BN} {blk : ABlk} (hb : BRep w R ρ b N blk) (hre : Real R0 b N blk) (hw : N.gh = false → w'.heap[b]? = w.heap[b]?) (hR : ∀ k, R k → w'.heap[k]? = w.heap[k]?) (hRR : ∀ k, R k → R' k) (hρ : ρ.le ρ') : BRep w' R' ρ' b N blk := by
  cases blk with
  | cells t cs =>
    obtain ⟨arr, h1, h2, h3, h4⟩ := hb
    exact ⟨arr, (hw hre.cells.1).trans h1, h2, h3, h4.mono hR hRR hρ⟩
  | map es =>
    obtain ⟨arr, clock, h1, h2, h3⟩ := hb
    exact ⟨arr, clock, (hw hre.map.1).trans h1, h2.mono hR hRR hρ, h3.mono hR hRR hρ⟩
  | tmap kt vt m =>
    obtain ⟨arr, clock, h1, h2, h3⟩ := hb
    exact ⟨arr, clock, (hw hre.tmap.1).trans h1, h2.mono hR hRR hρ, h3.mono hR hRR hρ⟩
  | row t ty l =>
    obtain ⟨h3, hb⟩ := hb
    refine ⟨h3, fun hg => ?_⟩
    obtain ⟨arr, h1, h2, h4, h5⟩ := hb hg
    exact ⟨arr, (hw hg).trans h1, h2, h4, fun j o c hj hc => by
      obtain ⟨u, hu, hv⟩ := h5 j o c hj hc
      exact ⟨u, hu, hv.mono hR hRR hρ⟩⟩
theorem BRep.lt {b : Nat} {N : BN} {blk : ABlk} (hb : BRep w R ρ b N blk) (hg : N.gh = false) : b < w.heap.size := by
  cases blk with
  | cells t cs => obtain ⟨arr, h1, _⟩ := hb; exact (Array.getElem?_eq_some_iff.1 h1).1
  | map es => obtain ⟨arr, clock, h1, _⟩ := hb; exact (Array.getElem?_eq_some_iff.1 h1).1
  | tmap kt vt m => obtain ⟨arr, clock, h1, _⟩ := hb; exact (Array.getElem?_eq_some_iff.1 h1).1
  | row t ty l => obtain ⟨arr, h1, _⟩ := hb.2 hg; exact (Array.getElem?_eq_some_iff.1 h1).1
theorem Rel.lv_lt (hr : Rel R ρ h w) {b : Nat} (hl : Lv ρ h b) : b < w.heap.size := by
  obtain ⟨i, blk, N, hi, hn, hg⟩ := hl
  obtain ⟨b', N', hn', hb, _⟩ := hr.live i blk hi
  rw [hn] at hn'
  simp only [Option.some.injEq, Prod.mk.injEq] at hn'
  obtain ⟨rfl, rfl⟩ := hn'
  exact hb.lt hg
theorem Rel.ne_new (hr : Rel R ρ h w) : ∀ k, R k → k ≠ w.heap.size := fun k hk e => by have := hr.ro k hk; omega
theorem frozen_block {w w' : World} {a : Addr} (h : w'.heap[a.block]? = w.heap[a.block]?) : w'.frozen? a = w.frozen? a := by
  unfold World.frozen?
  rw [h]
theorem rel_drew (hr : Rel R ρ h w) : Rel R ρ h w.drew ∧ Frm R ρ h w R ρ h w.drew :=
  ⟨⟨fun i blk hi => by
      obtain ⟨b, N, h1, h2, h3⟩ := hr.live i blk hi
      exact ⟨b, N, h1, h2.mono h3 (fun _ => rfl) (fun _ _ => rfl) (fun _ h => h) (Nm.le_refl _), h3⟩, hr.inj, hr.dom, hr.ro⟩,
    ⟨rfl, rfl, rfl, Nat.le_refl _, Nm.le_refl _, fun _ h => h, fun _ _ _ => rfl, fun _ h => .inl h, fun _ h => .inl h, Nat.le_refl _, fun _ _ h => h, (by first | exact Nat.le_refl _ | exact Nat.le_succ _)⟩⟩
theorem rel_push (hr : Rel R ρ h w) (o : Obj) (N : BN) (blk : ABlk) (hb : ∀ ρ', ρ.le ρ' → BRep (w.alloc o) R ρ' w.heap.size N blk) (hgN : N.gh = false := by rfl) :
    Rel R (ρ.upd h.length (w.heap.size, N)) (h ++ [some blk]) (w.alloc o) ∧ Frm R ρ h w R (ρ.upd h.length (w.heap.size, N)) (h ++ [some blk]) (w.alloc o) := by
  have hle := Nm.le_upd (bn := (w.heap.size, N)) (hr.dom h.length (Nat.le_refl _))
  have hold : ∀ k, k < w.heap.size → (w.alloc o).heap[k]? = w.heap[k]? := fun k hk => heap_alloc_old w o k hk
  have hsplit : ∀ (i : Nat) (blk' : ABlk), (h ++ [some blk])[i]? = some (some blk') → (i < h.length ∧ h[i]? = some (some blk')) ∨ (i = h.length ∧ blk' = blk) := by
    intro i blk' hi
    rw [List.getElem?_append] at hi
    split at hi
    · rename_i hlt; exact .inl ⟨hlt, hi⟩
    · rename_i hge
      have : i - h.length = 0 := by
        have := (List.getElem?_eq_some_iff.1 hi).1; simp at this; omega
      rw [this] at hi
      simp at hi
      exact .inr ⟨by omega, hi.symm⟩
  refine ⟨⟨fun i blk' hi => ?_, fun i j bi bj b Ni Nj hi hj hni hnj hgi hgj => ?_, fun i hi => ?_, fun b hR => ?_⟩, ⟨rfl, rfl, rfl, by simp, hle, fun _ h => h, fun b hb _ => hold b hb, fun b hl => ?_, fun _ h => .inl h, by simp, fun x hx hn => by rw [Nm.upd_ne (by omega)]; exact hn, (by first | exact Nat.le_refl _ | exact Nat.le_succ _)⟩⟩
  · rcases hsplit i blk' hi with ⟨hlt, hi⟩ | ⟨rfl, rfl⟩
    · obtain ⟨b, N', h1, h2, h3⟩ := hr.live i blk' hi
      exact ⟨b, N', hle _ _ h1, h2.mono h3 (fun hg => hold b (h2.lt hg)) (fun k hk => hold k (hr.ro k hk)) (fun _ h => h) hle, h3⟩
    · exact ⟨w.heap.size, N, Nm.upd_self _ _ _, hb _ hle, .inl ⟨hgN, fun hR => hr.ne_new _ hR rfl⟩⟩
  · rcases hsplit i bi hi with ⟨hlt, hi⟩ | ⟨rfl, he1⟩ <;> rcases hsplit j bj hj with ⟨hlt', hj⟩ | ⟨rfl, he2⟩
    · rw [Nm.upd_ne (by omega)] at hni hnj
      exact hr.inj i j bi bj b Ni Nj hi hj hni hnj hgi hgj
    · rw [Nm.upd_self] at hnj
      rw [Nm.upd_ne (by omega)] at hni
      simp only [Option.some.injEq, Prod.mk.injEq] at hnj
      have := hr.lv_lt ⟨i, bi, Ni, hi, hni, hgi⟩
      omega
    · rw [Nm.upd_self] at hni
      rw [Nm.upd_ne (by omega)] at hnj
      simp only [Option.some.injEq, Prod.mk.injEq] at hni
      have := hr.lv_lt ⟨j, bj, Nj, hj, hnj, hgj⟩
      omega
    · rfl
  · rw [List.length_append, List.length_singleton] at hi
    rw [Nm.upd_ne (by omega)]
    exact hr.dom i (by omega)
  · rw [World.size_alloc]; exact Nat.lt_succ_of_lt (hr.ro b hR)
  · obtain ⟨i, blk', N', hi, hn, hg⟩ := hl
    rcases hsplit i blk' hi with ⟨hlt, hi⟩ | ⟨rfl, rfl⟩
    · rw [Nm.upd_ne (by omega)] at hn
      exact .inl ⟨i, blk', N', hi, hn, hg⟩
    · rw [Nm.upd_self] at hn
      simp only [Option.some.injEq, Prod.mk.injEq] at hn
      exact .inr (by omega)
theorem rel_upd (hr : Rel R ρ h w) {i : Nat} {blk0 : ABlk} {b : Nat} {N : BN} (hi : h[i]? = some (some blk0)) (hn : ρ i = some (b, N)) (blk : ABlk)
    (hos : w'.os = w.os) (ht : w'.tape = w.tape) (ho : w'.output = w.output) (hs : w'.heap.size = w.heap.size) (hkeep : ∀ k, k ≠ b → w'.heap[k]? = w.heap[k]?) (hb : BRep w' R ρ b N blk) (hg : N.gh = false) (hdr : w.drawn ≤ w'.drawn) :
    Rel R ρ (h.set i (some blk)) w' ∧ Frm R ρ h w R ρ (h.set i (some blk)) w' := by
  have hil : i < h.length := (List.getElem?_eq_some_iff.1 hi).1
  have hlb : Lv ρ h b := ⟨i, blk0, N, hi, hn, hg⟩
  have hRb : ∀ k, R k → k ≠ b := fun k hk e => hr.notLive hk (e ▸ hlb)
  have hsplit : ∀ (j : Nat) (blk' : ABlk), (h.set i (some blk))[j]? = some (some blk') → (j = i ∧ blk' = blk) ∨ (j ≠ i ∧ h[j]? = some (some blk')) := by
    intro j blk' hj
    rw [List.getElem?_set] at hj
    split at hj
    · rename_i he; subst he
      simp [hil] at hj
      exact .inl ⟨rfl, hj.symm⟩
    · rename_i he; exact .inr ⟨fun e => he e.symm, hj⟩
  refine ⟨⟨fun j blk' hj => ?_, fun j k bj bk c Nj Nk hj hk hnj hnk hgj hgk => ?_, fun j hj => hr.dom j (by simpa using hj), fun c hR => by rw [hs]; exact hr.ro c hR⟩,
    ⟨hos, ht, ho, Nat.le_of_eq hs.symm, Nm.le_refl _, fun _ h => h, fun c _ hl => hkeep c (fun e => hl (e ▸ hlb)), fun c hl => ?_, fun _ h => .inl h, by simp, fun _ _ h => h, hdr⟩⟩
  · rcases hsplit j blk' hj with ⟨rfl, rfl⟩ | ⟨hne, hj⟩
    · exact ⟨b, N, hn, hb, .inl ⟨hg, fun hR => hRb b hR rfl⟩⟩
    · obtain ⟨c, N', h1, h2, h3⟩ := hr.live j blk' hj
      have hcb : N'.gh = false → c ≠ b := fun hg' e => hne (hr.inj j i blk' blk0 b N' N hj hi (e ▸ h1) hn hg' hg)
      exact ⟨c, N', h1, h2.mono h3 (fun hg' => hkeep c (hcb hg')) (fun k hk => hkeep k (hRb k hk)) (fun _ h => h) (Nm.le_refl _), h3⟩
  · have e1 : ∃ x, h[j]? = some (some x) := by
      rcases hsplit j bj hj with ⟨rfl, rfl⟩ | ⟨_, hj⟩
      · exact ⟨_, hi⟩
      · exact ⟨_, hj⟩
    have e2 : ∃ x, h[k]? = some (some x) := by
      rcases hsplit k bk hk with ⟨rfl, rfl⟩ | ⟨_, hk⟩
      · exact ⟨_, hi⟩
      · exact ⟨_, hk⟩
    obtain ⟨x, hx⟩ := e1
    obtain ⟨y, hy⟩ := e2
    exact hr.inj j k x y c Nj Nk hx hy hnj hnk hgj hgk
  · obtain ⟨j, blk', N', hj, hn', hg'⟩ := hl
    rcases hsplit j blk' hj with ⟨rfl, rfl⟩ | ⟨_, hj⟩
    · exact .inl ⟨j, blk0, N', hi, hn', hg'⟩
    · exact .inl ⟨j, blk', N', hj, hn', hg'⟩
theorem rel_kill (hr : Rel R ρ h w) (i : Nat) : Rel R ρ (h.set i none) w ∧ Frm R ρ h w R ρ (h.set i none) w := by
  have hsub : ∀ (j : Nat) (blk : ABlk), (h.set i none)[j]? = some (some blk) → h[j]? = some (some blk) := by
    intro j blk hj
    rw [List.getElem?_set] at hj
    split at hj
    · split at hj <;> simp at hj
    · exact hj
  refine ⟨⟨fun j blk hj => hr.live j blk (hsub j blk hj), fun j k bj bk c Nj Nk hj hk => hr.inj j k bj bk c Nj Nk (hsub _ _ hj) (hsub _ _ hk), fun j hj => hr.dom j (by simpa using hj), hr.ro⟩,
    ⟨rfl, rfl, rfl, Nat.le_refl _, Nm.le_refl _, fun _ h => h, fun _ _ _ => rfl, fun c hl => ?_, fun _ h => .inl h, by simp, fun _ _ h => h, (by first | exact Nat.le_refl _ | exact Nat.le_succ _)⟩⟩
  obtain ⟨j, blk, N, hj, hn, hg⟩ := hl
  exact .inl ⟨j, blk, N, hsub j blk hj, hn, hg⟩
theorem rel_name (hr : Rel R ρ h w) {b : Nat} {N : BN} (blk : ABlk) (hb : BRep w R ρ b N blk) (hnl : N.gh = false → ¬ Lv ρ h b) (hre : Real R b N blk) :
    Rel R (ρ.upd h.length (b, N)) (h ++ [some blk]) w := by
  have hle := Nm.le_upd (bn := (b, N)) (hr.dom h.length (Nat.le_refl _))
  have hsplit : ∀ (i : Nat) (blk' : ABlk), (h ++ [some blk])[i]? = some (some blk') → (i < h.length ∧ h[i]? = some (some blk')) ∨ (i = h.length ∧ blk' = blk) := by
    intro i blk' hi
    rw [List.getElem?_append] at hi
    split at hi
    · rename_i hlt; exact .inl ⟨hlt, hi⟩
    · rename_i hge
      have : i - h.length = 0 := by
        have := (List.getElem?_eq_some_iff.1 hi).1; simp at this; omega
      rw [this] at hi
      simp at hi
      exact .inr ⟨by omega, hi.symm⟩
  refine ⟨fun i blk' hi => ?_, fun i j bi bj c Ni Nj hi hj hni hnj hgi hgj => ?_, fun i hi => ?_, hr.ro⟩
  · rcases hsplit i blk' hi with ⟨hlt, hi⟩ | ⟨rfl, rfl⟩
    · obtain ⟨c, N', h1, h2, h3⟩ := hr.live i blk' hi
      exact ⟨c, N', hle _ _ h1, h2.mono h3 (fun _ => rfl) (fun _ _ => rfl) (fun _ h => h) hle, h3⟩
    · exact ⟨b, N, Nm.upd_self _ _ _, hb.mono hre (fun _ => rfl) (fun _ _ => rfl) (fun _ h => h) hle, hre⟩
  · rcases hsplit i bi hi with ⟨hlt, hi⟩ | ⟨rfl, he1⟩ <;> rcases hsplit j bj hj with ⟨hlt', hj⟩ | ⟨rfl, he2⟩
    · rw [Nm.upd_ne (by omega)] at hni hnj
      exact hr.inj i j bi bj c Ni Nj hi hj hni hnj hgi hgj
    · rw [Nm.upd_self] at hnj
      rw [Nm.upd_ne (by omega)] at hni
      simp only [Option.some.injEq, Prod.mk.injEq] at hnj
      exact absurd ⟨i, bi, Ni, hi, hnj.1 ▸ hni, hgi⟩ (hnl (by rw [hnj.2]; exact hgj))
    · rw [Nm.upd_self] at hni
      rw [Nm.upd_ne (by omega)] at hnj
      simp only [Option.some.injEq, Prod.mk.injEq] at hni
      exact absurd ⟨j, bj, Nj, hj, hni.1 ▸ hnj, hgj⟩ (hnl (by rw [hni.2]; exact hgi))
    · rfl
  · rw [List.length_append, List.length_singleton] at hi
    rw [Nm.upd_ne (by omega)]
    exact hr.dom i (by omega)
theorem heap_setCells {b : Nat} {t : TypeId} {fr : Nat × Nat} : ∀ (vs : List Value) (o : Nat) (w : World) (arr : Array Value), w.heap[b]? = some (.cells arr t fr) → o + vs.length ≤ arr.size →
    ∃ arr', (w.setCells b o vs).heap[b]? = some (.cells arr' t fr) ∧ arr'.toList = arr.toList.take o ++ vs ++ arr.toList.drop (o + vs.length)
  | [], o, w, arr, hb, hl => ⟨arr, hb, by simp⟩
  | v :: r, o, w, arr, hb, hl => by
    have hbl : b < w.heap.size := (Array.getElem?_eq_some_iff.1 hb).1
    have hb' : (w.setCell ⟨b, o, none⟩ v).heap[b]? = some (.cells (arr.setIfInBounds o v) t fr) := by
      simp [World.setCell, Array.getElem?_modify, hb]
    obtain ⟨arr', h1, h2⟩ := heap_setCells r (o + 1) _ _ hb' (by simp at hl ⊢; omega)
    refine ⟨arr', h1, ?_⟩
    rw [h2]
    simp at hl
    have hol : o < arr.toList.length := by simp; omega
    rw [Array.toList_setIfInBounds, List.take_set, List.drop_set]
    rw [if_pos (show o < o + 1 + r.length from by omega)]
    simp only [List.length_cons]
    rw [show o + 1 + r.length = o + (r.length + 1) from by omega]
    congr 1
    rw [List.take_add_one, List.getElem?_eq_getElem hol]
    simp only [Option.toList_some]
    rw [List.set_append]
    have hlt : (arr.toList.take o).length = o := by rw [List.length_take]; omega
    rw [if_neg (by omega), hlt]
    simp
theorem setCells_keep {b : Nat} (vs : List Value) (o : Nat) (w : World) (k : Nat) (hk : k ≠ b) : (w.setCells b o vs).heap[k]? = w.heap[k]? := by
  induction vs generalizing o w with
  | nil => rfl
  | cons v r ih => rw [World.setCells, ih]; exact heap_setCell_other w _ v k hk
theorem setCells_size {b : Nat} (vs : List Value) (o : Nat) (w : World) : (w.setCells b o vs).heap.size = w.heap.size ∧ (w.setCells b o vs).os = w.os ∧ (w.setCells b o vs).tape = w.tape ∧ (w.setCells b o vs).output = w.output := by
  induction vs generalizing o w with
  | nil => exact ⟨rfl, rfl, rfl, rfl⟩
  | cons v r ih =>
    rw [World.setCells]
    obtain ⟨h1, h2, h3, h4⟩ := ih (o + 1) (w.setCell ⟨b, o, none⟩ v)
    exact ⟨h1.trans (by simp [World.setCell]), h2, h3, h4⟩
theorem setCells_drawn {b : Nat} (vs : List Value) (o : Nat) (w : World) : (w.setCells b o vs).drawn = w.drawn := by
  induction vs generalizing o w with
  | nil => rfl
  | cons v r ih => rw [World.setCells, ih]; rfl
theorem block_there {b : Nat} {arr : Array Value} {t : TypeId} (hb : w.heap[b]? = some (.cells arr t (0, 0))) (o n : Nat) (h : o + n ≤ arr.size) : w.there b o n := fun j hj => by
  constructor
  · simp [World.cell?, hb, show o + j < arr.size from by omega]
  · simp [World.frozen?, hb]
theorem BRep_store {b : Nat} {N : BN} {t : TypeId} {cs ds : List AV} {us : List Value} {o : Nat} (hb : BRep w R ρ b N (.cells t cs)) (hd : VReps w R ρ ds us) (ho : o + ds.length ≤ cs.length) (hRb : ¬ R b) :
    BRep (w.setCells b o us) R ρ b N (.cells t (cs.take o ++ ds ++ cs.drop (o + ds.length))) := by
  obtain ⟨arr, h1, h2, h3, h4⟩ := hb
  have hul := hd.1
  obtain ⟨arr', h5, h6⟩ := heap_setCells us o w arr h1 (by omega)
  have hR : ∀ k, R k → (w.setCells b o us).heap[k]? = w.heap[k]? := fun k hk => setCells_keep us o w k (fun e => hRb (e ▸ hk))
  have hlen : (cs.take o ++ ds ++ cs.drop (o + ds.length)).length = cs.length := by simp; omega
  have hal : arr.toList.length = N.n := by simpa using h2
  refine ⟨arr', h5, ?_, by rw [hlen]; exact h3, ?_⟩
  · rw [← Array.length_toList, h6]; simp; omega
  · rw [hlen, h6]
    have e1 : (arr.toList.take o ++ us ++ arr.toList.drop (o + us.length)).take cs.length = (arr.toList.take cs.length).take o ++ us ++ (arr.toList.take cs.length).drop (o + us.length) := by
      rw [List.take_append, List.take_append, List.take_take, List.take_take, List.drop_take]
      have : (arr.toList.take o).length = o := by simp; omega
      rw [this, List.take_of_length_le (show us.length ≤ cs.length - o by omega)]
      have e2 : min cs.length o = o := by omega
      have e3 : min o cs.length = o := by omega
      rw [e2, e3]
      congr 2
      simp [this]
    rw [e1, ← hul]
    exact ((h4.take o).append hd).append (h4.drop _) |>.mono hR (fun _ h => h) (Nm.le_refl _)
end
end Go.DI
set_option linter.unusedVariables false
set_option linter.unusedSimpArgs false
namespace Go.DI
def AV.known : AV → Bool
  | .agg _ => true
  | v => v.one
theorem known_cells {w : World} {R : Nat → Prop} {ρ : Nm} {av : AV} {v : Value} (h : VRep w R ρ av v) (hk : av.known = true) : VReps w R ρ av.cells v.cells.toList := by
  refine h.cells ?_
  cases av <;> first | (exact .inr ⟨_, rfl⟩) | (exact .inl (by simpa [AV.known] using hk))
def fillA (place : Nat → Option (Nat × Nat)) (cs : List AV) : List (Nat × Option AV) → Option (List AV)
  | [] => some cs
  | (i, some v) :: r => match place i with
    | some (off, sz) => if v.known ∧ v.cells.length = sz ∧ off + sz ≤ cs.length then fillA place (cs.take off ++ v.cells ++ cs.drop (off + sz)) r else none
    | none => none
  | (_, none) :: _ => none
theorem foldl_cells (off : Nat) : ∀ (l : List Value) (k : Nat) (cs : Array Value), off + k + l.length ≤ cs.size →
    ((l.zipIdx k).foldl (fun (cs : Array Value) (p : Value × Nat) => cs.setIfInBounds (off + p.2) p.1) cs).toList = cs.toList.take (off + k) ++ l ++ cs.toList.drop (off + k + l.length)
  | [], k, cs, h => by simp
  | v :: r, k, cs, h => by
    simp only [List.length_cons] at h
    rw [List.zipIdx_cons, List.foldl_cons, foldl_cells off r (k + 1) _ (by simp; omega)]
    have hol : off + k < cs.toList.length := by simp; omega
    rw [Array.toList_setIfInBounds, List.take_set, List.drop_set]
    rw [if_pos (show off + k < off + (k + 1) + r.length from by omega)]
    simp only [List.length_cons]
    rw [show off + (k + 1) + r.length = off + k + (r.length + 1) from by omega, show off + (k + 1) = off + k + 1 from by omega]
    congr 1
    rw [List.take_add_one, List.getElem?_eq_getElem hol]
    simp only [Option.toList_some]
    rw [List.set_append]
    have hlt : (cs.toList.take (off + k)).length = off + k := by rw [List.length_take]; omega
    rw [if_neg (by omega), hlt]
    simp
section
variable {C : Cfg} {w : World} {R : Nat → Prop} {ρ : Nm} {h : AH}
theorem fillA_ok {pa : Nat → Option (Nat × Nat)} {pv : Nat → Option (Nat × Nat)} (hp : ∀ i x, pa i = some x → pv i = some x) {f : Operand → Value} {ev : Operand → Option AV} (hev : ∀ x av, ev x = some av → VRep w R ρ av (f x)) :
    ∀ {ps : List (Nat × Operand)} {cs r : List AV} {us : Array Value}, fillA pa cs (ps.map fun p => (p.1, ev p.2)) = some r → VReps w R ρ cs us.toList →
      ∃ out, Instr.fill pv us (ps.map fun p => (p.1, f p.2)) = some out ∧ VReps w R ρ r out.toList
  | [], cs, r, us, hf, hv => by
    simp [fillA] at hf; subst hf
    exact ⟨us, rfl, hv⟩
  | (i, x) :: ps, cs, r, us, hf, hv => by
    simp only [List.map_cons] at hf ⊢
    cases hx : ev x with
    | none => rw [hx] at hf; simp [fillA] at hf
    | some v =>
    rw [hx] at hf
    simp only [fillA] at hf
    split at hf
    · rename_i off sz hpi
      split at hf
      · rename_i hc
        obtain ⟨hk, hl, hle⟩ := hc
        have hvc := known_cells (hev _ _ hx) hk
        have hlen : us.toList.length = cs.length := hv.1
        have hsz : (f x).cells.size = sz := by have := hvc.1; simp at this; omega
        have hus : us.size = cs.length := by simpa using hlen
        have hv2 : VReps w R ρ (cs.take off ++ v.cells ++ cs.drop (off + sz)) (((f x).cells.zipIdx.foldl (fun cs (p : Value × Nat) => cs.setIfInBounds (off + p.2) p.1) us).toList) := by
          rw [← Array.foldl_toList, Array.toList_zipIdx, foldl_cells off _ 0 us (by simp; omega)]
          simp only [Nat.add_zero, Array.length_toList]
          rw [hsz]
          exact ((hv.take off).append hvc).append (hv.drop _)
        obtain ⟨out, h1, h2⟩ := fillA_ok hp hev hf hv2
        refine ⟨out, ?_, h2⟩
        simp only [Instr.fill, hp _ _ hpi]
        rw [if_neg (by rw [hsz]; simp; omega)]
        exact h1
      · cases hf
    · cases hf
def placesA (C : Cfg) : List Field → Option (List (Nat × Nat))
  | [] => some []
  | f :: r => match C.P.info? f.type, placesA C r with
    | some i, some l => some ((f.offset, i.size) :: l)
    | _, _ => none
theorem placesA_run : ∀ {fs : List Field} {l : List (Nat × Nat)}, placesA C fs = some l → ∀ w : World, (fs.mapM fun f => (do pure (f.offset, ← sizeOf f.type) : Sem (Nat × Nat))).run C.P w = .ok l w
  | [], l, hl, w => by simp [placesA] at hl; subst hl; simp
  | f :: r, l, hl, w => by
    simp only [placesA] at hl
    split at hl
    · rename_i i l' hi hl'
      injection hl with hl; subst hl
      simp only [List.mapM_cons, Sem.run_bind, sizeOf_run hi, Result.andThen_ok, Sem.run_pure]
      rw [placesA_run hl' w]
      rfl
    · cases hl
def buildA (C : Cfg) (ev : Operand → Option AV) (t : TypeId) (parts : List (Nat × Operand)) : Option AV :=
  match C.P.underlying t, zeroA C t with
  | some (.struct fields), some z => if z.known then (match placesA C fields.toList with
    | some l => (fillA (l[·]?) z.cells (parts.map fun p => (p.1, ev p.2))).map .agg
    | none => none) else none
  | some (.array _ e), some z => if z.known then (match C.P.info? e with
    | some i => (fillA (fun k => some (k * i.size, i.size)) z.cells (parts.map fun p => (p.1, ev p.2))).map .agg
    | none => none) else none
  | _, _ => none
theorem buildA_ok {f : Operand → Value} {ev : Operand → Option AV} (hev : ∀ x av, ev x = some av → VRep w R ρ av (f x)) {t : TypeId} {parts : Array (Nat × Operand)} {av : AV} (hb : buildA C ev t parts.toList = some av) :
    ∃ u, (Instr.build t (parts.map fun p => (p.1, f p.2))).run C.P w = .ok u w ∧ VRep w R ρ av u := by
  unfold buildA at hb
  split at hb
  · rename_i fields z ht hz
    obtain ⟨z', hz1, hz2⟩ := zeroA_ok hz
    split at hb
    · rename_i hk
      split at hb
      · rename_i l hl
        obtain ⟨r, hr, rfl⟩ := Option.map_eq_some_iff.1 hb
        obtain ⟨out, h1, h2⟩ := fillA_ok (pv := (l.toArray[·]?)) (fun i x hx => by simpa using hx) hev hr (known_cells (hz2 w R ρ) hk)
        refine ⟨.agg out, ?_, .agg' h2⟩
        have hm : (fields.mapM fun f => (do pure (f.offset, ← sizeOf f.type) : Sem (Nat × Nat))).run C.P w = .ok l.toArray w := by
          rw [Array.mapM_eq_mapM_toList, Sem.run_map, placesA_run hl w]; rfl
        simp only [Instr.build, Sem.run_bind, hz1, Result.andThen_ok, run_underlying ht, hm, Array.toList_map, h1, Sem.run_pure]
      · cases hb
    · cases hb
  · rename_i n e z ht hz
    obtain ⟨z', hz1, hz2⟩ := zeroA_ok hz
    split at hb
    · rename_i hk
      split at hb
      · rename_i ti hi
        obtain ⟨r, hr, rfl⟩ := Option.map_eq_some_iff.1 hb
        obtain ⟨out, h1, h2⟩ := fillA_ok (pv := fun k => some (k * ti.size, ti.size)) (fun i x hx => hx) hev hr (known_cells (hz2 w R ρ) hk)
        refine ⟨.agg out, ?_, .agg' h2⟩
        simp only [Instr.build, Sem.run_bind, hz1, Result.andThen_ok, run_underlying ht, sizeOf_run hi, Array.toList_map, h1, Sem.run_pure]
      · cases hb
    · cases hb
  · cases hb
def Post (C : Cfg) (R : Nat → Prop) (ρ : Nm) (h : AH) (w : World) (s : Sem Value) (av : AV) (h' : AH) : Prop :=
  ∃ R' ρ' u w', s.run C.P w = .ok u w' ∧ VRep w' R' ρ' av u ∧ Rel R' ρ' h' w' ∧ Frm R ρ h w R' ρ' h' w'
def PostU (C : Cfg) (R : Nat → Prop) (ρ : Nm) (h : AH) (w : World) (s : Sem Unit) (h' : AH) : Prop :=
  ∃ R' ρ' w', s.run C.P w = .ok () w' ∧ Rel R' ρ' h' w' ∧ Frm R ρ h w R' ρ' h' w'
theorem newRow_run (e : TypeId) (cells : Array Value) : (newRow e cells).run C.P w = .ok ⟨w.heap.size, 0, none⟩ (w.alloc (.cells cells e)) := by
  simp only [newRow, Sem.run_bind, run_newObj, Result.andThen_ok, Sem.run_pure]; rfl
theorem push_cells (hr : Rel R ρ h w) (t : TypeId) {cs : List AV} {arr : Array Value} (hv : VReps w R ρ cs arr.toList) :
    Rel R (ρ.upd h.length (w.heap.size, ⟨arr.size, 0, false⟩)) (h ++ [some (.cells t cs)]) (w.alloc (.cells arr t)) ∧ Frm R ρ h w R (ρ.upd h.length (w.heap.size, ⟨arr.size, 0, false⟩)) (h ++ [some (.cells t cs)]) (w.alloc (.cells arr t)) := by
  have hal : arr.size = cs.length := by have := hv.1; simpa using this
  refine rel_push hr _ _ _ (fun ρ' hρ => ⟨arr, by show (w.heap.push _)[w.heap.size]? = _; simp, rfl, by simp only []; omega, ?_⟩)
  rw [← hal, ← Array.length_toList, List.take_length]
  exact hv.mono (fun k hk => heap_alloc_old w _ k (hr.ro k hk)) (fun _ h => h) hρ
def boxA (h : AH) (e : TypeId) (v : AV) : Option (AV × AH) :=
  if v.known then some (.ptr h.length 0, h ++ [some (.cells e v.cells)]) else none
theorem boxA_ok (hr : Rel R ρ h w) {e : TypeId} {v av : AV} {h' : AH} {u : Value} (hb : boxA h e v = some (av, h')) (hv : VRep w R ρ v u) : Post C R ρ h w (Instr.box e u) av h' := by
  unfold boxA at hb
  split at hb
  · rename_i hk
    injection hb with hb
    simp only [Prod.mk.injEq] at hb
    obtain ⟨rfl, rfl⟩ := hb
    obtain ⟨h1, h2⟩ := push_cells hr e (known_cells hv hk)
    exact ⟨_, _, _, _, by simp only [Instr.box, newVar, Sem.run_bind, newRow_run, Result.andThen_ok, Sem.run_pure], .ptr (Nm.upd_self _ _ _), h1, h2⟩
  · cases hb
theorem allocA_ok (hr : Rel R ρ h w) {e : TypeId} {z av : AV} {h' : AH} (hz : zeroA C e = some z) (hb : boxA h e z = some (av, h')) : Post C R ρ h w (Instr.alloc e true (.tuple #[])) av h' := by
  obtain ⟨z', hz1, hz2⟩ := zeroA_ok hz
  obtain ⟨R', ρ', u, w', h1, h2⟩ := boxA_ok (C := C) hr hb (hz2 w R ρ)
  refine ⟨R', ρ', u, w', ?_, h2⟩
  rw [← h1]
  simp [Instr.alloc, hz1, Instr.box]
def buildSliceA (C : Cfg) (h : AH) (ev : Operand → Option AV) (t : TypeId) (len : Nat) (parts : List (Nat × Operand)) : Option (AV × AH) :=
  match C.P.underlying t with
  | some (.slice e) => match C.P.info? e, zeroA C e with
    | some i, some z => if z.known ∧ z.cells.length = i.size ∧ i.size ≠ 0 ∧ len * i.size ≤ 16777216 then
        (match fillA (fun k => some (k * i.size, i.size)) ((List.range (len * i.size)).map fun k => z.cells.getD (k % i.size) .any) (parts.map fun p => (p.1, ev p.2)) with
        | some cs => if cs.length = len * i.size then some (.own i.size h.length 0 len, h ++ [some (.cells e cs)]) else none
        | none => none) else none
    | _, _ => none
  | _ => none
theorem buildSliceA_ok (hr : Rel R ρ h w) {f : Operand → Value} {ev : Operand → Option AV} (hev : ∀ x av, ev x = some av → VRep w R ρ av (f x)) {t : TypeId} {len : Nat} {parts : Array (Nat × Operand)} {av : AV} {h' : AH}
    (hb : buildSliceA C h ev t len parts.toList = some (av, h')) : Post C R ρ h w (Instr.buildSlice t len (parts.map fun p => (p.1, f p.2))) av h' := by
  unfold buildSliceA at hb
  split at hb
  · rename_i e ht
    split at hb
    · rename_i ti z hi hz
      split at hb
      · rename_i hc
        obtain ⟨hk, hzl, hs0, hbig⟩ := hc
        split at hb
        · rename_i cs hf
          split at hb
          · rename_i hcl
            injection hb with hb
            simp only [Prod.mk.injEq] at hb
            obtain ⟨rfl, rfl⟩ := hb
            obtain ⟨z', hz1, hz2⟩ := zeroA_ok hz
            have hzc := known_cells (hz2 w R ρ) hk
            have hzs : z'.cells.size = ti.size := by have := hzc.1; simp at this; omega
            have hbase : VReps w R ρ ((List.range (len * ti.size)).map fun k => z.cells.getD (k % ti.size) .any) ((Array.range (len * ti.size)).map (z'.cells[· % z'.cells.size]!)).toList := by
              refine ⟨by simp, fun k c u hck hu => ?_⟩
              have hkl : k < len * ti.size := by have := (List.getElem?_eq_some_iff.1 hck).1; simpa using this
              have hm : k % ti.size < ti.size := Nat.mod_lt _ (by omega)
              simp [List.getElem?_map, List.getElem?_range hkl] at hck
              simp [hkl] at hu
              subst hck; subst hu
              have h1 : z.cells[k % ti.size]? = some (z.cells[k % ti.size]'(by omega)) := List.getElem?_eq_getElem (by omega)
              obtain ⟨u, hu, hv⟩ := hzc.get h1
              have hu' : z'.cells[k % ti.size]? = some u := by simpa using hu
              rw [hzs]
              simp only [h1, Option.getD_some]
              have : z'.cells[k % ti.size]! = u := by
                rw [getElem!_def, hu']
              rw [this]
              exact hv
            obtain ⟨out, h1, h2⟩ := fillA_ok (pv := fun k => some (k * ti.size, ti.size)) (fun i x hx => hx) hev hf hbase
            obtain ⟨h3, h4⟩ := push_cells hr e h2
            have hos : out.size = len * ti.size := by have := h2.1; simp at this; omega
            refine ⟨_, _, .slice (some ⟨w.heap.size, 0, none⟩) len len, _, ?_, .own (N := ⟨out.size, 0, false⟩) (Nm.upd_self _ _ _) (Nat.le_refl _) (by simp only []; omega), h3, h4⟩
            have hng : ¬ (2 ^ 24 < len * ti.size) := by omega
            by_cases hl0 : len * ti.size = 0
            · have hpp : (Array.range (len * ti.size)).map (z'.cells[· % z'.cells.size]!) = (Array.range (len * ti.size)).map ((#[] : Array Value)[· % (#[] : Array Value).size]!) := by
                rw [hl0]; simp
              rw [hpp] at h1
              simp only [Instr.buildSlice, Sem.run_bind, run_underlying ht, sizeOf_run hi, Result.andThen_ok, Sem.run_ite, hng, if_false, Sem.run_pure, hl0, if_true, Array.toList_map]
              rw [hl0] at h1
              simp only [h1, Sem.run_bind, newRow_run, Result.andThen_ok, Sem.run_pure]
              rw [if_neg (by omega)]
            · simp only [Instr.buildSlice, Sem.run_bind, run_underlying ht, sizeOf_run hi, Result.andThen_ok, Sem.run_ite, hng, if_false, Sem.run_pure, hl0, hz1, Array.toList_map]
              simp only [h1, Sem.run_bind, newRow_run, Result.andThen_ok, Sem.run_pure]
          · cases hb
        · cases hb
      · cases hb
    · cases hb
  · cases hb
def storeA (C : Cfg) (h : AH) (t : TypeId) (x v : AV) : Option AH :=
  match x with
  | .ptr i off => match h[i]?, C.P.info? t with
    | some (some (.cells bt cs)), some ti => if v.known ∧ v.cells.all AV.one = true ∧ v.cells.length = ti.size ∧ off + v.cells.length ≤ cs.length then
        some (h.set i (some (.cells bt (cs.take off ++ v.cells ++ cs.drop (off + v.cells.length))))) else none
    | _, _ => none
  | _ => none
theorem storeAt_run {t : TypeId} {ti : TypeInfo} {b off : Nat} {v : Value} (hi : C.P.info? t = some ti) (ht : w.there b off v.cells.size) (hs : ti.size = v.cells.size) (h1 : ∀ u ∈ v.cells.toList, u.oneCell' = true) :
    (Instr.storeAt t (.pointer (some ⟨b, off, none⟩)) v).run C.P w = .ok () (w.setCells b off v.cells.toList) := by
  have := run_storeCells_cells (P := C.P) b off v.cells.toList 0 w (fun j hj => by simpa using (ht j (by simpa using hj)).1) (fun j hj => by simpa using (ht j (by simpa using hj)).2) h1
  simp only [Nat.add_zero] at this
  simp [Instr.storeAt, Instr.sureAddr, storeVar, sizeOf_run hi, hs, this]
theorem storeA_ok (hr : Rel R ρ h w) {t : TypeId} {x y : AV} {h' : AH} {u v : Value} (hs : storeA C h t x y = some h') (hx : VRep w R ρ x u) (hy : VRep w R ρ y v) : PostU C R ρ h w (Instr.storeAt t u v) h' := by
  unfold storeA at hs
  split at hs
  · rename_i i off
    split at hs
    · rename_i bt cs ti hi hti
      split at hs
      · rename_i hc
        obtain ⟨hk, hone, hl, hle⟩ := hc
        injection hs with hs; subst hs
        cases hx with
        | @ptr _ _ b N hn =>
        obtain ⟨b', N', hn', hb, hre⟩ := hr.live _ _ hi
        obtain ⟨hgh, hRb⟩ := hre.cells
        rw [hn] at hn'
        simp only [Option.some.injEq, Prod.mk.injEq] at hn'
        obtain ⟨rfl, rfl⟩ := hn'
        have hvc := known_cells hy hk
        have hvl : v.cells.size = y.cells.length := by have := hvc.1; simpa using this
        have hb2 := BRep_store (o := off) hb hvc hle hRb
        obtain ⟨arr, ha, hN, hcN, _⟩ := hb
        obtain ⟨s1, s2, s3, s4⟩ := setCells_size (b := b) v.cells.toList off w
        obtain ⟨r1, r2⟩ := rel_upd hr hi hn _ s2 s3 s4 s1 (fun k hk => setCells_keep _ _ _ k hk) hb2 hgh (Nat.le_of_eq (setCells_drawn _ _ _).symm)
        refine ⟨_, _, _, storeAt_run hti (block_there ha off _ (by omega)) (by omega) ?_, r1, r2⟩
        intro z hz
        obtain ⟨k, hk1⟩ := List.getElem?_of_mem hz
        have hkl : k < y.cells.length := by have := (List.getElem?_eq_some_iff.1 hk1).1; simp at this; omega
        have h1 := List.getElem?_eq_getElem hkl
        exact (hvc.2 k _ _ h1 hk1).notAgg (by simpa using List.all_eq_true.1 hone _ (List.mem_of_getElem? h1))
      · cases hs
    · cases hs
  · cases hs
end
end Go.DI
set_option linter.unusedVariables false
set_option linter.unusedSimpArgs false
namespace Go.DI
def mapUpdateA (C : Cfg) (h : AH) (t : TypeId) (m k x : AV) : Option AH :=
  match C.P.underlying t, m with
  | some (.map kt _), .map i => match C.P.underlying kt, h[i]? with
    | some d, some (some (.map es)) => if keyOk d then (match findA d k es 0 with
      | some (some (n, _)) => some (h.set i (some (.map (es.set n (k, x)))))
      | some none => some (h.set i (some (.map (es ++ [(k, x)]))))
      | none => none) else none
    | _, _ => none
  | _, _ => none
def newsA (h : AH) (sz : Nat) : AV → Option (List AV × Nat)
  | .nils => some ([], 0)
  | .own s i off len => match h[i]? with
    | some (some (.cells _ cs)) => if s = sz ∧ off + len * sz ≤ cs.length then some ((cs.drop off).take (len * sz), len) else none
    | _ => none
  | .ro s n f => match n with
    | 0 => some ([], 0)
    | n + 1 => if s = sz then some (((List.range (n + 1)).map f).flatMap AV.cells, n + 1) else none
  | .str s => if sz = 1 then some (s.map fun b => .int .u8 b.toNat, s.length) else none
  | _ => none
def srcOk : TypeDesc → AV → Bool
  | .slice _, .str _ => false
  | .slice _, _ => true
  | .string, .str _ => true
  | _, _ => false
def appendA (C : Cfg) (h : AH) (t tx : TypeId) (x y : AV) : Option (AV × AH) :=
  match C.P.underlying t, C.P.underlying tx with
  | some (.slice e), some dx => match C.P.info? e with
    | some ti => if srcOk dx y = true ∧ (ti.zero.map fun z => z.cells.size) = some ti.size then
      (match newsA h ti.size y with
      | some (news, n) => if news.all AV.one then (match x with
        | .nils => if n = 0 then some (.nils, h) else if n * ti.bytes ≤ 70368744177664 ∧ n ≤ 4611686018427387904 then some (.own ti.size h.length 0 n, h ++ [some (.cells e news)]) else none
        | .own s i 0 len => match h[i]? with
          | some (some (.cells bt cs)) => if s = ti.size ∧ bt = e ∧ len * ti.size = cs.length ∧ (len + n) * ti.bytes ≤ 70368744177664 ∧ len + n ≤ 4611686018427387904 then
              some (.own ti.size h.length 0 (len + n), h.set i none ++ [some (.cells e (cs ++ news))]) else none
          | _ => none
        | _ => none) else none
      | none => none) else none
    | none => none
  | _, _ => none
def lenA (C : Cfg) (h : AH) (t : TypeId) (x : AV) : Option AV :=
  match C.P.underlying t, x with
  | some .string, .str s => some (.int .i64 s.length)
  | some (.slice _), .nils => some (.int .i64 0)
  | some (.slice _), .own _ _ _ n => some (.int .i64 n)
  | some (.slice _), .ro _ n _ => some (.int .i64 n)
  | some (.map _ _), .nilm => some (.int .i64 0)
  | some (.map _ _), .map i => match h[i]? with
    | some (some (.map es)) => some (.int .i64 es.length)
    | _ => none
  | some (.array n _), _ => some (.int .i64 n)
  | _, _ => none
def clearA (C : Cfg) (h : AH) (t : TypeId) (x : AV) : Option AH :=
  match C.P.underlying t, x with
  | some (.map _ _), .nilm => some h
  | some (.map _ _), .map i => match h[i]? with
    | some (some (.map _)) => some (h.set i (some (.map [])))
    | _ => none
  | _, _ => none
section
variable {C : Cfg} {w : World} {R : Nat → Prop} {ρ : Nm} {h : AH}
theorem live_of (hr : Rel R ρ h w) {i b : Nat} {N : BN} {blk : ABlk} (hi : h[i]? = some (some blk)) (hn : ρ i = some (b, N)) : BRep w R ρ b N blk ∧ Real R b N blk := by
  obtain ⟨b', N', hn', hb, hRb⟩ := hr.live _ _ hi
  rw [hn] at hn'
  simp only [Option.some.injEq, Prod.mk.injEq] at hn'
  obtain ⟨rfl, rfl⟩ := hn'
  exact ⟨hb, hRb⟩
theorem map_modify' {α β : Type} {l : List α} {n : Nat} {e : α} {f : α → α} {g : α → β} (h : l[n]? = some e) : (l.modify n f).map g = (l.map g).set n (g (f e)) := by
  apply List.ext_getElem?
  intro k
  simp only [List.getElem?_map, List.getElem?_modify, List.getElem?_set, List.length_map]
  by_cases hk : n = k
  · subst hk
    obtain ⟨hl, he⟩ := List.getElem?_eq_some_iff.1 h
    simp [hl, he]
  · simp [hk]
theorem sameBits_of {d : TypeDesc} {u v : Value} (hs : Instr.sameNow d u v = some true) (n : Nat) : Instr.sameBits n v u = true := by
  unfold Instr.sameNow at hs
  split at hs
  · split at hs
    · rename_i hk
      simp at hs
      subst hk; subst hs
      simp [Instr.sameBits]
    · cases hs
  · rename_i a b
    simp only [Option.some.injEq] at hs
    have hab : (b == a) = true := by
      rw [beq_toListBytes] at hs ⊢
      rw [beq_iff_eq] at hs ⊢
      exact hs.symm
    simp [Instr.sameBits, hab]
  · simp at hs
    subst hs
    simp [Instr.sameBits]
  · cases hs
theorem setObj_run {b : Nat} {o : Obj} {arr : Array MapEntry} {clock : Nat} (hb : w.heap[b]? = some (.map arr clock)) : (setObj b o).run C.P w = .ok () { w with heap := w.heap.setIfInBounds b o } := by
  simp [setObj, Sem.run, hb]
theorem getObj_run {b : Nat} {arr : Array MapEntry} {clock : Nat} (hb : w.heap[b]? = some (.map arr clock)) : (getObj b).run C.P w = .ok (.map arr clock) w := by
  simp [getObj, Sem.run, hb]
theorem upd_map (hr : Rel R ρ h w) {i b : Nat} {N : BN} {es es' : List (AV × AV)} (hi : h[i]? = some (some (.map es))) (hn : ρ i = some (b, N)) (arr : Array MapEntry) (clock : Nat)
    (h1 : VReps w R ρ (es'.map (·.1)) (arr.toList.map (·.key))) (h2 : VReps w R ρ (es'.map (·.2)) (arr.toList.map (·.val))) :
    Rel R ρ (h.set i (some (.map es'))) { w with heap := w.heap.setIfInBounds b (.map arr clock) } ∧ Frm R ρ h w R ρ (h.set i (some (.map es'))) { w with heap := w.heap.setIfInBounds b (.map arr clock) } := by
  obtain ⟨hb, hre⟩ := live_of hr hi hn
  obtain ⟨hgh, hRb⟩ := hre.map
  have hlt := hb.lt hgh
  have hkeep : ∀ k, k ≠ b → (w.heap.setIfInBounds b (.map arr clock))[k]? = w.heap[k]? := fun k hk => Array.getElem?_setIfInBounds_ne (Ne.symm hk)
  have hR : ∀ k, R k → (w.heap.setIfInBounds b (.map arr clock))[k]? = w.heap[k]? := fun k hk => hkeep k (fun e => hRb (e ▸ hk))
  refine rel_upd (w' := { w with heap := w.heap.setIfInBounds b (.map arr clock) }) hr hi hn (.map es') rfl rfl rfl (by simp) hkeep ⟨arr, clock, ?_, ?_, ?_⟩ hgh (Nat.le_refl _)
  · simp [Array.getElem?_setIfInBounds_self_of_lt hlt]
  · exact h1.mono (w' := { w with heap := w.heap.setIfInBounds b (.map arr clock) }) hR (fun _ h => h) (Nm.le_refl _)
  · exact h2.mono (w' := { w with heap := w.heap.setIfInBounds b (.map arr clock) }) hR (fun _ h => h) (Nm.le_refl _)
theorem mapUpdateA_ok (hr : Rel R ρ h w) {t : TypeId} {m k x : AV} {h' : AH} {um uk ux : Value} (hs : mapUpdateA C h t m k x = some h') (hm : VRep w R ρ m um) (hk : VRep w R ρ k uk) (hx : VRep w R ρ x ux) :
    PostU C R ρ h w (Instr.mapUpdate t um uk ux) h' := by
  unfold mapUpdateA at hs
  split at hs
  · rename_i kt e i ht
    split at hs
    · rename_i d es hd hi
      split at hs
      · rename_i hko
        cases hm with
        | @map _ b N hn =>
        obtain ⟨⟨arr, clock, hb, h1, h2⟩, hRb⟩ := live_of hr hi hn
        have hck : (Instr.checkKey false 10000 kt uk).run C.P w = .ok () w := checkKey_run (n := 9999) uk hd hko w
        split at hs
        · rename_i n a hf
          injection hs with hs; subst hs
          rcases findA_ok hk hf h1 h2 with ⟨h3, _⟩ | ⟨n', a', v', h3, h4, h4', h5, h6, h7, en, h8, h9, h10⟩
          · cases h3
          · simp only [Option.some.injEq, Prod.mk.injEq] at h3
            obtain ⟨rfl, rfl⟩ := h3
            simp only [Nat.sub_zero] at h8
            have h8' : arr[n]? = some en := by simpa using h8
            obtain ⟨r1, r2⟩ := upd_map (es' := es.set n (k, x)) hr hi hn (arr.modify n fun e => { e with key := uk, val := ux }) clock
              (by
                rw [List.map_set, Array.toList_modify, map_modify' h8]
                exact h1.set n hk)
              (by
                rw [List.map_set, Array.toList_modify, map_modify' h8]
                exact h2.set n hx)
            refine ⟨_, _, _, ?_, r1, r2⟩
            simp only [Instr.mapUpdate, Sem.run_bind, run_underlying ht, getObj_run hb, Result.andThen_ok, hck, Instr.findKey, run_underlying hd, h5, Sem.run_pure, h8', Option.map_some, Option.getD_some, Instr.keyThatStays, sameBits_of h10, if_true, setObj_run hb]
        · rename_i hf
          injection hs with hs; subst hs
          rcases findA_ok hk hf h1 h2 with ⟨_, h5⟩ | ⟨n', a', v', h3, _⟩
          · obtain ⟨r1, r2⟩ := upd_map (es' := es ++ [(k, x)]) hr hi hn (arr.push { key := uk, val := ux, born := clock }) (clock + 1)
              (by simpa using h1.append (.cons hk .nil)) (by simpa using h2.append (.cons hx .nil))
            refine ⟨_, _, _, ?_, r1, r2⟩
            simp only [Instr.mapUpdate, Sem.run_bind, run_underlying ht, getObj_run hb, Result.andThen_ok, hck, Instr.findKey, run_underlying hd, h5, Sem.run_pure, setObj_run hb]
          · cases h3
        · cases hs
      · cases hs
    · cases hs
  · cases hs
theorem makeMapA_ok (hr : Rel R ρ h w) (t : TypeId) : Post C R ρ h w (Instr.makeMap t none) (.map h.length) (h ++ [some (.map [])]) := by
  obtain ⟨h1, h2⟩ := rel_push hr (.map #[] 0) ⟨0, 0, false⟩ (.map []) (fun ρ' hρ => ⟨#[], 0, by show (w.heap.push _)[w.heap.size]? = _; simp, .nil, .nil⟩)
  exact ⟨_, _, .map (some w.heap.size), _, by simp only [Instr.makeMap, Sem.run_bind, Sem.run_pure, run_newObj, Result.andThen_ok]; rfl, .map (Nm.upd_self _ _ _), h1, h2⟩
theorem lenA_ok (hr : Rel R ρ h w) {t ty : TypeId} {ts : Array TypeId} {x av : AV} {u : Value} (hl : lenA C h t x = some av) (hx : VRep w R ρ x u) (hts : ts[0]? = some t) (us : Array Value) (hus : us[0]? = some u) :
    ∃ r, (Builtin.len_ ts ty us).run C.P w = .ok r w ∧ VRep w R ρ av r := by
  unfold lenA at hl
  split at hl
  · rename_i s ht
    injection hl with hl; subst hl
    cases hx
    rename_i s
    have e1 : s.data.toList.length = s.size := Array.length_toList
    rw [e1]
    exact ⟨_, by simp [Builtin.len_, hts, hus, run_underlying ht, goInt], .int _ _⟩
  · rename_i e ht
    injection hl with hl; subst hl
    cases hx
    exact ⟨_, by simp [Builtin.len_, hts, hus, run_underlying ht, goInt], .int _ _⟩
  · rename_i e s i o n ht
    injection hl with hl; subst hl
    cases hx
    exact ⟨_, by simp [Builtin.len_, hts, hus, run_underlying ht, goInt], .int _ _⟩
  · rename_i e s n f ht
    injection hl with hl; subst hl
    cases hx
    · exact ⟨_, by simp [Builtin.len_, hts, hus, run_underlying ht, goInt], .int _ _⟩
    · exact ⟨_, by simp [Builtin.len_, hts, hus, run_underlying ht, goInt], .int _ _⟩
  · rename_i k e ht
    injection hl with hl; subst hl
    cases hx
    exact ⟨_, by simp [Builtin.len_, hts, hus, run_underlying ht, goInt], .int _ _⟩
  · rename_i k e i ht
    split at hl
    · rename_i es hi
      injection hl with hl; subst hl
      cases hx with
      | @map _ b N hn =>
      obtain ⟨⟨arr, clock, hb, h1, h2⟩, hRb⟩ := live_of hr hi hn
      have := h1.1
      simp only [List.length_map, Array.length_toList] at this
      exact ⟨.int .i64 arr.size, by simp [Builtin.len_, hts, hus, run_underlying ht, goInt, getObj_run hb], by rw [← this]; exact .int _ _⟩
    · cases hl
  · rename_i n e ht
    injection hl with hl; subst hl
    exact ⟨_, by simp [Builtin.len_, hts, hus, run_underlying ht, goInt], .int _ _⟩
  · cases hl
theorem clearA_ok (hr : Rel R ρ h w) {t ty : TypeId} {ts : Array TypeId} {x : AV} {h' : AH} {u : Value} (hl : clearA C h t x = some h') (hx : VRep w R ρ x u) (hts : ts[0]? = some t) (us : Array Value) (hus : us[0]? = some u) :
    Post C R ρ h w (Builtin.clear_ ts ty us) .undef h' := by
  unfold clearA at hl
  split at hl
  · rename_i k e ht
    injection hl with hl; subst hl
    cases hx
    exact ⟨R, ρ, .tuple #[], w, by simp [Builtin.clear_, hts, hus, run_underlying ht], .undef, hr, Frm.refl _ _ _ _⟩
  · rename_i k e i ht
    split at hl
    · rename_i es hi
      injection hl with hl; subst hl
      cases hx with
      | @map _ b N hn =>
      obtain ⟨⟨arr, clock, hb, h1, h2⟩, hRb⟩ := live_of hr hi hn
      obtain ⟨r1, r2⟩ := upd_map (es' := []) hr hi hn #[] clock .nil .nil
      exact ⟨R, ρ, .tuple #[], _, by simp [Builtin.clear_, hts, hus, run_underlying ht, getObj_run hb, setObj_run hb], .undef, r1, r2⟩
    · cases hl
  · cases hl
theorem srcOk_slice {dx : TypeDesc} {y : AV} (hok : srcOk dx y = true) (h : ∀ s, y ≠ .str s) : ∃ e, dx = .slice e := by
  unfold srcOk at hok
  split at hok <;> first | (cases hok; done) | (exact ⟨_, rfl⟩) | (exact absurd rfl (h _))
theorem flat_len {sz : Nat} : ∀ {xs : List AV}, (∀ x ∈ xs, x.cells.length = sz) → (xs.flatMap AV.cells).length = xs.length * sz
  | [], _ => by simp
  | x :: xs, h => by
    rw [List.flatMap_cons, List.length_append, flat_len (fun y hy => h y (List.mem_cons_of_mem _ hy)), h x List.mem_cons_self, List.length_cons, Nat.succ_mul]
    omega
theorem flat_get {sz : Nat} (hs : 0 < sz) : ∀ {xs : List AV}, (∀ x ∈ xs, x.cells.length = sz) → ∀ {k : Nat}, (xs.flatMap AV.cells)[k]? = (xs[k / sz]?).bind fun x => x.cells[k % sz]?
  | [], _, k => by simp
  | x :: xs, h, k => by
    have hx := h x List.mem_cons_self
    rw [List.flatMap_cons, List.getElem?_append]
    split
    · rename_i hk
      rw [hx] at hk
      rw [Nat.div_eq_of_lt hk, Nat.mod_eq_of_lt hk]
      rfl
    · rename_i hk
      rw [hx] at hk ⊢
      rw [flat_get hs (fun y hy => h y (List.mem_cons_of_mem _ hy))]
      have hge : sz ≤ k := by omega
      rw [Nat.div_eq_sub_div hs hge, List.getElem?_cons_succ, Nat.mod_eq_sub_mod hge]
theorem newsA_ok (hr : Rel R ρ h w) {sz n : Nat} {tx : TypeId} {dx : TypeDesc} {y : AV} {news : List AV} {v : Value} (hn : newsA h sz y = some (news, n)) (hk : C.P.underlying tx = some dx) (hok : srcOk dx y = true) (hone : news.all AV.one = true) (hy : VRep w R ρ y v) :
    ∃ us, Src C.P sz tx v n us w ∧ VReps w R ρ news us := by
  have one_of : ∀ {us : List Value}, VReps w R ρ news us → ∀ u ∈ us, u.oneCell' = true := by
    intro us hv z hz
    obtain ⟨k, hk1⟩ := List.getElem?_of_mem hz
    have hkl : k < news.length := by have := (List.getElem?_eq_some_iff.1 hk1).1; have := hv.1; omega
    have h1 := List.getElem?_eq_getElem hkl
    exact (hv.2 k _ _ h1 hk1).notAgg (by simpa using List.all_eq_true.1 hone _ (List.mem_of_getElem? h1))
  have hsl : (∀ s, y ≠ .str s) → ∃ e', C.P.underlying tx = some (.slice e') := by
    intro hns
    obtain ⟨e', rfl⟩ := srcOk_slice hok hns
    exact ⟨_, hk⟩
  unfold newsA at hn
  split at hn
  · simp only [Option.some.injEq, Prod.mk.injEq] at hn; obtain ⟨rfl, rfl⟩ := hn
    cases hy
    obtain ⟨e', he⟩ := hsl (fun s => by simp)
    exact ⟨[], Src.ofNil w he 0, .nil⟩
  · rename_i s i off len
    split at hn
    · rename_i t cs hi
      split at hn
      · rename_i hc
        obtain ⟨rfl, hle⟩ := hc
        simp only [Option.some.injEq, Prod.mk.injEq] at hn; obtain ⟨rfl, rfl⟩ := hn
        cases hy with
        | @own _ _ _ _ b N cap hnm hlc hcN =>
        obtain ⟨⟨arr, hb, hN, hlen, hv⟩, _⟩ := live_of hr hi hnm
        obtain ⟨e', he⟩ := hsl (fun s => by simp)
        have hv2 := (hv.drop off).take (len * s)
        refine ⟨_, Src.ofSlice w he ⟨b, off, none⟩ len cap _ ?_ (fun j u hu => ?_) (one_of hv2), hv2⟩
        · have := hv2.1
          rw [this, List.length_take, List.length_drop]; omega
        · rw [List.getElem?_take] at hu
          split at hu
          · rw [List.getElem?_drop, List.getElem?_take] at hu
            split at hu
            · rw [Addr.add_mid]; exact block_cells hb _ _ (by simpa using hu)
            · cases hu
          · cases hu
      · cases hn
    · cases hn
  · rename_i s n0 f
    obtain ⟨e', he⟩ := hsl (fun s => by simp)
    split at hn
    · simp only [Option.some.injEq, Prod.mk.injEq] at hn; obtain ⟨rfl, rfl⟩ := hn
      cases hy with
      | ronil _ _ a cap =>
        cases a with
        | none => exact ⟨[], Src.ofNil w he cap, .nil⟩
        | some a => exact ⟨[], Src.ofSlice w he a 0 cap [] (by simp) (fun j u hu => by simp at hu) (fun u hu => by simp at hu), .nil⟩
      | @ro _ _ _ b off0 cap u hR hl hz hc hv =>
        exact ⟨[], Src.ofSlice w he ⟨b, off0, none⟩ 0 cap [] (by simp) (fun j u hu => by simp at hu) (fun u hu => by simp at hu), .nil⟩
    · rename_i n1
      split at hn
      · rename_i hs
        subst hs
        simp only [Option.some.injEq, Prod.mk.injEq] at hn; obtain ⟨rfl, rfl⟩ := hn
        cases hy with
        | @ro _ _ _ b off0 cap u hR hl hz hc hv =>
        have hz' : ∀ x ∈ (List.range (n1 + 1)).map f, x.cells.length = s := by
          intro x hx
          obtain ⟨j, hj, rfl⟩ := List.mem_map.1 hx
          exact hz j (List.mem_range.1 hj)
        have hyl : ((List.range (n1 + 1)).map f).length = n1 + 1 := by simp
        have hget : ∀ (j : Nat) (x : AV), ((List.range (n1 + 1)).map f)[j]? = some x → j < n1 + 1 ∧ x = f j := by
          intro j x hx
          have hj : j < n1 + 1 := by have := (List.getElem?_eq_some_iff.1 hx).1; simpa using this
          simp [List.getElem?_map, List.getElem?_range hj] at hx
          exact ⟨hj, hx.symm⟩
        generalize (List.range (n1 + 1)).map f = ys at *
        have hlen := flat_len hz'
        rw [hyl] at hlen
        have hvs : VReps w R ρ (ys.flatMap AV.cells) ((List.range ((n1 + 1) * s)).map fun k => u (k / s) (k % s)) := by
          refine ⟨by simp [hlen], fun k c z hck hzz => ?_⟩
          have hkl : k < (n1 + 1) * s := by have := (List.getElem?_eq_some_iff.1 hck).1; omega
          simp [List.getElem?_map, List.getElem?_range hkl] at hzz
          subst hzz
          have hs0 : 0 < s := Nat.pos_of_ne_zero (fun e => by subst e; simp at hkl)
          rw [flat_get hs0 hz'] at hck
          cases hj : ys[k / s]? with
          | none => rw [hj] at hck; cases hck
          | some y =>
            rw [hj] at hck
            obtain ⟨h1, rfl⟩ := hget _ _ hj
            exact hv _ _ c h1 hck
        refine ⟨_, Src.ofSlice w he ⟨b, off0, none⟩ (n1 + 1) cap _ (by simp) (fun k z hzz => ?_) (one_of hvs), hvs⟩
        have hkl : k < (n1 + 1) * s := by have := (List.getElem?_eq_some_iff.1 hzz).1; simpa using this
        simp [List.getElem?_map, List.getElem?_range hkl] at hzz
        subst hzz
        have hs0 : 0 < s := Nat.pos_of_ne_zero (fun e => by subst e; simp at hkl)
        have hjl : k / s < n1 + 1 := (Nat.div_lt_iff_lt_mul hs0).2 hkl
        have hol : k % s < (f (k / s)).cells.length := by rw [hz _ hjl]; exact Nat.mod_lt _ hs0
        have := hc _ _ _ hjl (List.getElem?_eq_getElem hol)
        rw [Addr.add_mid, ← this]
        congr 3
        have := Nat.div_add_mod k s
        rw [Nat.mul_comm] at this
        omega
      · cases hn
  · rename_i s
    split at hn
    · rename_i hs
      subst hs
      simp only [Option.some.injEq, Prod.mk.injEq] at hn; obtain ⟨rfl, rfl⟩ := hn
      cases hy with
      | str s =>
      have hd : C.P.underlying tx = some .string := by
        cases dx <;> simp [srcOk] at hok
        exact hk
      have := Src.ofString w hd s
      have e1 : s.data.toList.length = s.size := Array.length_toList
      rw [e1]
      refine ⟨_, this, ⟨by simp [byteCells_length, e1], fun k c u hc hu => ?_⟩⟩
      unfold byteCells at hu
      rw [List.getElem?_map] at hc hu
      cases hb : s.data.toList[k]? with
      | none => rw [hb] at hc; cases hc
      | some b =>
        rw [hb] at hc hu
        simp at hc hu
        subst hc; subst hu
        exact .int _ _
    · cases hn
  · cases hn
end
end Go.DI
set_option linter.unusedVariables false
set_option linter.unusedSimpArgs false
namespace Go.DI
section
variable {C : Cfg} {w : World} {R : Nat → Prop} {ρ : Nm} {h : AH}
theorem grown_rep {us : List Value} {news : List AV} (hv : VReps w R ρ news us) (zs : Array Value) (b : Nat) (N : BN) (e : TypeId) (hr : Rel R ρ h w) (hb : b = w.heap.size) (hN : N.n = (us.toArray ++ zs).size) :
    ∀ ρ', ρ.le ρ' → BRep (w.drew.alloc (.cells (us.toArray ++ zs) e)) R ρ' b N (.cells e news) := by
  subst hb
  intro ρ' hρ
  refine ⟨us.toArray ++ zs, by show (w.heap.push _)[w.heap.size]? = _; simp, hN.symm, ?_, ?_⟩
  · have := hv.1; rw [hN]; simp; omega
  · have e1 : (us.toArray ++ zs).toList.take news.length = us := by
      rw [Array.toList_append]
      simp only
      rw [← hv.1, List.take_left]
    rw [e1]
    exact hv.mono (fun k hk => heap_alloc_old w _ k (hr.ro k hk)) (fun _ h => h) hρ
theorem rel_move {w' : World} (hr : Rel R ρ h w) {i : Nat} {blk0 : ABlk} {b : Nat} {N : BN} (hi : h[i]? = some (some blk0)) (hn : ρ i = some (b, N)) (blk : ABlk)
    (hos : w'.os = w.os) (ht : w'.tape = w.tape) (ho : w'.output = w.output) (hs : w'.heap.size = w.heap.size) (hkeep : ∀ k, k ≠ b → w'.heap[k]? = w.heap[k]?) (blk1 : ABlk) (hb1 : BRep w' R ρ b N blk1) (N' : BN) (hb : BRep w' R ρ b N' blk) (hg : N.gh = false) (hg' : N'.gh = false) (hdr : w.drawn ≤ w'.drawn) :
    Rel R (ρ.upd h.length (b, N')) (h.set i none ++ [some blk]) w' ∧ Frm R ρ h w R (ρ.upd h.length (b, N')) (h.set i none ++ [some blk]) w' := by
  have hlb : Lv ρ h b := ⟨i, blk0, N, hi, hn, hg⟩
  have hRb : ¬ R b := fun hR => hr.notLive hR hlb
  obtain ⟨r1, f1⟩ := rel_upd hr hi hn blk1 hos ht ho hs hkeep hb1 hg hdr
  obtain ⟨r2, f2⟩ := rel_kill r1 i
  have he : (h.set i (some blk1)).set i none = h.set i none := by simp
  rw [he] at r2 f2
  have hnl : ¬ Lv ρ (h.set i none) b := by
    rintro ⟨j, blk', N2, hj, hn', hg2⟩
    rw [List.getElem?_set] at hj
    split at hj
    · split at hj <;> simp at hj
    · rename_i hne
      exact hne (hr.inj i j blk0 blk' b N N2 hi hj hn hn' hg hg2)
  have r3 := rel_name r2 blk hb (fun _ => hnl) (.inl ⟨hg', hRb⟩)
  have hlen : (h.set i none).length = h.length := by simp
  rw [hlen] at r3
  have hle := Nm.le_upd (bn := (b, N')) (hr.dom h.length (Nat.le_refl _))
  have f := f1.trans f2
  refine ⟨r3, ⟨f.os, f.tape, f.output, f.size, hle, f.ros, f.keeps, fun c hl => ?_, f.rolds, by simp, fun x hx hn => by rw [Nm.upd_ne (by omega)]; exact hn, f.frz⟩⟩
  obtain ⟨j, blk', N2, hj, hn', hg2⟩ := hl
  by_cases hjl : j = h.length
  · subst hjl
    rw [Nm.upd_self] at hn'
    simp only [Option.some.injEq, Prod.mk.injEq] at hn'
    exact .inl (hn'.1 ▸ hlb)
  · rw [Nm.upd_ne hjl] at hn'
    have hjl2 : j < (h.set i none).length := by
      have := (List.getElem?_eq_some_iff.1 hj).1
      simp at this ⊢; omega
    rw [List.getElem?_append_left hjl2] at hj
    exact f.lives c ⟨j, blk', N2, hj, hn', hg2⟩
theorem appendA_ok (hr : Rel R ρ h w) {t tx ty : TypeId} {x y av : AV} {h' : AH} {u v : Value} (ha : appendA C h t tx x y = some (av, h')) (hx : VRep w R ρ x u) (hy : VRep w R ρ y v) :
    Post C R ρ h w (Builtin.append_ #[t, tx] ty #[u, v]) av h' := by
  unfold appendA at ha
  split at ha
  · rename_i e dx ht hdx
    split at ha
    · rename_i ti hi
      split at ha
      · rename_i hok
        obtain ⟨hsrc, hz⟩ := hok
        obtain ⟨z, hz, hzs⟩ := Option.map_eq_some_iff.1 hz
        split at ha
        · rename_i news n hn
          split at ha
          · rename_i hone
            obtain ⟨us, hS, hus⟩ := newsA_ok hr hn hdx hsrc hone hy
            have hul : us.length = news.length := hus.1
            have hun : us.length = n * ti.size := hS.newsLen
            split at ha
            · -- onto nil
              cases hx
              split at ha
              · rename_i hn0
                injection ha with ha
                simp only [Prod.mk.injEq] at ha
                obtain ⟨rfl, rfl⟩ := ha
                subst hn0
                have hu0 : us = [] := List.eq_nil_of_length_eq_zero (by simpa using hun)
                refine ⟨R, ρ, .slice none 0 0, w, ?_, .nils, hr, Frm.refl _ _ _ _⟩
                rcases hS.kind with ⟨e', hk⟩ | hk <;>
                  simp [Builtin.append_, run_underlying ht, run_underlying hk, sizeOf_run hi, hS.len, hS.cells, hu0]
              · rename_i hn0
                split at ha
                · rename_i hb
                  injection ha with ha
                  simp only [Prod.mk.injEq] at ha
                  obtain ⟨rfl, rfl⟩ := ha
                  have hfit : Builtin.nextslicecap (0 + n) 0 * ti.bytes ≤ 281474976710656 := by
                    rw [nextslicecap_zero (by omega)]; simp only [Nat.zero_add]; omega
                  have hrun := run_append_grow_src w t tx ty e ti z ht hi hz none 0 0 [] (by simp [Builtin.firstCells]) v n us hS (by omega) (by omega) hfit
                  have hcap := grownCap_ge w (0 + n) 0 e
                  generalize grownCap w (0 + n) 0 e = gc at hrun hcap
                  simp only [List.nil_append, Nat.zero_add] at hrun hcap
                  have hN : (us.toArray ++ Builtin.zeroCells z.cells (gc - n)).size = gc * ti.size := by
                    simp [Builtin.zeroCells, hzs, hun]
                    rw [← Nat.add_mul]; congr 1; omega
                  obtain ⟨r0, f0⟩ := rel_drew hr
                  obtain ⟨r1, f1⟩ := rel_push r0 (.cells (us.toArray ++ Builtin.zeroCells z.cells (gc - n)) e) ⟨gc * ti.size, 0, false⟩ (.cells e news)
                    (grown_rep hus _ _ _ e hr rfl hN.symm)
                  exact ⟨_, _, _, _, hrun, .own (Nm.upd_self _ _ _) hcap (by simp only []; omega), r1, f0.trans f1⟩
                · cases ha
            · -- onto what is our own
              rename_i s i len
              split at ha
              · rename_i bt cs hbi
                split at ha
                · rename_i hc
                  obtain ⟨rfl, rfl, hlc, hbytes, hmax⟩ := hc
                  injection ha with ha
                  simp only [Prod.mk.injEq] at ha
                  obtain ⟨rfl, rfl⟩ := ha
                  cases hx with
                  | @own _ _ _ _ b N cap hnm hlcap hcN =>
                  obtain ⟨hB, hre⟩ := live_of hr hbi hnm
                  obtain ⟨hgh, hRb⟩ := hre.cells
                  obtain ⟨arr, hb, hN, hlen, hv⟩ := hB
                  by_cases hroom : len + n ≤ cap
                  · -- there is room
                    have hmul : len * ti.size + n * ti.size ≤ cap * ti.size := by rw [← Nat.add_mul]; exact Nat.mul_le_mul_right _ hroom
                    have hth := block_there hb (0 + len * ti.size) us.length (by omega)
                    have hrun := run_append_room_src w t tx ty _ ti ht hi b 0 len cap v n us hS hroom (fun j hj => (hth j hj).1) (fun j hj => (hth j hj).2)
                    obtain ⟨arr', ha1, ha2⟩ := heap_setCells us (0 + len * ti.size) w arr hb (by omega)
                    obtain ⟨s1, s2, s3, s4⟩ := setCells_size (b := b) us (0 + len * ti.size) w
                    have hkeep : ∀ k, k ≠ b → (w.setCells b (0 + len * ti.size) us).heap[k]? = w.heap[k]? := fun k hk => setCells_keep _ _ _ k hk
                    have hBn : BRep (w.setCells b (0 + len * ti.size) us) R ρ b N (.cells bt (cs ++ news)) := by
                      have hal : arr.toList.length = N.n := by simpa using hN
                      refine ⟨arr', ha1, ?_, ?_, ?_⟩
                      · rw [← Array.length_toList, ha2]; simp; omega
                      · simp; omega
                      · rw [ha2]
                        have e1 : (arr.toList.take (0 + len * ti.size) ++ us ++ arr.toList.drop (0 + len * ti.size + us.length)).take (cs ++ news).length = arr.toList.take cs.length ++ us := by
                          rw [List.append_assoc, List.take_append, List.take_of_length_le (by simp; omega)]
                          congr 1
                          · rw [Nat.zero_add, hlc]
                          · rw [List.take_append_of_le_length (by simp; omega), List.take_of_length_le (by simp; omega)]
                        rw [e1]
                        exact (hv.append hus).mono (fun k hk => hkeep k (fun e => hRb (e ▸ hk))) (fun _ h => h) (Nm.le_refl _)
                    obtain ⟨r1, f1⟩ := rel_move hr hbi hnm _ s2 s3 s4 s1 hkeep _ hBn N hBn hgh hgh (Nat.le_of_eq (setCells_drawn _ _ _).symm)
                    exact ⟨_, _, _, _, hrun, .own (Nm.upd_self _ _ _) hroom hcN, r1, f1⟩
                  · -- a new row
                    have hfit : Builtin.nextslicecap (len + n) cap * ti.bytes ≤ 281474976710656 := by
                      have h1 := nextslicecap_le (need := len + n) (old := cap) (by omega)
                      have h2 := Nat.mul_le_mul_right ti.bytes h1
                      rw [Nat.mul_assoc] at h2
                      omega
                    have hold : (Builtin.firstCells ti.size len (.slice (some ⟨b, 0, none⟩) len cap)).run C.P w.drew = .ok (arr.toList.take cs.length).toArray w.drew := by
                      refine run_firstCells_some w.drew ti.size len ⟨b, 0, none⟩ len cap _ (by simp; omega) (fun j u hu => ?_)
                      rw [List.getElem?_take] at hu
                      split at hu
                      · rw [Addr.add_mid, Nat.zero_add]
                        exact block_cells (w := w.drew) hb _ _ (by simpa using hu)
                      · cases hu
                    have hrun := run_append_grow_src w t tx ty bt ti z ht hi hz (some ⟨b, 0, none⟩) len cap _ hold v n us hS (by omega) (by omega) hfit
                    have hcap := grownCap_ge w (len + n) cap bt
                    generalize grownCap w (len + n) cap bt = gc at hrun hcap
                    have hold2 : VReps w R ρ (cs ++ news) (arr.toList.take cs.length ++ us) := hv.append hus
                    have hol : (arr.toList.take cs.length).length = cs.length := hv.1
                    have hN2 : ((arr.toList.take cs.length ++ us).toArray ++ Builtin.zeroCells z.cells (gc - (len + n))).size = gc * ti.size := by
                      have e2 : ((arr.toList.take cs.length ++ us).toArray).size = (len + n) * ti.size := by
                        simp only [List.size_toArray, List.length_append, hol, hun]; rw [Nat.add_mul]; omega
                      rw [Array.size_append, e2]
                      simp [Builtin.zeroCells, hzs]
                      rw [← Nat.add_mul]; congr 1; omega
                    obtain ⟨r0, f0⟩ := rel_drew hr
                    obtain ⟨r1, f1⟩ := rel_push r0 (.cells ((arr.toList.take cs.length ++ us).toArray ++ Builtin.zeroCells z.cells (gc - (len + n))) bt) ⟨gc * ti.size, 0, false⟩ (.cells bt (cs ++ news))
                      (grown_rep hold2 _ _ _ bt hr rfl hN2.symm)
                    obtain ⟨r2, f2⟩ := rel_kill r1 i
                    have hil : i < h.length := (List.getElem?_eq_some_iff.1 hbi).1
                    have he : (h ++ [some (ABlk.cells bt (cs ++ news))]).set i none = h.set i none ++ [some (ABlk.cells bt (cs ++ news))] := by
                      rw [List.set_append, if_pos hil]
                    rw [he] at r2 f2
                    exact ⟨_, _, _, _, hrun, .own (Nm.upd_self _ _ _) hcap (by simp only []; omega), r2, (f0.trans f1).trans f2⟩
                · cases ha
              · cases ha
            · cases ha
          · cases ha
        · cases ha
      · cases ha
    · cases ha
  · cases ha
end
end Go.DI
