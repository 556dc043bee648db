import Derived.Test.YtehnecfmjfpclaaGreatDic
import Derived.Orders
/- A reading of programs by functions on data, and that it is right. No conditions. -/
set_option linter.unusedVariables false
set_option linter.unusedSimpArgs false
namespace Go.DI
inductive Co where
  | dat (t : Ty)
  | row (t : Ty) (i : Nat)
@[reducible] def Co.El : Co → Type
  | .dat t => t.El
  | .row _ _ => Unit
@[reducible] def CosEl : List Co → Type
  | [] => Unit
  | c :: r => c.El × CosEl r
def encCos (σ : Nat → Nat) : (cs : List Co) → CosEl cs → List AV
  | [], _ => []
  | .dat t :: r, x => (t.enc x.1).cells ++ encCos σ r x.2
  | .row t i :: r, x => .orow t (σ i) :: encCos σ r x.2
def cosSz : List Co → Nat
  | [] => 0
  | .dat t :: r => t.sz + cosSz r
  | .row _ _ :: r => 1 + cosSz r
def cosNames : List Co → List Nat
  | [] => []
  | .dat _ :: r => cosNames r
  | .row _ i :: r => i :: cosNames r
inductive It where
  | data (t : Ty)
  | own (t : Ty) (i : Nat)
  | ptr (i : Nat)
  | map (i : Nat)
  | clo (f : FuncId) (caps : List Ty)
  | roa (t : Ty)
  | any
  | cloP (f : FuncId) (is : List Nat)
  | comp (cs : List Co)
  | ptrO (i o : Nat)
  | ownC (sz i len : Nat)
  | cloB (f : FuncId) (is : List Nat)
@[reducible] def It.El : It → Type
  | .data t => t.El
  | .clo _ ts => Els ts
  | .roa t => t.El
  | .own _ _ => Unit
  | .ptr _ => Unit
  | .map _ => Unit
  | .any => Unit
  | .cloP _ _ => Unit
  | .comp cs => CosEl cs
  | .ptrO _ _ => Unit
  | .ownC _ _ _ => Unit
  | .cloB _ _ => Unit
def It.enc (σ : Nat → Nat) : (it : It) → it.El → AV
  | .data t, x => t.enc x
  | .own t i, _ => .orow t (σ i)
  | .ptr i, _ => .ptr (σ i) 0
  | .map i, _ => .map (σ i)
  | .clo f ts, x => .func f [] (ptrs ts x)
  | .roa t, x => .roa t.sz 1 (fun _ => t.enc x) 0 0
  | .any, _ => .any
  | .cloP f is, _ => .func f [] (is.map fun i => .ptr (σ i) 0)
  | .comp cs, x => .agg (encCos σ cs x)
  | .ptrO i o, _ => .ptr (σ i) o
  | .ownC sz i len, _ => .own sz (σ i) 0 len
  | .cloB f is, _ => .func f (is.map fun i => .ptr (σ i) 0) []
def It.sz : It → Nat
  | .data t => t.sz
  | .comp cs => cosSz cs
  | _ => 1
def It.names : It → List Nat
  | .data _ | .clo _ _ | .roa _ | .any => []
  | .own _ i | .ptr i | .map i | .ptrO i _ | .ownC _ i _ => [i]
  | .cloP _ is => is
  | .cloB _ is => is
  | .comp cs => cosNames cs
def AV.isOrow (t : Ty) (k : Nat) : AV → Bool
  | .orow t' k' => decide (t' = t) && k' == k
  | _ => false
def AV.isPtr (k : Nat) : AV → Bool
  | .ptr k' o => k' == k && o == 0
  | _ => false
def AV.isPtrO (k o : Nat) : AV → Bool
  | .ptr k' o' => k' == k && o' == o
  | _ => false
def AV.isOwn (sz k len : Nat) : AV → Bool
  | .own sz' k' o' len' => sz' == sz && (k' == k && (o' == 0 && len' == len))
  | _ => false
def AV.isMap (k : Nat) : AV → Bool
  | .map k' => k' == k
  | _ => false
def decP (t : Ty) (v : AV) : Option t.El := match v with
  | .roa sz n f j o => if o = 0 ∧ t.ckC (f j).cells then some (t.decC (f j).cells) else none
  | _ => none
def decPs : (ts : List Ty) → List AV → Option (Els ts)
  | [], cs => if cs.isEmpty then some () else none
  | t :: ts, cs => match cs with
    | c :: r => match decP t c with
      | some x => match decPs ts r with
        | some y => some (x, y)
        | none => none
      | none => none
    | [] => none
def decF (g : FuncId) (ts : List Ty) (v : AV) : Option (Els ts) := match v with
  | .func f' first caps => if f' = g ∧ first.isEmpty then decPs ts caps else none
  | _ => none
def ptrsAre (σ : Nat → Nat) : List Nat → List AV → Bool
  | [], cs => cs.isEmpty
  | i :: r, cs => match cs with
    | c :: cs => c.isPtr (σ i) && ptrsAre σ r cs
    | [] => false
def AV.isCloP (σ : Nat → Nat) (f : FuncId) (is : List Nat) : AV → Bool
  | .func f' first caps => Nat.beq f' f && (first.isEmpty && ptrsAre σ is caps)
  | _ => false
def AV.isCloB (σ : Nat → Nat) (f : FuncId) (is : List Nat) : AV → Bool
  | .func f' first caps => Nat.beq f' f && (caps.isEmpty && ptrsAre σ is first)
  | _ => false
theorem ptrsAre_eq {σ : Nat → Nat} : ∀ (is : List Nat) (cs : List AV), ptrsAre σ is cs = true → cs = is.map fun i => .ptr (σ i) 0
  | [], cs, h => by simpa [ptrsAre] using h
  | i :: r, [], h => by simp [ptrsAre] at h
  | i :: r, c :: cs, h => by
    simp only [ptrsAre, Bool.and_eq_true] at h
    have h1 := h.1
    cases c <;> simp [AV.isPtr] at h1
    obtain ⟨rfl, rfl⟩ := h1
    rw [ptrsAre_eq r cs h.2]; rfl
theorem isCloP_eq {σ : Nat → Nat} {f : FuncId} {is : List Nat} {v : AV} (h : v.isCloP σ f is = true) : v = .func f [] (is.map fun i => .ptr (σ i) 0) := by
  cases v <;> simp only [AV.isCloP, Bool.and_eq_true] at h <;> try (cases h; done)
  obtain ⟨h1, h2, h3⟩ := h
  have := Nat.eq_of_beq_eq_true h1
  subst this
  rename_i first caps
  have : first = [] := by simpa using h2
  subst this
  rw [ptrsAre_eq is caps h3]
theorem isCloB_eq {σ : Nat → Nat} {f : FuncId} {is : List Nat} {v : AV} (h : v.isCloB σ f is = true) : v = .func f (is.map fun i => .ptr (σ i) 0) [] := by
  cases v <;> simp only [AV.isCloB, Bool.and_eq_true] at h <;> try (cases h; done)
  obtain ⟨h1, h2, h3⟩ := h
  have := Nat.eq_of_beq_eq_true h1
  subst this
  rename_i first caps
  have : caps = [] := by simpa using h2
  subst this
  rw [ptrsAre_eq is first h3]
def decCos (σ : Nat → Nat) : (cs : List Co) → List AV → Option (CosEl cs)
  | [], l => if l.isEmpty then some () else none
  | .dat t :: r, l => if t.ckC (l.take t.sz) then (match decCos σ r (l.drop t.sz) with
    | some y => some (t.decC (l.take t.sz), y)
    | none => none) else none
  | .row t i :: r, l => match l with
    | v :: l' => if v.isOrow t (σ i) then (match decCos σ r l' with
      | some y => some ((), y)
      | none => none) else none
    | [] => none
def It.dec (σ : Nat → Nat) : (it : It) → AV → Option it.El
  | .data t, v => if t.ck v then some (t.dec v) else none
  | .own t i, v => if v.isOrow t (σ i) then some () else none
  | .ptr i, v => if v.isPtr (σ i) then some () else none
  | .map i, v => if v.isMap (σ i) then some () else none
  | .clo f ts, v => decF f ts v
  | .roa t, v => decP t v
  | .any, _ => some ()
  | .cloP f is, v => if v.isCloP σ f is then some () else none
  | .ptrO i o, v => if v.isPtrO (σ i) o then some () else none
  | .ownC sz i len, v => if v.isOwn sz (σ i) len then some () else none
  | .cloB f is, v => if v.isCloB σ f is then some () else none
  | .comp cs, v => match v with
    | .agg l => decCos σ cs l
    | _ => none
def It.decC (σ : Nat → Nat) : (it : It) → List AV → Option it.El
  | .data t, cs => if t.ckC cs then some (t.decC cs) else none
  | .own t i, cs => if one1 (AV.isOrow t (σ i)) cs then some () else none
  | .ptr i, cs => if one1 (AV.isPtr (σ i)) cs then some () else none
  | .map i, cs => if one1 (AV.isMap (σ i)) cs then some () else none
  | .clo f ts, cs => match cs with
    | [v] => decF f ts v
    | _ => none
  | .roa t, cs => match cs with
    | [v] => decP t v
    | _ => none
  | .any, cs => match cs with
    | [_] => some ()
    | _ => none
  | .cloP f is, cs => if one1 (AV.isCloP σ f is) cs then some () else none
  | .ptrO i o, cs => if one1 (AV.isPtrO (σ i) o) cs then some () else none
  | .ownC sz i len, cs => if one1 (AV.isOwn sz (σ i) len) cs then some () else none
  | .cloB f is, cs => if one1 (AV.isCloB σ f is) cs then some () else none
  | .comp cs, l => decCos σ cs l
section
variable {w : World} {R : Nat → Prop} {ρ : Nm} {h : AH}
theorem decP_ok {t : Ty} {v : AV} {u : Value} {x : t.El} (hf : decP t v = some x) (hv : VRep w R ρ v u) : VRep w R ρ (.roa t.sz 1 (fun _ => t.enc x) 0 0) u := by
  unfold decP at hf
  split at hf
  · rename_i sz n f j o
    split at hf
    · rename_i hc
      obtain ⟨rfl, hck⟩ := hc
      injection hf with hf; subst hf
      cases hv with
      | @roa _ _ _ _ _ b off0 v hj hR hsz hc hv =>
      have hlen : (f j).cells.length = t.sz := t.ckC_len hck
      have hus : VReps w R ρ (f j).cells ((List.range t.sz).map (v j)) := by
        refine ⟨by simp [hlen], fun k c u hk hu => ?_⟩
        have hkl : k < t.sz := by rw [← hlen]; exact (List.getElem?_eq_some_iff.1 hk).1
        simp [List.getElem?_map, List.getElem?_range hkl] at hu
        subst hu
        exact hv j k c hj hk
      have hok := t.okC hck hus
      have := VRep.roa (w := w) (R := R) (ρ := ρ) (sz := t.sz) (n := 1) (f := fun _ => t.enc (t.decC (f j).cells)) (j := 0) (o := 0) (b := b) (off0 := off0 + j * sz) (fun _ o => v j o) (by omega) hR (fun _ _ => t.enc_len _)
        (fun j' o c hj' hco => by
          obtain rfl : j' = 0 := by omega
          have hol : o < (f j).cells.length := by rw [hlen, ← t.enc_len (t.decC (f j).cells)]; exact (List.getElem?_eq_some_iff.1 hco).1
          have := hc j o _ hj (List.getElem?_eq_getElem hol)
          have e : off0 + j * sz + (0 * t.sz + o) = off0 + (j * sz + o) := by omega
          rw [e]; exact this)
        (fun j' o c hj' hco => by
          obtain rfl : j' = 0 := by omega
          obtain ⟨u, hu, hvu⟩ := hok.get hco
          have hol : o < t.sz := by rw [← t.enc_len (t.decC (f j).cells)]; exact (List.getElem?_eq_some_iff.1 hco).1
          simp [List.getElem?_map, List.getElem?_range hol] at hu
          subst hu; exact hvu)
      simpa [Nat.add_assoc] using this
    · cases hf
  · cases hf
theorem decPs_ok : ∀ (ts : List Ty) {cs : List AV} {us : List Value} {x : Els ts}, decPs ts cs = some x → VReps w R ρ cs us → VReps w R ρ (ptrs ts x) us
  | [], cs, us, x, hf, hv => by
    simp only [decPs] at hf
    split at hf
    · rename_i hc
      have : cs = [] := by simpa using hc
      subst this
      exact hv
    · cases hf
  | t :: ts, cs, us, x, hf, hv => by
    simp only [decPs] at hf
    split at hf
    · rename_i c r
      split at hf
      · rename_i x1 he1
        split at hf
        · rename_i y1 he2
          injection hf with hf
          subst hf
          obtain ⟨u, us', rfl, v1, v2⟩ := hv.cons_inv
          exact .cons (decP_ok he1 v1) (decPs_ok ts he2 v2)
        · cases hf
      · cases hf
    · cases hf
theorem decF_ok {g : FuncId} {ts : List Ty} {v : AV} {u : Value} {x : Els ts} (hf : decF g ts v = some x) (hv : VRep w R ρ v u) : VRep w R ρ (.func g [] (ptrs ts x)) u := by
  unfold decF at hf
  split at hf
  · rename_i f' first caps
    split at hf
    · rename_i hc
      obtain ⟨rfl, hfi⟩ := hc
      have : first = [] := by simpa using hfi
      subst this
      cases hv with
      | func vf vc h1 h2 h3 h4 =>
      have h5 : VReps w R ρ caps vc.toList := ⟨by simpa using h2, fun k c u hc hu => h4 k c u hc (by simpa using hu)⟩
      have h6 := decPs_ok ts hf h5
      exact .func vf vc h1 (by simpa using h6.1) (fun k c u hc => by simp at hc) (fun k c u hc hu => h6.2 k c u hc (by simpa using hu))
    · cases hf
  · cases hf
theorem decCos_ok {σ : Nat → Nat} : ∀ (cs : List Co) {l : List AV} {x : CosEl cs} {us : List Value}, decCos σ cs l = some x → VReps w R ρ l us → VReps w R ρ (encCos σ cs x) us
  | [], l, x, us, hd, hv => by
    simp only [decCos] at hd
    split at hd
    · rename_i hc
      have : l = [] := by simpa using hc
      subst this
      exact hv
    · cases hd
  | .dat t :: r, l, x, us, hd, hv => by
    simp only [decCos] at hd
    split at hd
    · rename_i hc
      split at hd
      · rename_i y hy
        injection hd with hd
        subst hd
        have h1 := t.okC hc (hv.take t.sz)
        have h2 := decCos_ok r hy (hv.drop t.sz)
        have := h1.append h2
        rwa [List.take_append_drop] at this
      · cases hd
    · cases hd
  | .row t i :: r, l, x, us, hd, hv => by
    cases l with
    | nil => simp [decCos] at hd
    | cons v l' =>
      simp only [decCos] at hd
      split at hd
      · rename_i hc
        split at hd
        · rename_i y hy
          injection hd with hd
          subst hd
          cases v <;> simp [AV.isOrow] at hc
          obtain ⟨rfl, rfl⟩ := hc
          obtain ⟨u, us', rfl, h1, h2⟩ := hv.cons_inv
          exact .cons h1 (decCos_ok r hy h2)
        · cases hd
      · cases hd
theorem orow_rename {ρ' : Nm} {t : Ty} {j k : Nat} {u : Value} (h1 : ρ' k = ρ j) (hv : VRep w R ρ (.orow t j) u) : VRep w R ρ' (.orow t k) u := by
  cases hv with
  | orow k1 k2 k3 k4 => exact .orow (h1.trans k1) k2 k3 k4
  | onil k1 k2 => exact .onil (h1.trans k1) k2
theorem encCos_rename {σ τ : Nat → Nat} {ρ' : Nm} : ∀ (cs : List Co) (x : CosEl cs) {us : List Value}, (∀ i ∈ cosNames cs, ρ' (τ i) = ρ (σ i)) → VReps w R ρ (encCos σ cs x) us → VReps w R ρ' (encCos τ cs x) us
  | [], x, us, hn, hv => by
    obtain rfl := hv.nil_inv
    exact .nil
  | .dat t :: r, x, us, hn, hv => by
    have h1 := hv.take (t.enc x.1).cells.length
    have h2 := hv.drop (t.enc x.1).cells.length
    simp only [encCos, List.take_left', List.drop_left'] at h1 h2
    have k1 : VReps w R ρ' (t.enc x.1).cells (us.take (t.enc x.1).cells.length) := Nameless.reps (t.namelessC x.1) h1
    have k2 := encCos_rename r x.2 (fun i hi => hn i hi) h2
    have := k1.append k2
    rwa [List.take_append_drop] at this
  | .row t i :: r, x, us, hn, hv => by
    obtain ⟨u, us', rfl, h1, h2⟩ := VReps.cons_inv (c := .orow t (σ i)) hv
    exact .cons (orow_rename (hn i (by simp [cosNames])) h1) (encCos_rename r x.2 (fun i hi => hn i (by simp [cosNames, hi])) h2)
theorem encCos_len {σ τ : Nat → Nat} : ∀ (cs : List Co) (x : CosEl cs), (encCos σ cs x).length = (encCos τ cs x).length
  | [], x => rfl
  | .dat t :: r, x => by simp only [encCos, List.length_append, encCos_len (σ := σ) (τ := τ) r]
  | .row t i :: r, x => by simp only [encCos, List.length_cons, encCos_len (σ := σ) (τ := τ) r]
theorem It.dec_ok {σ : Nat → Nat} (it : It) {v : AV} {x : it.El} {u : Value} (hd : it.dec σ v = some x) (hv : VRep w R ρ v u) : VRep w R ρ (it.enc σ x) u := by
  cases it with
  | data t =>
    simp only [It.dec] at hd
    split at hd
    · rename_i hc
      injection hd with hd; subst hd
      exact t.ok hc hv
    · cases hd
  | own t i =>
    simp only [It.dec] at hd
    split at hd
    · rename_i hc
      cases v <;> simp [AV.isOrow] at hc
      obtain ⟨rfl, rfl⟩ := hc
      exact hv
    · cases hd
  | ptr i =>
    simp only [It.dec] at hd
    split at hd
    · rename_i hc
      cases v <;> simp [AV.isPtr] at hc
      obtain ⟨rfl, rfl⟩ := hc
      exact hv
    · cases hd
  | map i =>
    simp only [It.dec] at hd
    split at hd
    · rename_i hc
      cases v <;> simp [AV.isMap] at hc
      subst hc
      exact hv
    · cases hd
  | clo f ts => exact decF_ok hd hv
  | roa t => exact decP_ok hd hv
  | any => exact .any _
  | cloP f is =>
    simp only [It.dec] at hd
    split at hd
    · rename_i hc
      rw [isCloP_eq hc] at hv
      exact hv
    · cases hd
  | ptrO i o =>
    simp only [It.dec] at hd
    split at hd
    · rename_i hc
      cases v <;> simp [AV.isPtrO] at hc
      obtain ⟨rfl, rfl⟩ := hc
      exact hv
    · cases hd
  | ownC sz i len =>
    simp only [It.dec] at hd
    split at hd
    · rename_i hc
      cases v <;> simp [AV.isOwn] at hc
      obtain ⟨rfl, rfl, rfl, rfl⟩ := hc
      exact hv
    · cases hd
  | cloB f is =>
    simp only [It.dec] at hd
    split at hd
    · rename_i hc
      rw [isCloB_eq hc] at hv
      exact hv
    · cases hd
  | comp cs =>
    simp only [It.dec] at hd
    split at hd
    · obtain ⟨us, rfl, h1⟩ := hv.agg_inv
      exact .agg' (decCos_ok cs hd h1)
    · cases hd
theorem It.decC_ok {σ : Nat → Nat} (it : It) {cs : List AV} {x : it.El} {us : List Value} (hd : it.decC σ cs = some x) (hv : VReps w R ρ cs us) : VReps w R ρ (it.enc σ x).cells us := by
  cases it with
  | data t =>
    simp only [It.decC] at hd
    split at hd
    · rename_i hc
      injection hd with hd; subst hd
      exact t.okC hc hv
    · cases hd
  | own t i =>
    simp only [It.decC] at hd
    split at hd
    · rename_i hc
      obtain ⟨v, rfl, hc2⟩ := one1_inv hc
      clear hc
      cases v <;> simp [AV.isOrow] at hc2
      obtain ⟨rfl, rfl⟩ := hc2
      exact hv
    · cases hd
  | ptr i =>
    simp only [It.decC] at hd
    split at hd
    · rename_i hc
      obtain ⟨v, rfl, hc2⟩ := one1_inv hc
      clear hc
      cases v <;> simp [AV.isPtr] at hc2
      obtain ⟨rfl, rfl⟩ := hc2
      exact hv
    · cases hd
  | map i =>
    simp only [It.decC] at hd
    split at hd
    · rename_i hc
      obtain ⟨v, rfl, hc2⟩ := one1_inv hc
      clear hc
      cases v <;> simp [AV.isMap] at hc2
      subst hc2
      exact hv
    · cases hd
  | clo f ts =>
    simp only [It.decC] at hd
    split at hd
    · obtain ⟨u, us', rfl, h1, h2⟩ := hv.cons_inv
      obtain rfl := h2.nil_inv
      exact .cons (decF_ok hd h1) .nil
    · cases hd
  | roa t =>
    simp only [It.decC] at hd
    split at hd
    · obtain ⟨u, us', rfl, h1, h2⟩ := hv.cons_inv
      obtain rfl := h2.nil_inv
      exact .cons (decP_ok hd h1) .nil
    · cases hd
  | any =>
    simp only [It.decC] at hd
    split at hd
    · obtain ⟨u, us', rfl, h1, h2⟩ := hv.cons_inv
      obtain rfl := h2.nil_inv
      exact .cons (.any _) .nil
    · cases hd
  | cloP f is =>
    simp only [It.decC] at hd
    split at hd
    · rename_i hc
      obtain ⟨v, rfl, hc2⟩ := one1_inv hc
      rw [isCloP_eq hc2] at hv
      exact hv
    · cases hd
  | ptrO i o =>
    simp only [It.decC] at hd
    split at hd
    · rename_i hc
      obtain ⟨v, rfl, hc2⟩ := one1_inv hc
      cases v <;> simp [AV.isPtrO] at hc2
      obtain ⟨rfl, rfl⟩ := hc2
      exact hv
    · cases hd
  | ownC sz i len =>
    simp only [It.decC] at hd
    split at hd
    · rename_i hc
      obtain ⟨v, rfl, hc2⟩ := one1_inv hc
      cases v <;> simp [AV.isOwn] at hc2
      obtain ⟨rfl, rfl, rfl, rfl⟩ := hc2
      exact hv
    · cases hd
  | cloB f is =>
    simp only [It.decC] at hd
    split at hd
    · rename_i hc
      obtain ⟨v, rfl, hc2⟩ := one1_inv hc
      rw [isCloB_eq hc2] at hv
      exact hv
    · cases hd
  | comp cs => exact decCos_ok cs hd hv
theorem It.rename {σ τ : Nat → Nat} {ρ' : Nm} (it : It) (x : it.El) {u : Value} (hn : ∀ i ∈ it.names, ρ' (τ i) = ρ (σ i)) (hv : VRep w R ρ (it.enc σ x) u) : VRep w R ρ' (it.enc τ x) u := by
  cases it with
  | data t => exact t.nameless x _ _ _ _ _ hv
  | own t i =>
    have h1 := hn i (by simp [It.names])
    cases hv with
    | orow k1 k2 k3 k4 => exact .orow (h1.trans k1) k2 k3 k4
    | onil k1 k2 => exact .onil (h1.trans k1) k2
  | ptr i =>
    have h1 := hn i (by simp [It.names])
    cases hv with
    | ptr k1 => exact .ptr (h1.trans k1)
  | map i =>
    have h1 := hn i (by simp [It.names])
    cases hv with
    | map k1 => exact .map (h1.trans k1)
  | clo f ts => exact (PTy.clo f ts).nameless x _ _ _ _ _ hv
  | roa t => exact nameless_ptrs [t] (x, ()) (.roa t.sz 1 (fun _ => t.enc x) 0 0) (by simp [ptrs]) _ _ _ _ _ hv
  | any => exact .any _
  | cloP f is =>
    have hv : VRep w R ρ (.func f [] (is.map fun i => .ptr (σ i) 0)) u := hv
    cases hv with
    | func vf vc h1 h2 h3 h4 =>
    refine .func vf vc h1 (by simpa using h2) (fun k c u hc => by simp at hc) (fun k c u hc hu => ?_)
    rw [List.getElem?_map] at hc
    obtain ⟨i, hi, rfl⟩ := Option.map_eq_some_iff.1 hc
    have h5 := h4 k (.ptr (σ i) 0) u (by rw [List.getElem?_map, hi]; rfl) hu
    cases h5 with
    | ptr h6 => exact .ptr ((hn i (List.mem_of_getElem? hi)).trans h6)
  | ptrO i o =>
    have h1 := hn i (by simp [It.names])
    cases hv with
    | ptr k1 => exact .ptr (h1.trans k1)
  | ownC sz i len =>
    have h1 := hn i (by simp [It.names])
    cases hv with
    | own k1 k2 k3 => exact .own (h1.trans k1) k2 k3
  | cloB f is =>
    have hv : VRep w R ρ (.func f (is.map fun i => .ptr (σ i) 0) []) u := hv
    cases hv with
    | func vf vc h1 h2 h3 h4 =>
    refine .func vf vc (by simpa using h1) h2 (fun k c u hc hu => ?_) (fun k c u hc => by simp at hc)
    rw [List.getElem?_map] at hc
    obtain ⟨i, hi, rfl⟩ := Option.map_eq_some_iff.1 hc
    have h5 := h3 k (.ptr (σ i) 0) u (by rw [List.getElem?_map, hi]; rfl) hu
    cases h5 with
    | ptr h6 => exact .ptr ((hn i (List.mem_of_getElem? hi)).trans h6)
  | comp cs =>
    obtain ⟨us, rfl, h1⟩ := VRep.agg_inv (cs := encCos σ cs x) hv
    exact .agg' (encCos_rename cs x hn h1)
theorem It.renameC {σ τ : Nat → Nat} {ρ' : Nm} (it : It) (x : it.El) {us : List Value} (hn : ∀ i ∈ it.names, ρ' (τ i) = ρ (σ i)) (hv : VReps w R ρ (it.enc σ x).cells us) : VReps w R ρ' (it.enc τ x).cells us := by
  cases it with
  | data t => exact Nameless.reps (t.namelessC x) hv
  | own t i =>
    obtain ⟨u, us', rfl, h1, h2⟩ := VReps.cons_inv (c := .orow t (σ i)) hv
    obtain rfl := h2.nil_inv
    exact .cons ((It.own t i).rename (σ := σ) (τ := τ) x hn h1) .nil
  | ptr i =>
    obtain ⟨u, us', rfl, h1, h2⟩ := VReps.cons_inv (c := .ptr (σ i) 0) hv
    obtain rfl := h2.nil_inv
    exact .cons ((It.ptr i).rename (σ := σ) (τ := τ) x hn h1) .nil
  | map i =>
    obtain ⟨u, us', rfl, h1, h2⟩ := VReps.cons_inv (c := .map (σ i)) hv
    obtain rfl := h2.nil_inv
    exact .cons ((It.map i).rename (σ := σ) (τ := τ) x hn h1) .nil
  | clo f ts =>
    obtain ⟨u, us', rfl, h1, h2⟩ := VReps.cons_inv (c := (It.clo f ts).enc σ x) hv
    obtain rfl := h2.nil_inv
    exact .cons ((It.clo f ts).rename (σ := σ) (τ := τ) x hn h1) .nil
  | roa t =>
    obtain ⟨u, us', rfl, h1, h2⟩ := VReps.cons_inv (c := (It.roa t).enc σ x) hv
    obtain rfl := h2.nil_inv
    exact .cons ((It.roa t).rename (σ := σ) (τ := τ) x hn h1) .nil
  | any =>
    obtain ⟨u, us', rfl, h1, h2⟩ := VReps.cons_inv (c := .any) hv
    obtain rfl := h2.nil_inv
    exact .cons (.any _) .nil
  | cloP f is =>
    obtain ⟨u, us', rfl, h1, h2⟩ := VReps.cons_inv (c := (It.cloP f is).enc σ x) hv
    obtain rfl := h2.nil_inv
    exact .cons ((It.cloP f is).rename (σ := σ) (τ := τ) x hn h1) .nil
  | ptrO i o =>
    obtain ⟨u, us', rfl, h1, h2⟩ := VReps.cons_inv (c := .ptr (σ i) o) hv
    obtain rfl := h2.nil_inv
    exact .cons ((It.ptrO i o).rename (σ := σ) (τ := τ) x hn h1) .nil
  | ownC sz i len =>
    obtain ⟨u, us', rfl, h1, h2⟩ := VReps.cons_inv (c := .own sz (σ i) 0 len) hv
    obtain rfl := h2.nil_inv
    exact .cons ((It.ownC sz i len).rename (σ := σ) (τ := τ) x hn h1) .nil
  | cloB f is =>
    obtain ⟨u, us', rfl, h1, h2⟩ := VReps.cons_inv (c := (It.cloB f is).enc σ x) hv
    obtain rfl := h2.nil_inv
    exact .cons ((It.cloB f is).rename (σ := σ) (τ := τ) x hn h1) .nil
  | comp cs => exact encCos_rename cs x hn hv
end
end Go.DI
set_option linter.unusedVariables false
set_option linter.unusedSimpArgs false
namespace Go.DI
@[reducible] def ItsEl : List It → Type
  | [] => Unit
  | it :: r => it.El × ItsEl r
def encCs (σ : Nat → Nat) : (cs : List It) → ItsEl cs → List AV
  | [], _ => []
  | it :: r, x => (it.enc σ x.1).cells ++ encCs σ r x.2
def decCs (σ : Nat → Nat) : (cs : List It) → List AV → Option (ItsEl cs)
  | [], l => if l.isEmpty then some () else none
  | it :: r, l => match it.decC σ (l.take it.sz), decCs σ r (l.drop it.sz) with
    | some x, some y => some (x, y)
    | _, _ => none
def namesOf (cs : List It) : List Nat := cs.flatMap It.names
inductive Bl where
  | var (bt : TypeId) (cs : List It)
  | row (bt : TypeId) (t : Ty)
  | tmap (kt vt : Ty)
@[reducible] def Bl.El : Bl → Type
  | .var _ cs => ItsEl cs
  | .row _ t => List t.El
  | .tmap kt vt => List (kt.El × vt.El)
def Bl.enc : (b : Bl) → b.El → ABlk
  | .var bt cs, x => .cells bt (encCs id cs x)
  | .row bt t, l => .row bt t l
  | .tmap kt vt, m => .tmap kt vt m
def Bl.names : Bl → List Nat
  | .var _ cs => namesOf cs
  | _ => []
def Bl.dec (σ : Nat → Nat) : (b : Bl) → ABlk → Option b.El
  | .var bt cs, .cells bt' l => if bt' = bt then decCs σ cs l else none
  | .row bt t, .row bt' t' l => if h : bt' = bt ∧ t' = t then some (h.2 ▸ l) else none
  | .tmap kt vt, .tmap kt' vt' m => if h : kt' = kt ∧ vt' = vt then some (h.1 ▸ h.2 ▸ m) else none
  | _, _ => none
section
variable {w : World} {R : Nat → Prop} {ρ ρ' : Nm} {h : AH} {σ : Nat → Nat}
theorem decCs_ok : ∀ (cs : List It) {l : List AV} {x : ItsEl cs} {us : List Value}, decCs σ cs l = some x → (∀ i ∈ namesOf cs, ρ' i = ρ (σ i)) → VReps w R ρ l us → VReps w R ρ' (encCs id cs x) us
  | [], l, x, us, hd, hn, hv => by
    simp only [decCs] at hd
    split at hd
    · rename_i hc
      have : l = [] := by simpa using hc
      subst this
      obtain rfl := hv.nil_inv
      exact .nil
    · cases hd
  | it :: r, l, x, us, hd, hn, hv => by
    simp only [decCs] at hd
    split at hd
    · rename_i x1 y1 h1 h2
      injection hd with hd
      subst hd
      have k1 := it.renameC (τ := id) (ρ' := ρ') x1 (fun i hi => hn i (by simp [namesOf, List.mem_flatMap]; exact .inl hi)) (it.decC_ok h1 (hv.take it.sz))
      have k2 := decCs_ok r h2 (fun i hi => hn i (by
        simp only [namesOf, List.flatMap_cons, List.mem_append]; exact .inr hi)) (hv.drop it.sz)
      have := k1.append k2
      rwa [List.take_append_drop] at this
    · cases hd
theorem Bl.dec_ok (b : Bl) {blk : ABlk} {x : b.El} {n : Nat} {N : BN} {R0 : Nat → Prop} (hd : b.dec σ blk = some x) (hre : Real R0 n N blk) (hn : ∀ i ∈ b.names, ρ' i = ρ (σ i)) (hb : BRep w R ρ n N blk) :
    BRep w R ρ' n N (b.enc x) ∧ Real R0 n N (b.enc x) := by
  cases b with
  | var bt cs =>
    cases blk <;> simp only [Bl.dec] at hd <;> try (cases hd; done)
    rename_i bt' l
    by_cases he : bt' = bt
    · have hd : decCs σ cs l = some x := by
        have e : (if bt' = bt then decCs σ cs l else none) = some x := hd
        rw [if_pos he] at e
        exact e
      subst he
      obtain ⟨arr, h1, h2, h3, h4⟩ := hb
      have h5 := decCs_ok (ρ' := ρ') cs hd hn h4
      have hlen : (encCs id cs x).length = l.length := by
        have h6 := h5.1
        have h7 := h4.1
        omega
      exact ⟨⟨arr, h1, h2, by show (encCs id cs x).length ≤ _; omega, by
        show VReps w R ρ' (encCs id cs x) (arr.toList.take (encCs id cs x).length)
        rw [hlen]; exact h5⟩, .inl hre.cells⟩
    · exact absurd hd (by simp [he])
  | row bt t =>
    cases blk <;> simp only [Bl.dec] at hd <;> try (cases hd; done)
    rename_i bt' t' l
    split at hd
    · rename_i he
      obtain ⟨rfl, rfl⟩ := he
      injection hd with hd; subst hd
      refine ⟨?_, hre⟩
      obtain ⟨h1, h2⟩ := hb
      refine ⟨h1, fun hg => ?_⟩
      obtain ⟨arr, h3, h4, h5, h6⟩ := h2 hg
      exact ⟨arr, h3, h4, h5, fun j o c hj hc => by
        obtain ⟨u, hu, hv⟩ := h6 j o c hj hc
        exact ⟨u, hu, t'.namelessC _ c (List.mem_of_getElem? hc) _ _ _ _ _ hv⟩⟩
    · cases hd
  | tmap kt vt =>
    cases blk <;> simp only [Bl.dec] at hd <;> try (cases hd; done)
    rename_i kt' vt' m
    split at hd
    · rename_i he
      obtain ⟨rfl, rfl⟩ := he
      injection hd with hd; subst hd
      refine ⟨?_, hre⟩
      obtain ⟨arr, clock, h1, h2, h3⟩ := hb
      refine ⟨arr, clock, h1, Nameless.reps ?_ h2, Nameless.reps ?_ h3⟩
      · intro c hc
        obtain ⟨p, _, rfl⟩ := List.mem_map.1 hc
        exact kt'.nameless _
      · intro c hc
        obtain ⟨p, _, rfl⟩ := List.mem_map.1 hc
        exact vt'.nameless _
    · cases hd
end
end Go.DI
set_option linter.unusedVariables false
set_option linter.unusedSimpArgs false
namespace Go.DI
@[reducible] def RegsEl : List (Nat × It) → Type
  | [] => Unit
  | p :: r => p.2.El × RegsEl r
def encR : (rs : List (Nat × It)) → RegsEl rs → List AV → List AV
  | [], _, l => l
  | p :: r, x, l => encR r x.2 (l.set p.1 (p.2.enc id x.1))
def decR (σ : Nat → Nat) (l : List AV) : (rs : List (Nat × It)) → Option (RegsEl rs)
  | [] => some ()
  | p :: r => match l[p.1]? with
    | some v => match p.2.dec σ v, decR σ l r with
      | some x, some y => some (x, y)
      | _, _ => none
    | none => none
@[reducible] def BlksEl : List Bl → Type
  | [] => Unit
  | b :: r => b.El × BlksEl r
def encB : (bs : List Bl) → BlksEl bs → AH
  | [], _ => []
  | b :: r, x => some (b.enc x.1) :: encB r x.2
def decB (σ : Nat → Nat) (h : AH) : (i : Nat) → (bs : List Bl) → Option (BlksEl bs)
  | _, [] => some ()
  | i, b :: r => match h[σ i]? with
    | some (some blk) => match b.dec σ blk, decB σ h (i + 1) r with
      | some x, some y => some (x, y)
      | _, _ => none
    | _ => none
structure LayD where
  n : Nat
  regs : List (Nat × It)
  blks : List Bl
  sig : AS → List Nat
def LayD.names (L : LayD) : List Nat := L.regs.flatMap (·.2.names) ++ L.blks.flatMap Bl.names
def nodupB : List Nat → Bool
  | [] => true
  | x :: r => !r.contains x && nodupB r
abbrev LayD.El (L : LayD) : Type := RegsEl L.regs × BlksEl L.blks
def LayD.enc (L : LayD) (x : L.El) : AS := ⟨encR L.regs x.1 (List.replicate L.n .any), encB L.blks x.2⟩
def pinAt : Nat → Nat → List Nat → Bool
  | 0, _, _ => true
  | n + 1, i, l => match l with
    | k :: r => Nat.beq k i && pinAt n (i + 1) r
    | [] => false
def pinB (p : Nat) (l : List Nat) : Bool := pinAt p 0 l
theorem pinAt_ok : ∀ (n i : Nat) (l : List Nat), pinAt n i l = true → n ≤ l.length ∧ ∀ k, k < n → l.getD k 0 = i + k
  | 0, i, l, h => ⟨Nat.zero_le _, fun k hk => by omega⟩
  | n + 1, i, [], h => by simp [pinAt] at h
  | n + 1, i, x :: r, h => by
    simp only [pinAt, Bool.and_eq_true] at h
    obtain ⟨h1, h2⟩ := pinAt_ok n (i + 1) r h.2
    have h3 := Nat.eq_of_beq_eq_true h.1
    refine ⟨by simp; omega, fun k hk => ?_⟩
    cases k with
    | zero => simp [h3]
    | succ k =>
      rw [List.getD_cons_succ, h2 k (by omega)]
      omega
def LayD.dec (p : Nat) (L : LayD) (s : AS) : Option L.El :=
  if (L.sig s).length = L.blks.length ∧ nodupB (L.sig s) = true ∧ s.r.length = L.n ∧ L.names.all (fun i => decide (i < L.blks.length)) = true ∧ pinB p (L.sig s) = true then
    (match decR (fun i => (L.sig s).getD i 0) s.r L.regs, decB (fun i => (L.sig s).getD i 0) s.h 0 L.blks with
    | some x, some y => some (x, y)
    | _, _ => none)
  else none
section
variable {w : World} {R : Nat → Prop} {ρ ρ' : Nm} {h : AH} {σ : Nat → Nat}
theorem nodupB_inj : ∀ {l : List Nat}, nodupB l = true → ∀ i j, i < l.length → j < l.length → l.getD i 0 = l.getD j 0 → i = j
  | [], _, i, j, hi, _, _ => by simp at hi
  | x :: r, hn, i, j, hi, hj, he => by
    simp only [nodupB, Bool.and_eq_true, Bool.not_eq_true'] at hn
    have hx : x ∉ r := by simpa using hn.1
    cases i with
    | zero =>
      cases j with
      | zero => rfl
      | succ j =>
        have hj : j < r.length := by simpa using hj
        have he' : x = r[j] := by simpa [List.getD_eq_getElem?_getD, List.getElem?_eq_getElem hj] using he
        exact absurd (by rw [he']; exact List.getElem_mem hj) hx
    | succ i =>
      have hi : i < r.length := by simpa using hi
      cases j with
      | zero =>
        have he' : x = r[i] := by simpa [List.getD_eq_getElem?_getD, List.getElem?_eq_getElem hi] using he.symm
        exact absurd (by rw [he']; exact List.getElem_mem hi) hx
      | succ j =>
        have hj : j < r.length := by simpa using hj
        simp only [List.getD_cons_succ] at he
        rw [nodupB_inj hn.2 i j hi hj he]
theorem decR_ok {us : List Value} {l0 : List AV} (hv : VReps w R ρ l0 us) : ∀ (rs : List (Nat × It)) {x : RegsEl rs} {l : List AV}, decR σ l0 rs = some x → (∀ i ∈ rs.flatMap (·.2.names), ρ' i = ρ (σ i)) → VReps w R ρ' l us → VReps w R ρ' (encR rs x l) us
  | [], x, l, hd, hn, hl => hl
  | p :: r, x, l, hd, hn, hl => by
    simp only [decR] at hd
    split at hd
    · rename_i v hv0
      split at hd
      · rename_i x1 y1 h1 h2
        injection hd with hd
        subst hd
        obtain ⟨u, hu, hvu⟩ := hv.get hv0
        have k1 := p.2.rename (τ := id) (ρ' := ρ') x1 (fun i hi => hn i (by simp only [List.flatMap_cons, List.mem_append]; exact .inl hi)) (p.2.dec_ok h1 hvu)
        have k2 := hl.set p.1 k1
        have e : us.set p.1 u = us := by
          apply List.ext_getElem?
          intro k
          rw [List.getElem?_set]
          split
          · rename_i hk; subst hk
            rw [hu, if_pos (List.getElem?_eq_some_iff.1 hu).1]
          · rfl
        rw [e] at k2
        exact decR_ok hv r h2 (fun i hi => hn i (by simp only [List.flatMap_cons, List.mem_append]; exact .inr hi)) k2
      · cases hd
    · cases hd
theorem encB_len : ∀ (bs : List Bl) (x : BlksEl bs), (encB bs x).length = bs.length
  | [], _ => rfl
  | b :: r, x => by simp [encB, encB_len r]
theorem encB_some : ∀ (bs : List Bl) (x : BlksEl bs) (k : Nat), k < bs.length → ∃ blk, (encB bs x)[k]? = some (some blk)
  | [], x, k, h => by simp at h
  | b :: r, x, 0, h => ⟨b.enc x.1, rfl⟩
  | b :: r, x, k + 1, h => encB_some r x.2 k (by simpa using h)
theorem decB_at : ∀ (bs : List Bl) {i : Nat} {x : BlksEl bs}, decB σ h i bs = some x → ∀ (j : Nat) (blk : ABlk), (encB bs x)[j]? = some (some blk) →
    ∃ (b : Bl) (y : b.El) (blk0 : ABlk), blk = b.enc y ∧ h[σ (i + j)]? = some (some blk0) ∧ b.dec σ blk0 = some y ∧ ∀ k ∈ b.names, k ∈ bs.flatMap Bl.names
  | [], i, x, hd, j, blk, hj => by simp [encB] at hj
  | b :: r, i, x, hd, j, blk, hj => by
    simp only [decB] at hd
    split at hd
    · rename_i blk0 hb0
      split at hd
      · rename_i x1 y1 h1 h2
        injection hd with hd
        subst hd
        cases j with
        | zero =>
          simp only [encB, List.getElem?_cons_zero, Option.some.injEq] at hj
          exact ⟨b, x1, blk0, hj.symm, hb0, h1, fun k hk => by simp only [List.flatMap_cons, List.mem_append]; exact .inl hk⟩
        | succ j =>
          simp only [encB, List.getElem?_cons_succ] at hj
          obtain ⟨b', y', blk', k1, k2, k3, k4⟩ := decB_at r h2 j blk hj
          refine ⟨b', y', blk', k1, ?_, k3, fun k hk => by simp only [List.flatMap_cons, List.mem_append]; exact .inr (k4 k hk)⟩
          rw [← k2]; congr 2; omega
      · cases hd
    · cases hd
theorem LayD.okX (p : Nat) (L : LayD) (s : AS) (x : L.El) (hd : L.dec p s = some x) : (L.sig s).length = L.blks.length ∧ nodupB (L.sig s) = true ∧ s.r.length = L.n ∧
    (∀ k, k < L.blks.length → ∃ blk, s.h[(L.sig s).getD k 0]? = some (some blk)) ∧
    ∀ (R : Nat → Prop) (ρ : Nm) (a : Act) (w : World), Rel R ρ s.h w → RegRep w R ρ s.r a → ∃ ρ1, (∀ k, k < L.blks.length → ρ1 k = ρ ((L.sig s).getD k 0)) ∧ Rel R ρ1 (L.enc x).h w ∧ RegRep w R ρ1 (L.enc x).r a ∧ FrmW p R ρ s.h w R ρ1 (L.enc x).h w := by
  unfold LayD.dec at hd
  split at hd
  · rename_i hc
    obtain ⟨c1, c2, c3, c4, c5⟩ := hc
    split at hd
    · rename_i y z hy hz
      injection hd with hd
      subst hd
      refine ⟨c1, c2, c3, fun k hk => ?_, ?_⟩
      · have hk2 : k < (encB L.blks z).length := by rw [encB_len]; exact hk
        have hne : ∃ blk, (encB L.blks z)[k]? = some (some blk) := encB_some L.blks z k hk
        obtain ⟨blk, hblk⟩ := hne
        obtain ⟨b, y', blk0, _, k2, _, _⟩ := decB_at L.blks hz k blk hblk
        rw [Nat.zero_add] at k2
        exact ⟨blk0, k2⟩
      intro R ρ a w hr ha
      generalize hσ : (fun i => (L.sig s).getD i 0) = σ at hy hz
      have hinj : ∀ i j, i < L.blks.length → j < L.blks.length → σ i = σ j → i = j := by
        intro i j hi hj he
        rw [← hσ] at he
        exact nodupB_inj c2 i j (by omega) (by omega) he
      let ρ1 : Nm := fun i => if i < L.blks.length then ρ (σ i) else none
      have hnm : ∀ i ∈ L.names, ρ1 i = ρ (σ i) := by
        intro i hi
        have := List.all_eq_true.1 c4 i hi
        have : i < L.blks.length := by simpa using this
        show (if i < L.blks.length then ρ (σ i) else none) = _
        rw [if_pos this]
      have hlt : ∀ (j : Nat) (blk : ABlk), (encB L.blks z)[j]? = some (some blk) → j < L.blks.length := by
        intro j blk hj
        rw [← encB_len L.blks z]; exact (List.getElem?_eq_some_iff.1 hj).1
      have hρ1 : ∀ j, j < L.blks.length → ρ1 j = ρ (σ j) := fun j hj => by
        show (if j < L.blks.length then ρ (σ j) else none) = _
        rw [if_pos hj]
      refine ⟨ρ1, fun k hk => by rw [← hσ] at hρ1; exact hρ1 k hk, ⟨fun j blk hj => ?_, fun i j bi bj b Ni Nj hi hj hni hnj hgi hgj => ?_, fun i hi => ?_, hr.ro⟩, ?_, ⟨rfl, rfl, rfl, Nat.le_refl _, fun _ h => h, fun _ _ _ => rfl, fun b hl => ?_, fun _ h => .inl h, (by first | exact Nat.le_refl _ | exact Nat.le_succ _), fun i bn hi hb => ?_⟩⟩
      · obtain ⟨b, y', blk0, rfl, k2, k3, k4⟩ := decB_at L.blks hz j blk hj
        rw [Nat.zero_add] at k2
        obtain ⟨n, N, h1, h2, h3⟩ := hr.live _ _ k2
        obtain ⟨h4, h5⟩ := b.dec_ok (ρ' := ρ1) k3 h3 (fun i hi => hnm i (by simp only [LayD.names, List.mem_append]; exact .inr (k4 i hi))) h2
        exact ⟨n, N, (hρ1 j (hlt j _ hj)).trans h1, h4, h5⟩
      · have li := hlt i bi hi
        have lj := hlt j bj hj
        rw [hρ1 i li] at hni
        rw [hρ1 j lj] at hnj
        obtain ⟨b1, y1, blk1, _, k2, _, _⟩ := decB_at L.blks hz i bi hi
        obtain ⟨b2, y2, blk2, _, k4, _, _⟩ := decB_at L.blks hz j bj hj
        rw [Nat.zero_add] at k2 k4
        exact hinj i j li lj (hr.inj _ _ _ _ b Ni Nj k2 k4 hni hnj hgi hgj)
      · show (if i < L.blks.length then ρ (σ i) else none) = none
        rw [if_neg]
        have : (encB L.blks z).length ≤ i := hi
        rw [encB_len] at this
        omega
      · refine decR_ok ha L.regs hy (fun i hi => hnm i (by simp only [LayD.names, List.mem_append]; exact .inl hi)) ?_
        refine ⟨by rw [List.length_replicate, ← c3]; exact ha.1, fun k c u hk hu => ?_⟩
        rw [List.getElem?_replicate] at hk
        split at hk
        · simp only [Option.some.injEq] at hk; subst hk; exact .any _
        · cases hk
      · obtain ⟨j, blk, N, hj, hn, hg⟩ := hl
        have lj := hlt j blk hj
        rw [hρ1 j lj] at hn
        obtain ⟨b2, y2, blk2, _, k4, _, _⟩ := decB_at L.blks hz j blk hj
        rw [Nat.zero_add] at k4
        exact .inl ⟨_, blk2, N, k4, hn, hg⟩
      · obtain ⟨p1, p2⟩ := pinAt_ok p 0 _ c5
        have hσi : σ i = i := by rw [← hσ]; simpa using p2 i hi
        rw [hρ1 i (by omega), hσi]
        exact hb
    · cases hd
  · cases hd
theorem LayD.ok (p : Nat) (L : LayD) (s : AS) (x : L.El) (hd : L.dec p s = some x) : Weak p s (L.enc x) := by
  intro R ρ a w hr ha
  obtain ⟨_, _, _, _, h⟩ := L.okX p s x hd
  obtain ⟨ρ1, _, h1, h2, h3⟩ := h R ρ a w hr ha
  exact ⟨R, ρ1, h1, h2, h3⟩
end
end Go.DI
set_option linter.unusedVariables false
set_option linter.unusedSimpArgs false
namespace Go.DI
theorem Weak.refl {p : Nat} (s : AS) : Weak p s s := fun R ρ a w hr ha => ⟨R, ρ, hr, ha, FrmW.refl _ _ _ _⟩
theorem Weak.trans {p : Nat} {s s1 s2 : AS} (h : Weak p s s1) (k : Weak p s1 s2) : Weak p s s2 := by
  intro R ρ a w hr ha
  obtain ⟨R1, ρ1, r1, a1, f1⟩ := h R ρ a w hr ha
  obtain ⟨R2, ρ2, r2, a2, f2⟩ := k R1 ρ1 a w r1 a1
  exact ⟨R2, ρ2, r2, a2, f1.trans f2⟩
def Strong (s s1 : AS) : Prop := ∀ (R : Nat → Prop) (ρ : Nm) (a : Act) (w : World), Rel R ρ s.h w → RegRep w R ρ s.r a → ∃ R1 ρ1, Rel R1 ρ1 s1.h w ∧ RegRep w R1 ρ1 s1.r a ∧ Frm R ρ s.h w R1 ρ1 s1.h w
theorem Strong.refl (s : AS) : Strong s s := fun R ρ a w hr ha => ⟨R, ρ, hr, ha, Frm.refl _ _ _ _⟩
theorem Strong.trans {s s1 s2 : AS} (h : Strong s s1) (k : Strong s1 s2) : Strong s s2 := by
  intro R ρ a w hr ha
  obtain ⟨R1, ρ1, r1, a1, f1⟩ := h R ρ a w hr ha
  obtain ⟨R2, ρ2, r2, a2, f2⟩ := k R1 ρ1 a w r1 a1
  exact ⟨R2, ρ2, r2, a2, f1.trans f2⟩
theorem Strong.weak {p : Nat} {s s1 : AS} (h : Strong s s1) : Weak p s s1 := by
  intro R ρ a w hr ha
  obtain ⟨R1, ρ1, r1, a1, f1⟩ := h R ρ a w hr ha
  exact ⟨R1, ρ1, r1, a1, f1.weak⟩
inductive Stp where
  | nilReg (t : Nat) (bt : TypeId) (ty : Ty)
  | frzReg (t : Nat) (ty : Ty)
  | nilCell (t o : Nat) (bt : TypeId) (ty : Ty)
  | frzCell (t o : Nat) (ty : Ty)
  | rowReg (t : Nat) (bt : TypeId) (ty : Ty)
def rowRegS (t : Nat) (bt : TypeId) (ty : Ty) (s : AS) : AS := match s.r[t]? with
  | some (.own sz i 0 n) => match s.h[i]? with
    | some (some (.cells b cs)) => if sz = ty.sz ∧ b = bt then (match ty.chunks n cs with
      | some l => ⟨s.r.set t (.orow ty s.h.length), s.h.set i none ++ [some (.row bt ty l)]⟩
      | none => s) else s
    | _ => s
  | _ => s
def Stp.run : Stp → AS → AS
  | .rowReg t bt ty, s => rowRegS t bt ty s
  | .nilReg t bt ty, s => match s.r[t]? with
    | some .nils => ⟨s.r.set t (.orow ty s.h.length), s.h ++ [some (.row bt ty [])]⟩
    | _ => s
  | .frzReg t ty, s => match s.r[t]? with
    | some v => match ty.frz s.h v with
      | some (x, h') => ⟨s.r.set t (ty.enc x), h'⟩
      | none => s
    | none => s
  | .nilCell t o bt ty, s => match s.r[t]? with
    | some (.ptr k _) => match s.h[k]? with
      | some (some (.cells b cs)) => match cs[o]? with
        | some .nils => ⟨s.r, (s.h ++ [some (ABlk.row bt ty [])]).set k (some (ABlk.cells b (cs.set o (.orow ty s.h.length))))⟩
        | _ => s
      | _ => s
    | _ => s
  | .frzCell t o ty, s => match s.r[t]? with
    | some (.ptr k _) => match s.h[k]? with
      | some (some (.cells b cs)) => match ty.frzC s.h ((cs.drop o).take ty.sz) with
        | some (x, h') => match h'[k]? with
          | some (some _) => ⟨s.r, h'.set k (some (ABlk.cells b (cs.take o ++ (ty.enc x).cells ++ cs.drop (o + ty.sz))))⟩
          | _ => s
        | none => s
      | _ => s
    | _ => s
section
variable {w : World} {R : Nat → Prop} {ρ : Nm} {h : AH}
theorem set_get {us : List Value} {k : Nat} {u : Value} (hu : us[k]? = some u) : us.set k u = us := by
  apply List.ext_getElem?
  intro j
  rw [List.getElem?_set]
  split
  · rename_i hk; subst hk
    rw [hu, if_pos (List.getElem?_eq_some_iff.1 hu).1]
  · rfl
theorem rowReg_ok (t : Nat) (bt : TypeId) (ty : Ty) (s : AS) : Strong s (rowRegS t bt ty s) := by
  unfold rowRegS
  split
  · rename_i sz i n hv
    split
    · rename_i b0 cs hi
      split
      · rename_i hc
        obtain ⟨rfl, rfl⟩ := hc
        split
        · rename_i l hl
          intro R ρ a w hr ha
          obtain ⟨u, hu, hvu⟩ := ha.get hv
          obtain ⟨b, N, hn, hb, hre⟩ := hr.live _ _ hi
          obtain ⟨hg, hnR⟩ := hre.cells
          obtain ⟨k1, k2, k3⟩ := ty.chunks_ok hl
          cases hvu with
          | @own _ _ _ _ b' N' cap hn' hle hcN =>
          rw [hn] at hn'
          simp only [Option.some.injEq, Prod.mk.injEq] at hn'
          obtain ⟨rfl, rfl⟩ := hn'
          have hb1 := hb.cells_mono k2 (fun us h => k3 _ _ _ us h)
          have hb2 : BRep w R ρ b ⟨N.n, l.length, false⟩ (.row b0 ty l) := cells_row (by
            obtain ⟨arr, q1, q2, q3, q4⟩ := hb1
            exact ⟨arr, q1, q2, q3, q4⟩) rfl
          obtain ⟨r1, f1⟩ := rel_rename (N' := ⟨N.n, l.length, false⟩) hr hi hn hg rfl hb2
          refine ⟨R, _, r1, ?_, f1⟩
          have ha2 : RegRep w R _ s.r a := ha.frm f1 hr
          have v1 : VRep w R (ρ.upd s.h.length (b, ⟨N.n, l.length, false⟩)) (.orow ty s.h.length) (.slice (some ⟨b, 0, none⟩) n cap) := by
            have := VRep.orow (w := w) (R := R) (t := ty) (ρ := ρ.upd s.h.length (b, ⟨N.n, l.length, false⟩)) (i := s.h.length) (b := b) (N := ⟨N.n, l.length, false⟩) (cap := cap) (Nm.upd_self _ _ _) rfl (by show l.length ≤ cap; omega) (by show cap * ty.sz ≤ N.n; omega)
            rw [← k1]; exact this
          have := VReps.set ha2 t v1
          rwa [set_get hu] at this
        · exact Strong.refl s
      · exact Strong.refl s
    · exact Strong.refl s
  · exact Strong.refl s
theorem Stp.ok (p : Stp) (s : AS) : Strong s (p.run s) := by
  cases p with
  | rowReg t bt ty => exact rowReg_ok t bt ty s
  | nilReg t bt ty =>
    simp only [Stp.run]
    split
    · rename_i hv
      intro R ρ a w hr ha
      obtain ⟨r1, f1, v1⟩ := rel_ghost hr bt ty
      obtain ⟨u, hu, hvu⟩ := ha.get hv
      refine ⟨R, _, r1, ?_, f1⟩
      have ha2 : RegRep w R _ s.r a := ha.frm f1 hr
      cases hvu
      have := VReps.set ha2 t v1
      rwa [set_get hu] at this
    · exact Strong.refl s
  | frzReg t ty =>
    simp only [Stp.run]
    split
    · rename_i v hv
      split
      · rename_i x h' hf
        intro R ρ a w hr ha
        obtain ⟨u, hu, hvu⟩ := ha.get hv
        obtain ⟨R1, r1, f1, v1⟩ := ty.frz_ok hr hf hvu
        refine ⟨R1, ρ, r1, ?_, f1⟩
        have ha2 : RegRep w R1 ρ s.r a := ha.frm f1 hr
        have := VReps.set ha2 t v1
        rwa [set_get hu] at this
      · exact Strong.refl s
    · exact Strong.refl s
  | nilCell t o bt ty =>
    simp only [Stp.run]
    split
    · rename_i k off hp
      split
      · rename_i b cs hk
        split
        · rename_i hv
          intro R ρ a w hr ha
          obtain ⟨r1, f1, v1⟩ := rel_ghost hr bt ty
          have hkl : k < s.h.length := (List.getElem?_eq_some_iff.1 hk).1
          have hk1 : (s.h ++ [some (ABlk.row bt ty [])])[k]? = some (some (.cells b cs)) := by rw [List.getElem?_append_left hkl]; exact hk
          obtain ⟨n, N, hn, hb, hre⟩ := r1.live _ _ hk1
          obtain ⟨hg, hnR⟩ := hre.cells
          have hb2 : BRep w R (ρ.upd s.h.length (0, ⟨0, 0, true⟩)) n N (.cells b (cs.set o (.orow ty s.h.length))) := by
            obtain ⟨arr, h1, h2, h3, h4⟩ := hb
            refine ⟨arr, h1, h2, by rw [List.length_set]; exact h3, ?_⟩
            rw [List.length_set]
            obtain ⟨u, hu, hvu⟩ := h4.get hv
            cases hvu
            have := VReps.set h4 o v1
            rwa [set_get hu] at this
          obtain ⟨r2, f2⟩ := rel_retell r1 hk1 hn hg hb2
          exact ⟨R, _, r2, (ha.frm f1 hr).frm f2 r1, f1.trans f2⟩
        · exact Strong.refl s
      · exact Strong.refl s
    · exact Strong.refl s
  | frzCell t o ty =>
    simp only [Stp.run]
    split
    · rename_i k off hp
      split
      · rename_i b cs hk
        split
        · rename_i x h' hf
          split
          · rename_i blk hk1
            intro R ρ a w hr ha
            have hk2 := frzC_sub ty hf k blk hk1
            rw [hk] at hk2
            simp only [Option.some.injEq] at hk2
            subst hk2
            obtain ⟨n, N, hn, hb, hre⟩ := hr.live _ _ hk
            obtain ⟨hg, hnR⟩ := hre.cells
            obtain ⟨arr, h1, h2, h3, h4⟩ := hb
            obtain ⟨R1, r1, f1, v1⟩ := ty.frzC_ok hf hr ((h4.drop o).take ty.sz)
            have h5 : VReps w R1 ρ cs (arr.toList.take cs.length) := h4.frm f1 hr
            have h6 := ((h5.take o).append v1).append (h5.drop (o + ty.sz))
            have e : (arr.toList.take cs.length).take o ++ ((arr.toList.take cs.length).drop o).take ty.sz ++ (arr.toList.take cs.length).drop (o + ty.sz) = arr.toList.take cs.length := by
              rw [← List.drop_drop, List.append_assoc, List.take_append_drop, List.take_append_drop]
            rw [e] at h6
            have hlen : (cs.take o ++ (ty.enc x).cells ++ cs.drop (o + ty.sz)).length = cs.length := by
              have h7 := h6.1
              have h8 := h5.1
              omega
            have hb2 : BRep w R1 ρ n N (.cells b (cs.take o ++ (ty.enc x).cells ++ cs.drop (o + ty.sz))) :=
              ⟨arr, h1, h2, by rw [hlen]; exact h3, by rw [hlen]; exact h6⟩
            obtain ⟨r2, f2⟩ := rel_retell r1 hk1 hn hg hb2
            exact ⟨R1, ρ, r2, (ha.frm f1 hr).frm f2 r1, f1.trans f2⟩
          · exact Strong.refl s
        · exact Strong.refl s
      · exact Strong.refl s
    · exact Strong.refl s
end
def runStps : List Stp → AS → AS
  | [], s => s
  | p :: r, s => runStps r (p.run s)
theorem runStps_ok : ∀ (ps : List Stp) (s : AS), Strong s (runStps ps s)
  | [], s => Strong.refl s
  | p :: r, s => (p.ok s).trans (runStps_ok r (p.run s))
def LayD.lay {p : Nat} (L : LayD) (ps : List Stp) : Lay p L.El where
  enc := L.enc
  dec := fun s => L.dec p (runStps ps s)
  ok := fun s x h => (runStps_ok ps s).weak.trans (L.ok p _ x h)
end Go.DI
set_option linter.unusedVariables false
set_option linter.unusedSimpArgs false
namespace Go.DI
def AV.slots : AV → List Nat
  | .ptr i _ | .own _ i _ _ | .orow _ i | .optr _ i _ _ | .map i => [i]
  | .iface _ v => v.slots
  | _ => []
def slotsL : List AV → List Nat
  | [] => []
  | .agg cs :: r => cs.flatMap AV.slots ++ slotsL r
  | .func _ a b :: r => a.flatMap AV.slots ++ b.flatMap AV.slots ++ slotsL r
  | .tup vs :: r => vs.flatMap AV.slots ++ slotsL r
  | v :: r => v.slots ++ slotsL r
def maskH (S : List Nat) (h : AH) : AH := h.mapIdx fun k b => if S.contains k then b else none
def mergeH (S : List Nat) (h h' : AH) : AH := (h.mapIdx fun k b => if S.contains k then (h'[k]?).join else b) ++ h'.drop h.length
def regsOf (xs : List Operand) : List Nat := xs.filterMap fun
  | .tmp t => some t
  | _ => none
def evM (rd : List Nat) (r : List AV) : Operand → Option AV
  | .tmp t => if rd.contains t then evO r (.tmp t) else none
  | x => evO r x
structure FP where
  i : Nat
  rd : List Nat
  dst : Option Nat
  sl : List Nat
  tch : List Nat
def pureK : Op → Bool
  | .nilCheck _ | .move _ | .assign _ | .pick .. | .load .. | .binOp .. | .unOp .. | .fieldAddr .. | .field .. | .indexAddr .. | .index .. | .lookup .. | .extract .. | .build .. | .makeFunc .. | .makeInterface .. | .typeAssert .. => true
  | .slice _ _ none (some _) none => false
  | .slice _ _ _ _ none => true
  | .call c => match c.callee with
    | .builtin .len => true
    | _ => false
  | _ => false
def keepC (C : Cfg) (T : Tb) (ev : Operand → Option AV) : Op → Bool
  | .call c => match c.callee with
    | .value f => match mapO ev c.args.toList, ev f with
      | some xs, some (.func g first caps) => C.isFn g && (match T.fn g (keysOf (first ++ xs ++ caps)) with
        | some e => !e.hid && allNoRef e.rs
        | none => false)
      | _, _ => false
    | _ => false
  | _ => false
def quietK (C : Cfg) (T : Tb) (ev : Operand → Option AV) (op : Op) : Bool := pureK op || keepC C T ev op
def surfK : Op → Bool
  | .move _ | .assign _ | .pick .. | .fieldAddr .. | .extract .. | .build .. | .makeFunc .. => true
  | _ => false
def deepS (b : Bool) (l : List Nat) : List Nat := match b with
  | true => []
  | false => l
theorem deepS_sub {b : Bool} {l : List Nat} {x : Nat} (h : x ∈ deepS b l) : x ∈ l := by
  cases b with
  | true => simp [deepS] at h
  | false => exact h
def disj (a b : List Nat) : Bool := a.all fun x => !b.contains x
def apartFP (x y : FP) : Bool :=
  disj x.tch y.sl && disj y.tch x.sl &&
  (match x.dst with | some d => !y.rd.contains d && !(y.dst == some d) | none => true) &&
  (match y.dst with | some d => !x.rd.contains d | none => true)
def inOrder (before : Array Nat) (i j : Nat) : Bool := (before.getD i 0).testBit j
def okFPs (before : Array Nat) : List FP → Bool
  | [] => true
  | x :: r => r.all (fun y => inOrder before x.i y.i || apartFP x y) && okFPs before r
def flatC : AV → Bool
  | .int .. | .bool .. => true
  | _ => false
def plainV : AV → Bool
  | .iface _ (.agg cs) => cs.all flatC
  | _ => false
theorem flatC_any {v : AV} (h : flatC v = true) {w w' : World} {R R' : Nat → Prop} {ρ ρ' : Nm} {u : Value} (hv : VRep w R ρ v u) : VRep w' R' ρ' v u := by
  cases v <;> simp [flatC] at h
  · cases hv; exact .int _ _
  · cases hv; exact .bool _
theorem plainV_any {v : AV} (h : plainV v = true) {w w' : World} {R R' : Nat → Prop} {ρ ρ' : Nm} {u : Value} (hv : VRep w R ρ v u) : VRep w' R' ρ' v u := by
  unfold plainV at h
  split at h
  · cases hv with
    | iface h1 =>
    obtain ⟨us, rfl, hus⟩ := h1.agg_inv
    refine .iface (.agg' ⟨hus.1, fun k c u hc hu => flatC_any (List.all_eq_true.1 h c (List.mem_of_getElem? hc)) (hus.2 k c u hc hu)⟩)
  · cases h
section
variable {β : Type}
def drAft (C : Cfg) (T : Tb) (ops : Array Oper) (m : Nat) : List Nat → AS → List FP → Option β → Option β
  | [], s, fps, z => if okFPs (Region.before ops) fps then z else none
  | i :: rest, s, fps, z => match ops[i]? with
    | none => none
    | some o =>
      let gd := match o.guard with
        | some (j, _) => match (ops[j]?).bind (·.dst) with
          | some d => [d]
          | none => []
        | none => []
      let rd := regsOf o.op.operands.toList
      if inOrder (Region.before ops) i m then
        let S := deepS (surfK o.op) (slotsL (rd.map fun t => (s.r[t]?).getD .undef))
        drAft C T ops m rest ⟨setR s.r o.dst .undef, s.h⟩ (⟨i, gd ++ rd, o.dst, S, S⟩ :: fps) z
      else
      guardT ops s.r o
        (fun r =>
          let S := deepS (surfK o.op) (slotsL (rd.map fun t => (r[t]?).getD .undef))
          opTp C T (maskH S s.h) (evM rd r) o.op (fun v h' =>
            if quietK C T (evM rd r) o.op then drAft C T ops m rest ⟨setR r o.dst v, s.h⟩ (⟨i, gd ++ rd, o.dst, S, []⟩ :: fps) z
            else drAft C T ops m rest ⟨setR r o.dst v, mergeH S s.h h'⟩ (⟨i, gd ++ rd, o.dst, S, S⟩ :: fps) z) (fun _ _ => none))
        (fun r => drAft C T ops m rest ⟨setR r o.dst .undef, s.h⟩ (⟨i, gd, o.dst, [], []⟩ :: fps) z)
def drGo (C : Cfg) (T : Tb) (ops : Array Oper) : List Nat → AS → List FP → (AX → AS → Option β) → Option β
  | [], s, fps, K => if okFPs (Region.before ops) fps then K .normal s else none
  | i :: rest, s, fps, K => match ops[i]? with
    | none => none
    | some o =>
      let gd := match o.guard with
        | some (j, _) => match (ops[j]?).bind (·.dst) with
          | some d => [d]
          | none => []
        | none => []
      let rd := regsOf o.op.operands.toList
      guardT ops s.r o
        (fun r =>
          let S := deepS (surfK o.op) (slotsL (rd.map fun t => (r[t]?).getD .undef))
          opTp C T (maskH S s.h) (evM rd r) o.op (fun v h' =>
            if quietK C T (evM rd r) o.op then drGo C T ops rest ⟨setR r o.dst v, s.h⟩ (⟨i, gd ++ rd, o.dst, S, []⟩ :: fps) K
            else drGo C T ops rest ⟨setR r o.dst v, mergeH S s.h h'⟩ (⟨i, gd ++ rd, o.dst, S, S⟩ :: fps) K)
            (fun v _ => if plainV v then drAft C T ops i rest ⟨setR r o.dst .undef, s.h⟩ (⟨i, gd ++ rd, o.dst, S, S⟩ :: fps) (K (.pan v) (panS C.pin r.length)) else none))
        (fun r => drGo C T ops rest ⟨setR r o.dst .undef, s.h⟩ (⟨i, gd, o.dst, [], []⟩ :: fps) K)
end
end Go.DI
set_option linter.unusedVariables false
set_option linter.unusedSimpArgs false
namespace Go.DI
structure Kw (w w' : World) : Prop where
  os : w'.os = w.os
  tape : w'.tape = w.tape
  output : w'.output = w.output
  size : w.heap.size ≤ w'.heap.size
  keep : ∀ b, b < w.heap.size → w'.heap[b]? = w.heap[b]?
  frz : w.drawn ≤ w'.drawn
theorem Kw.refl (w : World) : Kw w w := ⟨rfl, rfl, rfl, Nat.le_refl _, fun _ _ => rfl, (by first | exact Nat.le_refl _ | exact Nat.le_succ _)⟩
def PStep (P : Program) (op : Op) (ev : Operand → Option AV) (h : AH) (v : AV) : Prop :=
  ∀ (R : Nat → Prop) (ρ : Nm) (w : World) (a : Act) (o : Oper), o.op = op → Rel R ρ h w → EvRep w R ρ ev a →
    ∀ (K : Act → World → Prop) (Q : Exit → Act → World → Prop), (∀ u w', Kw w w' → VRep w' R ρ v u → K (a.put o.dst u) w') → o.wp P a w K Q
section
variable {C : Cfg} {T : Tb} {h : AH} {ev : Operand → Option AV} {β : Type} {op : Op} {v : AV}
theorem PStep.of_run {P : Program} (hs : ∀ (R : Nat → Prop) (ρ : Nm) (w : World) (a : Act) (o : Oper), o.op = op → Rel R ρ h w → EvRep w R ρ ev a → ∃ u, (execOp a.eval o).run P w = .ok (.value u) w ∧ VRep w R ρ v u) : PStep P op ev h v := by
  intro R ρ w a o hop hr hev K Q hK
  obtain ⟨u, h1, h2⟩ := hs R ρ w a o hop hr hev
  unfold Oper.wp
  rw [h1]
  exact hK _ _ (Kw.refl w) h2
theorem PStep.of_pure (f : (Operand → Value) → Sem Value) (hex : ∀ (a : Act) (o : Oper), o.op = op → execOp a.eval o = (do pure (.value (← f a.eval))))
    (hs : ∀ R ρ w (a : Act), Rel R ρ h w → EvRep w R ρ ev a → ∃ r, (f a.eval).run C.P w = .ok r w ∧ VRep w R ρ v r) : PStep C.P op ev h v := by
  refine .of_run fun R ρ w a o hop hr hev => ?_
  obtain ⟨r, h1, h2⟩ := hs R ρ w a hr hev
  exact ⟨r, by rw [hex a o hop]; exact run_value h1, h2⟩
theorem PStep.of_pureOp (hC : C.Ok) (ho : pureOp C h ev op = some v) : PStep C.P op ev h v := by
  refine .of_run fun R ρ w a o hop hr hev => ?_
  subst hop
  exact pureOp_ok hC hr hev ho
theorem opT_pure (hC : C.Ok) {op : Op} {K Kp : AV → AH → Option β} {z : β} (hp : pureK op = true) (hx : opTp C T h ev op K Kp = some z) : ∃ v, PStep C.P op ev h v ∧ K v h = some z := by
  unfold opTp at hx
  split at hx
  · rename_i x
    obtain ⟨v, hv, hK⟩ := valT_ok hx
    exact ⟨v, .of_run fun R ρ w a o hop hr hev => by
      obtain ⟨dst, op, type, pos, after, guard⟩ := o
      subst hop
      exact ⟨_, rfl, hev _ _ hv⟩, hK⟩
  · rename_i x
    obtain ⟨v, hv, hK⟩ := valT_ok hx
    exact ⟨v, .of_run fun R ρ w a o hop hr hev => by
      obtain ⟨dst, op, type, pos, after, guard⟩ := o
      subst hop
      exact ⟨_, rfl, hev _ _ hv⟩, hK⟩
  · rename_i c x y
    obtain ⟨cv, hc, hx⟩ := evT_ok hx
    unfold pickT at hx
    split at hx
    · rename_i b
      have key : ∀ (p : Operand) (v : AV), (p = if b then x else y) → ev p = some v → PStep C.P (.pick c x y) ev h v := by
        intro p v hp hv
        refine .of_run fun R ρ w a o hop hr hev => ?_
        obtain ⟨dst, op, type, pos, after, guard⟩ := o
        subst hop
        have h1 := hev _ _ hc
        refine ⟨a.eval p, ?_, hev _ _ hv⟩
        simp only [execOp]
        generalize hcv : a.eval c = cv' at h1
        cases h1
        subst hp
        cases b <;> simp [asBool]
      rcases cond_some hx with ⟨hb, hx⟩ | ⟨hb, hx⟩
      · obtain ⟨v, hv, hK⟩ := valT_ok hx
        exact ⟨v, key x v (by rw [hb]; rfl) hv, hK⟩
      · obtain ⟨v, hv, hK⟩ := valT_ok hx
        exact ⟨v, key y v (by rw [hb]; rfl) hv, hK⟩
    · cases hx
  · rename_i t x
    obtain ⟨xv, hxv, hx⟩ := evT_ok hx
    obtain ⟨v, hl, hK⟩ := valT_ok hx
    exact ⟨v, .of_pure (fun f => Instr.loadAt t (f x)) (fun a o hop => by obtain ⟨_, _, _, _, _, _⟩ := o; subst hop; rfl) fun R ρ w a hr hev => loadT_ok hr (hev _ _ hxv) hl, hK⟩
  · rename_i x
    split at hx
    · rename_i t i j o hv
      refine ⟨_, .of_run fun R ρ w a o hop hr hev => ?_, hx⟩
      obtain ⟨dst, op, type, pos, after, guard⟩ := o
      subst hop
      have h1 := hev _ _ hv
      simp only [execOp]
      generalize a.eval x = u at h1
      cases h1 with
      | optr hn hj => exact ⟨_, rfl, .optr hn hj⟩
    · unfold dfltT at hx
      split at hx
      · rename_i v h' ho
        unfold opA at ho
        split at ho
        · rename_i v1 hp1
          injection ho with ho
          injection ho with e1 e2
          subst e1; subst e2
          exact ⟨_, .of_pureOp hC hp1, hx⟩
        · simp at ho
      · rename_i h' ho
        unfold opA at ho
        split at ho
        · injection ho with ho; cases ho
        · simp at ho
      · cases hx
  · rename_i op t x y ty
    obtain ⟨xv, hxv, hx⟩ := evT_ok hx
    obtain ⟨yv, hyv, hx⟩ := evT_ok hx
    obtain ⟨v, hb, hK⟩ := binT_ok hx
    refine ⟨v, .of_pureOp hC ?_, hK⟩
    simp only [pureOp, hxv, hyv, hb]
  · rename_i t x lo hi
    obtain ⟨xv, hxv, hx⟩ := evT_ok hx
    split at hx
    · cases hp
    obtain ⟨v, hK, hs⟩ := sliceT_ok hx
    refine ⟨v, .of_pure (fun f => Instr.sliceAt t (f x) (lo.map f) (hi.map f) none) (fun a o hop => by obtain ⟨_, _, _, _, _, _⟩ := o; subst hop; rfl) fun R ρ w a hr hev => ?_, hK⟩
    refine hs w R ρ _ _ _ hr (hev _ _ hxv) ?_ ?_ ?_ ?_
    · intro b hb
      obtain ⟨x, rfl, hxb⟩ := Option.map_eq_some_iff.1 hb
      exact ⟨_, rfl, hev _ _ hxb⟩
    · intro b hb
      obtain ⟨x, rfl, hxb⟩ := Option.map_eq_some_iff.1 hb
      exact ⟨_, rfl, hev _ _ hxb⟩
    · intro hb
      rw [Option.map_eq_none_iff] at hb; rw [hb]; rfl
    · intro hb
      rw [Option.map_eq_none_iff] at hb; rw [hb]; rfl
  · rename_i s x f
    obtain ⟨xv, hxv, hx⟩ := evT_ok hx
    obtain ⟨v, hl, hK⟩ := valT_ok hx
    exact ⟨v, .of_pure (fun g => Instr.fieldAt s (g x) f) (fun a o hop => by obtain ⟨_, _, _, _, _, _⟩ := o; subst hop; rfl) fun R ρ w a hr hev => fieldAddrT_ok hl (hev _ _ hxv), hK⟩
  · rename_i t x ix
    obtain ⟨xv, hxv, hx⟩ := evT_ok hx
    obtain ⟨iv, hiv, hx⟩ := evT_ok hx
    obtain ⟨v, hK, hs⟩ := indexAddrT_ok hx
    exact ⟨v, .of_pure (fun g => Instr.indexAt t (g x) (g ix)) (fun a o hop => by obtain ⟨_, _, _, _, _, _⟩ := o; subst hop; rfl) fun R ρ w a hr hev => hs R ρ w _ _ hr (hev _ _ hxv) (hev _ _ hiv), hK⟩
  · rename_i t x ix
    obtain ⟨xv, hxv, hx⟩ := evT_ok hx
    obtain ⟨iv, hiv, hx⟩ := evT_ok hx
    obtain ⟨v, hb, hK⟩ := indexT_ok hx
    refine ⟨v, .of_pureOp hC ?_, hK⟩
    simp only [pureOp, hxv, hiv, hb]
  · rename_i t x k ok
    obtain ⟨xv, hxv, hx⟩ := evT_ok hx
    obtain ⟨kv, hkv, hx⟩ := evT_ok hx
    obtain ⟨v, hK, hl⟩ := lookT_ok hx
    exact ⟨v, .of_pure (fun g => Instr.lookup t (g x) (g k) ok) (fun a o hop => by obtain ⟨_, _, _, _, _, _⟩ := o; subst hop; rfl) fun R ρ w a hr hev => hl R ρ w _ _ hr (hev _ _ hxv) (hev _ _ hkv), hK⟩
  · cases hp
  · cases hp
  · cases hp
  · rename_i c
    simp only [pureK] at hp
    split at hp
    · rename_i hcal
      simp only [callOpT, hcal] at hx
      split at hx
      · rename_i t rest x hts hxs
        obtain ⟨v, hl, hK⟩ := valT_ok hx
        refine ⟨v, .of_run fun R ρ w a o hop hr hev => ?_, hK⟩
        obtain ⟨dst, op, type, pos, after, guard⟩ := o
        subst hop
        have hvs := mapO_ok (f := a.eval) hev hxs
        obtain ⟨u, us', hu1, g1, g2⟩ := hvs.cons_inv
        obtain rfl := g2.nil_inv
        have e1 : c.argTypes[0]? = some t := by rw [← Array.getElem?_toList, hts]; rfl
        have e2 : (c.args.map a.eval)[0]? = some u := by
          have : (c.args.map a.eval) = #[u] := Array.toList_inj.1 (by simpa using hu1)
          rw [this]; rfl
        obtain ⟨r, k1, k2⟩ := lenT_ok (C := C) (ty := type) hr hl g1 e1 (c.args.map a.eval) e2
        refine ⟨r, ?_, k2⟩
        have : (execOp a.eval { dst := dst, op := .call c, type := type, pos := pos, after := after, guard := guard }) = (do pure (.value (← Builtin.len_ c.argTypes type (c.args.map a.eval))) : Sem Next) := by
          simp [execOp, resolve, hcal, invoke]
          rfl
        rw [this]
        exact run_value k1
      · cases hx
    · cases hp
  · cases hp
  · cases hp
  · rename_i hnc _ _
    unfold dfltT at hx
    split at hx
    · rename_i v h' ho
      unfold opA at ho
      split at ho
      · rename_i v1 hp1
        injection ho with ho
        injection ho with e1 e2
        subst e1; subst e2
        exact ⟨_, .of_pureOp hC hp1, hx⟩
      · rename_i hp1
        cases op with
        | call c => exact absurd rfl (hnc c)
        | build t ps =>
          simp only [Option.map_eq_some_iff] at ho
          obtain ⟨av, hb, he⟩ := ho
          injection he with e1 e2
          subst e1; subst e2
          exact ⟨_, .of_pure (fun f => Instr.build t (ps.map fun p => (p.1, f p.2))) (fun a o hop => by obtain ⟨_, _, _, _, _, _⟩ := o; subst hop; rfl) (fun R ρ w a hr hev => buildA_ok hev hb), hx⟩
        | _ => first | (simp [pureK] at hp; done) | (simp at ho; done)
    · rename_i h' ho
      unfold opA at ho
      split at ho
      · injection ho with ho; cases ho
      · cases op with
        | call c => exact absurd rfl (hnc c)
        | _ => first | (simp [pureK] at hp; done) | (simp at ho; done)
    · cases hx
theorem callOpT_keep (hC : C.Ok) (hT : T.Ok C.P) {c : Call} {K Kp : AV → AH → Option β} {z : β} (hp : keepC C T ev (.call c) = true) (hx : callOpT C T h ev c K Kp = some z) : ∃ v, PStep C.P (.call c) ev h v ∧ K v h = some z := by
  simp only [keepC] at hp
  split at hp
  · rename_i f hcal
    split at hp
    · rename_i xs g first caps hxs hg
      simp only [Bool.and_eq_true] at hp
      obtain ⟨hfn, hp⟩ := hp
      split at hp
      · rename_i e he
        simp only [Bool.and_eq_true, Bool.not_eq_true'] at hp
        obtain ⟨hhid, hnr⟩ := hp
        simp only [callOpT, hcal, hxs, hg, hfn, if_true, callT, he] at hx
        split at hx
        · rename_i x h1 hf
          obtain ⟨y, hy, hK⟩ := Option.bind_eq_some_iff.1 hx
          rw [hhid, hnr] at hK
          simp only [Bool.false_eq_true, if_false, if_true] at hK
          refine ⟨_, fun R ρ w a o hop hr hev K' Q hKK => ?_, hK⟩
          have hA : opA C h ev o.op = some (.call g (first ++ xs ++ caps)) := by
            rw [hop]
            simp only [opA, pureOp, hcal, hxs, hg, hfn, if_true]
          obtain ⟨us, hrun, hvs⟩ := opA_ok hC hr hev hA
          unfold Oper.wp
          rw [hrun]
          simp only [Oper.upon]
          obtain ⟨R1, r1, f1, v1⟩ := frzArgs_ok e.ps hf hr hvs
          refine ((hT.fn g _ e he x y hy).pureKeep (nameless_args _ _) (.resV (nameless_encs _ _)) r1 v1).mono ?_
          rintro ee w' ⟨R', u, rfl, hu, r2, f2, hkp⟩
          exact hKK _ _ ⟨f2.os, f2.tape, f2.output, f2.size, hkp, f2.frz⟩ (noRef_res hnr hu)
        · cases hx
      · cases hp
    · cases hp
  · cases hp
theorem opT_quiet (hC : C.Ok) (hT : T.Ok C.P) {op : Op} {K Kp : AV → AH → Option β} {z : β} (hp : quietK C T ev op = true) (hx : opTp C T h ev op K Kp = some z) : ∃ v, PStep C.P op ev h v ∧ K v h = some z := by
  unfold quietK at hp
  rcases Bool.or_eq_true_iff.1 hp with hp | hp
  · exact opT_pure hC hp hx
  · cases op with
    | call c => exact callOpT_keep hC hT hp hx
    | _ => simp [keepC] at hp
end
end Go.DI
set_option linter.unusedVariables false
set_option linter.unusedSimpArgs false
namespace Go.DI
inductive Did where
  | no
  | pure (v : AV)
  | eff (v : AV) (h : AH)
  | gone
def guardRegs (ops : Array Oper) (o : Oper) : List Nat := match o.guard with
  | some (j, _) => match (ops[j]?).bind (·.dst) with
    | some d => [d]
    | none => []
  | none => []
def readRegs (o : Oper) : List Nat := regsOf o.op.operands.toList
def slotsAt (o : Oper) (s : AS) : List Nat := deepS (surfK o.op) (slotsL ((readRegs o).map fun t => (s.r[t]?).getD .undef))
def afterOp (o : Oper) (s : AS) : Did → AS
  | .no => ⟨setR s.r o.dst .undef, s.h⟩
  | .pure v => ⟨setR s.r o.dst v, s.h⟩
  | .eff v h' => ⟨setR s.r o.dst v, mergeH (slotsAt o s) s.h h'⟩
  | .gone => ⟨setR s.r o.dst .undef, s.h⟩
def fpOf (ops : Array Oper) (i : Nat) (o : Oper) (s : AS) : Did → FP
  | .no => ⟨i, guardRegs ops o, o.dst, [], []⟩
  | .pure _ => ⟨i, guardRegs ops o ++ readRegs o, o.dst, slotsAt o s, []⟩
  | .eff _ _ => ⟨i, guardRegs ops o ++ readRegs o, o.dst, slotsAt o s, slotsAt o s⟩
  | .gone => ⟨i, guardRegs ops o ++ readRegs o, o.dst, slotsAt o s, slotsAt o s⟩
def DidOk (C : Cfg) (ops : Array Oper) (o : Oper) (s : AS) : Did → Prop
  | .no => wantedA ops s.r o = some false
  | .pure v => wantedA ops s.r o = some true ∧ PStep C.P o.op (evM (readRegs o) s.r) (maskH (slotsAt o s) s.h) v
  | .eff v h' => wantedA ops s.r o = some true ∧ StepOk C.P o.op (evM (readRegs o) s.r) (maskH (slotsAt o s) s.h) v h'
  | .gone => True
theorem afterOp_rlen (o : Oper) (s : AS) (d : Did) : (afterOp o s d).r.length = s.r.length := by
  have key : ∀ v, (setR s.r o.dst v).length = s.r.length := by
    intro v
    unfold setR
    split
    · simp
    · rfl
  cases d <;> exact key _
def GoneOk (C : Cfg) (ops : Array Oper) (p : Option (Nat × AV × AH)) (i : Nat) (o : Oper) (s : AS) (d : Did) : Prop :=
  (∀ m v h', p = some (m, v, h') → i = m → d = .gone ∧ wantedA ops s.r o = some true ∧ StepPan C.P o.op (evM (readRegs o) s.r) (maskH (slotsAt o s) s.h) v h' ∧ plainV v = true) ∧
  (d = .gone → ∃ m v h', p = some (m, v, h') ∧ (i = m ∨ inOrder (Region.before ops) i m = true))
inductive Walk (C : Cfg) (ops : Array Oper) (p : Option (Nat × AV × AH)) : List Nat → AS → List FP → AS → List FP → Prop
  | nil (s fps) : Walk C ops p [] s fps s fps
  | cons {i rest s fps s' fps'} (o : Oper) (d : Did) (ho : ops[i]? = some o) (hd : DidOk C ops o s d) (hg : GoneOk C ops p i o s d) (hw : Walk C ops p rest (afterOp o s d) (fpOf ops i o s d :: fps) s' fps') : Walk C ops p (i :: rest) s fps s' fps'
section
variable {C : Cfg} {T : Tb} {β : Type}
theorem if_some_of {γ : Type} {c : Bool} {a : Option γ} {z : γ} (h : (if c = true then a else none) = some z) : c = true ∧ a = some z := by
  split at h
  · rename_i hc; exact ⟨hc, h⟩
  · cases h
theorem drAft_walk (hC : C.Ok) (hT : T.Ok C.P) (ops : Array Oper) (m : Nat) (pv : AV) (ph : AH) : ∀ (is : List Nat) (s : AS) (fps : List FP) (z0 : Option β) (z : β), m ∉ is → drAft C T ops m is s fps z0 = some z →
    ∃ s' fps', Walk C ops (some (m, pv, ph)) is s fps s' fps' ∧ okFPs (Region.before ops) fps' = true ∧ z0 = some z
  | [], s, fps, z0, z, _, h => by
    simp only [drAft] at h
    obtain ⟨hc, h⟩ := if_some_of h
    exact ⟨s, fps, .nil _ _, hc, h⟩
  | i :: rest, s, fps, z0, z, hm, h => by
    have hi : i ≠ m := fun e => hm (e ▸ List.mem_cons_self)
    have hr : m ∉ rest := fun e => hm (List.mem_cons_of_mem _ e)
    have no1 : ∀ {d : Did} {o : Oper} {s : AS}, ∀ m' v h', (some (m, pv, ph) : Option (Nat × AV × AH)) = some (m', v, h') → i = m' → d = .gone ∧ wantedA ops s.r o = some true ∧ StepPan C.P o.op (evM (readRegs o) s.r) (maskH (slotsAt o s) s.h) v h' ∧ plainV v = true := by
      intro d o s m' v h' e e2
      injection e with e
      injection e with e3 e4
      exact absurd (e2.trans e3.symm) hi
    simp only [drAft] at h
    cases ho : ops[i]? with
    | none => rw [ho] at h; cases h
    | some o =>
      rw [ho] at h
      simp only at h
      have more : ∀ (d : Did), DidOk C ops o s d → (d = .gone → inOrder (Region.before ops) i m = true) → drAft C T ops m rest (afterOp o s d) (fpOf ops i o s d :: fps) z0 = some z →
          ∃ s' fps', Walk C ops (some (m, pv, ph)) (i :: rest) s fps s' fps' ∧ okFPs (Region.before ops) fps' = true ∧ z0 = some z := by
        intro d hd hg hx
        obtain ⟨s', fps', k1, k2, k3⟩ := drAft_walk hC hT ops m pv ph rest _ _ z0 z hr hx
        exact ⟨s', fps', .cons o d ho hd ⟨no1, fun e => ⟨m, pv, ph, rfl, .inr (hg e)⟩⟩ k1, k2, k3⟩
      cases hin : inOrder (Region.before ops) i m with
      | true =>
        rw [hin] at h
        simp only [if_true] at h
        exact more .gone trivial (fun _ => hin) h
      | false =>
        rw [hin] at h
        simp only [Bool.false_eq_true, if_false] at h
        rcases guardT_ok h with ⟨hw, h⟩ | ⟨hw, h⟩
        · cases hp : quietK C T (evM (regsOf o.op.operands.toList) s.r) o.op with
          | true =>
            simp only [hp, if_true] at h
            obtain ⟨v, hs, h⟩ := opT_quiet hC hT hp h
            exact more (.pure v) ⟨hw, hs⟩ (fun e => by cases e) h
          | false =>
            simp only [hp, Bool.false_eq_true, if_false] at h
            rcases opTp_ok hC hT h with ⟨v, h', hs, h⟩ | ⟨v, h', hs, h⟩
            · exact more (.eff v h') ⟨hw, hs⟩ (fun e => by cases e) h
            · cases h
        · exact more .no hw (fun e => by cases e) h
theorem drGo_walk (hC : C.Ok) (hT : T.Ok C.P) (ops : Array Oper) : ∀ (is : List Nat) (s : AS) (fps : List FP) (K : AX → AS → Option β) (z : β), is.Nodup → drGo C T ops is s fps K = some z →
    (∃ s' fps', Walk C ops none is s fps s' fps' ∧ okFPs (Region.before ops) fps' = true ∧ K .normal s' = some z) ∨
    ∃ m v h' s' fps', m ∈ is ∧ Walk C ops (some (m, v, h')) is s fps s' fps' ∧ okFPs (Region.before ops) fps' = true ∧ K (.pan v) (panS C.pin s.r.length) = some z
  | [], s, fps, K, z, _, h => by
    simp only [drGo] at h
    split at h
    · rename_i hc; exact .inl ⟨s, fps, .nil _ _, hc, h⟩
    · cases h
  | i :: rest, s, fps, K, z, hnd, h => by
    obtain ⟨hni, hnd⟩ := List.nodup_cons.1 hnd
    simp only [drGo] at h
    cases ho : ops[i]? with
    | none => rw [ho] at h; cases h
    | some o =>
      rw [ho] at h
      simp only at h
      have more : ∀ (d : Did), DidOk C ops o s d → d ≠ .gone → drGo C T ops rest (afterOp o s d) (fpOf ops i o s d :: fps) K = some z →
          (∃ s' fps', Walk C ops none (i :: rest) s fps s' fps' ∧ okFPs (Region.before ops) fps' = true ∧ K .normal s' = some z) ∨
          ∃ m v h' s' fps', m ∈ i :: rest ∧ Walk C ops (some (m, v, h')) (i :: rest) s fps s' fps' ∧ okFPs (Region.before ops) fps' = true ∧ K (.pan v) (panS C.pin s.r.length) = some z := by
        intro d hd hng hx
        rcases drGo_walk hC hT ops rest _ _ K z hnd hx with ⟨s', fps', k1, k2, k3⟩ | ⟨m, v, h', s', fps', k1, k2, k3, k4⟩
        · exact .inl ⟨s', fps', .cons o d ho hd ⟨(fun m v h' e => by cases e), fun e => absurd e hng⟩ k1, k2, k3⟩
        · rw [afterOp_rlen] at k4
          refine .inr ⟨m, v, h', s', fps', List.mem_cons_of_mem _ k1, .cons o d ho hd ⟨(fun m' v' h'' e e2 => ?_), fun e => absurd e hng⟩ k2, k3, k4⟩
          injection e with e
          injection e with e3 e4
          exact absurd ((e2.trans e3.symm) ▸ k1) hni
      rcases guardT_ok h with ⟨hw, h⟩ | ⟨hw, h⟩
      · cases hp : quietK C T (evM (regsOf o.op.operands.toList) s.r) o.op with
        | true =>
          simp only [hp, if_true] at h
          obtain ⟨v, hs, h⟩ := opT_quiet hC hT hp h
          exact more (.pure v) ⟨hw, hs⟩ (fun e => by cases e) h
        | false =>
          simp only [hp, Bool.false_eq_true, if_false] at h
          rcases opTp_ok hC hT h with ⟨v, h', hs, h⟩ | ⟨v, h', hs, h⟩
          · exact more (.eff v h') ⟨hw, hs⟩ (fun e => by cases e) h
          · obtain ⟨hc, h⟩ := if_some_of h
            obtain ⟨s', fps', k1, k2, k3⟩ := drAft_walk hC hT ops i v h' rest _ _ _ z hni h
            refine .inr ⟨i, v, h', s', fps', List.mem_cons_self, .cons o .gone ho trivial ⟨(fun m' v' h'' e _ => ?_), fun _ => ⟨i, v, h', rfl, .inl rfl⟩⟩ k1, k2, k3⟩
            injection e with e
            injection e with e3 e4
            injection e4 with e4 e5
            subst e4
            subst e5
            exact ⟨rfl, hw, hs, hc⟩
      · exact more .no hw (fun e => by cases e) h
end
end Go.DI
set_option linter.unusedVariables false
set_option linter.unusedSimpArgs false
namespace Go.DI
section
variable {C : Cfg} {T : Tb} {β : Type} {ops : Array Oper}
theorem Walk.fn {p : Option (Nat × AV × AH)} : ∀ (m k : Nat) (s : AS) (fps : List FP) (s' : AS) (fps' : List FP), Walk C ops p (List.range' k m) s fps s' fps' →
    ∃ (st : Nat → AS) (op : Nat → Oper) (did : Nat → Did), st k = s ∧ st (k + m) = s' ∧
      (∀ i, k ≤ i → i < k + m → ops[i]? = some (op i) ∧ DidOk C ops (op i) (st i) (did i) ∧ st (i + 1) = afterOp (op i) (st i) (did i) ∧ GoneOk C ops p i (op i) (st i) (did i)) ∧
      fps' = ((List.range' k m).map fun i => fpOf ops i (op i) (st i) (did i)).reverse ++ fps
  | 0, k, s, fps, s', fps', h => by
    cases h
    exact ⟨fun _ => s, fun _ => default, fun _ => .no, rfl, rfl, fun i h1 h2 => by omega, by simp⟩
  | m + 1, k, s, fps, s', fps', h => by
    rw [List.range'_succ] at h
    cases h with
    | cons o d ho hd hg hw =>
    obtain ⟨st, op, did, h1, h2, h3, h4⟩ := Walk.fn m (k + 1) _ _ _ _ hw
    refine ⟨fun i => if i = k then s else st i, fun i => if i = k then o else op i, fun i => if i = k then d else did i, by simp, ?_, fun i hi1 hi2 => ?_, ?_⟩
    · have : k + (m + 1) ≠ k := by omega
      simp only [this, if_false]
      rw [← h2]; congr 1; omega
    · by_cases hk : i = k
      · subst hk
        simp only [if_true]
        refine ⟨ho, hd, ?_, hg⟩
        rw [if_neg (by omega), h1]
      · simp only [hk, if_false]
        rw [if_neg (by omega)]
        exact h3 i (by omega) (by omega)
    · rw [h4, List.range'_succ, List.map_cons, List.reverse_cons, List.append_assoc]
      simp only [if_true, List.singleton_append]
      congr 2
      refine List.map_congr_left fun i hi => ?_
      have : k + 1 ≤ i := (List.mem_range'_1.1 hi).1
      rw [if_neg (by omega), if_neg (by omega), if_neg (by omega)]
theorem okFPs_pairs {b : Array Nat} : ∀ {l : List FP}, okFPs b l = true → l.Pairwise fun x y => (inOrder b x.i y.i || apartFP x y) = true
  | [], _ => .nil
  | x :: r, h => by
    simp only [okFPs, Bool.and_eq_true, List.all_eq_true] at h
    exact .cons (fun y hy => h.1 y hy) (okFPs_pairs h.2)
end
end Go.DI
set_option linter.unusedVariables false
set_option linter.unusedSimpArgs false
namespace Go.DI
open Classical in
noncomputable def dX {α : Type} (base : α) (wr : Nat → Prop) (out : Nat → α) (D : Nat → Prop) : Nat → α
  | 0 => base
  | k + 1 => if D k ∧ wr k then out k else dX base wr out D k
section
variable {α : Type} {base : α} {wr : Nat → Prop} {out : Nat → α} {D : Nat → Prop}
theorem dX_add {i : Nat} (hwr : wr i) : ∀ (n : Nat), i < n → (∀ j, i < j → j < n → D j → ¬ wr j) → dX base wr out (fun j => D j ∨ j = i) n = out i
  | 0, h, _ => by omega
  | n + 1, h, hl => by
    unfold dX
    by_cases hn : n = i
    · subst hn; rw [if_pos ⟨.inr rfl, hwr⟩]
    · rw [if_neg, dX_add hwr n (by omega) (fun j h1 h2 => hl j h1 (by omega))]
      rintro ⟨h1 | h1, h2⟩
      · exact hl n (by omega) (by omega) h1 h2
      · exact hn h1
theorem dX_keep {i : Nat} (hwr : ¬ wr i) : ∀ (n : Nat), dX base wr out (fun j => D j ∨ j = i) n = dX base wr out D n
  | 0 => rfl
  | n + 1 => by
    unfold dX
    rw [dX_keep hwr n]
    by_cases hc : D n ∧ wr n
    · rw [if_pos hc, if_pos ⟨.inl hc.1, hc.2⟩]
    · rw [if_neg hc, if_neg]
      rintro ⟨h1 | h1, h2⟩
      · exact hc ⟨h1, h2⟩
      · subst h1; exact hwr h2
theorem dX_read {i : Nat} : ∀ (n : Nat), i ≤ n → (∀ j, j < n → wr j → (D j ↔ j < i)) → dX base wr out D n = dX base wr out (fun _ => True) i
  | 0, h, _ => by
    obtain rfl : i = 0 := by omega
    rfl
  | n + 1, h, hr => by
    by_cases hi : i = n + 1
    · subst hi
      unfold dX
      by_cases hw : wr n
      · rw [if_pos ⟨(hr n (by omega) hw).2 (by omega), hw⟩, if_pos ⟨trivial, hw⟩]
      · rw [if_neg (fun h => hw h.2), if_neg (fun h => hw h.2)]
        exact dX_read n (Nat.le_refl _) fun j h1 h2 => by
          have := hr j (by omega) h2
          constructor
          · intro _; exact h1
          · intro _; exact this.2 (by omega)
    · have : dX base wr out D (n + 1) = dX base wr out D n := by
        simp only [dX]
        rw [if_neg]
        rintro ⟨h1, h2⟩
        have := (hr n (by omega) h2).1 h1
        omega
      rw [this]
      exact dX_read n (by omega) fun j h1 h2 => hr j (by omega) h2
theorem dX_canon {f : Nat → α} {n : Nat} (h : ∀ j, j < n → ¬ wr j → f (j + 1) = f j) : ∀ k, k ≤ n → dX (f 0) wr (fun j => f (j + 1)) (fun _ => True) k = f k
  | 0, _ => rfl
  | k + 1, hk => by
    simp only [dX]
    by_cases hw : wr k
    · rw [if_pos ⟨trivial, hw⟩]
    · rw [if_neg (fun h => hw h.2), dX_canon h k (by omega), h k (by omega) hw]
theorem dX_none {n : Nat} (h : ∀ j, j < n → ¬ D j) : dX base wr out D n = base := by
  induction n with
  | zero => rfl
  | succ n ih =>
    simp only [dX]
    rw [if_neg (fun hc => h n (by omega) hc.1)]
    exact ih fun j hj => h j (by omega)
end
end Go.DI
set_option linter.unusedVariables false
set_option linter.unusedSimpArgs false
namespace Go.DI
theorem mergeH_len (S : List Nat) (h h' : AH) : h.length ≤ (mergeH S h h').length := by
  simp [mergeH]
theorem mergeH_old {S : List Nat} {h h' : AH} {x : Nat} (hx : x < h.length) (hS : x ∉ S) : (mergeH S h h')[x]? = h[x]? := by
  unfold mergeH
  rw [List.getElem?_append_left (by simpa using hx), List.getElem?_mapIdx]
  simp only [List.contains_iff_mem, hS, if_false]
  cases h[x]? <;> rfl
theorem mergeH_in {S : List Nat} {h h' : AH} {x : Nat} (hx : x < h.length) (hS : x ∈ S) : (mergeH S h h')[x]? = some (h'[x]?).join := by
  unfold mergeH
  rw [List.getElem?_append_left (by simpa using hx), List.getElem?_mapIdx]
  simp only [List.contains_iff_mem, hS, if_true]
  rw [List.getElem?_eq_getElem hx]; rfl
theorem mergeH_new {S : List Nat} {h h' : AH} {x : Nat} (hx : h.length ≤ x) : (mergeH S h h')[x]? = h'[x]? := by
  unfold mergeH
  rw [List.getElem?_append_right (by simpa using hx), List.length_mapIdx, List.getElem?_drop]
  congr 1; omega
theorem maskH_get {S : List Nat} {h : AH} {x : Nat} {b : ABlk} : (maskH S h)[x]? = some (some b) ↔ x ∈ S ∧ h[x]? = some (some b) := by
  unfold maskH
  rw [List.getElem?_mapIdx]
  cases hx : h[x]? with
  | none => simp
  | some c =>
    by_cases hS : x ∈ S
    · have : S.contains x = true := by simpa using hS
      simp [hS]
    · have : S.contains x = false := by simpa using hS
      simp [hS]
theorem afterOp_len (o : Oper) (s : AS) (d : Did) : s.h.length ≤ (afterOp o s d).h.length := by
  cases d with
  | no => exact Nat.le_refl _
  | pure v => exact Nat.le_refl _
  | eff v h' => exact mergeH_len _ _ _
  | gone => exact Nat.le_refl _
theorem afterOp_slot {ops : Array Oper} {i : Nat} {o : Oper} {s : AS} {d : Did} {x : Nat} (h1 : x ∉ (fpOf ops i o s d).tch) (h2 : ¬ (s.h.length ≤ x ∧ x < (afterOp o s d).h.length)) :
    ((afterOp o s d).h[x]?).join = (s.h[x]?).join := by
  cases d with
  | no => rfl
  | pure v => rfl
  | gone => rfl
  | eff v h' =>
    by_cases hx : x < s.h.length
    · show ((mergeH (slotsAt o s) s.h h')[x]?).join = _
      rw [mergeH_old (S := slotsAt o s) hx h1]
    · have h3 : (afterOp o s (.eff v h')).h.length ≤ x := by omega
      rw [List.getElem?_eq_none_iff.2 h3, List.getElem?_eq_none_iff.2 (by omega)]
theorem afterOp_reg {o : Oper} {s : AS} {d : Did} {t : Nat} (h : o.dst ≠ some t) : (afterOp o s d).r[t]? = s.r[t]? := by
  have key : ∀ v, (setR s.r o.dst v)[t]? = s.r[t]? := by
    intro v
    unfold setR
    split
    · rename_i d' hd
      rw [List.getElem?_set, if_neg]
      intro he
      exact h (by rw [hd, he])
    · rfl
  cases d <;> exact key _
theorem maskH_len {S : List Nat} {h : AH} : (maskH S h).length = h.length := by simp [maskH]
end Go.DI
set_option linter.unusedVariables false
set_option linter.unusedSimpArgs false
namespace Go.DI
def cut (ρ : Nm) (b : Nat) : Nm := fun x => if x < b then ρ x else none
theorem cut_mono (ρ : Nm) {b c : Nat} (h : b ≤ c) : (cut ρ b).le (cut ρ c) := fun i bn hi => by
  unfold cut at hi ⊢
  split at hi
  · rw [if_pos (by omega)]; exact hi
  · cases hi
theorem cut_lt {ρ : Nm} {b x : Nat} (h : x < b) : cut ρ b x = ρ x := by unfold cut; rw [if_pos h]
theorem cut_le_cut {ρ ρ' : Nm} {b : Nat} (h : ρ.le ρ') : (cut ρ b).le (cut ρ' b) := fun i bn hi => by
  unfold cut at hi ⊢
  split at hi
  · rename_i hc; rw [if_pos hc]; exact h i bn hi
  · cases hi
end Go.DI
set_option linter.unusedVariables false
set_option linter.unusedSimpArgs false
namespace Go.DI
structure Wk (C : Cfg) (ops : Array Oper) where
  n : Nat
  le : n ≤ ops.size
  st : Nat → AS
  op : Nat → Oper
  did : Nat → Did
  ok : ∀ i, i < n → ops[i]? = some (op i) ∧ DidOk C ops (op i) (st i) (did i) ∧ st (i + 1) = afterOp (op i) (st i) (did i)
section
variable {C : Cfg} {ops : Array Oper} (W : Wk C ops)
def Wk.L (i : Nat) : Nat := (W.st i).h.length
def Wk.fp (i : Nat) : FP := fpOf ops i (W.op i) (W.st i) (W.did i)
def Wk.wr (t : Nat) (i : Nat) : Prop := (W.op i).dst = some t
def Wk.ws (x : Nat) (i : Nat) : Prop := x ∈ (W.fp i).tch ∨ (W.L i ≤ x ∧ x < W.L (i + 1))
noncomputable def Wk.reg (D : Nat → Prop) (t : Nat) : Option AV := dX (W.st 0).r[t]? (W.wr t) (fun j => (W.st (j + 1)).r[t]?) D W.n
noncomputable def Wk.slot (D : Nat → Prop) (x : Nat) : Option ABlk := dX ((W.st 0).h[x]?).join (W.ws x) (fun j => ((W.st (j + 1)).h[x]?).join) D W.n
noncomputable def Wk.rb (D : Nat → Prop) (t : Nat) : Nat := dX (W.L 0) (W.wr t) (fun j => W.L (j + 1)) D W.n
noncomputable def Wk.sb (D : Nat → Prop) (x : Nat) : Nat := dX (W.L 0) (W.ws x) (fun j => W.L (j + 1)) D W.n
structure Wk.Inv (R0 : Nat → Prop) (ρ0 : Nm) (w0 : World) (D : Nat → Prop) (R : Nat → Prop) (ρ : Nm) (a : Act) (w : World) : Prop where
  defers : a.defers = []
  size : a.tmps.size = (W.st 0).r.length
  reg : ∀ t u, a.tmps[t]? = some u → ∃ v, W.reg D t = some v ∧ VRep w R (cut ρ (W.rb D t)) v u
  slot : ∀ x blk, W.slot D x = some blk → ∃ b N, ρ x = some (b, N) ∧ BRep w R (cut ρ (W.sb D x)) b N blk ∧ Real R b N blk
  inj : ∀ x y bx by_ b Nx Ny, W.slot D x = some bx → W.slot D y = some by_ → ρ x = some (b, Nx) → ρ y = some (b, Ny) → Nx.gh = false → Ny.gh = false → x = y
  dom : ∀ x, ρ x ≠ none → x < W.L 0 ∨ ∃ i, D i ∧ W.L i ≤ x ∧ x < W.L (i + 1)
  ro : ∀ b, R b → b < w.heap.size
  os : w.os = w0.os
  tape : w.tape = w0.tape
  output : w.output = w0.output
  wsize : w0.heap.size ≤ w.heap.size
  ros : ∀ b, R0 b → R b
  keeps : ∀ b, b < w0.heap.size → ¬ Lv ρ0 (W.st 0).h b → w.heap[b]? = w0.heap[b]?
  lives : ∀ x blk b N, W.slot D x = some blk → ρ x = some (b, N) → N.gh = false → Lv ρ0 (W.st 0).h b ∨ w0.heap.size ≤ b
  rolds : ∀ b, R b → R0 b ∨ Lv ρ0 (W.st 0).h b ∨ w0.heap.size ≤ b
  frz : w0.drawn ≤ w.drawn
  named : ∀ j, D j → ∀ x ∈ (W.fp j).sl, ρ x ≠ none
  keepn : ∀ x bn, ρ0 x = some bn → ρ x = some bn
end
end Go.DI
set_option linter.unusedVariables false
set_option linter.unusedSimpArgs false
namespace Go.DI
section
variable {C : Cfg} {ops : Array Oper} (W : Wk C ops)
theorem cut_all {ρ : Nm} {b : Nat} (h : ∀ i, b ≤ i → ρ i = none) : cut ρ b = ρ := by
  funext x
  unfold cut
  split
  · rfl
  · rw [h x (by omega)]
theorem Wk.start {R : Nat → Prop} {ρ : Nm} {w : World} {a : Act} (hr : Rel R ρ (W.st 0).h w) (ha : RegRep w R ρ (W.st 0).r a) (hd : a.defers = []) : W.Inv R ρ w (fun _ => False) R ρ a w := by
  have hc : cut ρ (W.L 0) = ρ := cut_all hr.dom
  have e1 : ∀ t, W.reg (fun _ => False) t = (W.st 0).r[t]? := fun t => dX_none (fun _ _ h => h)
  have e2 : ∀ x, W.slot (fun _ => False) x = ((W.st 0).h[x]?).join := fun x => dX_none (fun _ _ h => h)
  have e3 : ∀ t, W.rb (fun _ => False) t = W.L 0 := fun t => dX_none (fun _ _ h => h)
  have e4 : ∀ t, W.sb (fun _ => False) t = W.L 0 := fun t => dX_none (fun _ _ h => h)
  have hs : ∀ x blk, W.slot (fun _ => False) x = some blk → (W.st 0).h[x]? = some (some blk) := by
    intro x blk h
    rw [e2] at h
    cases hx : (W.st 0).h[x]? with
    | none => rw [hx] at h; cases h
    | some c =>
      rw [hx] at h
      cases c with
      | none => cases h
      | some b => simp at h; rw [h]
  refine ⟨hd, by have := ha.1; simpa using this, fun t u hu => ?_, fun x blk hx => ?_, fun x y bx by_ b Nx Ny hx hy => ?_, fun x hx => ?_, hr.ro, rfl, rfl, rfl, Nat.le_refl _, fun _ h => h, fun _ _ _ => rfl, fun x blk b N hx hn hg => ?_, fun _ h => .inl h, (by first | exact Nat.le_refl _ | exact Nat.le_succ _), fun _ h => h.elim, fun _ _ h => h⟩
  · have hlt : t < (W.st 0).r.length := by
      have h1 := ha.1
      have h2 := (Array.getElem?_eq_some_iff.1 hu).1
      simp at h1; omega
    refine ⟨(W.st 0).r[t], by rw [e1, List.getElem?_eq_getElem hlt], ?_⟩
    rw [e3, hc]
    exact ha.2 t _ u (List.getElem?_eq_getElem hlt) (by simpa using hu)
  · obtain ⟨b, N, h1, h2, h3⟩ := hr.live x blk (hs x blk hx)
    rw [e4, hc]
    exact ⟨b, N, h1, h2, h3⟩
  · exact hr.inj x y bx by_ b Nx Ny (hs _ _ hx) (hs _ _ hy)
  · refine .inl ?_
    rcases Nat.lt_or_ge x (W.L 0) with h | h
    · exact h
    · exact absurd (hr.dom x h) hx
  · exact .inl ⟨x, blk, N, hs _ _ hx, hn, hg⟩
end
end Go.DI
set_option linter.unusedVariables false
set_option linter.unusedSimpArgs false
namespace Go.DI
section
variable {C : Cfg} {ops : Array Oper} (W : Wk C ops)
theorem Wk.reg_at {D : Nat → Prop} {i : Nat} (hi : i ≤ W.n) {t : Nat} (h : ∀ j, j < W.n → W.wr t j → (D j ↔ j < i)) : W.reg D t = (W.st i).r[t]? := by
  unfold Wk.reg
  rw [dX_read W.n hi h]
  exact dX_canon (f := fun j => (W.st j).r[t]?) (n := W.n) (fun j hj hw => by
    show (W.st (j + 1)).r[t]? = _
    rw [(W.ok j hj).2.2]; exact afterOp_reg hw) i hi
theorem Wk.slot_at {D : Nat → Prop} {i : Nat} (hi : i ≤ W.n) {x : Nat} (h : ∀ j, j < W.n → W.ws x j → (D j ↔ j < i)) : W.slot D x = ((W.st i).h[x]?).join := by
  unfold Wk.slot
  rw [dX_read W.n hi h]
  exact dX_canon (f := fun j => ((W.st j).h[x]?).join) (n := W.n) (fun j hj hw => by
    show ((W.st (j + 1)).h[x]?).join = _
    have h1 := (W.ok j hj).2.2
    rw [h1]
    refine afterOp_slot (ops := ops) (i := j) (fun h2 => hw (.inl h2)) (fun h2 => hw (.inr ⟨h2.1, ?_⟩))
    show x < (W.st (j + 1)).h.length
    rw [h1]; exact h2.2) i hi
theorem Wk.L_step {j : Nat} (hj : j < W.n) : W.L j ≤ W.L (j + 1) := by
  unfold Wk.L
  rw [(W.ok j hj).2.2]
  exact afterOp_len _ _ _
theorem Wk.L_mono {i j : Nat} (h : i ≤ j) (hj : j ≤ W.n) : W.L i ≤ W.L j := by
  induction j with
  | zero =>
    obtain rfl : i = 0 := by omega
    exact Nat.le_refl _
  | succ j ih =>
    by_cases he : i = j + 1
    · subst he; exact Nat.le_refl _
    · exact Nat.le_trans (ih (by omega) (by omega)) (W.L_step (by omega))
theorem dX_le {wr : Nat → Prop} {D : Nat → Prop} {base : Nat} {out : Nat → Nat} {c : Nat} (hb : base ≤ c) : ∀ (n : Nat), (∀ j, j < n → D j → wr j → out j ≤ c) → dX base wr out D n ≤ c
  | 0, _ => hb
  | n + 1, h => by
    simp only [dX]
    split
    · rename_i hc; exact h n (by omega) hc.1 hc.2
    · exact dX_le hb n fun j h1 h2 h3 => h j (by omega) h2 h3
end
end Go.DI
set_option linter.unusedVariables false
set_option linter.unusedSimpArgs false
namespace Go.DI
section
variable {C : Cfg} {ops : Array Oper} (W : Wk C ops)
structure Wk.Sees (D : Nat → Prop) (i : Nat) : Prop where
  lt : i ≤ W.n
  reg : ∀ t ∈ (W.fp i).rd, ∀ j, j < W.n → W.wr t j → (D j ↔ j < i)
  slot : ∀ x ∈ (W.fp i).sl, ∀ j, j < W.n → W.ws x j → (D j ↔ j < i)
variable {W}
theorem Wk.Inv.rel {R0 R : Nat → Prop} {ρ0 ρ : Nm} {w0 w : World} {D : Nat → Prop} {a : Act} {i : Nat} (hI : W.Inv R0 ρ0 w0 D R ρ a w) (hs : W.Sees D i) {S : List Nat} (hS : ∀ x ∈ S, x ∈ (W.fp i).sl) :
    Rel R (cut ρ (W.L i)) (maskH S (W.st i).h) w := by
  have hsl : ∀ x blk, (maskH S (W.st i).h)[x]? = some (some blk) → x < W.L i ∧ W.slot D x = some blk ∧ W.sb D x ≤ W.L i := by
    intro x blk hx
    obtain ⟨h1, h2⟩ := maskH_get.1 hx
    refine ⟨(List.getElem?_eq_some_iff.1 h2).1, ?_, ?_⟩
    · rw [W.slot_at (hs.lt) (hs.slot x (hS x h1)), h2]; rfl
    · refine dX_le (W.L_mono (Nat.zero_le _) (hs.lt)) _ fun j h3 h4 h5 => ?_
      have := (hs.slot x (hS x h1) j h3 h5).1 h4
      exact W.L_mono this (hs.lt)
  refine ⟨fun x blk hx => ?_, fun x y bx by_ b Nx Ny hx hy hnx hny hgx hgy => ?_, fun x hx => ?_, hI.ro⟩
  · obtain ⟨h1, h2, h3⟩ := hsl x blk hx
    obtain ⟨b, N, k1, k2, k3⟩ := hI.slot x blk h2
    exact ⟨b, N, by rw [cut_lt h1]; exact k1, k2.mono k3 (fun _ => rfl) (fun _ _ => rfl) (fun _ h => h) (cut_mono ρ h3), k3⟩
  · obtain ⟨h1, h2, _⟩ := hsl x bx hx
    obtain ⟨h3, h4, _⟩ := hsl y by_ hy
    rw [cut_lt h1] at hnx
    rw [cut_lt h3] at hny
    exact hI.inj x y bx by_ b Nx Ny h2 h4 hnx hny hgx hgy
  · rw [maskH_len] at hx
    have hx : W.L i ≤ x := hx
    unfold cut
    rw [if_neg (by omega)]
end
end Go.DI
set_option linter.unusedVariables false
set_option linter.unusedSimpArgs false
namespace Go.DI
section
variable {C : Cfg} {ops : Array Oper} {W : Wk C ops}
theorem Wk.rlen {i : Nat} (h : i ≤ W.n) : (W.st i).r.length = (W.st 0).r.length := by
  induction i with
  | zero => rfl
  | succ i ih => rw [(W.ok i (by omega)).2.2, afterOp_rlen, ih (by omega)]
theorem Wk.Inv.regs {R0 R : Nat → Prop} {ρ0 ρ : Nm} {w0 w : World} {D : Nat → Prop} {a : Act} {i : Nat} (hI : W.Inv R0 ρ0 w0 D R ρ a w) (hlt : i ≤ W.n) {t : Nat} (hreg : ∀ j, j < W.n → W.wr t j → (D j ↔ j < i)) :
    VRep w R (cut ρ (W.L i)) (((W.st i).r[t]?).getD .undef) (a.tmps.getD t undef) ∧ ((W.st i).r[t]? = none ↔ a.tmps[t]? = none) := by
  have he := W.reg_at (D := D) (hlt) (hreg)
  have hb : W.rb D t ≤ W.L i := dX_le (W.L_mono (Nat.zero_le _) (hlt)) _ fun j h3 h4 h5 => by
    have := (hreg j h3 h5).1 h4
    exact W.L_mono this (hlt)
  cases hu : a.tmps[t]? with
  | some u =>
    obtain ⟨v, hv, hr⟩ := hI.reg t u hu
    rw [he] at hv
    rw [hv]
    simp only [Option.getD_some, Array.getD_eq_getD_getElem?, hu]
    exact ⟨hr.mono (fun _ _ => rfl) (fun _ h => h) (cut_mono ρ hb), by simp⟩
  | none =>
    have h1 : (W.st i).r[t]? = none := by
      rw [List.getElem?_eq_none_iff, Wk.rlen (hlt), ← hI.size]
      exact Array.getElem?_eq_none_iff.1 hu
    rw [h1]
    simp only [Option.getD_none, Array.getD_eq_getD_getElem?, hu]
    exact ⟨.undef, by simp⟩
end
end Go.DI
set_option linter.unusedVariables false
set_option linter.unusedSimpArgs false
namespace Go.DI
section
variable {w : World} {R : Nat → Prop} {ρ : Nm}
theorem slots_named {v : AV} {u : Value} (h : VRep w R ρ v u) : ∀ x ∈ v.slots, ρ x ≠ none := by
  induction h with
  | ptr h => intro x hx; simp only [AV.slots, List.mem_singleton] at hx; subst hx; rw [h]; simp
  | own h _ _ => intro x hx; simp only [AV.slots, List.mem_singleton] at hx; subst hx; rw [h]; simp
  | orow h _ _ _ => intro x hx; simp only [AV.slots, List.mem_singleton] at hx; subst hx; rw [h]; simp
  | onil h _ => intro x hx; simp only [AV.slots, List.mem_singleton] at hx; subst hx; rw [h]; simp
  | optr h _ => intro x hx; simp only [AV.slots, List.mem_singleton] at hx; subst hx; rw [h]; simp
  | map h => intro x hx; simp only [AV.slots, List.mem_singleton] at hx; subst hx; rw [h]; simp
  | iface _ ih => exact ih
  | _ => intro x hx; simp [AV.slots] at hx
theorem slotsM_named {cs : List AV} {us : List Value} (h : VReps w R ρ cs us) : ∀ x ∈ cs.flatMap AV.slots, ρ x ≠ none := by
  intro x hx
  obtain ⟨c, hc, hx⟩ := List.mem_flatMap.1 hx
  obtain ⟨k, hk⟩ := List.mem_iff_getElem?.1 hc
  obtain ⟨u, _, hv⟩ := h.get hk
  exact slots_named hv x hx
theorem slotsL_named : ∀ {vs : List AV}, (∀ v ∈ vs, ∃ u, VRep w R ρ v u) → ∀ x ∈ slotsL vs, ρ x ≠ none
  | [], _, x, hx => by simp [slotsL] at hx
  | v :: r, h, x, hx => by
    have ih := slotsL_named (vs := r) fun v hv => h v (List.mem_cons_of_mem _ hv)
    obtain ⟨u, hu⟩ := h v List.mem_cons_self
    have two : ∀ (l : List Nat), (∀ y ∈ l, ρ y ≠ none) → x ∈ l ++ slotsL r → ρ x ≠ none := fun l hl hx => by
      rcases List.mem_append.1 hx with h1 | h1
      · exact hl x h1
      · exact ih x h1
    cases v with
    | agg cs =>
      obtain ⟨us, rfl, h1⟩ := hu.agg_inv
      exact two _ (slotsM_named h1) hx
    | tup cs =>
      obtain ⟨us, rfl, h1⟩ := hu.tup_inv
      exact two _ (slotsM_named h1) hx
    | func f a b =>
      cases hu with
      | func vf vc hf0 hc0 hf hc =>
        refine two (a.flatMap AV.slots ++ b.flatMap AV.slots) (fun y hy => ?_) hx
        rcases List.mem_append.1 hy with h1 | h1
        · exact slotsM_named (us := vf.toList) ⟨by simpa using hf0, fun k c u hc hu => hf k c u hc (by simpa using hu)⟩ y h1
        · exact slotsM_named (us := vc.toList) ⟨by simpa using hc0, fun k c u hc' hu => hc k c u hc' (by simpa using hu)⟩ y h1
    | _ => exact two _ (slots_named hu) hx
end
section
variable {C : Cfg} {ops : Array Oper} {W : Wk C ops} {R0 R : Nat → Prop} {ρ0 ρ : Nm} {w0 w : World} {D : Nat → Prop} {a : Act} {i : Nat}
theorem Wk.fp_dst (i : Nat) : (W.fp i).dst = (W.op i).dst := by
  unfold Wk.fp; cases W.did i <;> rfl
theorem Wk.fp_i (i : Nat) : (W.fp i).i = i := by
  unfold Wk.fp; cases W.did i <;> rfl
theorem Wk.Inv.reg_put (hI : W.Inv R0 ρ0 w0 D R ρ a w) (hlt : i < W.n) (hlater : ∀ t, W.wr t i → ∀ j, i < j → j < W.n → D j → ¬ W.wr t j)
    {R' : Nat → Prop} {ρ' : Nm} {w' : World} {v : AV} {u : Value} (hst : (W.st (i + 1)).r = setR (W.st i).r (W.op i).dst v) (hv : VRep w' R' (cut ρ' (W.L (i + 1))) v u)
    (hw : ∀ b, R b → w'.heap[b]? = w.heap[b]?) (hR : ∀ b, R b → R' b) (hρ : ρ.le ρ') :
    ∀ t u0, (a.put (W.op i).dst u).tmps[t]? = some u0 → ∃ v0, W.reg (fun j => D j ∨ j = i) t = some v0 ∧ VRep w' R' (cut ρ' (W.rb (fun j => D j ∨ j = i) t)) v0 u0 := by
  intro t u0 hu
  by_cases hwr : W.wr t i
  · have hd : (W.op i).dst = some t := hwr
    rw [hd] at hu
    simp only [Act.put] at hu
    have hts : t < a.tmps.size := by
      have := (Array.getElem?_eq_some_iff.1 hu).1
      simpa using this
    rw [Array.getElem?_setIfInBounds_self_of_lt hts] at hu
    injection hu with hu; subst hu
    refine ⟨v, ?_, ?_⟩
    · unfold Wk.reg
      rw [dX_add hwr W.n hlt (hlater t hwr), hst, hd]
      simp only [setR]
      rw [List.getElem?_set, if_pos rfl, if_pos]
      rw [Wk.rlen (Nat.le_of_lt hlt), ← hI.size]; exact hts
    · unfold Wk.rb
      rw [dX_add hwr W.n hlt (hlater t hwr)]
      exact hv
  · have hne : (W.op i).dst ≠ some t := hwr
    have he : (a.put (W.op i).dst u).tmps[t]? = a.tmps[t]? := by
      unfold Act.put
      split
      · rename_i d hd
        exact Array.getElem?_setIfInBounds_ne (fun e => hne (by rw [hd, e]))
      · rfl
    rw [he] at hu
    obtain ⟨v0, h1, h2⟩ := hI.reg t u0 hu
    refine ⟨v0, ?_, ?_⟩
    · unfold Wk.reg; rw [dX_keep hwr]; exact h1
    · unfold Wk.rb; rw [dX_keep hwr]
      exact h2.mono hw hR (cut_le_cut hρ)
theorem put_size (a : Act) (d : Option Tmp) (u : Value) : (a.put d u).tmps.size = a.tmps.size := by
  cases d <;> simp [Act.put]
theorem put_defs (a : Act) (d : Option Tmp) (u : Value) : (a.put d u).defers = a.defers := by
  cases d <;> rfl
theorem Wk.Inv.put (hI : W.Inv R0 ρ0 w0 D R ρ a w) (hlt : i < W.n) (hlater : ∀ t, W.wr t i → ∀ j, i < j → j < W.n → D j → ¬ W.wr t j)
    (hnm : ∀ x ∈ (W.fp i).sl, ρ x ≠ none) (htch : (W.fp i).tch = []) (hL : W.L (i + 1) = W.L i) {v : AV} {u : Value} (hst : (W.st (i + 1)).r = setR (W.st i).r (W.op i).dst v) (hv : VRep w R (cut ρ (W.L i)) v u) :
    W.Inv R0 ρ0 w0 (fun j => D j ∨ j = i) R ρ (a.put (W.op i).dst u) w := by
  have hws : ∀ x, ¬ W.ws x i := by
    rintro x (h | h)
    · rw [htch] at h; simp at h
    · rw [hL] at h; omega
  have e1 : ∀ x, W.slot (fun j => D j ∨ j = i) x = W.slot D x := fun x => dX_keep (hws x) _
  have e2 : ∀ x, W.sb (fun j => D j ∨ j = i) x = W.sb D x := fun x => dX_keep (hws x) _
  refine ⟨by rw [put_defs]; exact hI.defers, by rw [put_size]; exact hI.size, hI.reg_put hlt hlater hst (by rw [hL]; exact hv) (fun _ _ => rfl) (fun _ h => h) (Nm.le_refl _), fun x blk hx => ?_, fun x y bx by_ b Nx Ny hx hy => ?_, fun x hx => ?_,
    hI.ro, hI.os, hI.tape, hI.output, hI.wsize, hI.ros, hI.keeps, fun x blk b N hx => ?_, hI.rolds, hI.frz, fun j hj x hx => hj.elim (fun h => hI.named j h x hx) (fun h => hnm x (h ▸ hx)), hI.keepn⟩
  · rw [e1] at hx; rw [e2]; exact hI.slot x blk hx
  · rw [e1] at hx hy; exact hI.inj x y bx by_ b Nx Ny hx hy
  · rcases hI.dom x hx with h | ⟨k, h1, h2⟩
    · exact .inl h
    · exact .inr ⟨k, .inl h1, h2⟩
  · rw [e1] at hx; exact hI.lives x blk b N hx
theorem Wk.Inv.putK (hI : W.Inv R0 ρ0 w0 D R ρ a w) (hlt : i < W.n) (hlater : ∀ t, W.wr t i → ∀ j, i < j → j < W.n → D j → ¬ W.wr t j)
    (hnm : ∀ x ∈ (W.fp i).sl, ρ x ≠ none) (htch : (W.fp i).tch = []) (hL : W.L (i + 1) = W.L i) {v : AV} {u : Value} (hst : (W.st (i + 1)).r = setR (W.st i).r (W.op i).dst v) {w' : World} (hk : Kw w w') (hv : VRep w' R (cut ρ (W.L i)) v u) :
    W.Inv R0 ρ0 w0 (fun j => D j ∨ j = i) R ρ (a.put (W.op i).dst u) w' := by
  have hws : ∀ x, ¬ W.ws x i := by
    rintro x (h | h)
    · rw [htch] at h; simp at h
    · rw [hL] at h; omega
  have e1 : ∀ x, W.slot (fun j => D j ∨ j = i) x = W.slot D x := fun x => dX_keep (hws x) _
  have e2 : ∀ x, W.sb (fun j => D j ∨ j = i) x = W.sb D x := fun x => dX_keep (hws x) _
  refine ⟨by rw [put_defs]; exact hI.defers, by rw [put_size]; exact hI.size, hI.reg_put hlt hlater hst (by rw [hL]; exact hv) (fun b hb => hk.keep b (hI.ro b hb)) (fun _ h => h) (Nm.le_refl _), fun x blk hx => ?_, fun x y bx by_ b Nx Ny hx hy => ?_, fun x hx => ?_,
    fun b hb => Nat.lt_of_lt_of_le (hI.ro b hb) hk.size, hk.os.trans hI.os, hk.tape.trans hI.tape, hk.output.trans hI.output, Nat.le_trans hI.wsize hk.size, hI.ros, fun b hb hl => (hk.keep b (Nat.lt_of_lt_of_le hb hI.wsize)).trans (hI.keeps b hb hl), fun x blk b N hx => ?_, fun b hb => (hI.rolds b hb), Nat.le_trans hI.frz hk.frz, fun j hj x hx => hj.elim (fun h => hI.named j h x hx) (fun h => hnm x (h ▸ hx)), hI.keepn⟩
  · rw [e1] at hx; rw [e2]
    obtain ⟨b, N, k1, k2, k3⟩ := hI.slot x blk hx
    exact ⟨b, N, k1, k2.mono k3 (fun hg => hk.keep b (k2.lt hg)) (fun c hc => hk.keep c (hI.ro c hc)) (fun _ h => h) (Nm.le_refl _), k3⟩
  · rw [e1] at hx hy; exact hI.inj x y bx by_ b Nx Ny hx hy
  · rcases hI.dom x hx with h | ⟨k, h1, h2⟩
    · exact .inl h
    · exact .inr ⟨k, .inl h1, h2⟩
  · rw [e1] at hx; exact hI.lives x blk b N hx
theorem Wk.Inv.eff (hI : W.Inv R0 ρ0 w0 D R ρ a w) (hs : W.Sees D i) (hlt : i < W.n) (hnD : ¬ D i) (hlater : ∀ t, W.wr t i → ∀ j, i < j → j < W.n → D j → ¬ W.wr t j)
    (hlaterS : ∀ x, W.ws x i → ∀ j, i < j → j < W.n → D j → ¬ W.ws x j) (hDn : ∀ j, D j → j < W.n) (hnm : ∀ x ∈ (W.fp i).sl, ρ x ≠ none)
    {v : AV} {h' : AH} (hd : W.did i = .eff v h') {R' : Nat → Prop} {ρ1 : Nm} {u : Value} {w' : World}
    (hv : VRep w' R' ρ1 v u) (hr' : Rel R' ρ1 h' w') (hf : Frm R (cut ρ (W.L i)) (maskH (slotsAt (W.op i) (W.st i)) (W.st i).h) w R' ρ1 h' w') :
    ∃ ρ', W.Inv R0 ρ0 w0 (fun j => D j ∨ j = i) R' ρ' (a.put (W.op i).dst u) w' := by
  have hS : slotsAt (W.op i) (W.st i) = (W.fp i).tch := by unfold Wk.fp; rw [hd]; rfl
  have hSl : (W.fp i).sl = (W.fp i).tch := by unfold Wk.fp; rw [hd]; rfl
  generalize hSS : slotsAt (W.op i) (W.st i) = S at hf hS
  have hrel := hI.rel hs (S := S) (by rw [hS, hSl]; exact fun _ h => h)
  have hstep : W.st (i + 1) = ⟨setR (W.st i).r (W.op i).dst v, mergeH S (W.st i).h h'⟩ := by
    rw [(W.ok i hlt).2.2, hd]; simp only [afterOp, hSS]
  have hLh : W.L i ≤ h'.length := by have := hf.hlen; rw [maskH_len] at this; exact this
  have hL1 : W.L (i + 1) = h'.length := by
    unfold Wk.L; rw [hstep]; simp only [mergeH]
    simp only [List.length_append, List.length_mapIdx, List.length_drop]
    have : (W.st i).h.length ≤ h'.length := hLh
    omega
  have hLL : W.L i ≤ W.L (i + 1) := W.L_step hlt
  let ρ' : Nm := fun x => if W.L i ≤ x ∧ x < W.L (i + 1) then ρ1 x else ρ x
  have hnone : ∀ x, W.L i ≤ x → x < W.L (i + 1) → ρ x = none := by
    intro x h1 h2
    cases hx : ρ x with
    | none => rfl
    | some bn =>
      exfalso
      rcases hI.dom x (by rw [hx]; simp) with h3 | ⟨k, h3, h4, h5⟩
      · have := W.L_mono (Nat.zero_le i) (Nat.le_of_lt hlt); omega
      · rcases Nat.lt_trichotomy k i with h6 | h6 | h6
        · have := W.L_mono (i := k + 1) (j := i) h6 (Nat.le_of_lt hlt); omega
        · subst h6; exact hnD h3
        · have := W.L_mono (i := i + 1) (j := k) h6 (Nat.le_of_lt (hDn k h3)); omega
  have hin : ∀ x, W.L i ≤ x → x < W.L (i + 1) → ρ' x = ρ1 x := fun x h1 h2 => if_pos ⟨h1, h2⟩
  have hout : ∀ x, ¬ (W.L i ≤ x ∧ x < W.L (i + 1)) → ρ' x = ρ x := fun x h1 => if_neg h1
  have hle : ρ.le ρ' := by
    intro x bn hx
    rw [hout]
    · exact hx
    · rintro ⟨h1, h2⟩; rw [hnone x h1 h2] at hx; cases hx
  have hold : ∀ x, x < W.L i → ρ1 x = ρ x := by
    intro x hx
    cases he : ρ x with
    | some bn => exact hf.names x bn (by rw [cut_lt hx]; exact he)
    | none => exact hf.fresh x (by rw [maskH_len]; exact hx) (by rw [cut_lt hx]; exact he)
  have hcut : cut ρ' (W.L (i + 1)) = ρ1 := by
    funext x
    unfold cut
    split
    · rename_i h1
      by_cases h2 : W.L i ≤ x
      · exact hin x h2 h1
      · rw [hout x (fun h => h2 h.1), hold x (by omega)]
    · rename_i h1
      exact (hr'.dom x (by omega)).symm
  have h1ρ : ∀ x, x < W.L (i + 1) → ρ' x = ρ1 x := fun x hx => by
    rw [← hcut, cut_lt hx]
  have hro := hf.roKeeps hrel
  -- a block that the operation was told of
  have hlv : ∀ b, Lv (cut ρ (W.L i)) (maskH S (W.st i).h) b → ∃ z blk N, z ∈ S ∧ W.slot D z = some blk ∧ ρ z = some (b, N) ∧ N.gh = false := by
    rintro b ⟨z, blk, N, h1, h2, h3⟩
    obtain ⟨h4, h5⟩ := maskH_get.1 h1
    have hz : z < W.L i := (List.getElem?_eq_some_iff.1 h5).1
    refine ⟨z, blk, N, h4, ?_, by rw [cut_lt hz] at h2; exact h2, h3⟩
    rw [W.slot_at (Nat.le_of_lt hlt) (hs.slot z (by rw [hSl, ← hS]; exact h4)), h5]; rfl
  have hnlv : ∀ x blk b N, ¬ W.ws x i → W.slot D x = some blk → ρ x = some (b, N) → N.gh = false → ¬ Lv (cut ρ (W.L i)) (maskH S (W.st i).h) b := by
    intro x blk b N hx h1 h2 h3 hl
    obtain ⟨z, blk', N', h4, h5, h6, h7⟩ := hlv b hl
    have := hI.inj x z blk blk' b N N' h1 h5 h2 h6 h3 h7
    subst this
    exact hx (.inl (by rw [← hS]; exact h4))
  -- blocks behind it
  have snew : ∀ x blk, W.ws x i → W.slot (fun j => D j ∨ j = i) x = some blk → h'[x]? = some (some blk) ∧ x < W.L (i + 1) ∧ W.sb (fun j => D j ∨ j = i) x = W.L (i + 1) := by
    intro x blk hx h1
    unfold Wk.slot at h1
    rw [dX_add hx W.n hlt (hlaterS x hx), hstep] at h1
    have hj : ∀ {o : Option (Option ABlk)}, o.join = some blk → o = some (some blk) := by
      intro o ho
      cases o with
      | none => cases ho
      | some c => cases c with
        | none => cases ho
        | some b => simp at ho; rw [ho]
    have h1 := hj h1
    have h2 : h'[x]? = some (some blk) := by
      by_cases hxl : x < (W.st i).h.length
      · have hxS : x ∈ S := by
          rcases hx with h | h
          · rw [hS]; exact h
          · exact absurd h.1 (by show ¬ (W.st i).h.length ≤ x; omega)
        rw [mergeH_in (S := S) (h := (W.st i).h) (h' := h') hxl hxS] at h1
        injection h1 with h1
        exact hj h1
      · rw [mergeH_new (S := S) (h := (W.st i).h) (h' := h') (by omega)] at h1
        exact h1
    refine ⟨h2, by rw [hL1]; exact (List.getElem?_eq_some_iff.1 h2).1, ?_⟩
    unfold Wk.sb
    rw [dX_add hx W.n hlt (hlaterS x hx)]
  have sold : ∀ x, ¬ W.ws x i → W.slot (fun j => D j ∨ j = i) x = W.slot D x ∧ W.sb (fun j => D j ∨ j = i) x = W.sb D x ∧ ρ' x = ρ x := by
    intro x hx
    exact ⟨dX_keep hx _, dX_keep hx _, hout x fun h => hx (.inr h)⟩
  refine ⟨ρ', by rw [put_defs]; exact hI.defers, by rw [put_size]; exact hI.size,
    hI.reg_put hlt hlater (v := v) (by rw [hstep]) (by rw [hcut]; exact hv) hro hf.ros hle,
    fun x blk hx => ?_, fun x y bx by_ b Nx Ny hx hy hnx hny hgx hgy => ?_, fun x hx => ?_,
    hr'.ro, hf.os.trans hI.os, hf.tape.trans hI.tape, hf.output.trans hI.output, Nat.le_trans hI.wsize hf.size, fun b hb => hf.ros b (hI.ros b hb), fun b hb hl => ?_, fun x blk b N hx hn hg => ?_, fun b hb => ?_, Nat.le_trans hI.frz hf.frz, fun j hj x hx => ?_, fun x bn hx => hle x bn (hI.keepn x bn hx)⟩
  · by_cases hxw : W.ws x i
    · obtain ⟨h1, h2, h3⟩ := snew x blk hxw hx
      obtain ⟨b, N, k1, k2, k3⟩ := hr'.live x blk h1
      exact ⟨b, N, by rw [h1ρ x h2]; exact k1, by rw [h3, hcut]; exact k2, k3⟩
    · obtain ⟨h1, h2, h3⟩ := sold x hxw
      rw [h1] at hx
      obtain ⟨b, N, k1, k2, k3⟩ := hI.slot x blk hx
      refine ⟨b, N, by rw [h3]; exact k1, ?_, ?_⟩
      · rw [h2]
        exact k2.mono k3 (fun hg => hf.keeps b (k2.lt hg) (hnlv x blk b N hxw hx k1 hg)) hro hf.ros (cut_le_cut hle)
      · rcases k3 with ⟨k4, k5⟩ | k4
        · refine .inl ⟨k4, fun hR => ?_⟩
          rcases hf.rolds b hR with h6 | h6 | h6
          · exact k5 h6
          · exact hnlv x blk b N hxw hx k1 k4 h6
          · have := k2.lt k4; omega
        · exact .inr k4
  · by_cases hxw : W.ws x i <;> by_cases hyw : W.ws y i
    · obtain ⟨h1, h2, _⟩ := snew x bx hxw hx
      obtain ⟨h3, h4, _⟩ := snew y by_ hyw hy
      rw [h1ρ x h2] at hnx
      rw [h1ρ y h4] at hny
      exact hr'.inj x y bx by_ b Nx Ny h1 h3 hnx hny hgx hgy
    · exfalso
      obtain ⟨h1, h2, _⟩ := snew x bx hxw hx
      obtain ⟨h3, _, h5⟩ := sold y hyw
      rw [h3] at hy
      rw [h1ρ x h2] at hnx
      rw [h5] at hny
      rcases hf.lives b ⟨x, bx, Nx, h1, hnx, hgx⟩ with h6 | h6
      · exact hnlv y by_ b Ny hyw hy hny hgy h6
      · obtain ⟨b', N', k1, k2, k3⟩ := hI.slot y by_ hy
        rw [hny] at k1
        simp only [Option.some.injEq, Prod.mk.injEq] at k1
        obtain ⟨rfl, rfl⟩ := k1
        have := k2.lt hgy; omega
    · exfalso
      obtain ⟨h1, h2, _⟩ := snew y by_ hyw hy
      obtain ⟨h3, _, h5⟩ := sold x hxw
      rw [h3] at hx
      rw [h1ρ y h2] at hny
      rw [h5] at hnx
      rcases hf.lives b ⟨y, by_, Ny, h1, hny, hgy⟩ with h6 | h6
      · exact hnlv x bx b Nx hxw hx hnx hgx h6
      · obtain ⟨b', N', k1, k2, k3⟩ := hI.slot x bx hx
        rw [hnx] at k1
        simp only [Option.some.injEq, Prod.mk.injEq] at k1
        obtain ⟨rfl, rfl⟩ := k1
        have := k2.lt hgx; omega
    · obtain ⟨h1, _, h2⟩ := sold x hxw
      obtain ⟨h3, _, h4⟩ := sold y hyw
      rw [h1] at hx; rw [h3] at hy; rw [h2] at hnx; rw [h4] at hny
      exact hI.inj x y bx by_ b Nx Ny hx hy hnx hny hgx hgy
  · by_cases hx' : W.L i ≤ x ∧ x < W.L (i + 1)
    · exact .inr ⟨i, .inr rfl, hx'.1, hx'.2⟩
    · rw [hout x hx'] at hx
      rcases hI.dom x hx with h | ⟨k, h1, h2⟩
      · exact .inl h
      · exact .inr ⟨k, .inl h1, h2⟩
  · rw [hf.keeps b (Nat.lt_of_lt_of_le hb hI.wsize) (fun h1 => ?_)]
    · exact hI.keeps b hb hl
    · obtain ⟨z, blk, N, h2, h3, h4, h5⟩ := hlv b h1
      rcases hI.lives z blk b N h3 h4 h5 with h6 | h6
      · exact hl h6
      · omega
  · by_cases hxw : W.ws x i
    · obtain ⟨h1, h2, _⟩ := snew x blk hxw hx
      rw [h1ρ x h2] at hn
      rcases hf.lives b ⟨x, blk, N, h1, hn, hg⟩ with h6 | h6
      · obtain ⟨z, blk', N', h2, h3, h4, h5⟩ := hlv b h6
        exact hI.lives z blk' b N' h3 h4 h5
      · exact .inr (Nat.le_trans hI.wsize h6)
    · obtain ⟨h1, _, h2⟩ := sold x hxw
      rw [h1] at hx; rw [h2] at hn
      exact hI.lives x blk b N hx hn hg
  · rcases hf.rolds b hb with h6 | h6 | h6
    · exact hI.rolds b h6
    · obtain ⟨z, blk', N', h2, h3, h4, h5⟩ := hlv b h6
      exact .inr (hI.lives z blk' b N' h3 h4 h5)
    · exact .inr (.inr (Nat.le_trans hI.wsize h6))
  · have h1 : ρ x ≠ none := hj.elim (fun h => hI.named j h x hx) (fun h => hnm x (h ▸ hx))
    cases he : ρ x with
    | none => exact absurd he h1
    | some bn => rw [hle x bn he]; simp
end
end Go.DI
set_option linter.unusedVariables false
set_option linter.unusedSimpArgs false
namespace Go.DI
def Closed (ops : Array Oper) (D : Nat → Prop) : Prop := ∀ i o, D i → ops[i]? = some o → ∀ e ∈ o.after, Region.binds .any e = true → D e.on
theorem before_one (acc : Array Nat) (es : Array Edge) : ∀ j, (es.foldl (fun s e => if Region.binds .any e then s ||| 2 ^ e.on ||| acc.getD e.on 0 else s) 0).testBit j = true →
    ∃ e ∈ es, Region.binds .any e = true ∧ (e.on = j ∨ (acc.getD e.on 0).testBit j = true) := by
  refine Array.foldl_induction (motive := fun _ (s : Nat) => ∀ j, s.testBit j = true → ∃ e ∈ es, Region.binds .any e = true ∧ (e.on = j ∨ (acc.getD e.on 0).testBit j = true)) ?_ ?_
  · intro j h; simp at h
  · intro i s ih j h
    split at h
    · rename_i hb
      rw [Nat.testBit_or, Nat.testBit_or, Bool.or_eq_true, Bool.or_eq_true] at h
      rcases h with (h | h) | h
      · exact ih j h
      · refine ⟨es[i], Array.getElem_mem _, hb, .inl ?_⟩
        rw [Nat.testBit_two_pow] at h
        simpa using h
      · exact ⟨es[i], Array.getElem_mem _, hb, .inr h⟩
    · exact ih j h
theorem before_spec (ops : Array Oper) : (Region.before ops).size = ops.size ∧ ∀ k, k < ops.size → ∀ j, ((Region.before ops).getD k 0).testBit j = true →
    ∃ o, ops[k]? = some o ∧ ∃ e ∈ o.after, Region.binds .any e = true ∧ (e.on = j ∨ (e.on < k ∧ ((Region.before ops).getD e.on 0).testBit j = true)) := by
  unfold Region.before
  refine Array.foldl_induction (motive := fun n (acc : Array Nat) => acc.size = n ∧ ∀ k, k < n → ∀ j, (acc.getD k 0).testBit j = true →
    ∃ o, ops[k]? = some o ∧ ∃ e ∈ o.after, Region.binds .any e = true ∧ (e.on = j ∨ (e.on < k ∧ (acc.getD e.on 0).testBit j = true))) ?_ ?_
  · exact ⟨rfl, fun k hk => absurd hk (Nat.not_lt_zero _)⟩
  · rintro i acc ⟨h1, h2⟩
    refine ⟨by simp [h1], fun k hk j hj => ?_⟩
    have hpush : ∀ (v m : Nat), m < i → (acc.push v).getD m 0 = acc.getD m 0 := fun v m hm => by
      rw [Array.getD_eq_getD_getElem?, Array.getD_eq_getD_getElem?, Array.getElem?_push, if_neg (by omega)]
    by_cases hki : k = i
    · rw [Array.getD_eq_getD_getElem?, Array.getElem?_push, if_pos (by omega), Option.getD_some] at hj
      obtain ⟨e, he, hb, h3⟩ := before_one acc _ j hj
      refine ⟨ops[i], by subst hki; simp, e, he, hb, ?_⟩
      rcases h3 with h3 | h3
      · exact .inl h3
      · have hlt : e.on < i := by
          rcases Nat.lt_or_ge e.on i with h | h
          · exact h
          · rw [Array.getD_eq_getD_getElem?, Array.getElem?_eq_none_iff.2 (by omega)] at h3
            simp at h3
        exact .inr ⟨by omega, by rw [hpush _ _ hlt]; exact h3⟩
    · have hki' : k < i := by omega
      rw [hpush _ _ hki'] at hj
      obtain ⟨o, ho, e, he, hb, h3⟩ := h2 k hki' j hj
      refine ⟨o, ho, e, he, hb, ?_⟩
      rcases h3 with h3 | ⟨h3, h4⟩
      · exact .inl h3
      · exact .inr ⟨h3, by rw [hpush _ _ (by omega)]; exact h4⟩
theorem before_in {ops : Array Oper} {D : Nat → Prop} (hcl : Closed ops D) : ∀ i, (∀ o, ops[i]? = some o → ∀ e ∈ o.after, Region.binds .any e = true → D e.on) →
    ∀ j, ((Region.before ops).getD i 0).testBit j = true → D j := by
  intro i
  induction i using Nat.strongRecOn with
  | ind i ih =>
    intro hi j hb
    by_cases hlt : i < ops.size
    · obtain ⟨o, ho, e, he, hbd, h⟩ := (before_spec ops).2 i hlt j hb
      have hD := hi o ho e he hbd
      rcases h with rfl | ⟨h1, h2⟩
      · exact hD
      · exact ih e.on h1 (fun o' ho' e' he' hb' => hcl e.on o' hD ho' e' he' hb') j h2
    · have hz := (before_spec ops).1
      rw [Array.getD_eq_getD_getElem?, Array.getElem?_eq_none_iff.2 (by omega)] at hb
      simp at hb
theorem yielded_at {all : Array Oper} {w : World} {R : Nat → Prop} {ρ : Nm} {r : List AV} {a : Act} {o : Oper} {b : Bool}
    (h : ∀ d ∈ guardRegs all o, VRep w R ρ ((r[d]?).getD .undef) (a.tmps.getD d undef) ∧ (r[d]? = none ↔ a.tmps[d]? = none)) (hw : wantedA all r o = some b) : Region.wanted o (yielded all a.tmps) = b := by
  unfold wantedA at hw
  unfold Region.wanted
  split at hw
  · rename_i hg; rw [hg]; simpa using hw
  · rename_i j want hg
    have hgr : guardRegs all o = match (all[j]?).bind (·.dst) with
      | some d => [d]
      | none => [] := by unfold guardRegs; rw [hg] <;> rfl
    rw [hg]
    simp only [yielded]
    split at hw
    · rename_i d hd
      have hgr' : guardRegs all o = [d] := by rw [hgr, hd]
      rw [hd]
      simp only [Option.bind_some]
      obtain ⟨h1, h2⟩ := h d (by rw [hgr']; simp)
      rw [Array.getD_eq_getD_getElem?] at h1
      split at hw
      · rename_i c hr
        rw [hr] at h1 h2
        cases hu : a.tmps[d]? with
        | none => rw [hu] at h2; simp at h2
        | some u =>
          rw [hu] at h1
          simp only [Option.getD_some] at h1
          cases h1
          simp at hw ⊢
          exact hw
      · rename_i hr
        rw [hr] at h1 h2
        cases hu : a.tmps[d]? with
        | none => rw [hu] at h2; simp at h2
        | some u =>
          rw [hu] at h1
          simp only [Option.getD_some] at h1
          cases h1
          simp at hw ⊢
          exact hw
      · rename_i hr
        rw [h2.1 hr]
        simp at hw ⊢
        exact hw
      · cases hw
    · rename_i hd
      rw [hd]
      simp at hw ⊢
      exact hw
section
variable {C : Cfg} {ops : Array Oper} {W : Wk C ops} {R0 R : Nat → Prop} {ρ0 ρ : Nm} {w0 w : World} {D : Nat → Prop} {a : Act} {i : Nat}
def Wk.Pairs (W : Wk C ops) : Prop := ∀ j i, j < i → i < W.n → (inOrder (Region.before ops) i j || apartFP (W.fp i) (W.fp j)) = true
theorem apartFP_spec {x y : FP} (h : apartFP x y = true) : (∀ s, s ∈ x.tch → s ∉ y.sl) ∧ (∀ s, s ∈ y.tch → s ∉ x.sl) ∧ (∀ d, x.dst = some d → d ∉ y.rd ∧ y.dst ≠ some d) ∧ (∀ d, y.dst = some d → d ∉ x.rd) := by
  unfold apartFP disj at h
  simp only [Bool.and_eq_true, List.all_eq_true, Bool.not_eq_true', List.contains_eq_mem, decide_eq_false_iff_not] at h
  obtain ⟨⟨⟨h1, h2⟩, h3⟩, h4⟩ := h
  refine ⟨h1, h2, fun d hd => ?_, fun d hd => ?_⟩
  · rw [hd] at h3
    simpa using h3
  · rw [hd] at h4
    simpa using h4
theorem Wk.tch_sl (i : Nat) : ∀ x ∈ (W.fp i).tch, x ∈ (W.fp i).sl := by
  unfold Wk.fp
  cases W.did i <;> intro x hx <;> first | exact hx | simp [fpOf] at hx
theorem evM_ok {rd : List Nat} {r : List AV} {a : Act} (h : ∀ t ∈ rd, VRep w R ρ ((r[t]?).getD .undef) (a.tmps.getD t undef)) : EvRep w R ρ (evM rd r) a := by
  intro x av hx
  have hc : ∀ y : Operand, (∀ t, y ≠ .tmp t) → evO r y = some av → VRep w R ρ av (a.eval y) := by
    intro y hy he
    have h1 : RegRep w R ρ [] ({ a with tmps := #[] } : Act) := .nil
    cases y with
    | tmp t => exact absurd rfl (hy t)
    | const v => exact evO_ok (a := { a with tmps := #[] }) h1 (x := .const v) he
    | func f => exact evO_ok (a := { a with tmps := #[] }) h1 (x := .func f) he
    | global g => cases he
  cases x with
  | tmp t =>
    simp only [evM] at hx
    split at hx
    · rename_i ht
      simp only [evO, Option.some.injEq] at hx
      subst hx
      exact h t (by simpa using ht)
    · cases hx
  | const v => exact hc _ (fun t h => by cases h) hx
  | func f => exact hc _ (fun t h => by cases h) hx
  | global g => exact hc _ (fun t h => by cases h) hx
theorem Wk.Inv.see (hI : W.Inv R0 ρ0 w0 D R ρ a w) (hpb : ∀ j, j < i → (inOrder (Region.before ops) i j || apartFP (W.fp i) (W.fp j)) = true) (hpa : ∀ j, i < j → j < W.n → (inOrder (Region.before ops) j i || apartFP (W.fp j) (W.fp i)) = true)
    (hcl : Closed ops D) (hrd : ∀ o, ops[i]? = some o → ∀ e ∈ o.after, Region.binds .any e = true → D e.on) (hnD : ¬ D i) (hlt : i ≤ W.n) (hDn : ∀ j, D j → j < W.n) :
    (∀ t ∈ (W.fp i).rd, VRep w R (cut ρ (W.L i)) (((W.st i).r[t]?).getD .undef) (a.tmps.getD t undef) ∧ ((W.st i).r[t]? = none ↔ a.tmps[t]? = none)) ∧ W.Sees D i ∧
      (∀ x ∈ (W.fp i).sl, x < W.L i ∧ ρ x ≠ none) ∧ ∀ j, i < j → j < W.n → D j → apartFP (W.fp j) (W.fp i) = true := by
  have hbef : ∀ j, j < i → D j ∨ apartFP (W.fp i) (W.fp j) = true := by
    intro j hj
    rcases Bool.or_eq_true _ _ ▸ hpb j hj with h | h
    · exact .inl (before_in hcl i hrd j h)
    · exact .inr h
  have haft : ∀ j, i < j → j < W.n → D j → apartFP (W.fp j) (W.fp i) = true := by
    intro j hj hjn hD
    rcases Bool.or_eq_true _ _ ▸ hpa j hj hjn with h | h
    · exact absurd (before_in hcl j (fun o ho => hcl j o hD ho) i h) hnD
    · exact h
  have hreg : ∀ t ∈ (W.fp i).rd, ∀ j, j < W.n → W.wr t j → (D j ↔ j < i) := by
    intro t ht j hj hw
    have hw' : (W.fp j).dst = some t := by rw [W.fp_dst]; exact hw
    rcases Nat.lt_trichotomy j i with h | h | h
    · rcases hbef j h with h1 | h1
      · exact ⟨fun _ => h, fun _ => h1⟩
      · exact absurd ht ((apartFP_spec h1).2.2.2 t hw')
    · subst h; exact ⟨fun h => absurd h hnD, fun h => absurd h (Nat.lt_irrefl _)⟩
    · refine ⟨fun hD => ?_, fun h' => by omega⟩
      exact absurd ht ((apartFP_spec (haft j h hj hD)).2.2.1 t hw').1
  have hregs := fun t ht => hI.regs hlt (hreg t ht)
  have hsl : ∀ x ∈ (W.fp i).sl, x < W.L i ∧ ρ x ≠ none := by
    have key : (∀ t ∈ readRegs (W.op i), t ∈ (W.fp i).rd) → ∀ x ∈ slotsAt (W.op i) (W.st i), x < W.L i ∧ ρ x ≠ none := by
      intro hsub x hx
      have h1 : cut ρ (W.L i) x ≠ none := by
        refine slotsL_named (w := w) (R := R) (ρ := cut ρ (W.L i)) (fun v hv => ?_) x (deepS_sub hx)
        obtain ⟨t, ht, rfl⟩ := List.mem_map.1 hv
        exact ⟨_, (hregs t (hsub t ht)).1⟩
      by_cases hxl : x < W.L i
      · rw [cut_lt hxl] at h1; exact ⟨hxl, h1⟩
      · unfold cut at h1; rw [if_neg hxl] at h1; exact absurd rfl h1
    cases hd : W.did i with
    | no =>
      have : (W.fp i).sl = [] := by unfold Wk.fp; rw [hd]; rfl
      intro x hx; rw [this] at hx; simp at hx
    | pure v =>
      have h1 : (W.fp i).sl = slotsAt (W.op i) (W.st i) := by unfold Wk.fp; rw [hd]; rfl
      have h2 : (W.fp i).rd = guardRegs ops (W.op i) ++ readRegs (W.op i) := by unfold Wk.fp; rw [hd]; rfl
      rw [h1]; exact key fun t ht => by rw [h2]; exact List.mem_append_right _ ht
    | eff v h' =>
      have h1 : (W.fp i).sl = slotsAt (W.op i) (W.st i) := by unfold Wk.fp; rw [hd]; rfl
      have h2 : (W.fp i).rd = guardRegs ops (W.op i) ++ readRegs (W.op i) := by unfold Wk.fp; rw [hd]; rfl
      rw [h1]; exact key fun t ht => by rw [h2]; exact List.mem_append_right _ ht
    | gone =>
      have h1 : (W.fp i).sl = slotsAt (W.op i) (W.st i) := by unfold Wk.fp; rw [hd]; rfl
      have h2 : (W.fp i).rd = guardRegs ops (W.op i) ++ readRegs (W.op i) := by unfold Wk.fp; rw [hd]; rfl
      rw [h1]; exact key fun t ht => by rw [h2]; exact List.mem_append_right _ ht
  have hnm : ∀ x ∈ (W.fp i).sl, ρ x ≠ none := fun x hx => (hsl x hx).2
  have hslot : ∀ x ∈ (W.fp i).sl, ∀ j, j < W.n → W.ws x j → (D j ↔ j < i) := by
    intro x hx j hj hw
    obtain ⟨hxl, hxn⟩ := hsl x hx
    rcases hw with hw | ⟨hw1, hw2⟩
    · rcases Nat.lt_trichotomy j i with h | h | h
      · rcases hbef j h with h1 | h1
        · exact ⟨fun _ => h, fun _ => h1⟩
        · exact absurd hx ((apartFP_spec h1).2.1 x hw)
      · subst h; exact ⟨fun h => absurd h hnD, fun h => absurd h (Nat.lt_irrefl _)⟩
      · refine ⟨fun hD => ?_, fun h' => by omega⟩
        exact absurd hx ((apartFP_spec (haft j h hj hD)).1 x hw)
    · have hji : j < i := by
        rcases Nat.lt_or_ge j i with h | h
        · exact h
        · have := W.L_mono h (Nat.le_of_lt hj); omega
      refine ⟨fun _ => hji, fun _ => ?_⟩
      rcases hI.dom x hxn with h3 | ⟨k, h3, h4, h5⟩
      · have := W.L_mono (Nat.zero_le j) (Nat.le_of_lt hj); omega
      · have hkn := hDn k h3
        rcases Nat.lt_trichotomy k j with h6 | h6 | h6
        · have := W.L_mono (i := k + 1) (j := j) h6 (Nat.le_of_lt hj); omega
        · subst h6; exact h3
        · have := W.L_mono (i := j + 1) (j := k) h6 (Nat.le_of_lt hkn); omega
  exact ⟨hregs, ⟨hlt, hreg, hslot⟩, hsl, haft⟩
theorem Wk.Inv.run (hI : W.Inv R0 ρ0 w0 D R ρ a w) (hp : W.Pairs) (hcl : Closed ops D) (hrd : ∀ o, ops[i]? = some o → ∀ e ∈ o.after, Region.binds .any e = true → D e.on)
    (hnD : ¬ D i) (hlt : i < W.n) (hng : W.did i ≠ .gone) (hDn : ∀ j, D j → j < W.n) {K : Act → World → Prop} {Q : Exit → Act → World → Prop}
    (hK : ∀ R' ρ' a' w', W.Inv R0 ρ0 w0 (fun j => D j ∨ j = i) R' ρ' a' w' → K a' w') : wpOp C.P ops Q i K a w := by
  obtain ⟨hregs, hs, hsl, haft⟩ := hI.see (fun j hj => hp j i hj hlt) (fun j hj hjn => hp i j hj hjn) hcl hrd hnD (Nat.le_of_lt hlt) hDn
  have hnm : ∀ x ∈ (W.fp i).sl, ρ x ≠ none := fun x hx => (hsl x hx).2
  have hnone : ∀ x, W.L i ≤ x → x < W.L (i + 1) → ρ x = none := by
    intro x h1 h2
    cases hx : ρ x with
    | none => rfl
    | some bn =>
      exfalso
      rcases hI.dom x (by rw [hx]; simp) with h3 | ⟨k, h3, h4, h5⟩
      · have := W.L_mono (Nat.zero_le i) (Nat.le_of_lt hlt); omega
      · rcases Nat.lt_trichotomy k i with h6 | h6 | h6
        · have := W.L_mono (i := k + 1) (j := i) h6 (Nat.le_of_lt hlt); omega
        · subst h6; exact hnD h3
        · have := W.L_mono (i := i + 1) (j := k) h6 (Nat.le_of_lt (hDn k h3)); omega
  have hlater : ∀ t, W.wr t i → ∀ j, i < j → j < W.n → D j → ¬ W.wr t j := by
    intro t ht j hj hjn hD hw
    have h1 := (apartFP_spec (haft j hj hjn hD)).2.2.1 t (by rw [W.fp_dst]; exact hw)
    exact h1.2 (by rw [W.fp_dst]; exact ht)
  have hlaterS : ∀ x, W.ws x i → ∀ j, i < j → j < W.n → D j → ¬ W.ws x j := by
    intro x hx j hj hjn hD hw
    have hij := W.L_mono (i := i + 1) (j := j) hj (Nat.le_of_lt hjn)
    have hii := W.L_step hlt
    rcases hx with hx | ⟨hx1, hx2⟩
    · have hxl := (hsl x (W.tch_sl i x hx)).1
      rcases hw with hw | ⟨hw1, hw2⟩
      · exact (apartFP_spec (haft j hj hjn hD)).1 x hw (W.tch_sl i x hx)
      · omega
    · rcases hw with hw | ⟨hw1, hw2⟩
      · exact hI.named j hD x (W.tch_sl j x hw) (hnone x hx1 hx2)
      · omega
  have hok := W.ok i hlt
  have hgd : ∀ d ∈ guardRegs ops (W.op i), d ∈ (W.fp i).rd := by
    intro d hd'
    unfold Wk.fp
    cases W.did i with
    | no => exact hd'
    | pure v => exact List.mem_append_left _ hd'
    | eff v h' => exact List.mem_append_left _ hd'
    | gone => exact List.mem_append_left _ hd'
  unfold wpOp
  rw [hok.1]
  simp only
  have hdok := hok.2.1
  cases hd : W.did i with
  | no =>
    rw [hd] at hdok
    rw [yielded_at (fun d hd' => hregs d (hgd d hd')) hdok]
    simp only [Bool.false_eq_true, if_false]
    have hst : W.st (i + 1) = ⟨setR (W.st i).r (W.op i).dst .undef, (W.st i).h⟩ := by rw [hok.2.2, hd]; rfl
    exact hK _ _ _ _ (hI.put hlt hlater hnm (by unfold Wk.fp; rw [hd]; rfl) (by unfold Wk.L; rw [hst]) (by rw [hst]) .undef)
  | pure v =>
    rw [hd] at hdok
    obtain ⟨hw, hstep⟩ := hdok
    rw [yielded_at (fun d hd' => hregs d (hgd d hd')) hw]
    simp only [if_true]
    refine .inl ?_
    have h1 : (W.fp i).sl = slotsAt (W.op i) (W.st i) := by unfold Wk.fp; rw [hd]; rfl
    have h2 : (W.fp i).rd = guardRegs ops (W.op i) ++ readRegs (W.op i) := by unfold Wk.fp; rw [hd]; rfl
    have hrel := hI.rel hs (S := slotsAt (W.op i) (W.st i)) (by rw [h1]; exact fun _ h => h)
    have hev : EvRep w R (cut ρ (W.L i)) (evM (readRegs (W.op i)) (W.st i).r) a := evM_ok fun t ht => (hregs t (by rw [h2]; exact List.mem_append_right _ ht)).1
    have hst : W.st (i + 1) = ⟨setR (W.st i).r (W.op i).dst v, (W.st i).h⟩ := by rw [hok.2.2, hd]; rfl
    refine hstep R (cut ρ (W.L i)) w a (W.op i) rfl hrel hev K Q fun u w' hk hv => ?_
    exact hK _ _ _ _ (hI.putK hlt hlater hnm (by unfold Wk.fp; rw [hd]; rfl) (by unfold Wk.L; rw [hst]) (by rw [hst]) hk hv)
  | eff v h' =>
    rw [hd] at hdok
    obtain ⟨hw, hstep⟩ := hdok
    rw [yielded_at (fun d hd' => hregs d (hgd d hd')) hw]
    simp only [if_true]
    refine .inl ?_
    have h1 : (W.fp i).sl = slotsAt (W.op i) (W.st i) := by unfold Wk.fp; rw [hd]; rfl
    have h2 : (W.fp i).rd = guardRegs ops (W.op i) ++ readRegs (W.op i) := by unfold Wk.fp; rw [hd]; rfl
    have hrel := hI.rel hs (S := slotsAt (W.op i) (W.st i)) (by rw [h1]; exact fun _ h => h)
    have hev : EvRep w R (cut ρ (W.L i)) (evM (readRegs (W.op i)) (W.st i).r) a := evM_ok fun t ht => (hregs t (by rw [h2]; exact List.mem_append_right _ ht)).1
    refine hstep R (cut ρ (W.L i)) w a (W.op i) rfl hrel hev K Q fun R' ρ1 u w' k1 k2 k3 => ?_
    obtain ⟨ρ', hI'⟩ := hI.eff hs hlt hnD hlater hlaterS hDn hnm hd k1 k2 k3
    exact hK _ _ _ _ hI'
  | gone => exact absurd hd hng
theorem Wk.Inv.fin (hI : W.Inv R0 ρ0 w0 D R ρ a w) (hall : ∀ j, j < W.n → D j) (hDn : ∀ j, D j → j < W.n) : FinW C.pin R0 ρ0 (W.st 0).h w0 .normal (W.st W.n) .normal a w := by
  have e1 : ∀ t, W.reg D t = (W.st W.n).r[t]? := fun t => W.reg_at (Nat.le_refl _) fun j hj _ => ⟨fun _ => hj, fun _ => hall j hj⟩
  have e2 : ∀ x, W.slot D x = ((W.st W.n).h[x]?).join := fun x => W.slot_at (Nat.le_refl _) fun j hj _ => ⟨fun _ => hj, fun _ => hall j hj⟩
  have b1 : ∀ t, W.rb D t ≤ W.L W.n := fun t => dX_le (W.L_mono (Nat.zero_le _) (Nat.le_refl _)) _ fun j hj _ _ => W.L_mono hj (Nat.le_refl _)
  have b2 : ∀ x, W.sb D x ≤ W.L W.n := fun x => dX_le (W.L_mono (Nat.zero_le _) (Nat.le_refl _)) _ fun j hj _ _ => W.L_mono hj (Nat.le_refl _)
  have hsl : ∀ x blk, (W.st W.n).h[x]? = some (some blk) → x < W.L W.n ∧ W.slot D x = some blk := by
    intro x blk hx
    exact ⟨(List.getElem?_eq_some_iff.1 hx).1, by rw [e2, hx]; rfl⟩
  refine ⟨hI.defers, R, cut ρ (W.L W.n), ⟨fun x blk hx => ?_, fun x y bx by_ b Nx Ny hx hy hnx hny => ?_, fun x hx => ?_, hI.ro⟩, ⟨?_, fun t c u hc hu => ?_⟩, ⟨hI.os, hI.tape, hI.output, hI.wsize, hI.ros, hI.keeps, ?_, hI.rolds, hI.frz, fun x bn _ hx => ?_⟩, rfl⟩
  · obtain ⟨h1, h2⟩ := hsl x blk hx
    obtain ⟨b, N, k1, k2, k3⟩ := hI.slot x blk h2
    exact ⟨b, N, by rw [cut_lt h1]; exact k1, k2.mono k3 (fun _ => rfl) (fun _ _ => rfl) (fun _ h => h) (cut_mono ρ (b2 x)), k3⟩
  · obtain ⟨h1, h2⟩ := hsl x bx hx
    obtain ⟨h3, h4⟩ := hsl y by_ hy
    rw [cut_lt h1] at hnx
    rw [cut_lt h3] at hny
    exact hI.inj x y bx by_ b Nx Ny h2 h4 hnx hny
  · unfold cut
    have hx : W.L W.n ≤ x := hx
    rw [if_neg (by omega)]
  · rw [Wk.rlen (Nat.le_refl _), ← hI.size]; simp
  · obtain ⟨v, h1, h2⟩ := hI.reg t u (by simpa using hu)
    rw [e1, hc] at h1
    injection h1 with h1; subst h1
    exact h2.mono (fun _ _ => rfl) (fun _ h => h) (cut_mono ρ (b1 t))
  · rintro b ⟨x, blk, N, hx, hn, hg⟩
    obtain ⟨h1, h2⟩ := hsl x blk hx
    rw [cut_lt h1] at hn
    exact hI.lives x blk b N h2 hn hg
  · have h1 := hI.keepn x bn hx
    have h2 : x < W.L W.n := by
      rcases hI.dom x (by rw [h1]; simp) with h | ⟨k, h3, _, h5⟩
      · have := W.L_mono (Nat.zero_le W.n) (Nat.le_refl _); omega
      · have := W.L_mono (i := k + 1) (j := W.n) (hDn k h3) (Nat.le_refl _); omega
    rw [cut_lt h2]; exact h1
theorem Wk.Inv.pan {m : Nat} {v : AV} {h' : AH} (hI : W.Inv R0 ρ0 w0 D R ρ a w) (hp : W.Pairs) (hm : m < W.n) (hgo : ops[m]? = some (W.op m)) (hwant : wantedA ops (W.st m).r (W.op m) = some true) (hst : StepPan C.P (W.op m).op (evM (readRegs (W.op m)) (W.st m).r) (maskH (slotsAt (W.op m) (W.st m)) (W.st m).h) v h') (hpl : plainV v = true) (hdid : W.did m = .gone)
    (hcl : Closed ops D) (hrd : ∀ o, ops[m]? = some o → ∀ e ∈ o.after, Region.binds .any e = true → D e.on) (hnD : ¬ D m) (hDn : ∀ j, D j → j < W.n) {p : Nat} {K : Act → World → Prop} {Q : Exit → Act → World → Prop}
    (hQ : ∀ e a' w', FinW p R0 ρ0 (W.st 0).h w0 (.pan v) (panS p (W.st 0).r.length) e a' w' → Q e a' w') : wpOp C.P ops Q m K a w := by
  obtain ⟨hregs, hs, hsl, _⟩ := hI.see (fun j hj => hp j m hj hm) (fun j hj hjn => hp m j hj hjn) hcl hrd hnD (Nat.le_of_lt hm) hDn
  have h1 : (W.fp m).sl = slotsAt (W.op m) (W.st m) := by unfold Wk.fp; rw [hdid]; rfl
  have h2 : (W.fp m).rd = guardRegs ops (W.op m) ++ readRegs (W.op m) := by unfold Wk.fp; rw [hdid]; rfl
  unfold wpOp
  rw [hgo]
  simp only
  rw [yielded_at (fun d hd' => hregs d (by rw [h2]; exact List.mem_append_left _ hd')) hwant]
  simp only [if_true]
  refine .inl ?_
  have hrel := hI.rel hs (S := slotsAt (W.op m) (W.st m)) (by rw [h1]; exact fun _ h => h)
  have hev : EvRep w R (cut ρ (W.L m)) (evM (readRegs (W.op m)) (W.st m).r) a := evM_ok fun t ht => (hregs t (by rw [h2]; exact List.mem_append_right _ ht)).1
  refine hst R (cut ρ (W.L m)) w a (W.op m) rfl hrel hev K Q fun R' ρ1 u w' k1 k2 hf => ?_
  have hlv : ∀ b, Lv (cut ρ (W.L m)) (maskH (slotsAt (W.op m) (W.st m)) (W.st m).h) b → Lv ρ0 (W.st 0).h b ∨ w0.heap.size ≤ b := by
    rintro b ⟨z, blk, N, h1', h2', h3⟩
    obtain ⟨h4, h5⟩ := maskH_get.1 h1'
    have hz : z < W.L m := (List.getElem?_eq_some_iff.1 h5).1
    rw [cut_lt hz] at h2'
    refine hI.lives z blk b N ?_ h2' h3
    rw [W.slot_at (Nat.le_of_lt hm) (hs.slot z (by rw [h1]; exact h4)), h5]; rfl
  have hnone : ∀ (i : Nat) (blk : ABlk), (List.replicate p (none : Option ABlk))[i]? = some (some blk) → False := by
    intro i blk hi
    rw [List.getElem?_replicate] at hi
    split at hi <;> simp at hi
  have hany : ∀ (n : Nat) (us : List Value), us.length = n → VReps w' R' (fun i => if i < p then ρ0 i else none) (List.replicate n .any) us := by
    intro n
    induction n with
    | zero =>
      intro us h
      have : us = [] := List.eq_nil_of_length_eq_zero h
      subst this; exact .nil
    | succ n ih =>
      intro us h
      cases us with
      | nil => simp at h
      | cons u us => exact .cons (.any u) (ih us (by simpa using h))
  refine hQ _ _ _ ⟨hI.defers, R', fun i => if i < p then ρ0 i else none, ⟨fun i blk hi => (hnone i blk hi).elim, fun i j bi bj b Ni Nj hi => (hnone i bi hi).elim, fun i hi => ?_, k2.ro⟩, hany _ _ ?_,
    ⟨hf.os.trans hI.os, hf.tape.trans hI.tape, hf.output.trans hI.output, Nat.le_trans hI.wsize hf.size, fun b hb => hf.ros b (hI.ros b hb), fun b hb hl => ?_, ?_, fun b hb => ?_, Nat.le_trans hI.frz hf.frz, fun i bn hi h => ?_⟩, u, rfl, plainV_any hpl k1⟩
  · have hi : p ≤ i := by simpa [panS] using hi
    exact if_neg (by omega)
  · rw [← hI.size]; simp
  · rw [hf.keeps b (Nat.lt_of_lt_of_le hb hI.wsize) (fun h3 => ?_)]
    · exact hI.keeps b hb hl
    · rcases hlv b h3 with h6 | h6
      · exact hl h6
      · omega
  · rintro b ⟨i, blk, N, hi, _⟩
    exact (hnone i blk hi).elim
  · rcases hf.rolds b hb with h6 | h6 | h6
    · exact hI.rolds b h6
    · exact .inr (hlv b h6)
    · exact .inr (.inr (Nat.le_trans hI.wsize h6))
  · show (if i < p then ρ0 i else none) = _
    rw [if_pos hi]; exact h
def fwd (ops : Array Oper) : Bool := (List.range ops.size).all fun i => match ops[i]? with
  | some o => o.after.toList.all fun e => !Region.binds .any e || Nat.blt e.on i
  | none => true
theorem fwd_spec (h : fwd ops = true) {i : Nat} {o : Oper} (ho : ops[i]? = some o) {e : Edge} (he : e ∈ o.after) (hb : Region.binds .any e = true) : e.on < i := by
  unfold fwd at h
  rw [List.all_eq_true] at h
  have h1 := h i (List.mem_range.2 (Array.getElem?_eq_some_iff.1 ho).1)
  rw [ho] at h1
  simp only [List.all_eq_true] at h1
  have h2 := h1 e (by simpa using he)
  rw [hb] at h2
  simpa [Nat.blt_eq] using h2
def unl (ops : Array Oper) (listed : Array Bool) : List Nat := (List.range ops.size).filter fun j => !listed.getD j true
theorem Wk.Pairs.any (hp : W.Pairs) (hf : fwd ops = true) {Q : Exit → Act → World → Prop}
    (hn : W.n = ops.size)
    (hQ : ∀ D R ρ a w, W.Inv R0 ρ0 w0 D R ρ a w → (∀ j, j < ops.size → D j) → (∀ j, D j → j < W.n) → (∀ j, D j → W.did j ≠ .gone) → Q .normal a w)
    (hpan : ∀ i, i < W.n → W.did i = .gone → ∀ D R ρ a w, W.Inv R0 ρ0 w0 D R ρ a w → Closed ops D → (∀ o, ops[i]? = some o → ∀ e ∈ o.after, Region.binds .any e = true → D e.on) → ¬ D i → (∀ j, D j → j < W.n) → (∀ j, D j → W.did j ≠ .gone) →
      ∀ K : Act → World → Prop, wpOp C.P ops Q i K a w) :
    ∀ (fuel : Nat) (listed : Array Bool) (R : Nat → Prop) (ρ : Nm) (a : Act) (w : World), listed.size = ops.size → (unl ops listed).length ≤ fuel → Closed ops (fun j => listed.getD j false = true) → (∀ j, listed.getD j false = true → j < W.n) → (∀ j, listed.getD j false = true → W.did j ≠ .gone) →
      W.Inv R0 ρ0 w0 (fun j => listed.getD j false = true) R ρ a w → wpAny C.P .any ops Q fuel listed a w := by
  have hnil : ∀ (listed : Array Bool), listed.size = ops.size → Region.ready .any ops listed = [] → ∀ j, j < ops.size → listed.getD j false = true := by
    intro listed hsz hr j
    induction j using Nat.strongRecOn with
    | ind j ih =>
      intro hj
      cases hb : listed.getD j false with
      | true => rfl
      | false =>
        exfalso
        have hm : j ∈ Region.ready .any ops listed := by
          rw [mem_ready]
          refine ⟨?_, ops[j], by simp, fun e he hbd => ?_⟩
          · rw [Array.getD_eq_getD_getElem?] at hb ⊢
            rw [Array.getElem?_eq_getElem (by omega)] at hb ⊢
            simpa using hb
          · have hlt := fwd_spec hf (o := ops[j]) (i := j) (by simp) he hbd
            exact ih e.on hlt (by omega)
        rw [hr] at hm
        simp at hm
  intro fuel
  induction fuel with
  | zero =>
    intro listed R ρ a w hsz hu hcl hdn hng hI
    have hz : unl ops listed = [] := List.eq_nil_of_length_eq_zero (by omega)
    have hall : ∀ j, j < ops.size → listed.getD j false = true := by
      intro j hj
      cases hb : listed.getD j false with
      | true => rfl
      | false =>
        exfalso
        have : j ∈ unl ops listed := by
          unfold unl
          rw [List.mem_filter]
          refine ⟨List.mem_range.2 hj, ?_⟩
          rw [Array.getD_eq_getD_getElem?] at hb ⊢
          rw [Array.getElem?_eq_getElem (by omega)] at hb ⊢
          simpa using hb
        rw [hz] at this; simp at this
    refine ⟨?_, hQ _ R ρ a w hI hall hdn hng⟩
    cases hr : Region.ready .any ops listed with
    | nil => rfl
    | cons x xs =>
      exfalso
      have hx : x ∈ Region.ready .any ops listed := by rw [hr]; simp
      obtain ⟨h1, o, ho, _⟩ := mem_ready.1 hx
      have hxl := (Array.getElem?_eq_some_iff.1 ho).1
      have h2 := hall x hxl
      rw [Array.getD_eq_getD_getElem?, Array.getElem?_eq_getElem (by omega)] at h1 h2
      simp at h1 h2
      rw [h1] at h2; cases h2
  | succ fuel ih =>
    intro listed R ρ a w hsz hu hcl hdn hng hI
    refine ⟨fun hr => hQ _ R ρ a w hI (hnil listed hsz hr) hdn hng, fun i hi => ?_⟩
    obtain ⟨h1, o, ho, h2⟩ := mem_ready.1 hi
    have hlt := (Array.getElem?_eq_some_iff.1 ho).1
    have h3 : listed.getD i false = false := by
      rw [Array.getD_eq_getD_getElem?, Array.getElem?_eq_getElem (by omega)] at h1 ⊢
      simpa using h1
    have hafter : ∀ o', ops[i]? = some o' → ∀ e ∈ o'.after, Region.binds .any e = true → listed.getD e.on false = true := fun o' ho' => by
      rw [ho] at ho'; injection ho' with ho'; subst ho'; exact h2
    have hin : i < W.n := by rw [hn]; exact hlt
    by_cases hgo : W.did i = .gone
    · exact hpan i hin hgo _ R ρ a w hI hcl hafter (by rw [h3]; simp) hdn hng _
    refine hI.run hp hcl hafter (by rw [h3]; simp) hin hgo hdn fun R' ρ' a' w' hI' => ?_
    · have hset : ∀ j, ((listed.setIfInBounds i true).getD j false = true) = (listed.getD j false = true ∨ j = i) := by
        intro j
        apply propext
        by_cases hji : j = i
        · subst hji
          simp only [or_true, iff_true]
          rw [Array.getD_eq_getD_getElem?, Array.getElem?_setIfInBounds_self_of_lt (by omega)]; rfl
        · rw [getD_set_ne false (Ne.symm hji)]
          simp [hji]
      refine ih _ R' ρ' a' w' (by simpa using hsz) ?_ ?_ (fun j hj => ?_) (fun j hj => ?_) ?_
      · have hlen : (unl ops (listed.setIfInBounds i true)).length < (unl ops listed).length := by
          have he : unl ops (listed.setIfInBounds i true) = (unl ops listed).filter fun j => decide (j ≠ i) := by
            unfold unl
            rw [List.filter_filter]
            refine List.filter_congr fun j hj => ?_
            have hj := List.mem_range.1 hj
            by_cases hji : j = i
            · subst hji
              rw [Array.getD_eq_getD_getElem?, Array.getElem?_setIfInBounds_self_of_lt (by omega)]; simp
            · rw [getD_set_ne true (Ne.symm hji)]; simp [hji]
          rw [he]
          rw [List.length_filter_lt_length_iff_exists]
          refine ⟨i, ?_, by simp⟩
          unfold unl
          rw [List.mem_filter]
          exact ⟨List.mem_range.2 hlt, by rw [h1]; rfl⟩
        omega
      · intro j oj hj hoj e he hb
        rw [hset] at hj ⊢
        rcases hj with hj | hj
        · exact .inl (hcl j oj hj hoj e he hb)
        · subst hj
          rw [ho] at hoj; injection hoj with hoj; subst hoj
          exact .inl (h2 e he hb)
      · rw [hset] at hj
        rcases hj with hj | hj
        · exact hdn j hj
        · rw [hj]; exact hin
      · rw [hset] at hj
        rcases hj with hj | hj
        · exact hng j hj
        · rw [hj]; exact hgo
      · have : (fun j => (listed.setIfInBounds i true).getD j false = true) = (fun j => listed.getD j false = true ∨ j = i) := funext hset
        rw [this]; exact hI'
end
def drT {β : Type} (C : Cfg) (T : Tb) : DrT β := fun ops s K => if fwd ops then drGo C T ops (List.range ops.size) s [] K else none
theorem wk_pairs {C : Cfg} {ops : Array Oper} {W : Wk C ops} {fps : List FP} (hk : okFPs (Region.before ops) fps = true) (h4 : fps = ((List.range' 0 W.n).map fun i => W.fp i).reverse) : W.Pairs := by
  intro j i hji hi
  have hpw := okFPs_pairs hk
  rw [h4, List.pairwise_reverse] at hpw
  rw [List.pairwise_map] at hpw
  have := List.pairwise_iff_getElem.1 hpw j i (by simp; omega) (by simpa using hi) hji
  simp only [List.getElem_range', Nat.zero_add, Nat.one_mul] at this
  rw [W.fp_i, W.fp_i] at this
  exact this
theorem drT_ok {β : Type} {C : Cfg} {T : Tb} (hC : C.Ok) (hT : T.Ok C.P) : DrTOk C (drT (β := β) C T) := by
  intro id ops s K z hx
  unfold drT at hx
  split at hx
  · rename_i hf
    have hstart : ∀ {W : Wk C ops} {R : Nat → Prop} {ρ : Nm} {a : Act} {w : World}, (fun j => (Array.replicate ops.size false).getD j false = true) = fun _ => False := by
      intro W R ρ a w
      funext j
      apply propext
      rw [Array.getD_eq_getD_getElem?, Array.getElem?_replicate]
      split <;> simp
    have hno : ∀ j, (Array.replicate ops.size false).getD j false = true → False := by
      intro j hi
      rw [Array.getD_eq_getD_getElem?, Array.getElem?_replicate] at hi
      split at hi <;> simp at hi
    have mk : ∀ {p : Option (Nat × AV × AH)} {s' : AS} {fps' : List FP}, Walk C ops p (List.range ops.size) s [] s' fps' → okFPs (Region.before ops) fps' = true →
        ∃ W : Wk C ops, W.n = ops.size ∧ W.st 0 = s ∧ W.st ops.size = s' ∧ W.Pairs ∧ ∀ i, i < ops.size → ops[i]? = some (W.op i) ∧ GoneOk C ops p i (W.op i) (W.st i) (W.did i) := by
      intro p s' fps' hw hk
      rw [List.range_eq_range'] at hw
      obtain ⟨st, op, did, h1, h2, h3, h4⟩ := hw.fn
      let W : Wk C ops := ⟨ops.size, Nat.le_refl _, st, op, did, fun i hi => by
        obtain ⟨k1, k2, k3, _⟩ := h3 i (Nat.zero_le _) (by omega)
        exact ⟨k1, k2, k3⟩⟩
      exact ⟨W, rfl, h1, by rw [← h2]; show st _ = st _; congr 1; omega, wk_pairs hk (by rw [h4, List.append_nil]; rfl), fun i hi => by
        obtain ⟨k1, _, _, k4⟩ := h3 i (Nat.zero_le _) (by omega)
        exact ⟨k1, k4⟩⟩
    rcases drGo_walk hC hT ops _ s [] K z List.nodup_range hx with ⟨s', fps', hw, hk, hK⟩ | ⟨m, v, h', s', fps', hmem, hw, hk, hK⟩
    · refine ⟨.normal, s', hK, ?_⟩
      obtain ⟨W, hn, hst0, hs', hp, hgo⟩ := mk hw hk
      subst hst0
      have hng : ∀ j, j < ops.size → W.did j ≠ .gone := by
        intro j hj e
        obtain ⟨m, v, h', k, _⟩ := (hgo j hj).2.2 e
        cases k
      intro R ρ a w hr ha hd
      have hr0 : Rel R ρ (W.st 0).h w := hr
      have ha0 : RegRep w R ρ (W.st 0).r a := ha
      obtain ⟨hr1, f1⟩ := rel_drew hr0
      have ha1 : RegRep w.drew R ρ (W.st 0).r a := ha0.frm f1 hr0
      refine wp_region_any hC.mixed ?_
      refine hp.any (R0 := R) (ρ0 := ρ) (w0 := w.drew) hf hn (fun D R' ρ' a' w' hI hall hDn _ => ?_) (fun i hi hgi => absurd hgi (hng i (by omega))) ops.size _ R ρ a w.drew (by simp) ?_ ?_ ?_ ?_ ?_
      · have := (hI.fin (fun j hj => hall j (by omega)) hDn).pre f1.weak
        rw [hn, hs'] at this
        exact this
      · unfold unl
        exact Nat.le_trans (List.length_filter_le _ _) (by simp)
      · intro i o hi
        exact (hno i hi).elim
      · intro j hj; exact (hno j hj).elim
      · intro j hj; exact (hno j hj).elim
      · rw [hstart (W := W) (R := R) (ρ := ρ) (a := a) (w := w)]
        exact W.start hr1 ha1 hd
    · refine ⟨.pan v, _, hK, ?_⟩
      obtain ⟨W, hn, hst0, hs', hp, hgo⟩ := mk hw hk
      subst hst0
      have hm : m < ops.size := List.mem_range.1 hmem
      obtain ⟨hop, hg1, _⟩ := hgo m hm
      obtain ⟨hdid, hwant, hstep, hpl⟩ := hg1 m v h' rfl rfl
      intro R ρ a w hr ha hd
      have hr0 : Rel R ρ (W.st 0).h w := hr
      have ha0 : RegRep w R ρ (W.st 0).r a := ha
      obtain ⟨hr1, f1⟩ := rel_drew hr0
      have ha1 : RegRep w.drew R ρ (W.st 0).r a := ha0.frm f1 hr0
      refine wp_region_any hC.mixed ?_
      refine hp.any (R0 := R) (ρ0 := ρ) (w0 := w.drew) hf hn (fun D R' ρ' a' w' hI hall hDn hng => absurd hdid (hng m (hall m hm))) (fun i hi hgi D R' ρ' a' w' hI hcl hrd hnD hDn hng K' => ?_) ops.size _ R ρ a w.drew (by simp) ?_ ?_ ?_ ?_ ?_
      · obtain ⟨m', v', h'', e, hor⟩ := (hgo i (by omega)).2.2 hgi
        injection e with e
        injection e with e1 e2
        rcases hor with hor | hor
        · have him : i = m := hor.trans e1.symm
          subst him
          refine hI.pan (p := C.pin) hp hi hop hwant hstep hpl hdid hcl hrd hnD hDn fun e a'' w'' hfin => ?_
          exact hfin.pre f1.weak
        · rw [← e1] at hor
          exact absurd hdid (hng m (before_in hcl i hrd m hor))
      · unfold unl
        exact Nat.le_trans (List.length_filter_le _ _) (by simp)
      · intro i o hi
        exact (hno i hi).elim
      · intro j hj; exact (hno j hj).elim
      · intro j hj; exact (hno j hj).elim
      · rw [hstart (W := W) (R := R) (ρ := ρ) (a := a) (w := w)]
        exact W.start hr1 ha1 hd
  · cases hx
end Go.DI
set_option linter.unusedVariables false
set_option linter.unusedSimpArgs false
namespace Go.DI
section
variable {C : Cfg} {T : Tb}
theorem row_any {w : World} {R : Nat → Prop} {ρ ρ' : Nm} {b : Nat} {N : BN} {bt : TypeId} {t : Ty} {l : List t.El} (hb : BRep w R ρ b N (.row bt t l)) : BRep w R ρ' b N (.row bt t l) := by
  obtain ⟨k1, k2⟩ := hb
  refine ⟨k1, fun hg => ?_⟩
  obtain ⟨arr, k3, k4, k5, k6⟩ := k2 hg
  refine ⟨arr, k3, k4, k5, fun j o c hj hc => ?_⟩
  obtain ⟨u, hu, hv⟩ := k6 j o c hj hc
  exact ⟨u, hu, t.namelessC _ c (List.mem_of_getElem? hc) _ _ _ _ _ hv⟩
theorem callsEnd {f : FuncId} {fn : Func} {c : Code} (hfn : C.P.funcs[f]? = some fn) (hb : fn.body = some c) {args : List AV} {h0 : AH} {x : AX} {s' : AS} (hx : x = .ret ∨ x = .normal)
    {R : Nat → Prop} {ρ : Nm} {w : World} {vs : Array Value} (hr : Rel R ρ h0 w) (hvs : VReps w R ρ args vs.toList)
    (hca : c.wp C.P (FinW C.pin R ρ h0 w x s') { tmps := vs ++ Array.replicate (fn.ntmps - vs.size) undef, defers := [] } w) {l : List AV} (hl : resA C s' fn.results.toList = some l)
    {v : AV} {h' : AH} (hlen : h0.length ≤ h'.length) (hfin : ∀ (ρin : Nm) R ρ w u, (∀ k, h0.length ≤ k → ρin k = none) → Rel R ρ s'.h w → VRep w R ρ (resV l) u → ∃ R' ρ', Rel R' ρ' h' w ∧ VRep w R' ρ' v u ∧ (∀ b, R b → R' b) ∧ (∀ b, Lv ρ' h' b → Lv ρ s'.h b) ∧ (∀ b, R' b → R b ∨ Lv ρ s'.h b) ∧
      ρin.le ρ' ∧ ∀ x, x < h0.length → ρin x = none → ρ' x = none) :
    Calls C.P f vs w fun e w' => ∃ R' ρ' u, (Res.ret v).Is w' R' ρ' e u ∧ Rel R' ρ' h' w' ∧ Frm R ρ h0 w R' ρ' h' w' := by
  refine calls_of_wp hfn hb ?_
  refine wp_mono hca ?_
  rintro e a' w' ⟨hd, R', ρ', hr', ha', f', hx'⟩
  obtain ⟨us, h1, h2⟩ := resA_ok (C := C) hr' ha' hl
  have hres : ∃ v, (results fn a'.tmps).run C.P w' = .ok v w' ∧ VRep w' R' ρ' (resV l) v := by
    have hm : (fn.results.mapM (resF a'.tmps)).run C.P w' = .ok us.toArray w' := by
      rw [Array.mapM_eq_mapM_toList, Sem.run_map, h1]; rfl
    rw [results_eq, Sem.run_bind]
    refine ⟨if h : us.toArray.size = 1 then us.toArray[0] else .tuple us.toArray, by rw [hm]; rfl, ?_⟩
    have hlen := h2.1
    cases l with
    | nil =>
      obtain rfl := h2.nil_inv
      exact .tup' .nil
    | cons c1 l =>
      obtain ⟨u1, us', rfl, h3, h4⟩ := h2.cons_inv
      cases l with
      | nil =>
        obtain rfl := h4.nil_inv
        simpa [resV] using h3
      | cons c2 l =>
        have : ¬ ((u1 :: us').toArray.size = 1) := by
          have := h4.1
          simp at this ⊢
          intro he; rw [he] at this; simp at this
        rw [dif_neg this]
        exact .tup' (.cons h3 h4)
  obtain ⟨u, hv1, hv2⟩ := hres
  obtain ⟨R2, ρ2, r2, v2, k1, k2, k3, k4, k5⟩ := hfin ρ R' ρ' w' u hr.dom hr' hv2
  have hf : Frm R ρ h0 w R2 ρ2 h' w' := by
    refine ⟨f'.os, f'.tape, f'.output, f'.size, k4, fun b hb => k1 b (f'.ros b hb), f'.keeps, fun b hl => ?_, fun b hb => ?_, hlen, k5, f'.frz⟩
    · exact f'.lives b (k2 b hl)
    · rcases k3 b hb with h | h
      · exact f'.rolds b h
      · rcases f'.lives b h with h | h
        · exact .inr (.inl h)
        · exact .inr (.inr h)
  rcases hx with rfl | rfl
  · have he : e = .ret := hx'
    subst he
    exact ⟨hd, u, hv1, R2, ρ2, u, ⟨rfl, v2⟩, r2, hf⟩
  · have he : e = .normal := hx'
    subst he
    exact ⟨hd, u, hv1, R2, ρ2, u, ⟨rfl, v2⟩, r2, hf⟩
theorem funcG_end {f : FuncId} {fn : Func} {c : Code} (hfn : C.P.funcs[f]? = some fn) (hb : fn.body = some c) {args : List AV} {h0 : AH} {x : AX} {s' : AS} (hx : x = .ret ∨ x = .normal)
    (hca : CA C c ⟨args ++ List.replicate (fn.ntmps - args.length) .undef, h0⟩ x s') {l : List AV} (hl : resA C s' fn.results.toList = some l)
    {v : AV} {h' : AH} (hlen : h0.length ≤ h'.length) (hfin : ∀ (ρin : Nm) R ρ w u, (∀ k, h0.length ≤ k → ρin k = none) → Rel R ρ s'.h w → VRep w R ρ (resV l) u → ∃ R' ρ', Rel R' ρ' h' w ∧ VRep w R' ρ' v u ∧ (∀ b, R b → R' b) ∧ (∀ b, Lv ρ' h' b → Lv ρ s'.h b) ∧ (∀ b, R' b → R b ∨ Lv ρ s'.h b) ∧
      ρin.le ρ' ∧ ∀ x, x < h0.length → ρin x = none → ρ' x = none) :
    AC C.P f args h0 (.ret v) h' := by
  intro R ρ w vs hr hvs
  have hsz : vs.size = args.length := by have := hvs.1; simpa using this
  have ha : RegRep w R ρ (args ++ List.replicate (fn.ntmps - args.length) .undef) { tmps := vs ++ Array.replicate (fn.ntmps - vs.size) undef, defers := [] } := by
    unfold RegRep
    simp only [Array.toList_append, Array.toList_replicate, hsz]
    exact hvs.append (VReps.replicate .undef _)
  exact callsEnd hfn hb hx hr hvs (hca R ρ _ w hr ha rfl) hl hlen hfin
def retO (C : Cfg) (bt : TypeId) (t : Ty) (res : List ResultVar) (x : AX) (s : AS) : Option (List t.El) := match x with
  | .ret | .normal => match resA C s res with
    | some [.orow t' i] => match s.h[i]? with
      | some (some (.row bt' ty l)) => if hty : ty = t then (if bt' = bt ∧ t' = t then some (hty ▸ l) else none) else none
      | _ => none
    | some [.nils] => some []
    | _ => none
  | _ => none
theorem retO_ok {bt : TypeId} {t : Ty} {res : List ResultVar} {x : AX} {s : AS} {y : List t.El} (h : retO C bt t res x s = some y) :
    (x = .ret ∨ x = .normal) ∧ ∃ l, resA C s res = some l ∧ ∀ R ρ w u, Rel R ρ s.h w → VRep w R ρ (resV l) u →
      ∃ b N, (∀ ρ', BRep w R ρ' b N (.row bt t y)) ∧ Real R b N (.row bt t y) ∧ (N.gh = false → Lv ρ s.h b) ∧ ∀ (ρ' : Nm) k, ρ' k = some (b, N) → VRep w R ρ' (.orow t k) u := by
  have hx : x = .ret ∨ x = .normal := by
    cases x with
    | ret => exact .inl rfl
    | normal => exact .inr rfl
    | _ => simp [retO] at h
  refine ⟨hx, ?_⟩
  have hh : (match resA C s res with
    | some [.orow t' i] => match s.h[i]? with
      | some (some (.row bt' ty l)) => if hty : ty = t then (if bt' = bt ∧ t' = t then some (hty ▸ l) else none) else none
      | _ => none
    | some [.nils] => some []
    | _ => none) = some y := by
    rcases hx with rfl | rfl <;> exact h
  split at hh
  · rename_i t' i hl
    refine ⟨_, hl, fun R ρ w u hr hv => ?_⟩
    split at hh
    · rename_i bt' ty l hi
      split at hh
      · rename_i hty
        subst hty
        split at hh
        · rename_i hbt
          obtain ⟨rfl, rfl⟩ := hbt
          injection hh with hh; subst hh
          obtain ⟨b, N, h1, h2, h3⟩ := hr.live i _ hi
          refine ⟨b, N, fun _ => row_any h2, h3, fun hg => ⟨i, _, N, hi, h1, hg⟩, fun ρ' k hk => ?_⟩
          have hv : VRep w R ρ (.orow t' i) u := hv
          cases hv with
          | @orow _ _ b' N' cap hn' hg hl hcc =>
            rw [h1] at hn'
            simp only [Option.some.injEq, Prod.mk.injEq] at hn'
            obtain ⟨rfl, rfl⟩ := hn'
            exact .orow hk hg hl hcc
          | @onil _ _ b' N' hn' hg =>
            rw [h1] at hn'
            simp only [Option.some.injEq, Prod.mk.injEq] at hn'
            obtain ⟨rfl, rfl⟩ := hn'
            exact .onil hk hg
        · cases hh
      · cases hh
    · cases hh
  · rename_i hl
    refine ⟨_, hl, fun R ρ w u hr hv => ?_⟩
    injection hh with hh; subst hh
    refine ⟨0, ⟨0, 0, true⟩, fun _ => ⟨rfl, fun hg => by cases hg⟩, .inr ⟨rfl, _, _, rfl⟩, fun hg => (by cases hg), fun ρ' k hk => ?_⟩
    have hv : VRep w R ρ .nils u := hv
    cases hv
    exact .onil hk rfl
  · cases hh
theorem retO_fin {bt : TypeId} {t : Ty} {s' : AS} {y : List t.El} {l : List AV} (hk : ∀ R ρ w u, Rel R ρ s'.h w → VRep w R ρ (resV l) u →
      ∃ b N, (∀ ρ', BRep w R ρ' b N (.row bt t y)) ∧ Real R b N (.row bt t y) ∧ (N.gh = false → Lv ρ s'.h b) ∧ ∀ (ρ' : Nm) k, ρ' k = some (b, N) → VRep w R ρ' (.orow t k) u) :
    ∀ (ρin : Nm) R ρ w u, (∀ k, ([] : AH).length ≤ k → ρin k = none) → Rel R ρ s'.h w → VRep w R ρ (resV l) u → ∃ R' ρ', Rel R' ρ' [some (.row bt t y)] w ∧ VRep w R' ρ' (.orow t 0) u ∧ (∀ b, R b → R' b) ∧ (∀ b, Lv ρ' [some (.row bt t y)] b → Lv ρ s'.h b) ∧ (∀ b, R' b → R b ∨ Lv ρ s'.h b) ∧
      ρin.le ρ' ∧ ∀ x, x < ([] : AH).length → ρin x = none → ρ' x = none := by
  intro ρin R ρ w u hin hr hv
  obtain ⟨b, N, h1, h2, h3, h4⟩ := hk R ρ w u hr hv
  have hone : ∀ (k : Nat) (blk : ABlk), ([some (ABlk.row bt t y)] : AH)[k]? = some (some blk) → k = 0 ∧ blk = .row bt t y := by
    intro k blk hk
    cases k with
    | zero => simp at hk; exact ⟨rfl, hk.symm⟩
    | succ k => simp at hk
  refine ⟨R, fun k => if k = 0 then some (b, N) else none, ⟨fun k blk hk => ?_, fun k k' bk bk' c Nk Nk' hk hk' _ _ _ _ => ?_, fun k hk => ?_, hr.ro⟩, h4 _ 0 rfl, fun _ h => h, ?_, fun _ h => .inl h, fun k bn hk => ?_, fun x hx => absurd hx (Nat.not_lt_zero _)⟩
  · obtain ⟨rfl, rfl⟩ := hone k blk hk
    exact ⟨b, N, rfl, h1 _, h2⟩
  · rw [(hone k _ hk).1, (hone k' _ hk').1]
  · show (if k = 0 then _ else _) = _
    rw [if_neg]
    simp at hk; omega
  · rintro c ⟨k, blk, N', hk, hn', hg⟩
    obtain ⟨rfl, rfl⟩ := hone k blk hk
    simp only [if_true, Option.some.injEq, Prod.mk.injEq] at hn'
    obtain ⟨rfl, rfl⟩ := hn'
    exact h3 hg
  · rw [hin k (Nat.zero_le _)] at hk; cases hk
def funcO (C : Cfg) (T : Tb) (bt : TypeId) (t : Ty) (dr : DrT (List t.El)) (lp : LpT (List t.El)) (fn : Func) (c : Code) (args : List AV) : Option (List t.El) :=
  codeT C T dr lp c ⟨args ++ List.replicate (fn.ntmps - args.length) .undef, []⟩ (retO C bt t fn.results.toList)
theorem funcO_ok (hC : C.Ok) (hT : T.Ok C.P) {bt : TypeId} {t : Ty} {dr : DrT (List t.El)} {lp : LpT (List t.El)} (hdr : DrTOk C dr) {f : FuncId} {fn : Func} {c : Code} (hfn : C.P.funcs[f]? = some fn) (hb : fn.body = some c) (hlp : LpTOk C lp (loopsOf c))
    {args : List AV} {y : List t.El} (hf : funcO C T bt t dr lp fn c args = some y) : AC C.P f args [] (.ret (.orow t 0)) [some (.row bt t y)] := by
  obtain ⟨x, s', hK, hca⟩ := codeT_ok hC hT hdr c hlp _ _ _ hf
  obtain ⟨hx, l, hl, hk⟩ := retO_ok hK
  exact funcG_end hfn hb hx hca hl (Nat.zero_le _) (retO_fin hk)
end
inductive Ent where
  | fn (g : FuncId) (ks : List FuncId) (e : FnE)
  | own (g : FuncId) (ks : List FuncId) (e : OwnE)
  | mov (g : FuncId) (ks : List FuncId) (e : MovE)
  | gen (g : FuncId) (ks : List FuncId) (r : GenR)
  | pan (g : FuncId) (ks : List FuncId) (r : PanR)
  | ext (g : FuncId) (r : ExtR)
def Ent.Ok (P : Program) : Ent → Prop
  | .fn g _ e => ∀ x y, e.F x = some y → AC P g (encPs e.ps x) [] (.ret (resV (encs e.rs y))) []
  | .own g _ e => ∀ x y, e.F x = some y → AC P g (encPs e.ps x) [] (.ret (.orow e.t 0)) [some (.row e.bt e.t y)]
  | .mov g _ e => ∀ l x y, e.F l x = some y → AC P g (.orow e.t 0 :: encPs e.ps x) [some (.row e.bt e.t l)] (.ret (.orow e.t' 1)) [none, some (.row e.bt' e.t' y)]
  | .gen g _ r => ∀ (β : Type) (h : AH) (args : List AV) (K : AV → AH → Option β) (z : β), r.run h args K = some z → ∃ v h', K v h' = some z ∧ CallOk P g args h v h'
  | .pan g _ r => r.Ok P g
  | .ext g r => ∀ (β : Type) (args : List AV) (K : AV → Option β) (z : β), r.run args K = some z → ∃ v, K v = some z ∧ ExtOk P g args v
def fndFn : List Ent → FuncId → List FuncId → Option FnE
  | [], _, _ => none
  | .fn g' ks' e :: r, g, ks => if Nat.beq g' g && ks' == ks then some e else fndFn r g ks
  | _ :: r, g, ks => fndFn r g ks
def fndOwn : List Ent → FuncId → List FuncId → Option OwnE
  | [], _, _ => none
  | .own g' ks' e :: r, g, ks => if Nat.beq g' g && ks' == ks then some e else fndOwn r g ks
  | _ :: r, g, ks => fndOwn r g ks
def fndMov : List Ent → FuncId → List FuncId → Option MovE
  | [], _, _ => none
  | .mov g' ks' e :: r, g, ks => if Nat.beq g' g && ks' == ks then some e else fndMov r g ks
  | _ :: r, g, ks => fndMov r g ks
def fndGen : List Ent → FuncId → List FuncId → Option GenR
  | [], _, _ => none
  | .gen g' ks' e :: r, g, ks => if Nat.beq g' g && ks' == ks then some e else fndGen r g ks
  | _ :: r, g, ks => fndGen r g ks
def fndPan : List Ent → FuncId → List FuncId → Option PanR
  | [], _, _ => none
  | .pan g' ks' e :: r, g, ks => if Nat.beq g' g && ks' == ks then some e else fndPan r g ks
  | _ :: r, g, ks => fndPan r g ks
def fndExt : List Ent → FuncId → Option ExtR
  | [], _ => none
  | .ext g' f :: r, g => if Nat.beq g' g then some f else fndExt r g
  | _ :: r, g => fndExt r g
def mkTb (ty : TypeId → Option Ty) (mp : TypeId → Option (Ty × Ty)) (l : List Ent) : Tb := ⟨ty, mp, fndFn l, fndOwn l, fndMov l, fndGen l, fndPan l, fndExt l⟩
def EntsOk (P : Program) : List Ent → Prop
  | [] => True
  | e :: r => e.Ok P ∧ EntsOk P r
theorem fndFn_ok {P : Program} : ∀ {l : List Ent}, EntsOk P l → ∀ g ks e, fndFn l g ks = some e → (Ent.fn g ks e).Ok P
  | [], _, g, ks, e, h => by simp [fndFn] at h
  | .fn g' ks' e' :: r, hl, g, ks, e, h => by
    simp only [fndFn] at h
    split at h
    · rename_i hc
      injection h with h; subst h
      simp only [Bool.and_eq_true] at hc
      have := Nat.eq_of_beq_eq_true hc.1
      subst this
      exact hl.1
    · exact fndFn_ok hl.2 g ks e h
  | .own .. :: r, hl, g, ks, e, h => fndFn_ok (l := r) hl.2 g ks e h
  | .gen .. :: r, hl, g, ks, e, h => fndFn_ok (l := r) hl.2 g ks e h
  | .mov .. :: r, hl, g, ks, e, h => fndFn_ok (l := r) hl.2 g ks e h
  | .pan .. :: r, hl, g, ks, e, h => fndFn_ok (l := r) hl.2 g ks e h
  | .ext .. :: r, hl, g, ks, e, h => fndFn_ok (l := r) hl.2 g ks e h
theorem fndOwn_ok {P : Program} : ∀ {l : List Ent}, EntsOk P l → ∀ g ks e, fndOwn l g ks = some e → (Ent.own g ks e).Ok P
  | [], _, g, ks, e, h => by simp [fndOwn] at h
  | .own g' ks' e' :: r, hl, g, ks, e, h => by
    simp only [fndOwn] at h
    split at h
    · rename_i hc
      injection h with h; subst h
      simp only [Bool.and_eq_true] at hc
      have := Nat.eq_of_beq_eq_true hc.1
      subst this
      exact hl.1
    · exact fndOwn_ok hl.2 g ks e h
  | .fn .. :: r, hl, g, ks, e, h => fndOwn_ok (l := r) hl.2 g ks e h
  | .gen .. :: r, hl, g, ks, e, h => fndOwn_ok (l := r) hl.2 g ks e h
  | .mov .. :: r, hl, g, ks, e, h => fndOwn_ok (l := r) hl.2 g ks e h
  | .pan .. :: r, hl, g, ks, e, h => fndOwn_ok (l := r) hl.2 g ks e h
  | .ext .. :: r, hl, g, ks, e, h => fndOwn_ok (l := r) hl.2 g ks e h
theorem fndMov_ok {P : Program} : ∀ {l : List Ent}, EntsOk P l → ∀ g ks e, fndMov l g ks = some e → (Ent.mov g ks e).Ok P
  | [], _, g, ks, e, h => by simp [fndMov] at h
  | .mov g' ks' e' :: r, hl, g, ks, e, h => by
    simp only [fndMov] at h
    split at h
    · rename_i hc
      injection h with h; subst h
      simp only [Bool.and_eq_true] at hc
      have := Nat.eq_of_beq_eq_true hc.1
      subst this
      exact hl.1
    · exact fndMov_ok hl.2 g ks e h
  | .fn .. :: r, hl, g, ks, e, h => fndMov_ok (l := r) hl.2 g ks e h
  | .gen .. :: r, hl, g, ks, e, h => fndMov_ok (l := r) hl.2 g ks e h
  | .own .. :: r, hl, g, ks, e, h => fndMov_ok (l := r) hl.2 g ks e h
  | .pan .. :: r, hl, g, ks, e, h => fndMov_ok (l := r) hl.2 g ks e h
  | .ext .. :: r, hl, g, ks, e, h => fndMov_ok (l := r) hl.2 g ks e h
theorem fndGen_ok {P : Program} : ∀ {l : List Ent}, EntsOk P l → ∀ g ks e, fndGen l g ks = some e → (Ent.gen g ks e).Ok P
  | [], _, g, ks, e, h => by simp [fndGen] at h
  | .gen g' ks' e' :: r, hl, g, ks, e, h => by
    simp only [fndGen] at h
    split at h
    · rename_i hc
      injection h with h; subst h
      simp only [Bool.and_eq_true] at hc
      have := Nat.eq_of_beq_eq_true hc.1
      subst this
      exact hl.1
    · exact fndGen_ok hl.2 g ks e h
  | .fn .. :: r, hl, g, ks, e, h => fndGen_ok (l := r) hl.2 g ks e h
  | .own .. :: r, hl, g, ks, e, h => fndGen_ok (l := r) hl.2 g ks e h
  | .mov .. :: r, hl, g, ks, e, h => fndGen_ok (l := r) hl.2 g ks e h
  | .pan .. :: r, hl, g, ks, e, h => fndGen_ok (l := r) hl.2 g ks e h
  | .ext .. :: r, hl, g, ks, e, h => fndGen_ok (l := r) hl.2 g ks e h
theorem fndPan_ok {P : Program} : ∀ {l : List Ent}, EntsOk P l → ∀ g ks e, fndPan l g ks = some e → (Ent.pan g ks e).Ok P
  | [], _, g, ks, e, h => by simp [fndPan] at h
  | .pan g' ks' e' :: r, hl, g, ks, e, h => by
    simp only [fndPan] at h
    split at h
    · rename_i hc
      injection h with h; subst h
      simp only [Bool.and_eq_true] at hc
      have := Nat.eq_of_beq_eq_true hc.1
      subst this
      exact hl.1
    · exact fndPan_ok hl.2 g ks e h
  | .fn .. :: r, hl, g, ks, e, h => fndPan_ok (l := r) hl.2 g ks e h
  | .own .. :: r, hl, g, ks, e, h => fndPan_ok (l := r) hl.2 g ks e h
  | .mov .. :: r, hl, g, ks, e, h => fndPan_ok (l := r) hl.2 g ks e h
  | .gen .. :: r, hl, g, ks, e, h => fndPan_ok (l := r) hl.2 g ks e h
  | .ext .. :: r, hl, g, ks, e, h => fndPan_ok (l := r) hl.2 g ks e h
theorem fndExt_ok {P : Program} : ∀ {l : List Ent}, EntsOk P l → ∀ g r0, fndExt l g = some r0 → (Ent.ext g r0).Ok P
  | [], _, g, r0, h => by simp [fndExt] at h
  | .ext g' f :: r, hl, g, r0, h => by
    simp only [fndExt] at h
    split at h
    · rename_i hc
      have := Nat.eq_of_beq_eq_true hc
      subst this
      injection h with h; subst h
      exact hl.1
    · exact fndExt_ok hl.2 g r0 h
  | .fn .. :: r, hl, g, r0, h => fndExt_ok (l := r) hl.2 g r0 h
  | .own .. :: r, hl, g, r0, h => fndExt_ok (l := r) hl.2 g r0 h
  | .mov .. :: r, hl, g, r0, h => fndExt_ok (l := r) hl.2 g r0 h
  | .gen .. :: r, hl, g, r0, h => fndExt_ok (l := r) hl.2 g r0 h
  | .pan .. :: r, hl, g, r0, h => fndExt_ok (l := r) hl.2 g r0 h
theorem mkTb_ok {P : Program} {ty : TypeId → Option Ty} {mp : TypeId → Option (Ty × Ty)} {l : List Ent} (h : EntsOk P l) : (mkTb ty mp l).Ok P :=
  ⟨fun g ks e he => fndFn_ok h g ks e he, fun g ks e he => fndOwn_ok h g ks e he, fun g ks e he => fndMov_ok h g ks e he, fun g ks e he => fndGen_ok h g ks e he, fun g ks e he => fndPan_ok h g ks e he, fun g r he => fndExt_ok h g r he⟩
section
variable {C : Cfg} {T : Tb}
theorem LpTOk.nil {β : Type} {lp : LpT β} : LpTOk C lp [] := fun p hp => by simp at hp
theorem LpTOk.cons {β : Type} {lp : LpT β} {k : Nat} {c : Code} {r : List (Nat × Code)} (h : ∀ (s : AS) (K : AX → AS → Option β) (z : β), lp k s K = some z → ∃ x s', K x s' = some z ∧ CA C (.loop c) s x s') (hr : LpTOk C lp r) : LpTOk C lp ((k, c) :: r) := by
  intro p hp
  rcases List.mem_cons.1 hp with rfl | hp
  · exact h
  · exact hr p hp
theorem Ent.ofFn (hC : C.Ok) (hT : T.Ok C.P) {g : FuncId} {ks : List FuncId} {e : FnE} {lp : LpT (Els e.rs)} {fn : Func} {c : Code} (hfn : C.P.funcs[g]? = some fn) (hb : fn.body = some c) (hlp : LpTOk C lp (loopsOf c))
    (hF : ∀ x, funcT C T e.rs (drT C T) lp fn c (encPs e.ps x) = e.F x) : (Ent.fn g ks e).Ok C.P := fun x y h =>
  funcT_ok hC hT (drT_ok hC hT) hfn hb hlp ((hF x).trans h)
theorem Ent.ofOwn (hC : C.Ok) (hT : T.Ok C.P) {g : FuncId} {ks : List FuncId} {e : OwnE} {lp : LpT (List e.t.El)} {fn : Func} {c : Code} (hfn : C.P.funcs[g]? = some fn) (hb : fn.body = some c) (hlp : LpTOk C lp (loopsOf c))
    (hF : ∀ x, funcO C T e.bt e.t (drT C T) lp fn c (encPs e.ps x) = e.F x) : (Ent.own g ks e).Ok C.P := fun x y h =>
  funcO_ok hC hT (drT_ok hC hT) hfn hb hlp ((hF x).trans h)
end
end Go.DI
set_option linter.unusedVariables false
set_option linter.unusedSimpArgs false
namespace Go.DI
section
variable {C : Cfg} {T : Tb} {w : World}
theorem AC.ownFreeze {P : Program} {f : FuncId} {args : List AV} {bt : TypeId} {t : Ty} {l : List t.El} (h : AC P f args [] (.ret (.orow t 0)) [some (.row bt t l)]) : AC P f args [] (.ret (.lst t l)) [] := by
  intro R ρ w vs hr hvs
  refine (h R ρ w vs hr hvs).mono ?_
  rintro e w' ⟨R', ρ', u, ⟨rfl, hu⟩, r1, f1⟩
  have hn0 := hr.nil_names
  have hfr : Ty.frz (.list t) [some (.row bt t l)] (.orow t 0) = some (l, [none]) := by
    simp [Ty.frz, Ty.isAgg, Ty.frzC, frzL]
  obtain ⟨R2, r2, f2, v2⟩ := (Ty.list t).frz_ok r1 hfr hu
  refine ⟨R2, ρ0, u, ⟨rfl, (Ty.list t).nameless l _ _ _ _ _ v2⟩, .base r2.ro, ⟨f2.os.trans f1.os, f2.tape.trans f1.tape, f2.output.trans f1.output, Nat.le_trans f1.size f2.size, by rw [hn0]; exact Nm.le_refl _, fun b hb => f2.ros b (f1.ros b hb), fun b hb hl => ?_, fun b hl => absurd hl Lv.none, fun b hb => ?_, Nat.le_refl _, fun x hx => absurd hx (Nat.not_lt_zero _), Nat.le_trans f1.frz f2.frz⟩⟩
  · rw [f2.keeps b (Nat.lt_of_lt_of_le hb f1.size) (fun h1 => ?_)]
    · exact f1.keeps b hb hl
    · rcases f1.lives b h1 with h2 | h2
      · exact hl h2
      · omega
  · rcases f2.rolds b hb with h1 | h1 | h1
    · exact f1.rolds b h1
    · rcases f1.lives b h1 with h2 | h2
      · exact .inr (.inl h2)
      · exact .inr (.inr h2)
    · exact .inr (.inr (Nat.le_trans f1.size h1))
theorem eqNil_run {t e : TypeId} (hu : C.P.underlying t = some (.slice e)) (a : Option Addr) (n c : Nat) : (Op.equal t (.slice a n c) (.slice none 0 0)).run C.P w = .ok a.isNone w := by
  have key : ∀ d, (Op.equalIn (d + 1) t (.slice a n c) (.slice none 0 0)).run C.P w = .ok a.isNone w := by
    intro d
    cases a <;> simp [Op.equalIn, run_underlying hu]
  exact key 9999
theorem ops_step {P : Program} {ops : Array Oper} {Q : Exit → Act → World → Prop} {i : Nat} {rest : List Nat} {a : Act} {o : Oper} {u : Value} {a' : Act} {d : Option Tmp} (ho : ops[i]? = some o) (hg : o.guard = none) (hd : o.dst = d)
    (hr : (execOp a.eval o).run P w = .ok (.value u) w) (ha : a.put d u = a') (h : wpOps P ops Q rest a' w) : wpOps P ops Q (i :: rest) a w := by
  subst hd; subst ha
  unfold wpOps
  rw [ho]
  simp only
  have hw : Region.wanted o (yielded ops a.tmps) = true := by unfold Region.wanted; rw [hg]
  rw [hw]
  simp only [if_true]
  refine .inl ?_
  unfold Oper.wp
  rw [hr]
  exact h
structure CloneCode (C : Cfg) (fn : Func) (c : Code) (st : TypeId) where
  i0 : Nat
  i1 : Nat
  i2 : Nat
  ops0 : Array Oper
  ops1 : Array Oper
  ops2 : Array Oper
  rest : Code
  code : c = .seq (.region i0 ops0 false) (.seq (.seq (.region i1 ops1 false) (.cond (.tmp 4) (.seq (.region i2 ops2 false) .ret) .skip)) rest)
  s0 : ops0.size = 1
  s1 : ops1.size = 2
  s2 : ops2.size = 1
  o00 : Oper
  o10 : Oper
  o11 : Oper
  o20 : Oper
  h00 : ops0[0]? = some o00
  h10 : ops1[0]? = some o10
  h11 : ops1[1]? = some o11
  h20 : ops2[0]? = some o20
  g00 : o00.op = .assign (.const (.slice none 0 0)) ∧ o00.dst = some 2 ∧ o00.guard = none
  g10 : o10.op = .move (.tmp 0) ∧ o10.dst = some 3 ∧ o10.guard = none
  g11 : o11.op = .binOp .eql st (.tmp 3) (.const (.slice none 0 0)) st ∧ o11.dst = some 4 ∧ o11.guard = none
  g20 : o20.op = .assign (.const (.slice none 0 0)) ∧ o20.dst = some 2 ∧ o20.guard = none
  nt : fn.ntmps = 8
  res : fn.results.toList = [.tmp 2]
theorem exec_assign (ev : Operand → Value) {P : Program} {o : Oper} {x : Operand} (h : o.op = .assign x) : (execOp ev o).run P w = .ok (.value (ev x)) w := by
  obtain ⟨_, op, _, _, _, _⟩ := o
  simp only at h
  subst h
  rfl
theorem exec_move (ev : Operand → Value) {P : Program} {o : Oper} {x : Operand} (h : o.op = .move x) : (execOp ev o).run P w = .ok (.value (ev x)) w := by
  obtain ⟨_, op, _, _, _, _⟩ := o
  simp only at h
  subst h
  rfl
theorem exec_eqNil (ev : Operand → Value) {o : Oper} {t e : TypeId} {x y : Operand} (h : o.op = .binOp .eql t x y t) (hu : C.P.underlying t = some (.slice e)) {a : Option Addr} {n c : Nat} (hx : ev x = .slice a n c) (hy : ev y = .slice none 0 0) :
    (execOp ev o).run C.P w = .ok (.value (.bool a.isNone)) w := by
  obtain ⟨_, op, _, _, _, _⟩ := o
  simp only at h
  subst h
  have hp := Pairs.slice (C := C) (t := t) a n c none 0 0
  have h1 : (do eqGuard .eql t x y (ev x) (ev y); binOp .eql t (ev x) (ev y) : Sem Value).run C.P w = .ok (.bool a.isNone) w := by
    rw [hx, hy, Sem.run_bind, hp.guard (op := .eql) (x := x) (y := y), Result.andThen_ok, hp.eql, Sem.run_bind, eqNil_run hu]
    rfl
  exact run_value h1
theorem ownEnd {bt : TypeId} {t : Ty} {f : FuncId} {fn : Func} {c : Code} (hfn : C.P.funcs[f]? = some fn) (hb : fn.body = some c) {args : List AV} {y : List t.El}
    (h : ∀ (R : Nat → Prop) (ρ : Nm) (w : World) (vs : Array Value), Rel R ρ [] w → VReps w R ρ args vs.toList → ∃ x s', retO C bt t fn.results.toList x s' = some y ∧ c.wp C.P (FinW C.pin R ρ [] w x s') { tmps := vs ++ Array.replicate (fn.ntmps - vs.size) undef, defers := [] } w) :
    AC C.P f args [] (.ret (.orow t 0)) [some (.row bt t y)] := by
  intro R ρ w vs hr hvs
  obtain ⟨x, s', hret, hwp⟩ := h R ρ w vs hr hvs
  obtain ⟨hx, l, hl, hk⟩ := retO_ok hret
  exact callsEnd hfn hb hx hr hvs hwp hl (Nat.zero_le _) (retO_fin hk)
theorem clone_own (hC : C.Ok) (hT : T.Ok C.P) {g : FuncId} {fn : Func} {c : Code} {st bt e : TypeId} {τ : Ty} (hfn : C.P.funcs[g]? = some fn) (hb : fn.body = some c) (K : CloneCode C fn c st) (hu : C.P.underlying st = some (.slice e))
    (hlo : loopsOf K.rest = []) {l y : List τ.El}
    (hrest : codeT C T (drT C T) (fun _ _ _ => none) K.rest ⟨[.lst τ l, .any, .nils, .any, .bool false, .any, .any, .any], []⟩ (retO C bt τ [.tmp 2]) = some y) (hnil : l = [] → y = []) :
    AC C.P g [.lst τ l] [] (.ret (.orow τ 0)) [some (.row bt τ y)] := by
  refine ownEnd hfn hb fun R ρ w vs hr hvs => ?_
  obtain ⟨u, us', hvs', hu0, h2⟩ := hvs.cons_inv
  obtain rfl := h2.nil_inv
  have hvs'' : vs = #[u] := Array.toList_inj.1 (by simpa using hvs')
  subst hvs''
  have husl : ∃ a cap, u = .slice a l.length cap := by
    cases hu0 with
    | lst h => exact h.ro_slice
  obtain ⟨a, cap, rfl⟩ := husl
  rw [K.nt, K.code, K.res]
  have hinit : ({ tmps := #[.slice a l.length cap] ++ Array.replicate (8 - (#[Value.slice a l.length cap] : Array Value).size) undef, defers := [] } : Act) = { tmps := #[.slice a l.length cap, undef, undef, undef, undef, undef, undef, undef], defers := [] } := rfl
  rw [hinit]
  generalize hU : Value.slice a l.length cap = U at hu0 ⊢
  -- up to the test
  have pre : ∀ (Q : Exit → Act → World → Prop),
      (a.isNone = true → (Code.seq (.region K.i2 K.ops2 false) .ret).wp C.P (Exit.then (fun _ _ => False) Q) { tmps := #[U, undef, .slice none 0 0, U, .bool true, undef, undef, undef], defers := [] } w) →
      (a.isNone = false → K.rest.wp C.P Q { tmps := #[U, undef, .slice none 0 0, U, .bool false, undef, undef, undef], defers := [] } w) →
      (Code.seq (.region K.i0 K.ops0 false) (.seq (.seq (.region K.i1 K.ops1 false) (.cond (.tmp 4) (.seq (.region K.i2 K.ops2 false) .ret) .skip)) K.rest)).wp C.P Q { tmps := #[U, undef, undef, undef, undef, undef, undef, undef], defers := [] } w := by
    intro Q hn hs
    refine wp_seq (wp_region ?_)
    rw [K.s0]
    refine ops_step (a' := { tmps := #[U, undef, .slice none 0 0, undef, undef, undef, undef, undef], defers := [] }) (u := .slice none 0 0) K.h00 K.g00.2.2 K.g00.2.1 (exec_assign _ K.g00.1) rfl ?_
    refine wp_seq (wp_seq (wp_region ?_))
    rw [K.s1]
    refine ops_step (a' := { tmps := #[U, undef, .slice none 0 0, U, undef, undef, undef, undef], defers := [] }) (u := U) K.h10 K.g10.2.2 K.g10.2.1 (exec_move _ K.g10.1) rfl ?_
    refine ops_step (a' := { tmps := #[U, undef, .slice none 0 0, U, .bool a.isNone, undef, undef, undef], defers := [] }) (u := .bool a.isNone) K.h11 K.g11.2.2 K.g11.2.1 (exec_eqNil _ K.g11.1 hu (a := a) (n := l.length) (c := cap) hU.symm rfl) rfl ?_
    show Code.wp _ _ _ _ _
    cases ha : a.isNone with
    | true =>
      refine wp_cond_true rfl ?_
      refine wp_mono (hn ha) ?_
      intro e a' w' he
      cases e <;> first | exact he | exact he.elim
    | false =>
      refine wp_cond_false rfl (wp_skip ?_)
      exact hs ha
  cases ha : a.isNone with
  | true =>
    have hl0 : l = [] := by
      have ha' : a = none := by simpa using ha
      subst ha'
      subst hU
      cases hu0 with
      | lst h => cases hl : l.length with
        | zero => exact List.eq_nil_of_length_eq_zero hl
        | succ n => rw [hl] at h; cases h
    have hy := hnil hl0
    subst hy
    refine ⟨.ret, ⟨[.any, .any, .nils, .any, .any, .any, .any, .any], []⟩, rfl, pre _ (fun _ => ?_) (fun h => by rw [ha] at h; cases h)⟩
    refine wp_seq (wp_region ?_)
    rw [K.s2]
    refine ops_step (a' := { tmps := #[U, undef, .slice none 0 0, U, .bool true, undef, undef, undef], defers := [] }) (u := .slice none 0 0) K.h20 K.g20.2.2 K.g20.2.1 (exec_assign _ K.g20.1) rfl ?_
    refine wp_ret ?_
    refine ⟨rfl, R, ρ, hr, ?_, FrmW.refl _ _ _ _, rfl⟩
    exact .cons (.any _) (.cons (.any _) (.cons .nils (.cons (.any _) (.cons (.any _) (.cons (.any _) (.cons (.any _) (.cons (.any _) .nil)))))))
  | false =>
    obtain ⟨x, s', hK, hca⟩ := codeT_ok hC hT (drT_ok hC hT) K.rest (by rw [hlo]; exact LpTOk.nil) _ _ _ hrest
    refine ⟨x, s', hK, pre _ (fun h => by rw [ha] at h; cases h) (fun _ => ?_)⟩
    refine hca R ρ _ w hr ?_ rfl
    exact .cons hu0 (.cons (.any _) (.cons .nils (.cons (.any _) (.cons (.bool false) (.cons (.any _) (.cons (.any _) (.cons (.any _) .nil)))))))
end
end Go.DI
