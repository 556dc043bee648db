import Derived.Test.YtehnecfmjfpclaaGreatDib
/- A reading of programs by functions on data, and that it is right. No conditions. -/
set_option linter.unusedVariables false
set_option linter.unusedSimpArgs false
namespace Go.DI
structure FnE where
  ps : List PTy
  rs : List Ty
  F : Ps ps → Option (Els rs)
  /-- What its lists hold is not told to the caller, who keeps what it owns. -/
  hid : Bool := false
structure OwnE where
  ps : List PTy
  bt : TypeId
  t : Ty
  F : Ps ps → Option (List t.El)
structure MovE where
  ps : List PTy
  bt : TypeId
  t : Ty
  bt' : TypeId
  t' : Ty
  F : List t.El → Ps ps → Option (List t'.El)
def CallOk (P : Program) (g : FuncId) (args : List AV) (h : AH) (v : AV) (h' : AH) : Prop :=
  ∀ (R : Nat → Prop) (ρ : Nm) (w : World) (vs : Array Value), Rel R ρ h w → VReps w R ρ args vs.toList →
    Calls P g vs w fun e w' => ∃ R' ρ' u, e = .returned u ∧ VRep w' R' ρ' v u ∧ Rel R' ρ' h' w' ∧ Frm R ρ h w R' ρ' h' w'
structure GenR where
  run : {β : Type} → AH → List AV → (AV → AH → Option β) → Option β
def CallPan (P : Program) (g : FuncId) (args : List AV) (h : AH) (v : AV) (h' : AH) : Prop :=
  ∀ (R : Nat → Prop) (ρ : Nm) (w : World) (vs : Array Value), Rel R ρ h w → VReps w R ρ args vs.toList →
    Calls P g vs w fun e w' => ∃ R' ρ' u, e = .panicked [{ v := u, recovered := false }] ∧ VRep w' R' ρ' v u ∧ Rel R' ρ' h' w' ∧ Frm R ρ h w R' ρ' h' w'
structure PanR where
  run : {β : Type} → AH → List AV → (AV → AH → Option β) → (AV → AH → Option β) → Option β
def PanR.Ok (P : Program) (g : FuncId) (r : PanR) : Prop := ∀ (β : Type) (h : AH) (args : List AV) (K Kp : AV → AH → Option β) (z : β), r.run h args K Kp = some z → (∃ v h', K v h' = some z ∧ CallOk P g args h v h') ∨ ∃ v h', Kp v h' = some z ∧ CallPan P g args h v h'
structure ExtR where
  run : {β : Type} → List AV → (AV → Option β) → Option β
structure Tb where
  ty : TypeId → Option Ty
  mp : TypeId → Option (Ty × Ty)
  fn : FuncId → List FuncId → Option FnE
  own : FuncId → List FuncId → Option OwnE
  mov : FuncId → List FuncId → Option MovE := fun _ _ => none
  gen : FuncId → List FuncId → Option GenR := fun _ _ => none
  pan : FuncId → List FuncId → Option PanR := fun _ _ => none
  /-- Functions that the machine stands in for. -/
  ext : FuncId → Option ExtR := fun _ => none
def ExtOk (P : Program) (g : FuncId) (args : List AV) (v : AV) : Prop := ∀ (w : World) (R : Nat → Prop) (ρ : Nm) (us : Array Value), VReps w R ρ args us.toList → ∃ u, (callFunc g us).run P w = .ok (.value u) w ∧ VRep w R ρ v u
structure Tb.Ok (P : Program) (T : Tb) : Prop where
  fn : ∀ g ks e, T.fn g ks = some e → ∀ x y, e.F x = some y → AC P g (encPs e.ps x) [] (.ret (resV (encs e.rs y))) []
  own : ∀ g ks e, T.own g ks = some e → ∀ x y, e.F x = some y → AC P g (encPs e.ps x) [] (.ret (.orow e.t 0)) [some (.row e.bt e.t y)]
  mov : ∀ g ks e, T.mov g ks = some e → ∀ l x y, e.F l x = some y → AC P g (.orow e.t 0 :: encPs e.ps x) [some (.row e.bt e.t l)] (.ret (.orow e.t' 1)) [none, some (.row e.bt' e.t' y)]
  gen : ∀ g ks r, T.gen g ks = some r → ∀ (β : Type) (h : AH) (args : List AV) (K : AV → AH → Option β) (z : β), r.run h args K = some z → ∃ v h', K v h' = some z ∧ CallOk P g args h v h'
  pan : ∀ g ks r, T.pan g ks = some r → r.Ok P g
  ext : ∀ g r, T.ext g = some r → ∀ (β : Type) (args : List AV) (K : AV → Option β) (z : β), r.run args K = some z → ∃ v, K v = some z ∧ ExtOk P g args v
def EvRep (w : World) (R : Nat → Prop) (ρ : Nm) (ev : Operand → Option AV) (a : Act) : Prop := ∀ x av, ev x = some av → VRep w R ρ av (a.eval x)
def StepOk (P : Program) (op : Op) (ev : Operand → Option AV) (h : AH) (v : AV) (h' : AH) : Prop :=
  ∀ (R : Nat → Prop) (ρ : Nm) (w : World) (a : Act) (o : Oper), o.op = op → Rel R ρ h w → EvRep w R ρ ev a →
    ∀ (K : Act → World → Prop) (Q : Exit → Act → World → Prop), (∀ R' ρ' u w', VRep w' R' ρ' v u → Rel R' ρ' h' w' → Frm R ρ h w R' ρ' h' w' → K (a.put o.dst u) w') → o.wp P a w K Q
def StepPan (P : Program) (op : Op) (ev : Operand → Option AV) (h : AH) (v : AV) (h' : AH) : Prop :=
  ∀ (R : Nat → Prop) (ρ : Nm) (w : World) (a : Act) (o : Oper), o.op = op → Rel R ρ h w → EvRep w R ρ ev a →
    ∀ (K : Act → World → Prop) (Q : Exit → Act → World → Prop), (∀ R' ρ' u w', VRep w' R' ρ' v u → Rel R' ρ' h' w' → Frm R ρ h w R' ρ' h' w' → Q (.panic [{ v := u, recovered := false }]) a w') → o.wp P a w K Q
section
variable {C : Cfg} {T : Tb} {h h' : AH} {ev : Operand → Option AV} {op : Op} {v : AV}
theorem StepOk.of_sem (f : (Operand → Value) → Sem Value) (hex : ∀ (a : Act) (o : Oper), o.op = op → execOp a.eval o = (do pure (.value (← f a.eval))))
    (hs : ∀ R ρ w (a : Act), Rel R ρ h w → EvRep w R ρ ev a → Post C R ρ h w (f a.eval) v h') : StepOk C.P op ev h v h' := by
  intro R ρ w a o ho hr hev K Q hK
  obtain ⟨R', ρ', u, w', h1, h2, h3, h4⟩ := hs R ρ w a hr hev
  unfold Oper.wp
  rw [hex a o ho, Sem.run_bind, h1]
  exact hK _ _ _ _ h2 h3 h4
theorem StepOk.of_pure (f : (Operand → Value) → Sem Value) (hex : ∀ (a : Act) (o : Oper), o.op = op → execOp a.eval o = (do pure (.value (← f a.eval))))
    (hs : ∀ R ρ w (a : Act), Rel R ρ h w → EvRep w R ρ ev a → ∃ r, (f a.eval).run C.P w = .ok r w ∧ VRep w R ρ v r) : StepOk C.P op ev h v h :=
  .of_sem f hex fun R ρ w a hr hev => by
    obtain ⟨r, h1, h2⟩ := hs R ρ w a hr hev
    exact ⟨R, ρ, r, w, h1, h2, hr, Frm.refl _ _ _ _⟩
theorem StepOk.of_unit (f : (Operand → Value) → Sem Unit) (hex : ∀ (a : Act) (o : Oper), o.op = op → execOp a.eval o = (do f a.eval; pure .skip))
    (hs : ∀ R ρ w (a : Act), Rel R ρ h w → EvRep w R ρ ev a → PostU C R ρ h w (f a.eval) h') : StepOk C.P op ev h .undef h' := by
  intro R ρ w a o ho hr hev K Q hK
  obtain ⟨R', ρ', w', h1, h3, h4⟩ := hs R ρ w a hr hev
  unfold Oper.wp
  rw [hex a o ho, Sem.run_bind, h1]
  exact hK _ _ _ _ .undef h3 h4
theorem StepOk.of_val (hC : C.Ok) (ho : opA C h ev op = some (.val v h')) : StepOk C.P op ev h v h' := by
  intro R ρ w a o hop hr hev K Q hK
  subst hop
  obtain ⟨R', ρ', u, w', h1, h2, h3, h4⟩ := opA_ok hC hr hev ho
  unfold Oper.wp
  rw [h1]
  exact hK _ _ _ _ h2 h3 h4
theorem StepOk.of_skip (hC : C.Ok) (ho : opA C h ev op = some (.skip h')) : StepOk C.P op ev h .undef h' := by
  intro R ρ w a o hop hr hev K Q hK
  subst hop
  obtain ⟨R', ρ', w', h1, h3, h4⟩ := opA_ok hC hr hev ho
  unfold Oper.wp
  rw [h1]
  exact hK _ _ _ _ .undef h3 h4
theorem StepOk.pre {h1 : AH} {ev1 : Operand → Option AV} (hs : StepOk C.P op ev1 h1 v h')
    (hp : ∀ R ρ w (a : Act), Rel R ρ h w → EvRep w R ρ ev a → ∃ R1 ρ1, Rel R1 ρ1 h1 w ∧ EvRep w R1 ρ1 ev1 a ∧ Frm R ρ h w R1 ρ1 h1 w) : StepOk C.P op ev h v h' := by
  intro R ρ w a o hop hr hev K Q hK
  obtain ⟨R1, ρ1, r1, e1, f1⟩ := hp R ρ w a hr hev
  exact hs R1 ρ1 w a o hop r1 e1 K Q fun R' ρ' u w' h2 h3 h4 => hK R' ρ' u w' h2 h3 (f1.trans h4)
theorem StepOk.post {v1 : AV} {h1 : AH} (hs : StepOk C.P op ev h v1 h1)
    (hp : ∀ R ρ w u, Rel R ρ h1 w → VRep w R ρ v1 u → ∃ R' ρ', Rel R' ρ' h' w ∧ VRep w R' ρ' v u ∧ Frm R ρ h1 w R' ρ' h' w) : StepOk C.P op ev h v h' := by
  intro R ρ w a o hop hr hev K Q hK
  refine hs R ρ w a o hop hr hev K Q fun R1 ρ1 u w1 h2 h3 h4 => ?_
  obtain ⟨R', ρ', k1, k2, k3⟩ := hp R1 ρ1 w1 u h3 h2
  exact hK R' ρ' u w1 k2 k1 (h4.trans k3)
def AV.plain : AV → AV
  | .lst t l => .ro t.sz l.length (t.at l)
  | v => v
theorem plain_ok {w : World} {R : Nat → Prop} {ρ : Nm} {v : AV} {u : Value} (hv : VRep w R ρ v u) : VRep w R ρ v.plain u := by
  cases v <;> first | exact hv | (cases hv; assumption)
def szOk (C : Cfg) (t : TypeId) (τ : Ty) : Bool := match C.P.underlying t with
  | some (.slice e) => match C.P.info? e with
    | some ti => ti.size == τ.sz
    | none => false
  | _ => false
def ixChain {β : Type} (f : Nat → Option β) (i : Int) : Nat → Nat → Option β
  | 0, _ => none
  | n + 1, a => bif decide (i = (a : Int)) then f a else ixChain f i n (a + 1)
theorem ixChain_ok {β : Type} {f : Nat → Option β} {i : Int} {z : β} : ∀ (n a : Nat), ixChain f i n a = some z → ∃ k, k < a + n ∧ i = (k : Int) ∧ f k = some z
  | 0, a, h => by cases h
  | n + 1, a, h => by
    simp only [ixChain] at h
    cases hd : decide (i = (a : Int)) with
    | true =>
      rw [hd] at h
      exact ⟨a, by omega, of_decide_eq_true hd, h⟩
    | false =>
      rw [hd] at h
      obtain ⟨k, h1, h2, h3⟩ := ixChain_ok n (a + 1) h
      exact ⟨k, by omega, h2, h3⟩
def indexAddrT {β : Type} (C : Cfg) (h : AH) (t : TypeId) (x ix : AV) (K : AV → AH → Option β) : Option β :=
  match x, ix with
  | .lst τ l, .int _ i => if szOk C t τ then (bif decide (0 ≤ i ∧ i < l.length) then K (.roa τ.sz l.length (τ.at l) i.toNat 0) h else none) else none
  | .orow τ j, .int _ i => match h[j]? with
    | some (some (.row _ ty l)) => if ty = τ ∧ szOk C t τ then (bif decide (0 ≤ i ∧ i < l.length) then K (.optr τ j i.toNat 0) h else none) else none
    | _ => none
  | .own sz j off len, .int _ i => match C.P.underlying t with
    | some (.slice e) => match C.P.info? e with
      | some ti => if ti.size = sz then ixChain (fun a => K (.ptr j (off + a * sz)) h) i len 0 else none
      | none => none
    | _ => none
  | x, ix => match indexAddrA C t x ix with
    | some v => K v h
    | none => none
theorem cond_some {β : Type} {b : Bool} {x y : Option β} {z : β} (h : (bif b then x else y) = some z) : (b = true ∧ x = some z) ∨ (b = false ∧ y = some z) := by
  cases b
  · exact .inr ⟨rfl, h⟩
  · exact .inl ⟨rfl, h⟩
theorem indexAddrT_ok {β : Type} {t : TypeId} {x ix : AV} {K : AV → AH → Option β} {y : β} (hi : indexAddrT C h t x ix K = some y) :
    ∃ v, K v h = some y ∧ ∀ R ρ w u k, Rel R ρ h w → VRep w R ρ x u → VRep w R ρ ix k → ∃ r, (Instr.indexAt t u k).run C.P w = .ok r w ∧ VRep w R ρ v r := by
  unfold indexAddrT at hi
  split at hi
  · rename_i τ l kk i
    split at hi
    · rename_i hsz
      rcases cond_some hi with ⟨hb, hi⟩ | ⟨_, hi⟩
      · refine ⟨_, hi, fun R ρ w u k hr hx hk => ?_⟩
        have hb : 0 ≤ i ∧ i < l.length := by simpa using hb
        refine indexAddrA_ok (C := C) (x := .ro τ.sz l.length (τ.at l)) (ix := .int kk i) ?_ (plain_ok (v := .lst τ l) hx) hk
        unfold szOk at hsz
        split at hsz
        · rename_i e ht
          split at hsz
          · rename_i ti hti
            simp only [indexAddrA, ht, hti]
            rw [if_pos ⟨by simpa using hsz, hb⟩]
          · cases hsz
        · cases hsz
      · cases hi
    · cases hi
  · rename_i τ j kk i
    split at hi
    · rename_i bt ty l hh
      split at hi
      · rename_i hc
        obtain ⟨rfl, hsz⟩ := hc
        rcases cond_some hi with ⟨hb, hi⟩ | ⟨_, hi⟩
        · refine ⟨_, hi, fun R ρ w u k hr hx hk => ?_⟩
          have hb : 0 ≤ i ∧ i < l.length := by simpa using hb
          obtain ⟨b, N, hn, hB, hre⟩ := hr.live _ _ hh
          cases hk
          cases hx with
          | @orow _ _ b' N' cap hn' hg hl hc =>
            rw [hn] at hn'
            simp only [Option.some.injEq, Prod.mk.injEq] at hn'
            obtain ⟨rfl, rfl⟩ := hn'
            have hlen := hB.1
            unfold szOk at hsz
            split at hsz
            · rename_i e ht
              split at hsz
              · rename_i ti hti
                have hts : ti.size = ty.sz := by simpa using hsz
                refine ⟨.pointer (some ⟨b, i.toNat * ty.sz + 0, none⟩), ?_, .optr hn (by omega)⟩
                have hb2 : 0 ≤ i ∧ i < (N.len : Int) := by omega
                simp [Instr.indexAt, run_underlying ht, asIntOf, hb2, sizeOf_run hti, Addr.add_mid, hts]
              · cases hsz
            · cases hsz
          | @onil _ _ b' N' hn' hg =>
            rcases hre with ⟨h1, _⟩ | ⟨_, t2, ty2, h2⟩
            · rw [hn] at hn'
              simp only [Option.some.injEq, Prod.mk.injEq] at hn'
              obtain ⟨rfl, rfl⟩ := hn'
              rw [hg] at h1; cases h1
            · injection h2 with h3 h4 h5
              subst h4
              have h5 := eq_of_heq h5
              subst h5
              simp at hb; omega
        · cases hi
      · cases hi
    · cases hi
  · rename_i sz j off len kk i
    split at hi
    · rename_i e ht
      split at hi
      · rename_i ti hti
        split at hi
        · rename_i hsz
          obtain ⟨a, h1, h2, h3⟩ := ixChain_ok len 0 hi
          refine ⟨_, h3, fun R ρ w u k hr hx hk => ?_⟩
          refine indexAddrA_ok (C := C) (x := .own sz j off len) (ix := .int kk i) ?_ hx hk
          subst h2
          simp only [indexAddrA, ht, hti]
          rw [if_pos ⟨hsz, by omega, by omega⟩]
          simp
        · cases hi
      · cases hi
    · cases hi
  · split at hi
    · rename_i v hv
      exact ⟨v, hi, fun R ρ w u k hr hx hk => indexAddrA_ok hv hx hk⟩
    · cases hi
end
end Go.DI
set_option linter.unusedVariables false
set_option linter.unusedSimpArgs false
namespace Go.DI
section
variable {C : Cfg} {T : Tb} {w : World} {R : Nat → Prop} {ρ : Nm} {h : AH}
theorem row_at (hr : Rel R ρ h w) {i : Nat} {bt : TypeId} {t : Ty} {l : List t.El} {b : Nat} {N : BN} (hi : h[i]? = some (some (.row bt t l))) (hn : ρ i = some (b, N)) :
    N.len = l.length ∧ (N.gh = false → BRep w R ρ b N (.row bt t l) ∧ ¬ R b) ∧ (N.gh = true → l = []) := by
  obtain ⟨b', N', hn', hB, hre⟩ := hr.live _ _ hi
  rw [hn] at hn'
  simp only [Option.some.injEq, Prod.mk.injEq] at hn'
  obtain ⟨rfl, rfl⟩ := hn'
  refine ⟨hB.1, fun hg => ⟨hB, hre.notR hg⟩, fun hg => ?_⟩
  rcases hre with ⟨h1, _⟩ | ⟨_, t2, ty2, h2⟩
  · rw [hg] at h1; cases h1
  · injection h2 with h3 h4 h5
    subst h4
    exact eq_of_heq h5
def loadT (C : Cfg) (h : AH) (t : TypeId) (x : AV) : Option AV := match x with
  | .optr τ i j o => match h[i]? with
    | some (some (.row _ ty l)) => if ty = τ then partA C t (ty.at l j).cells o else none
    | _ => none
  | x => loadA C h t x
theorem loadT_ok (hr : Rel R ρ h w) {t : TypeId} {x av : AV} {v : Value} (hx : VRep w R ρ x v) (hl : loadT C h t x = some av) :
    ∃ u, (Instr.loadAt t v).run C.P w = .ok u w ∧ VRep w R ρ av u := by
  unfold loadT at hl
  split at hl
  · rename_i τ i j o
    split at hl
    · rename_i bt ty l hi
      split at hl
      · rename_i he
        subst he
        cases hx with
        | @optr _ _ _ _ b N hn hj =>
        obtain ⟨h1, h2, h3⟩ := row_at hr hi hn
        have hg : N.gh = false := by
          cases hg : N.gh with
          | false => rfl
          | true => have := h3 hg; subst this; simp at h1; omega
        obtain ⟨⟨_, hB⟩, hRb⟩ := h2 hg
        obtain ⟨arr, ha, hN, hlen, hc⟩ := hB hg
        have hjl : j < l.length := by omega
        refine load_at (b := b) (o0 := j * ty.sz) (off := o) (cs := (ty.at l j).cells) (us := (List.range ty.sz).map fun o => arr.getD (j * ty.sz + o) (.tuple #[])) ?_ ?_ hl
        · refine ⟨by simp [ty.at_len], fun k c u hk hu => ?_⟩
          have hkl : k < ty.sz := by rw [← ty.at_len l j]; exact (List.getElem?_eq_some_iff.1 hk).1
          obtain ⟨u', hu', hv⟩ := hc j k c hjl hk
          simp [List.getElem?_map, List.getElem?_range hkl, hu'] at hu
          subst hu; exact hv
        · intro k u hu
          have hkl : k < ty.sz := by have := (List.getElem?_eq_some_iff.1 hu).1; simpa using this
          have hkl2 : k < (ty.at l j).cells.length := by rw [ty.at_len]; exact hkl
          obtain ⟨u', hu', hv⟩ := hc j k _ hjl (List.getElem?_eq_getElem hkl2)
          simp [List.getElem?_map, List.getElem?_range hkl, hu'] at hu
          subst hu
          exact block_cells ha _ _ hu'
      · cases hl
    · cases hl
  · exact loadA_ok hr hx hl
def fieldAddrT (C : Cfg) (s : TypeId) (x : AV) (f : Nat) : Option AV := match x with
  | .optr τ i j o => match C.P.underlying s with
    | some (.struct fields) => match fields[f]? with
      | some fd => match C.P.info? fd.type with
        | some ti => if ti.size = 0 then none else some (.optr τ i j (o + fd.offset))
        | none => none
      | none => none
    | _ => none
  | x => fieldAddrA C s x f
theorem fieldAddrT_ok {s : TypeId} {x av : AV} {f : Nat} {u : Value} (hf : fieldAddrT C s x f = some av) (hx : VRep w R ρ x u) : ∃ r, (Instr.fieldAt s u f).run C.P w = .ok r w ∧ VRep w R ρ av r := by
  unfold fieldAddrT at hf
  split at hf
  · rename_i τ i j o
    split at hf
    · rename_i fields hs
      split at hf
      · rename_i fd hfd
        split at hf
        · rename_i ti hi
          split at hf
          · cases hf
          · rename_i hsz
            injection hf with hf; subst hf
            cases hx with
            | @optr _ _ _ _ b N hn hj =>
            refine ⟨.pointer (some ⟨b, j * τ.sz + (o + fd.offset), none⟩), ?_, .optr hn hj⟩
            simp [Instr.fieldAt, run_underlying hs, hfd, Instr.sureAddr, fieldPlace, sizeOf_run hi, hsz, Addr.add_mid, Nat.add_assoc]
        · cases hf
      · cases hf
    · cases hf
  · exact fieldAddrA_ok hf hx
def storeT (C : Cfg) (h : AH) (t : TypeId) (x v : AV) : Option AH := match x with
  | .optr τ i j o => match h[i]?, C.P.info? t with
    | some (some (.row bt ty l)), some ti =>
      if ty = τ ∧ v.known = true ∧ v.cells.all AV.one = true ∧ v.cells.length = ti.size ∧ o + v.cells.length ≤ τ.sz then
        (match ty.frzC h ((ty.at l j).cells.take o ++ v.cells ++ (ty.at l j).cells.drop (o + v.cells.length)) with
        | some (e, h1) => match h1[i]? with
          | some (some _) => some (h1.set i (some (.row bt ty (l.set j e))))
          | _ => none
        | none => none)
      else none
    | _, _ => none
  | x => storeA C h t x v
theorem frzL_sub {t : Ty} {h h' : AH} {v : AV} {l : List t.El} (hf : frzL t h v = some (l, h')) (i : Nat) (b : ABlk) (hi : h'[i]? = some (some b)) : h[i]? = some (some b) := by
  have kill : ∀ (k : Nat), (h.set k none)[i]? = some (some b) → h[i]? = some (some b) := by
    intro k hk
    rw [List.getElem?_set] at hk
    split at hk
    · split at hk <;> simp at hk
    · exact hk
  unfold frzL at hf
  split at hf
  · split at hf
    · simp only [Option.some.injEq, Prod.mk.injEq] at hf; rw [hf.2]; exact hi
    · cases hf
  · simp only [Option.some.injEq, Prod.mk.injEq] at hf; rw [hf.2]; exact hi
  · split at hf
    · split at hf
      · simp only [Option.some.injEq, Prod.mk.injEq] at hf; exact kill _ (hf.2 ▸ hi)
      · cases hf
    · cases hf
  · split at hf
    · split at hf
      · split at hf
        · simp only [Option.some.injEq, Prod.mk.injEq] at hf; exact kill _ (hf.2 ▸ hi)
        · cases hf
      · cases hf
    · split at hf
      · split at hf
        · simp only [Option.some.injEq, Prod.mk.injEq] at hf; exact kill _ (hf.2 ▸ hi)
        · cases hf
      · cases hf
    · cases hf
  · cases hf
theorem frzC_sub : ∀ (t : Ty) {h h' : AH} {cs : List AV} {x : t.El}, t.frzC h cs = some (x, h') → ∀ (i : Nat) (b : ABlk), h'[i]? = some (some b) → h[i]? = some (some b) := by
  have base : ∀ (t : Ty) {h h' : AH} {cs : List AV} {x : t.El}, (if t.ckC cs then some (t.decC cs, h) else none) = some (x, h') → ∀ (i : Nat) (b : ABlk), h'[i]? = some (some b) → h[i]? = some (some b) := by
    intro t h h' cs x hf i b hi
    split at hf
    · simp only [Option.some.injEq, Prod.mk.injEq] at hf; rw [hf.2]; exact hi
    · cases hf
  intro t
  induction t with
  | unit => intro h h' cs x hf; exact base .unit hf
  | int k => intro h h' cs x hf; exact base (.int k) hf
  | bool => intro h h' cs x hf; exact base .bool hf
  | str => intro h h' cs x hf; exact base .str hf
  | flt k => intro h h' cs x hf; exact base (.flt k) hf
  | list t ih =>
    intro h h' cs x hf i b hi
    simp only [Ty.frzC] at hf
    split at hf
    · exact frzL_sub hf i b hi
    · cases hf
  | wrap a ih => intro h h' cs x hf; exact ih hf
  | pair a b iha ihb =>
    intro h h' cs x hf i blk hi
    simp only [Ty.frzC] at hf
    split at hf
    · rename_i x1 h1 he1
      split at hf
      · rename_i y1 h2 he2
        simp only [Option.some.injEq, Prod.mk.injEq] at hf
        exact iha he1 i blk (ihb he2 i blk (hf.2 ▸ hi))
      · cases hf
    · cases hf
theorem storeT_ok (hr : Rel R ρ h w) {t : TypeId} {x y : AV} {h' : AH} {u v : Value} (hs : storeT C h t x y = some h') (hx : VRep w R ρ x u) (hy : VRep w R ρ y v) : PostU C R ρ h w (Instr.storeAt t u v) h' := by
  unfold storeT at hs
  split at hs
  · rename_i τ i j o
    split at hs
    · rename_i bt ty l ti hi hti
      split at hs
      · rename_i hcnd
        obtain ⟨he, hk, hone, hl, hle⟩ := hcnd
        subst he
        split at hs
        · rename_i e h1 hfz
          split at hs
          · rename_i blk1 hi1
            injection hs with hs
            subst hs
            have hi0 := frzC_sub ty hfz i blk1 hi1
            rw [hi] at hi0
            simp only [Option.some.injEq] at hi0
            subst hi0
            cases hx with
            | @optr _ _ _ _ b N hn hj =>
            obtain ⟨q1, q2, q3⟩ := row_at hr hi hn
            have hg : N.gh = false := by
              cases hg : N.gh with
              | false => rfl
              | true => have := q3 hg; subst this; simp at q1; omega
            obtain ⟨⟨_, hB⟩, hRb⟩ := q2 hg
            obtain ⟨arr, ha, hN, hlen, hc⟩ := hB hg
            have hjl : j < l.length := by omega
            have hseg : (j + 1) * ty.sz ≤ l.length * ty.sz := Nat.mul_le_mul_right _ hjl
            rw [Nat.add_mul, Nat.one_mul] at hseg
            have hal : arr.toList.length = N.n := by simpa using hN
            have hvc := known_cells hy hk
            have hvl : v.cells.size = y.cells.length := by have := hvc.1; simpa using this
            -- the element's cells, before and behind
            let seg := (arr.toList.drop (j * ty.sz)).take ty.sz
            have hsl : seg.length = ty.sz := by simp only [seg, List.length_take, List.length_drop]; omega
            have hsv : VReps w R ρ (ty.at l j).cells seg := by
              refine ⟨by rw [hsl, ty.at_len], fun k c u hk hu => ?_⟩
              obtain ⟨u', hu', hv⟩ := hc j k c hjl hk
              have hkl : k < ty.sz := by rw [← ty.at_len l j]; exact (List.getElem?_eq_some_iff.1 hk).1
              simp only [seg] at hu
              rw [List.getElem?_take, if_pos hkl, List.getElem?_drop] at hu
              have : arr.toList[j * ty.sz + k]? = some u' := by simpa using hu'
              rw [this] at hu
              simp at hu
              exact hu ▸ hv
            have hnew : VReps w R ρ ((ty.at l j).cells.take o ++ y.cells ++ (ty.at l j).cells.drop (o + y.cells.length)) (seg.take o ++ v.cells.toList ++ seg.drop (o + y.cells.length)) := ((hsv.take o).append hvc).append (hsv.drop _)
            obtain ⟨R1, r1, f1, v1⟩ := ty.frzC_ok hfz hr hnew
            have hb1 : ¬ R1 b := by
              obtain ⟨b', N', hn', _, hre⟩ := r1.live _ _ hi1
              rw [hn] at hn'
              simp only [Option.some.injEq, Prod.mk.injEq] at hn'
              obtain ⟨rfl, rfl⟩ := hn'
              exact hre.notR hg
            obtain ⟨arr', h5, h6⟩ := heap_setCells (b := b) v.cells.toList (j * ty.sz + o) w arr ha (by simp; omega)
            obtain ⟨s1, s2, s3, s4⟩ := setCells_size (b := b) v.cells.toList (j * ty.sz + o) w
            have hkeep : ∀ k, k ≠ b → (w.setCells b (j * ty.sz + o) v.cells.toList).heap[k]? = w.heap[k]? := fun k hk => setCells_keep _ _ _ k hk
            have hkR : ∀ k, R1 k → (w.setCells b (j * ty.sz + o) v.cells.toList).heap[k]? = w.heap[k]? := fun k hk => hkeep k (fun e => hb1 (e ▸ hk))
            have hvsl : v.cells.toList.length = y.cells.length := by simpa using hvl
            have hB2 : BRep (w.setCells b (j * ty.sz + o) v.cells.toList) R1 ρ b N (.row bt ty (l.set j e)) := by
              refine ⟨by rw [List.length_set]; exact q1, fun _ => ⟨arr', h5, ?_, by rw [List.length_set]; exact hlen, fun j' o' c hj' hco => ?_⟩⟩
              · rw [← Array.length_toList, h6]; simp; omega
              · rw [List.length_set] at hj'
                have ho' : o' < ty.sz := by rw [← ty.at_len (l.set j e) j']; exact (List.getElem?_eq_some_iff.1 hco).1
                have harr' : ∀ k, arr'[k]? = (arr.toList.take (j * ty.sz + o) ++ v.cells.toList ++ arr.toList.drop (j * ty.sz + o + v.cells.toList.length))[k]? := fun k => by rw [← h6, Array.getElem?_toList]
                by_cases hjj : j' = j
                · subst hjj
                  have hat : ty.at (l.set j' e) j' = ty.enc e := by
                    unfold Ty.at
                    rw [List.getD_eq_getElem?_getD, List.getElem?_set_self hj']; rfl
                  rw [hat] at hco
                  obtain ⟨u', hu', hv'⟩ := v1.get hco
                  refine ⟨u', ?_, hv'.mono hkR (fun _ h => h) (Nm.le_refl _)⟩
                  rw [harr', ← hu']
                  simp only [seg, List.getElem?_append, List.length_append, List.length_take, List.length_drop, List.getElem?_take, List.getElem?_drop, hvsl, hal]
                  have m1 : min (j' * ty.sz + o) N.n = j' * ty.sz + o := by omega
                  have m2 : min o (min ty.sz (N.n - j' * ty.sz)) = o := by omega
                  rw [m1, m2]
                  by_cases c1 : o' < o
                  · rw [if_pos (by omega), if_pos (by omega), if_pos (by omega), if_pos (by omega), if_pos (by omega), if_pos (by omega), if_pos (by omega)]
                  · by_cases c2 : o' < o + y.cells.length
                    · rw [if_pos (by omega), if_neg (by omega), if_pos (by omega), if_neg (by omega)]
                      congr 1; omega
                    · rw [if_neg (by omega), if_neg (by omega), if_pos (by omega)]
                      congr 1; omega
                · have hat : ty.at (l.set j e) j' = ty.at l j' := by
                    unfold Ty.at
                    rw [List.getD_eq_getElem?_getD, List.getD_eq_getElem?_getD, List.getElem?_set_ne (fun h => hjj h.symm)]
                  rw [hat] at hco
                  obtain ⟨u', hu', hv'⟩ := hc j' o' c hj' hco
                  refine ⟨u', ?_, (hv'.mono (w' := w.setCells b (j * ty.sz + o) v.cells.toList) (R' := R1) (ρ' := ρ) (fun k hk => hkR k (f1.ros k hk)) f1.ros (Nm.le_refl _))⟩
                  have hu2 : arr.toList[j' * ty.sz + o']? = some u' := by simpa using hu'
                  rw [harr', ← hu2]
                  have hout : j' * ty.sz + o' < j * ty.sz ∨ (j + 1) * ty.sz ≤ j' * ty.sz + o' := by
                    rcases Nat.lt_or_gt_of_ne hjj with h7 | h7
                    · left
                      have := Nat.mul_le_mul_right ty.sz (show j' + 1 ≤ j from h7)
                      rw [Nat.add_mul, Nat.one_mul] at this; omega
                    · right
                      have := Nat.mul_le_mul_right ty.sz (show j + 1 ≤ j' from h7)
                      omega
                  rw [Nat.add_mul, Nat.one_mul] at hout
                  simp only [List.getElem?_append, List.length_append, List.length_take, List.length_drop, List.getElem?_take, List.getElem?_drop, hvsl, hal]
                  have m1 : min (j * ty.sz + o) N.n = j * ty.sz + o := by omega
                  rw [m1]
                  rcases hout with h7 | h7
                  · rw [if_pos (by omega), if_pos (by omega), if_pos (by omega)]
                  · rw [if_neg (by omega)]
                    congr 1; omega
            obtain ⟨r2, f2⟩ := rel_upd r1 hi1 hn _ s2 s3 s4 s1 hkeep hB2 hg (Nat.le_of_eq (setCells_drawn _ _ _).symm)
            refine ⟨_, _, _, storeAt_run hti (block_there ha (j * ty.sz + o) _ (by omega)) (by omega) ?_, r2, f1.trans f2⟩
            intro z hz
            obtain ⟨k, hk1⟩ := List.getElem?_of_mem hz
            have hkl : k < y.cells.length := by have := (List.getElem?_eq_some_iff.1 hk1).1; simp at this; omega
            have h8 := List.getElem?_eq_getElem hkl
            exact (hvc.2 k _ _ h8 hk1).notAgg (by simpa using List.all_eq_true.1 hone _ (List.mem_of_getElem? h8))
          · cases hs
        · cases hs
      · cases hs
    · cases hs
  · exact storeA_ok hr hs hx hy
end
end Go.DI
set_option linter.unusedVariables false
set_option linter.unusedSimpArgs false
namespace Go.DI
section
variable {C : Cfg} {T : Tb} {w : World} {R : Nat → Prop} {ρ : Nm} {h : AH} {β : Type}
def bndT (lo hi : Option (Option AV)) (len : Nat) (K : Nat → Nat → Option β) : Option β :=
  match hi with
  | none => match lo with
    | none => K 0 len
    | some (some (.int _ l)) => bif decide (0 ≤ l ∧ l ≤ len) then K l.toNat len else none
    | _ => none
  | some (some (.int _ h)) => match lo with
    | none => bif decide (0 ≤ h ∧ h ≤ len) then K 0 h.toNat else none
    | some (some (.int _ l)) => bif decide (0 ≤ h ∧ h ≤ len ∧ 0 ≤ l ∧ l ≤ h) then K l.toNat h.toNat else none
    | _ => none
  | _ => none
theorem bndT_ok {lo hi : Option (Option AV)} {len : Nat} {K : Nat → Nat → Option β} {y : β} (hb : bndT lo hi len K = some y) : ∃ l h, bndA lo hi len = some (l, h) ∧ l ≤ h ∧ h ≤ len ∧ K l h = some y := by
  unfold bndT at hb
  split at hb
  · split at hb
    · exact ⟨_, _, rfl, by omega, by omega, hb⟩
    · rename_i k l
      rcases cond_some hb with ⟨h1, h2⟩ | ⟨_, h2⟩
      · have h1 : 0 ≤ l ∧ l ≤ len := by simpa using h1
        exact ⟨_, _, by simp only [bndA]; rw [if_pos h1], by omega, by omega, h2⟩
      · cases h2
    · cases hb
  · rename_i k h
    split at hb
    · rcases cond_some hb with ⟨h1, h2⟩ | ⟨_, h2⟩
      · have h1 : 0 ≤ h ∧ h ≤ len := by simpa using h1
        exact ⟨_, _, by simp only [bndA]; rw [if_pos h1], by omega, by omega, h2⟩
      · cases h2
    · rename_i k2 l
      rcases cond_some hb with ⟨h1, h2⟩ | ⟨_, h2⟩
      · have h1 : 0 ≤ h ∧ h ≤ len ∧ 0 ≤ l ∧ l ≤ h := by simpa using h1
        exact ⟨_, _, by simp only [bndA]; rw [if_pos ⟨h1.1, h1.2.1⟩, if_pos ⟨h1.2.2.1, h1.2.2.2⟩], by omega, by omega, h2⟩
      · cases h2
    · cases hb
  · cases hb
theorem VRep.ro_congr {sz n : Nat} {f g : Nat → AV} {v : Value} (hfg : ∀ j, j < n → f j = g j) (hv : VRep w R ρ (.ro sz n f) v) : VRep w R ρ (.ro sz n g) v := by
  cases hv with
  | ronil _ _ a cap => exact .ronil _ _ a cap
  | @ro _ _ _ b off0 cap u hR hl hsz hc h5 =>
    exact .ro u hR hl (fun j hj => by rw [← hfg j hj]; exact hsz j hj) (fun j o c hj hco => hc j o c hj (by rw [hfg j hj]; exact hco)) (fun j o c hj hco => h5 j o c hj (by rw [hfg j hj]; exact hco))
def isIntTy : Ty → Bool
  | .int _ => true
  | _ => false
theorem bndA_hi {lo : Option (Option AV)} {len l h : Nat} (hb : bndA lo none len = some (l, h)) : h = len := by
  simp only [bndA] at hb
  split at hb
  · simp only [Option.some.injEq, Prod.mk.injEq] at hb; exact hb.2.symm
  · split at hb
    · simp only [Option.some.injEq, Prod.mk.injEq] at hb; exact hb.2.symm
    · cases hb
  · cases hb
theorem bndA_lo {hi : Option (Option AV)} {len l h : Nat} (hb : bndA none hi len = some (l, h)) : l = 0 := by
  unfold bndA at hb
  split at hb
  · simp only [Option.some.injEq, Prod.mk.injEq] at hb; exact hb.1.symm
  · split at hb
    · simp only [Option.some.injEq, Prod.mk.injEq] at hb; exact hb.1.symm
    · cases hb
  · cases hb
def sliceT (C : Cfg) (h : AH) (t : TypeId) (x : AV) (lo hi : Option (Option AV)) (K : AV → Option β) : Option β := match x with
  | .str s => match C.P.underlying t with
    | some .string => bndT lo hi s.length fun l h => K (.str ((s.drop l).take (h - l)))
    | _ => none
  | .lst τ s => if szOk C t τ then bndT lo hi s.length fun l h => K (.lst τ ((s.drop l).take (h - l))) else none
  | .orow τ i => match h[i]? with
    | some (some (.row _ ty s)) => if ty = τ ∧ szOk C t τ then bif isIntTy τ then (match lo, hi with
      | some _, none => bndT lo hi s.length fun l h => bif Nat.blt l s.length then K (.own τ.sz i (l * τ.sz) (h - l)) else K .any
      | none, some _ => bndT lo hi s.length fun l h => bif Nat.blt 0 s.length then K (.own τ.sz i 0 h) else K .any
      | _, _ => bndT lo hi s.length fun _ _ => K .any) else (bndT lo hi s.length fun _ _ => K .any) else none
    | _ => none
  | x => match sliceA C t x lo hi with
    | some v => K v
    | none => none
theorem sliceT_ok {t : TypeId} {x : AV} {lo hi : Option (Option AV)} {K : AV → Option β} {y : β} (hs : sliceT C h t x lo hi K = some y) :
    ∃ av, K av = some y ∧ ∀ (w : World) (R : Nat → Prop) (ρ : Nm) (u : Value) (vlo vhi : Option Value), Rel R ρ h w → VRep w R ρ x u →
      (∀ a, lo = some (some a) → ∃ v, vlo = some v ∧ VRep w R ρ a v) → (∀ a, hi = some (some a) → ∃ v, vhi = some v ∧ VRep w R ρ a v) → (lo = none → vlo = none) → (hi = none → vhi = none) →
      ∃ r, (Instr.sliceAt t u vlo vhi none).run C.P w = .ok r w ∧ VRep w R ρ av r := by
  unfold sliceT at hs
  split at hs
  · rename_i s
    split at hs
    · rename_i ht
      obtain ⟨l, h, hb, _, _, hK⟩ := bndT_ok hs
      exact ⟨_, hK, fun w R ρ u vlo vhi _ hx h1 h2 h3 h4 => sliceA_ok (by simp only [sliceA, ht, hb]) hx h1 h2 h3 h4⟩
    · cases hs
  · rename_i τ s
    split at hs
    · rename_i hsz
      obtain ⟨l, h, hb, hlh, hhn, hK⟩ := bndT_ok hs
      refine ⟨_, hK, fun w R ρ u vlo vhi _ hx h1 h2 h3 h4 => ?_⟩
      unfold szOk at hsz
      split at hsz
      · rename_i e ht
        split at hsz
        · rename_i ti hti
          have hz : ti.size = τ.sz := by simpa using hsz
          obtain ⟨r, hr, hv⟩ := sliceA_ok (C := C) (t := t) (lo := lo) (hi := hi) (x := .ro τ.sz s.length (τ.at s)) (av := .ro τ.sz (h - l) (fun j => τ.at s (l + j))) (by simp only [sliceA, ht, hti, hz, if_true, hb]) (plain_ok (v := .lst τ s) hx) h1 h2 h3 h4
          refine ⟨r, hr, .lst ?_⟩
          have hlen : ((s.drop l).take (h - l)).length = h - l := by rw [List.length_take, List.length_drop]; omega
          rw [hlen]
          refine hv.ro_congr fun j hj => ?_
          unfold Ty.at
          rw [List.getD_eq_getElem?_getD, List.getD_eq_getElem?_getD, List.getElem?_take, if_pos hj, List.getElem?_drop]
        · cases hsz
      · cases hsz
    · cases hs
  · rename_i τ i
    split at hs
    · rename_i bt ty s hi0
      split at hs
      · rename_i hsz
        obtain ⟨rfl, hsz⟩ := hsz
        have gen : ∀ (l hh : Nat) (av0 : AV), bndA lo hi s.length = some (l, hh) → (av0 = .any ∨ (av0 = .own ty.sz i (l * ty.sz) (hh - l) ∧ s ≠ [] ∧ ¬ (l = hh ∧ l ≠ 0))) →
            ∀ (w : World) (R : Nat → Prop) (ρ : Nm) (u : Value) (vlo vhi : Option Value), Rel R ρ h w → VRep w R ρ (.orow ty i) u →
              (∀ a, lo = some (some a) → ∃ v, vlo = some v ∧ VRep w R ρ a v) → (∀ a, hi = some (some a) → ∃ v, vhi = some v ∧ VRep w R ρ a v) → (lo = none → vlo = none) → (hi = none → vhi = none) →
              ∃ r, (Instr.sliceAt t u vlo vhi none).run C.P w = .ok r w ∧ VRep w R ρ av0 r := by
          intro l hh av0 hb hav0 w R ρ u vlo vhi hr hx h1 h2 h3 h4
          unfold szOk at hsz
          split at hsz
          · rename_i e ht
            split at hsz
            · rename_i ti hti
              have hz : ti.size = ty.sz := by simpa using hsz
              cases hx with
              | @orow _ _ b N cap hn hg hlc hc =>
                obtain ⟨q1, _, _⟩ := row_at hr hi0 hn
                have hx2 : VRep w R ρ (.own ty.sz i 0 s.length) (.slice (some ⟨b, 0, none⟩) N.len cap) := by
                  rw [q1]; exact .own hn (by omega) (by omega)
                rcases hav0 with rfl | ⟨rfl, _, hne⟩
                · have : ∃ av, sliceA C t (.own ty.sz i 0 s.length) lo hi = some av := by
                    simp only [sliceA, ht, hti, hz, if_true, hb]
                    split <;> exact ⟨_, rfl⟩
                  obtain ⟨av, hav⟩ := this
                  obtain ⟨r, k1, k2⟩ := sliceA_ok hav hx2 h1 h2 h3 h4
                  exact ⟨r, k1, .any r⟩
                · have hav : sliceA C t (.own ty.sz i 0 s.length) lo hi = some (.own ty.sz i (0 + l * ty.sz) (hh - l)) := by
                    simp only [sliceA, ht, hti, hz, if_true, hb]
                    rw [if_neg hne]
                  rw [Nat.zero_add] at hav
                  exact sliceA_ok hav hx2 h1 h2 h3 h4
              | @onil _ _ b N hn hg =>
                obtain ⟨_, _, q3⟩ := row_at hr hi0 hn
                have hs0 := q3 hg
                rcases hav0 with rfl | ⟨_, hne, _⟩
                · subst hs0
                  have : ∃ av, sliceA C t .nils lo hi = some av := by
                    simp only [List.length_nil] at hb
                    simp only [sliceA, ht, hti, hb]
                    exact ⟨_, rfl⟩
                  obtain ⟨av, hav⟩ := this
                  obtain ⟨r, k1, k2⟩ := sliceA_ok hav .nils h1 h2 h3 h4
                  exact ⟨r, k1, .any r⟩
                · exact absurd hs0 hne
            · cases hsz
          · cases hsz
        have nempty : ∀ {k : Nat}, k < s.length → s ≠ [] := fun hk e => by rw [e] at hk; simp at hk
        cases hty : isIntTy ty with
        | false =>
          rw [hty] at hs
          simp only [cond_false] at hs
          obtain ⟨l, hh, hb, hlh, hhn, hK⟩ := bndT_ok hs
          exact ⟨_, hK, gen l hh _ hb (.inl rfl)⟩
        | true =>
        rw [hty] at hs
        simp only [cond_true] at hs
        split at hs
        · obtain ⟨l, hh, hb, hlh, hhn, hK⟩ := bndT_ok hs
          cases hc : Nat.blt l s.length with
          | false =>
            rw [hc] at hK
            exact ⟨_, hK, gen l hh _ hb (.inl rfl)⟩
          | true =>
            rw [hc] at hK
            have hlt : l < s.length := Nat.blt_eq ▸ hc
            refine ⟨_, hK, gen l hh _ hb (.inr ⟨rfl, nempty hlt, fun e => ?_⟩)⟩
            have := bndA_hi hb
            omega
        · obtain ⟨l, hh, hb, hlh, hhn, hK⟩ := bndT_ok hs
          have hl0 := bndA_lo hb
          subst hl0
          cases hc : Nat.blt 0 s.length with
          | false =>
            rw [hc] at hK
            exact ⟨_, hK, gen 0 hh _ hb (.inl rfl)⟩
          | true =>
            rw [hc] at hK
            have hlt : 0 < s.length := Nat.blt_eq ▸ hc
            have := gen 0 hh (.own ty.sz i (0 * ty.sz) (hh - 0)) hb (.inr ⟨rfl, nempty hlt, fun e => e.2 rfl⟩)
            rw [Nat.zero_mul, Nat.sub_zero] at this
            exact ⟨_, hK, this⟩
        · obtain ⟨l, hh, hb, hlh, hhn, hK⟩ := bndT_ok hs
          exact ⟨_, hK, gen l hh _ hb (.inl rfl)⟩
      · cases hs
    · cases hs
  · split at hs
    · rename_i v hv
      exact ⟨v, hs, fun w R ρ u vlo vhi _ hx h1 h2 h3 h4 => sliceA_ok hv hx h1 h2 h3 h4⟩
    · cases hs
def binT (C : Cfg) (op : BinOp) (t : TypeId) (x y : AV) (K : AV → Option β) : Option β := match op, x, y with
  | .shl, .int k a, .int _ b => bif decide (b < 0) then none else K (.int k (k.wrap (a * 2 ^ (min b.toNat k.bits))))
  | .shr, .int k a, .int _ b => bif decide (b < 0) then none else K (.int k (a.fdiv (2 ^ (min b.toNat k.bits))))
  | .quo, .int k a, .int k' b => if k = k' then (bif decide (b = 0) then none else K (.int k (k.wrap (a.tdiv b)))) else none
  | .rem, .int k a, .int k' b => if k = k' then (bif decide (b = 0) then none else K (.int k (a.tmod b))) else none
  | .add, .flt k a, .flt k' b => if k = k' then (bif fOk .add k a b then K (.flt k (fVal .add k a b)) else none) else none
  | .sub, .flt k a, .flt k' b => if k = k' then (bif fOk .sub k a b then K (.flt k (fVal .sub k a b)) else none) else none
  | .mul, .flt k a, .flt k' b => if k = k' then (bif fOk .mul k a b then K (.flt k (fVal .mul k a b)) else none) else none
  | .quo, .flt k a, .flt k' b => if k = k' then (bif fOk .quo k a b then K (.flt k (fVal .quo k a b)) else none) else none
  | .add, .str a, .str b => bif decide (a.length + b.length ≤ 4611686018427387904) then K (.str (a ++ b)) else none
  | op, x, y => match binA C op t x y with
    | some v => K v
    | none => none
theorem binT_ok {op : BinOp} {t : TypeId} {x y : AV} {K : AV → Option β} {z : β} (hb : binT C op t x y K = some z) : ∃ v, binA C op t x y = some v ∧ K v = some z := by
  unfold binT at hb
  split at hb
  · rename_i k a k2 b
    rcases cond_some hb with ⟨_, h2⟩ | ⟨h1, h2⟩
    · cases h2
    · have h1 : ¬ b < 0 := by simpa using h1
      exact ⟨_, by simp only [binA]; rw [if_neg h1], h2⟩
  · rename_i k a k2 b
    rcases cond_some hb with ⟨_, h2⟩ | ⟨h1, h2⟩
    · cases h2
    · have h1 : ¬ b < 0 := by simpa using h1
      exact ⟨_, by simp only [binA]; rw [if_neg h1], h2⟩
  · rename_i k a k2 b
    split at hb
    · rename_i hk
      rcases cond_some hb with ⟨_, h2⟩ | ⟨h1, h2⟩
      · cases h2
      · have h1 : ¬ b = 0 := by simpa using h1
        exact ⟨_, by simp only [binA, intBin]; rw [if_pos hk, if_neg h1], h2⟩
    · cases hb
  · rename_i k a k2 b
    split at hb
    · rename_i hk
      rcases cond_some hb with ⟨_, h2⟩ | ⟨h1, h2⟩
      · cases h2
      · have h1 : ¬ b = 0 := by simpa using h1
        exact ⟨_, by simp only [binA, intBin]; rw [if_pos hk, if_neg h1], h2⟩
    · cases hb
  · rename_i k a k2 b
    split at hb
    · rename_i hk
      rcases cond_some hb with ⟨h1, h2⟩ | ⟨h1, h2⟩
      · exact ⟨_, by simp only [binA, fltBin]; rw [if_pos hk, h1]; rfl, h2⟩
      · cases h2
    · cases hb
  · rename_i k a k2 b
    split at hb
    · rename_i hk
      rcases cond_some hb with ⟨h1, h2⟩ | ⟨h1, h2⟩
      · exact ⟨_, by simp only [binA, fltBin]; rw [if_pos hk, h1]; rfl, h2⟩
      · cases h2
    · cases hb
  · rename_i k a k2 b
    split at hb
    · rename_i hk
      rcases cond_some hb with ⟨h1, h2⟩ | ⟨h1, h2⟩
      · exact ⟨_, by simp only [binA, fltBin]; rw [if_pos hk, h1]; rfl, h2⟩
      · cases h2
    · cases hb
  · rename_i k a k2 b
    split at hb
    · rename_i hk
      rcases cond_some hb with ⟨h1, h2⟩ | ⟨h1, h2⟩
      · exact ⟨_, by simp only [binA, fltBin]; rw [if_pos hk, h1]; rfl, h2⟩
      · cases h2
    · cases hb
  · rename_i a b
    rcases cond_some hb with ⟨h1, h2⟩ | ⟨_, h2⟩
    · have h1 : a.length + b.length ≤ 4611686018427387904 := by simpa using h1
      exact ⟨_, by simp only [binA]; rw [if_pos h1], h2⟩
    · cases h2
  · split at hb
    · rename_i v hv; exact ⟨v, hv, hb⟩
    · cases hb
def lenT (C : Cfg) (h : AH) (t : TypeId) (x : AV) : Option AV := match x with
  | .lst _ l => match C.P.underlying t with
    | some (.slice _) => some (.int .i64 l.length)
    | _ => none
  | .orow _ i => match C.P.underlying t, h[i]? with
    | some (.slice _), some (some (.row _ _ l)) => some (.int .i64 l.length)
    | _, _ => none
  | .map i => match C.P.underlying t, h[i]? with
    | some (.map _ _), some (some (.tmap _ _ m)) => some (.int .i64 m.length)
    | _, _ => lenA C h t (.map i)
  | x => lenA C h t x
theorem lenT_ok (hr : Rel R ρ h w) {t ty : TypeId} {ts : Array TypeId} {x av : AV} {u : Value} (hl : lenT C h t x = some av) (hx : VRep w R ρ x u) (hts : ts[0]? = some t) (us : Array Value) (hus : us[0]? = some u) :
    ∃ r, (Builtin.len_ ts ty us).run C.P w = .ok r w ∧ VRep w R ρ av r := by
  unfold lenT at hl
  split at hl
  · rename_i τ l
    split at hl
    · rename_i e ht
      exact lenA_ok hr (x := .ro τ.sz l.length (τ.at l)) (by simp only [lenA, ht]; exact hl) (plain_ok hx) hts us hus
    · cases hl
  · rename_i τ i
    split at hl
    · rename_i e bt ty l ht hi
      injection hl with hl; subst hl
      cases hx with
      | @orow _ _ b N cap hn hg hlc hc =>
        obtain ⟨h1, _, _⟩ := row_at hr hi hn
        rw [← h1]
        exact ⟨_, by simp [Builtin.len_, hts, hus, run_underlying ht, goInt], .int _ _⟩
      | @onil _ _ b N hn hg =>
        obtain ⟨_, _, h3⟩ := row_at hr hi hn
        rw [h3 hg]
        exact ⟨_, by simp [Builtin.len_, hts, hus, run_underlying ht, goInt], .int _ _⟩
    · cases hl
  · rename_i i
    split at hl
    · rename_i kt0 vt0 kt vt m ht hi
      injection hl with hl; subst hl
      cases hx with
      | @map _ b N hn =>
      obtain ⟨b', N', hn', ⟨arr, clock, hb, h1, h2⟩, _⟩ := hr.live _ _ hi
      rw [hn] at hn'
      simp only [Option.some.injEq, Prod.mk.injEq] at hn'
      obtain ⟨rfl, rfl⟩ := hn'
      have hm : arr.size = m.length := by have := h1.1; simpa using this
      rw [← hm]
      exact ⟨_, by simp [Builtin.len_, hts, hus, run_underlying ht, goInt, getObj, Sem.run, hb], .int _ _⟩
    · exact lenA_ok hr hl hx hts us hus
  · exact lenA_ok hr hl hx hts us hus
def indexT (C : Cfg) (t : TypeId) (x ix : AV) (K : AV → Option β) : Option β := match x, ix with
  | .str s, .int _ i => match C.P.underlying t with
    | some .string => bif decide (0 ≤ i ∧ i < s.length) then K (.int .u8 (s.getD i.toNat 0).toNat) else none
    | _ => none
  | x, ix => match indexA C t x ix with
    | some v => K v
    | none => none
theorem indexT_ok {t : TypeId} {x ix : AV} {K : AV → Option β} {y : β} (hi : indexT C t x ix K = some y) : ∃ v, indexA C t x ix = some v ∧ K v = some y := by
  unfold indexT at hi
  split at hi
  · rename_i s k i
    split at hi
    · rename_i ht
      rcases cond_some hi with ⟨h1, h2⟩ | ⟨_, h2⟩
      · have h1 : 0 ≤ i ∧ i < s.length := by simpa using h1
        have hlt : i.toNat < s.length := by omega
        refine ⟨_, ?_, h2⟩
        simp only [indexA, ht]
        rw [if_pos h1.1, List.getElem?_eq_getElem hlt, List.getD_eq_getElem?_getD, List.getElem?_eq_getElem hlt]
        rfl
      · cases h2
    · cases hi
  · split at hi
    · rename_i v hv; exact ⟨v, hv, hi⟩
    · cases hi
end
end Go.DI
set_option linter.unusedVariables false
set_option linter.unusedSimpArgs false
namespace Go.DI
section
variable {C : Cfg} {T : Tb} {w : World} {R : Nat → Prop} {ρ : Nm} {h : AH} {β : Type}
theorem Ty.flat_rows (t : Ty) (l : List t.El) : ((List.range l.length).map (t.at l)).flatMap AV.cells = t.flat l := by
  induction l with
  | nil => rfl
  | cons x l ih =>
    rw [List.length_cons, List.range_succ_eq_map, List.map_cons, List.flatMap_cons, List.map_map, t.flat_cons, ← ih]
    rfl
theorem Ty.flat_one (t : Ty) (l : List t.El) : (t.flat l).all AV.one = true := by
  induction l with
  | nil => rfl
  | cons x l ih => rw [t.flat_cons, List.all_append, t.enc_cells_one, ih]; rfl
theorem newsA_lst {h : AH} (t : Ty) (l : List t.El) : newsA h t.sz (.ro t.sz l.length (t.at l)) = some (t.flat l, l.length) := by
  cases hl : l.length with
  | zero =>
    have : l = [] := List.eq_nil_of_length_eq_zero hl
    subst this; rfl
  | succ n =>
    simp only [newsA, if_true]
    rw [← hl, t.flat_rows]
theorem rel_pad (hr : Rel R ρ h w) : Rel R ρ (h ++ [none]) w ∧ Frm R ρ h w R ρ (h ++ [none]) w := by
  have hsub : ∀ (j : Nat) (blk : ABlk), (h ++ [none])[j]? = some (some blk) → h[j]? = some (some blk) := by
    intro j blk hj
    rw [List.getElem?_append] at hj
    split at hj
    · exact hj
    · rename_i hge
      cases hk : j - h.length with
      | zero => rw [hk] at hj; simp at hj
      | succ n => rw [hk] at hj; simp at hj
  refine ⟨⟨fun j blk hj => hr.live j blk (hsub j blk hj), fun j k bj bk c Nj Nk hj hk => hr.inj j k bj bk c Nj Nk (hsub _ _ hj) (hsub _ _ hk), fun j hj => hr.dom j (by simp at hj; omega), hr.ro⟩,
    ⟨rfl, rfl, rfl, Nat.le_refl _, Nm.le_refl _, fun _ h => h, fun _ _ _ => rfl, fun c hl => ?_, fun _ h => .inl h, by simp, fun _ _ h => h, (by first | exact Nat.le_refl _ | exact Nat.le_succ _)⟩⟩
  obtain ⟨j, blk, N, hj, hn, hg⟩ := hl
  exact .inl ⟨j, blk, N, hsub j blk hj, hn, hg⟩
theorem retype_end {s : Sem Value} {hh : AH} {e : TypeId} {τ : Ty} {l : List τ.El} (hp : Post C R ρ h w s (.own τ.sz hh.length 0 l.length) (hh ++ [some (.cells e (τ.flat l))])) :
    Post C R ρ h w s (.orow τ (hh.length + 1)) (hh ++ [none, some (.row e τ l)]) := by
  obtain ⟨R', ρ', u, w', h1, h2, h3, h4⟩ := hp
  have hi : (hh ++ [some (ABlk.cells e (τ.flat l))])[hh.length]? = some (some (.cells e (τ.flat l))) := by simp
  cases h2 with
  | @own _ _ _ _ b N cap hn hlc hc =>
  obtain ⟨b', N', hn', hb, hre⟩ := h3.live _ _ hi
  rw [hn] at hn'
  simp only [Option.some.injEq, Prod.mk.injEq] at hn'
  obtain ⟨rfl, rfl⟩ := hn'
  obtain ⟨hg, hRb⟩ := hre.cells
  have hb2 : BRep w' R' ρ' b ⟨N.n, l.length, false⟩ (.row e τ l) := cells_row (by
    obtain ⟨arr, k1, k2, k3, k4⟩ := hb
    exact ⟨arr, k1, k2, k3, k4⟩) rfl
  obtain ⟨r1, f1⟩ := rel_rename (N' := ⟨N.n, l.length, false⟩) h3 hi hn hg rfl hb2
  have e1 : (hh ++ [some (ABlk.cells e (τ.flat l))]).set hh.length none ++ [some (.row e τ l)] = hh ++ [none, some (.row e τ l)] := by
    simp
  have e2 : (hh ++ [some (ABlk.cells e (τ.flat l))]).length = hh.length + 1 := by simp
  rw [e1, e2] at r1 f1
  refine ⟨R', _, _, w', h1, .orow (N := ⟨N.n, l.length, false⟩) (Nm.upd_self _ _ _) rfl hlc (by simp only []; omega), r1, h4.trans f1⟩
theorem append_nil (hr : Rel R ρ h w) {t tx tty e ee : TypeId} {τ : Ty} {ti : TypeInfo} {l : List τ.El} {u2 : Value} (ht : C.P.underlying t = some (.slice e)) (htx : C.P.underlying tx = some (.slice ee)) (hti : C.P.info? e = some ti)
    (hsz : ti.size = τ.sz) (hz : (ti.zero.map fun z => z.cells.size) = some ti.size) (hb1 : 1 ≤ ti.bytes) (hle : l.length * ti.bytes ≤ 70368744177664) (hv : VRep w R ρ (.lst τ l) u2) :
    Post C R ρ h w (Builtin.append_ #[t, tx] tty #[.slice none 0 0, u2]) (.orow τ (h.length + 1)) (h ++ [none, some (.row e τ l)]) := by
  have hlb : l.length ≤ l.length * ti.bytes := Nat.le_mul_of_pos_right _ hb1
  have hA : appendA C h t tx .nils (.ro τ.sz l.length (τ.at l)) = if l.length = 0 then some (.nils, h) else some (.own ti.size h.length 0 l.length, h ++ [some (.cells e (τ.flat l))]) := by
    have e1 : ti.size = τ.sz := hsz
    simp only [appendA, ht, htx, hti]
    rw [if_pos ⟨rfl, hz⟩, e1, newsA_lst τ l]
    simp only [τ.flat_one l, if_true]
    by_cases h0 : l.length = 0
    · rw [if_pos h0, if_pos h0]
    · rw [if_neg h0, if_neg h0, if_pos ⟨hle, by omega⟩]
  by_cases h0 : l.length = 0
  · rw [if_pos h0] at hA
    obtain ⟨R', ρ', u, w', h1, h2, h3, h4⟩ := appendA_ok (ty := tty) hr hA .nils (plain_ok (v := .lst τ l) hv)
    cases h2
    obtain ⟨r1, f1⟩ := rel_pad h3
    obtain ⟨r2, f2, v2⟩ := rel_ghost r1 e τ
    have : l = [] := List.eq_nil_of_length_eq_zero h0
    subst this
    refine ⟨R', _, _, w', h1, by simpa using v2, by simpa using r2, ?_⟩
    have := (h4.trans f1).trans f2
    simpa using this
  · rw [if_neg h0, hsz] at hA
    exact retype_end (appendA_ok (ty := tty) hr hA .nils (plain_ok (v := .lst τ l) hv))
theorem append_row (hr : Rel R ρ h w) {t tx tty e ee : TypeId} {τ : Ty} {ti : TypeInfo} {l m : List τ.El} {i : Nat} {τ' : Ty} {u u2 : Value} (ht : C.P.underlying t = some (.slice e)) (htx : C.P.underlying tx = some (.slice ee)) (hti : C.P.info? e = some ti)
    (hsz : ti.size = τ.sz) (hz : (ti.zero.map fun z => z.cells.size) = some ti.size) (hb1 : 1 ≤ ti.bytes) (hle : (l.length + m.length) * ti.bytes ≤ 70368744177664) (hi : h[i]? = some (some (.row e τ l))) (hs' : τ'.sz = τ.sz)
    (hx : VRep w R ρ (.orow τ' i) u) (hv : VRep w R ρ (.lst τ m) u2) :
    Post C R ρ h w (Builtin.append_ #[t, tx] tty #[u, u2]) (.orow τ (h.length + 1)) (h.set i none ++ [none, some (.row e τ (l ++ m))]) := by
  cases hx with
  | @orow _ _ b N cap hn hg hlc hc =>
    obtain ⟨q1, q2, _⟩ := row_at hr hi hn
    obtain ⟨hB, hRb⟩ := q2 hg
    have hil : i < h.length := (List.getElem?_eq_some_iff.1 hi).1
    obtain ⟨r1, f1⟩ := rel_retell hr hi hn hg (row_cells hB hg)
    have hlb : l.length + m.length ≤ (l.length + m.length) * ti.bytes := Nat.le_mul_of_pos_right _ hb1
    have hA : appendA C (h.set i (some (.cells e (τ.flat l)))) t tx (.own τ.sz i 0 l.length) (.ro τ.sz m.length (τ.at m)) =
        some (.own τ.sz (h.set i none).length 0 (l ++ m).length, h.set i none ++ [some (.cells e (τ.flat (l ++ m)))]) := by
      simp only [appendA, ht, htx, hti]
      rw [if_pos ⟨rfl, hz⟩, hsz, newsA_lst τ m]
      simp only [τ.flat_one m, if_true]
      have : (h.set i (some (ABlk.cells e (τ.flat l))))[i]? = some (some (.cells e (τ.flat l))) := by
        rw [List.getElem?_set_self hil]
      simp only [this]
      rw [if_pos ⟨trivial, trivial, (τ.flat_len l).symm, hle, by omega⟩]
      simp [τ.flat_append]
    have hx2 : VRep w R ρ (.own τ.sz i 0 l.length) (.slice (some ⟨b, 0, none⟩) N.len cap) := by
      rw [q1]; exact .own hn (by omega) (by rw [hs'] at hc; omega)
    obtain ⟨R', ρ', u', w', h1, h2, h3, h4⟩ := retype_end (appendA_ok (ty := tty) r1 hA hx2 (plain_ok (v := .lst τ m) hv))
    exact ⟨R', ρ', u', w', h1, by simpa using h2, h3, f1.trans h4⟩
  | @onil _ _ b N hn hg =>
    obtain ⟨q1, _, q3⟩ := row_at hr hi hn
    have := q3 hg
    subst this
    obtain ⟨r1, f1⟩ := rel_kill hr i
    obtain ⟨R', ρ', u', w', h1, h2, h3, h4⟩ := append_nil (tty := tty) r1 ht htx hti hsz hz hb1 (by simpa using hle) (hv.frm f1 hr)
    exact ⟨R', ρ', u', w', h1, by simpa using h2, by simpa using h3, f1.trans (by simpa using h4)⟩
def bytesI (s : List UInt8) : List (Ty.int .u8).El := s.map fun b => ((b.toNat : Nat) : Int)
theorem bytesI_flat : ∀ (s : List UInt8), (Ty.int .u8).flat (bytesI s) = s.map fun b => AV.int .u8 b.toNat
  | [] => rfl
  | b :: s => by
    have h := bytesI_flat s
    show AV.int .u8 b.toNat :: (Ty.int .u8).flat (bytesI s) = _
    rw [h]; rfl
theorem bytesI_len (s : List UInt8) : (bytesI s).length = s.length := List.length_map ..
theorem one_all (s : List UInt8) : ((s.map fun b => AV.int .u8 b.toNat).all AV.one) = true := by
  rw [← bytesI_flat]; exact (Ty.int .u8).flat_one _
theorem append_nilS (hr : Rel R ρ h w) {t tx tty e : TypeId} {ti : TypeInfo} {s : List UInt8} {u2 : Value} (ht : C.P.underlying t = some (.slice e)) (htx : C.P.underlying tx = some .string) (hti : C.P.info? e = some ti)
    (hsz : ti.size = 1) (hz : (ti.zero.map fun z => z.cells.size) = some ti.size) (hb1 : 1 ≤ ti.bytes) (hle : s.length * ti.bytes ≤ 70368744177664) (hv : VRep w R ρ (.str s) u2) :
    Post C R ρ h w (Builtin.append_ #[t, tx] tty #[.slice none 0 0, u2]) (.orow (.int .u8) (h.length + 1)) (h ++ [none, some (.row e (.int .u8) (bytesI s))]) := by
  have hlb : s.length ≤ s.length * ti.bytes := Nat.le_mul_of_pos_right _ hb1
  have hA : appendA C h t tx .nils (.str s) = if s.length = 0 then some (.nils, h) else some (.own ti.size h.length 0 s.length, h ++ [some (.cells e ((Ty.int .u8).flat (bytesI s)))]) := by
    simp only [appendA, ht, htx, hti]
    rw [if_pos ⟨rfl, hz⟩, hsz]
    simp only [newsA, if_true, one_all, bytesI_flat]
    by_cases h0 : s.length = 0
    · rw [if_pos h0, if_pos h0]
    · rw [if_neg h0, if_neg h0, if_pos ⟨hle, by omega⟩]
  by_cases h0 : s.length = 0
  · rw [if_pos h0] at hA
    obtain ⟨R', ρ', u, w', h1, h2, h3, h4⟩ := appendA_ok (ty := tty) hr hA .nils hv
    cases h2
    obtain ⟨r1, f1⟩ := rel_pad h3
    obtain ⟨r2, f2, v2⟩ := rel_ghost r1 e (.int .u8)
    have : s = [] := List.eq_nil_of_length_eq_zero h0
    subst this
    refine ⟨R', _, _, w', h1, by simpa using v2, by simpa [bytesI] using r2, ?_⟩
    have := (h4.trans f1).trans f2
    simpa [bytesI] using this
  · rw [if_neg h0, hsz] at hA
    have hp := appendA_ok (ty := tty) hr hA .nils hv
    rw [← bytesI_len] at hp
    exact retype_end hp
theorem append_rowS (hr : Rel R ρ h w) {t tx tty e : TypeId} {ti : TypeInfo} {l : List (Ty.int .u8).El} {s : List UInt8} {i : Nat} {u u2 : Value} (ht : C.P.underlying t = some (.slice e)) (htx : C.P.underlying tx = some .string) (hti : C.P.info? e = some ti)
    (hsz : ti.size = 1) (hz : (ti.zero.map fun z => z.cells.size) = some ti.size) (hb1 : 1 ≤ ti.bytes) (hle : (l.length + s.length) * ti.bytes ≤ 70368744177664) (hi : h[i]? = some (some (.row e (.int .u8) l)))
    (hx : VRep w R ρ (.orow (.int .u8) i) u) (hv : VRep w R ρ (.str s) u2) :
    Post C R ρ h w (Builtin.append_ #[t, tx] tty #[u, u2]) (.orow (.int .u8) (h.length + 1)) (h.set i none ++ [none, some (.row e (.int .u8) (l ++ bytesI s))]) := by
  cases hx with
  | @orow _ _ b N cap hn hg hlc hc =>
    obtain ⟨q1, q2, _⟩ := row_at hr hi hn
    obtain ⟨hB, hRb⟩ := q2 hg
    have hil : i < h.length := (List.getElem?_eq_some_iff.1 hi).1
    obtain ⟨r1, f1⟩ := rel_retell hr hi hn hg (row_cells hB hg)
    have hlb : l.length + s.length ≤ (l.length + s.length) * ti.bytes := Nat.le_mul_of_pos_right _ hb1
    have hA : appendA C (h.set i (some (.cells e ((Ty.int .u8).flat l)))) t tx (.own 1 i 0 l.length) (.str s) =
        some (.own 1 (h.set i none).length 0 (l ++ bytesI s).length, h.set i none ++ [some (.cells e ((Ty.int .u8).flat (l ++ bytesI s)))]) := by
      simp only [appendA, ht, htx, hti]
      rw [if_pos ⟨rfl, hz⟩, hsz]
      simp only [newsA, if_true, one_all]
      have : (h.set i (some (ABlk.cells e ((Ty.int .u8).flat l))))[i]? = some (some (.cells e ((Ty.int .u8).flat l))) := by
        rw [List.getElem?_set_self hil]
      simp only [this]
      have hfl := (Ty.int .u8).flat_len l
      have hfl' : l.length * 1 = ((Ty.int .u8).flat l).length := hfl.symm
      rw [if_pos ⟨trivial, trivial, hfl', hle, by omega⟩, (Ty.int .u8).flat_append, bytesI_flat, List.length_append, bytesI_len]
      simp
    have hx2 : VRep w R ρ (.own 1 i 0 l.length) (.slice (some ⟨b, 0, none⟩) N.len cap) := by
      rw [q1]
      have hc' : cap * 1 ≤ N.n := hc
      exact .own hn (by omega) (by omega)
    obtain ⟨R', ρ', u', w', h1, h2, h3, h4⟩ := retype_end (τ := .int .u8) (appendA_ok (ty := tty) r1 hA hx2 hv)
    exact ⟨R', ρ', u', w', h1, by simpa using h2, h3, f1.trans h4⟩
  | @onil _ _ b N hn hg =>
    obtain ⟨q1, _, q3⟩ := row_at hr hi hn
    have := q3 hg
    subst this
    obtain ⟨r1, f1⟩ := rel_kill hr i
    obtain ⟨R', ρ', u', w', h1, h2, h3, h4⟩ := append_nilS (tty := tty) r1 ht htx hti hsz hz hb1 (by simpa using hle) (hv.frm f1 hr)
    exact ⟨R', ρ', u', w', h1, by simpa using h2, by simpa using h3, f1.trans (by simpa using h4)⟩
theorem append_own0 (hr : Rel R ρ h w) {t tx tty e ee : TypeId} {τ : Ty} {ti : TypeInfo} {m : List τ.El} {i : Nat} {u u2 : Value} (ht : C.P.underlying t = some (.slice e)) (htx : C.P.underlying tx = some (.slice ee)) (hti : C.P.info? e = some ti)
    (hsz : ti.size = τ.sz) (hz : (ti.zero.map fun z => z.cells.size) = some ti.size) (hb1 : 1 ≤ ti.bytes) (hle : m.length * ti.bytes ≤ 70368744177664) (hi : h[i]? = some (some (.cells e [])))
    (hx : VRep w R ρ (.own τ.sz i 0 0) u) (hv : VRep w R ρ (.lst τ m) u2) :
    Post C R ρ h w (Builtin.append_ #[t, tx] tty #[u, u2]) (.orow τ (h.length + 1)) (h.set i none ++ [none, some (.row e τ m)]) := by
  have hil : i < h.length := (List.getElem?_eq_some_iff.1 hi).1
  have hlb : m.length ≤ m.length * ti.bytes := Nat.le_mul_of_pos_right _ hb1
  have hA : appendA C h t tx (.own τ.sz i 0 0) (.ro τ.sz m.length (τ.at m)) =
      some (.own τ.sz (h.set i none).length 0 m.length, h.set i none ++ [some (.cells e (τ.flat m))]) := by
    simp only [appendA, ht, htx, hti]
    rw [if_pos ⟨rfl, hz⟩, hsz, newsA_lst τ m]
    simp only [τ.flat_one m, if_true, hi]
    rw [if_pos ⟨trivial, trivial, by simp, by simpa using hle, by omega⟩]
    simp
  obtain ⟨R', ρ', u', w', h1, h2, h3, h4⟩ := retype_end (appendA_ok (ty := tty) hr hA hx (plain_ok (v := .lst τ m) hv))
  exact ⟨R', ρ', u', w', h1, by simpa using h2, h3, h4⟩
def frzY (t : Ty) (h : AH) (v : AV) : Option (List t.El × AH) := match frzL t h v with
  | some r => some r
  | none => match v with
    | .own sz i off len => match h[i]? with
      | some (some (.cells _ cs)) => if sz = t.sz ∧ off = 0 ∧ len = 1 ∧ cs.length = t.sz then (match t.frzC h cs with
        | some (x, h1) => match h1[i]? with
          | some (some (.cells _ _)) => some ([x], h1.set i none)
          | _ => none
        | none => none) else none
      | _ => none
    | _ => none
theorem frzY_ok (hr : Rel R ρ h w) {t : Ty} {v : AV} {l : List t.El} {h' : AH} {u : Value} (hf : frzY t h v = some (l, h')) (hv : VRep w R ρ v u) :
    ∃ R', Rel R' ρ h' w ∧ Frm R ρ h w R' ρ h' w ∧ VRep w R' ρ (.lst t l) u := by
  unfold frzY at hf
  split at hf
  · rename_i r hl
    injection hf with hf; subst hf
    exact frzL_ok hr hl hv
  · split at hf
    · rename_i sz i off len
      split at hf
      · rename_i bt cs hi
        split at hf
        · rename_i hc
          obtain ⟨rfl, rfl, rfl, hlen⟩ := hc
          split at hf
          · rename_i x h1 hx
            split at hf
            · rename_i bt1 cs1 hi1
              simp only [Option.some.injEq, Prod.mk.injEq] at hf
              obtain ⟨rfl, rfl⟩ := hf
              obtain ⟨b, N, hn, hb, hre⟩ := hr.live _ _ hi
              obtain ⟨hg, hnR⟩ := hre.cells
              obtain ⟨arr, a1, a2, a3, a4⟩ := hb
              obtain ⟨R1, r1, f1, v1⟩ := t.frzC_ok hx hr a4
              obtain ⟨b', N', hn', hb', hre'⟩ := r1.live _ _ hi1
              rw [hn] at hn'
              simp only [Option.some.injEq, Prod.mk.injEq] at hn'
              obtain ⟨rfl, rfl⟩ := hn'
              obtain ⟨_, hnR1⟩ := hre'.cells
              have hfl : t.flat [x] = (t.enc x).cells := by simp [Ty.flat]
              have hB : BRep w R1 ρ b N (.cells bt (t.flat [x])) := by
                refine ⟨arr, a1, a2, ?_, ?_⟩
                · rw [hfl, t.enc_len, ← hlen]; exact a3
                · rw [hfl, t.enc_len, ← hlen]; exact v1
              have hv1 := hv.frm f1 hr
              cases hv1 with
              | @own _ _ _ _ b2 N2 cap hn2 hle hcN =>
              rw [hn] at hn2
              simp only [Option.some.injEq, Prod.mk.injEq] at hn2
              obtain ⟨rfl, rfl⟩ := hn2
              obtain ⟨r2, f2⟩ := rel_freeze r1 hi1 hn hg
              have hb2 := hB.mono (R' := fun k => R1 k ∨ k = b) (w' := w) (.inl ⟨hg, hnR1⟩) (fun _ => rfl) (fun _ _ => rfl) (fun _ h => .inl h) (Nm.le_refl _)
              exact ⟨_, r2, f1.trans f2, lst_of_cells (l := [x]) hb2 (.inr rfl) hle⟩
            · cases hf
          · cases hf
        · cases hf
      · cases hf
    · cases hf
theorem frzY_sub {t : Ty} {v : AV} {l : List t.El} {h' : AH} (hf : frzY t h v = some (l, h')) (i : Nat) (b : ABlk) (hi : h'[i]? = some (some b)) : h[i]? = some (some b) := by
  unfold frzY at hf
  split at hf
  · rename_i r hl
    injection hf with hf; subst hf
    exact frzL_sub hl i b hi
  · split at hf
    · split at hf
      · split at hf
        · split at hf
          · rename_i x h1 hx
            split at hf
            · simp only [Option.some.injEq, Prod.mk.injEq] at hf
              obtain ⟨rfl, rfl⟩ := hf
              rw [List.getElem?_set] at hi
              split at hi
              · split at hi
                · cases hi
                · cases hi
              · exact frzC_sub t hx i b hi
            · cases hf
          · cases hf
        · cases hf
      · cases hf
    · cases hf
def appendT (C : Cfg) (T : Tb) (h : AH) (t tx : TypeId) (x y : AV) (K : AV → AH → Option β) : Option β :=
  match C.P.underlying t, C.P.underlying tx with
  | some (.slice e), some (.slice _) => match T.ty e, C.P.info? e with
    | some τ, some ti => if ti.size = τ.sz ∧ (ti.zero.map fun z => z.cells.size) = some ti.size ∧ 1 ≤ ti.bytes then
      (match x with
      | .nils => match frzY τ h y with
        | some (m, h1) => bif Nat.ble (m.length * ti.bytes) 70368744177664 then K (.orow τ (h1.length + 1)) (h1 ++ [none, some (.row e τ m)]) else none
        | none => none
      | .orow τ' i => match h[i]? with
        | some (some (.row bt ty l)) => if ty = τ ∧ bt = e ∧ τ' = τ then (match frzY ty h y with
          | some (m, h1) => match h1[i]? with
            | some (some _) => bif Nat.ble ((l.length + m.length) * ti.bytes) 70368744177664 then K (.orow ty (h1.length + 1)) (h1.set i none ++ [none, some (.row e ty (l ++ m))]) else none
            | _ => none
          | none => none) else none
        | _ => none
      | .own sz i 0 0 => match frzY τ h y with
        | some (m, h1) => match h1[i]? with
          | some (some (.cells bt [])) => if bt = e ∧ sz = τ.sz then (bif Nat.ble (m.length * ti.bytes) 70368744177664 then K (.orow τ (h1.length + 1)) (h1.set i none ++ [none, some (.row e τ m)]) else none) else none
          | _ => none
        | none => match appendA C h t tx (.own sz i 0 0) y with
          | some (v, h') => K v h'
          | none => none
      | x => match appendA C h t tx x y with
        | some (v, h') => K v h'
        | none => none) else none
    | _, _ => match appendA C h t tx x y with
      | some (v, h') => K v h'
      | none => none
  | some (.slice e), some .string => match x, y with
    | .orow (.int .u8) i, .str s => match C.P.info? e, h[i]? with
      | some ti, some (some (.row bt (.int .u8) l)) => if bt = e ∧ ti.size = 1 ∧ (ti.zero.map fun z => z.cells.size) = some ti.size ∧ 1 ≤ ti.bytes then
          (bif Nat.ble ((l.length + s.length) * ti.bytes) 70368744177664 then K (.orow (.int .u8) (h.length + 1)) (h.set i none ++ [none, some (.row e (.int .u8) (l ++ bytesI s))]) else none) else none
      | _, _ => none
    | x, y => match appendA C h t tx x y with
      | some (v, h') => K v h'
      | none => none
  | _, _ => match appendA C h t tx x y with
    | some (v, h') => K v h'
    | none => none
theorem appendT_ok {t tx : TypeId} {x y : AV} {K : AV → AH → Option β} {z : β} (ha : appendT C T h t tx x y K = some z) :
    ∃ v h', K v h' = some z ∧ ∀ (R : Nat → Prop) (ρ : Nm) (w : World) (tty : TypeId) (u u2 : Value), Rel R ρ h w → VRep w R ρ x u → VRep w R ρ y u2 → Post C R ρ h w (Builtin.append_ #[t, tx] tty #[u, u2]) v h' := by
  have dflt : (match appendA C h t tx x y with
      | some (v, h') => K v h'
      | none => none) = some z → ∃ v h', K v h' = some z ∧ ∀ (R : Nat → Prop) (ρ : Nm) (w : World) (tty : TypeId) (u u2 : Value), Rel R ρ h w → VRep w R ρ x u → VRep w R ρ y u2 → Post C R ρ h w (Builtin.append_ #[t, tx] tty #[u, u2]) v h' := by
    intro hm
    split at hm
    · rename_i v h' hv
      exact ⟨v, h', hm, fun R ρ w tty u u2 hr hx hy => appendA_ok hr hv hx hy⟩
    · cases hm
  unfold appendT at ha
  split at ha
  · rename_i e ee ht htx
    split at ha
    · rename_i τ ti hτ hti
      split at ha
      · rename_i hc
        obtain ⟨hsz, hz, hb1⟩ := hc
        split at ha
        · split at ha
          · rename_i m h1 hf
            rcases cond_some ha with ⟨hb, ha⟩ | ⟨_, ha⟩
            · refine ⟨_, _, ha, fun R ρ w tty u u2 hr hx hy => ?_⟩
              obtain ⟨R1, r1, f1, v1⟩ := frzY_ok hr hf hy
              cases hx
              obtain ⟨R', ρ', u', w', k1, k2, k3, k4⟩ := append_nil (tty := tty) r1 ht htx hti hsz hz hb1 (by simpa using hb) v1
              exact ⟨R', ρ', u', w', k1, k2, k3, f1.trans k4⟩
            · cases ha
          · cases ha
        · rename_i τ' i
          split at ha
          · rename_i bt ty l hi
            split at ha
            · rename_i hc2
              obtain ⟨rfl, rfl, rfl⟩ := hc2
              split at ha
              · rename_i m h1 hf
                split at ha
                · rename_i blk hi1
                  rcases cond_some ha with ⟨hb, ha⟩ | ⟨_, ha⟩
                  · refine ⟨_, _, ha, fun R ρ w tty u u2 hr hx hy => ?_⟩
                    have hi2 := frzY_sub hf i blk hi1
                    rw [hi] at hi2
                    simp only [Option.some.injEq] at hi2
                    subst hi2
                    obtain ⟨R1, r1, f1, v1⟩ := frzY_ok hr hf hy
                    obtain ⟨R', ρ', u', w', k1, k2, k3, k4⟩ := append_row (tty := tty) r1 ht htx hti hsz hz hb1 (by simpa using hb) hi1 rfl (hx.frm f1 hr) v1
                    exact ⟨R', ρ', u', w', k1, k2, k3, f1.trans k4⟩
                  · cases ha
                · cases ha
              · cases ha
            · cases ha
          · cases ha
        · rename_i sz i
          split at ha
          · rename_i m h1 hf
            split at ha
            · rename_i bt hi1
              split at ha
              · rename_i hc2
                obtain ⟨rfl, rfl⟩ := hc2
                rcases cond_some ha with ⟨hb, ha⟩ | ⟨_, ha⟩
                · refine ⟨_, _, ha, fun R ρ w tty u u2 hr hx hy => ?_⟩
                  obtain ⟨R1, r1, f1, v1⟩ := frzY_ok hr hf hy
                  obtain ⟨R', ρ', u', w', k1, k2, k3, k4⟩ := append_own0 (tty := tty) r1 ht htx hti hsz hz hb1 (by simpa using hb) hi1 (hx.frm f1 hr) v1
                  exact ⟨R', ρ', u', w', k1, k2, k3, f1.trans k4⟩
                · cases ha
              · cases ha
            · cases ha
          · exact dflt ha
        · exact dflt ha
      · cases ha
    · exact dflt ha
  · rename_i e ht htx
    split at ha
    · rename_i i s
      split at ha
      · rename_i ti bt l hti hi
        split at ha
        · rename_i hc
          obtain ⟨rfl, hsz, hz, hb1⟩ := hc
          rcases cond_some ha with ⟨hb, ha⟩ | ⟨_, ha⟩
          · exact ⟨_, _, ha, fun R ρ w tty u u2 hr hx hy => append_rowS (tty := tty) hr ht htx hti hsz hz hb1 (by simpa using hb) hi hx hy⟩
          · cases ha
        · cases ha
      · cases ha
    · exact dflt ha
  · exact dflt ha
end
end Go.DI
set_option linter.unusedVariables false
set_option linter.unusedSimpArgs false
namespace Go.DI
def Ty.keq : (t : Ty) → t.El → t.El → Bool
  | .int _, a, b => (a == b : Bool)
  | .bool, a, b => (a == b : Bool)
  | .str, a, b => (a == b : Bool)
  | _, _, _ => false
def keyTy : TypeDesc → Ty → Bool
  | .int _, .int _ => true
  | .string, .str => true
  | .bool, .bool => true
  | _, _ => false
def tget (kt vt : Ty) (k : kt.El) : List (kt.El × vt.El) → Option vt.El
  | [] => none
  | p :: m => bif kt.keq k p.1 then some p.2 else tget kt vt k m
def tput (kt vt : Ty) (k : kt.El) (v : vt.El) : List (kt.El × vt.El) → List (kt.El × vt.El)
  | [] => [(k, v)]
  | p :: m => bif kt.keq k p.1 then (k, v) :: m else p :: tput kt vt k v m
def encM (kt vt : Ty) (m : List (kt.El × vt.El)) : List (AV × AV) := m.map fun p => (kt.enc p.1, vt.enc p.2)
theorem sameA_enc {d : TypeDesc} {kt : Ty} (hd : keyTy d kt = true) (a b : kt.El) : sameA d (kt.enc a) (kt.enc b) = some (kt.keq a b) := by
  cases d <;> cases kt <;> simp [keyTy] at hd <;> simp [sameA, Ty.enc, Ty.keq]
theorem keyTy_ok {d : TypeDesc} {kt : Ty} (hd : keyTy d kt = true) : keyOk d = true := by
  cases d <;> cases kt <;> simp [keyTy] at hd <;> rfl
theorem findA_enc {d : TypeDesc} {kt vt : Ty} (hd : keyTy d kt = true) (k : kt.El) : ∀ (m : List (kt.El × vt.El)) (i : Nat),
    (tget kt vt k m = none ∧ findA d (kt.enc k) (encM kt vt m) i = some none ∧ ∀ v, tput kt vt k v m = m ++ [(k, v)]) ∨
    (∃ n v, tget kt vt k m = some v ∧ findA d (kt.enc k) (encM kt vt m) i = some (some (i + n, vt.enc v)) ∧ ∀ v', tput kt vt k v' m = m.set n (k, v'))
  | [], i => .inl ⟨rfl, rfl, fun v => rfl⟩
  | p :: m, i => by
    simp only [tget, tput, encM, List.map_cons, findA, sameA_enc hd]
    cases hk : kt.keq k p.1 with
    | true => exact .inr ⟨0, p.2, rfl, rfl, fun v' => rfl⟩
    | false =>
      rcases findA_enc hd k m (i + 1) with ⟨h1, h2, h3⟩ | ⟨n, v, h1, h2, h3⟩
      · exact .inl ⟨h1, h2, fun v => by simp [h3]⟩
      · refine .inr ⟨n + 1, v, h1, ?_, fun v' => by simp [h3]⟩
        have : i + 1 + n = i + (n + 1) := by omega
        rw [← this]; exact h2
section
variable {C : Cfg} {T : Tb} {w : World} {R : Nat → Prop} {ρ : Nm} {h : AH} {β : Type}
theorem tmap_map {b : Nat} {N : BN} {kt vt : Ty} {m : List (kt.El × vt.El)} : BRep w R ρ b N (.tmap kt vt m) ↔ BRep w R ρ b N (.map (encM kt vt m)) := by
  constructor
  · rintro ⟨arr, clock, h1, h2, h3⟩
    exact ⟨arr, clock, h1, by simpa [encM, Function.comp_def] using h2, by simpa [encM, Function.comp_def] using h3⟩
  · rintro ⟨arr, clock, h1, h2, h3⟩
    exact ⟨arr, clock, h1, by simpa [encM, Function.comp_def] using h2, by simpa [encM, Function.comp_def] using h3⟩
theorem untype_map (hr : Rel R ρ h w) {i : Nat} {kt vt : Ty} {m : List (kt.El × vt.El)} (hi : h[i]? = some (some (.tmap kt vt m))) :
    Rel R ρ (h.set i (some (.map (encM kt vt m)))) w ∧ Frm R ρ h w R ρ (h.set i (some (.map (encM kt vt m)))) w := by
  obtain ⟨b, N, hn, hb, hre⟩ := hr.live _ _ hi
  exact rel_retell hr hi hn hre.tmap.1 (tmap_map.1 hb)
theorem retype_map (hr : Rel R ρ h w) {i : Nat} {kt vt : Ty} {m : List (kt.El × vt.El)} (hi : h[i]? = some (some (.map (encM kt vt m)))) :
    Rel R ρ (h.set i (some (.tmap kt vt m))) w ∧ Frm R ρ h w R ρ (h.set i (some (.tmap kt vt m))) w := by
  obtain ⟨b, N, hn, hb, hre⟩ := hr.live _ _ hi
  exact rel_retell hr hi hn hre.map.1 (tmap_map.2 hb)
def findK {β : Type} (d : TypeDesc) (k : AV) (K : Option AV → Option β) : List (AV × AV) → Option β
  | [] => K none
  | e :: es => match sameA d k e.1 with
    | some b => bif b then K (some e.2) else findK d k K es
    | none => none
theorem findK_ok {β : Type} {d : TypeDesc} {k : AV} {K : Option AV → Option β} {z : β} : ∀ (es : List (AV × AV)) (i : Nat), findK d k K es = some z → ∃ r, findA d k es i = some r ∧ K (r.map (·.2)) = some z
  | [], i, h => ⟨none, rfl, h⟩
  | e :: es, i, h => by
    simp only [findK] at h
    split at h
    · rename_i b hb
      cases b with
      | true => exact ⟨some (i, e.2), by simp only [findA, hb], h⟩
      | false =>
        obtain ⟨r, h1, h2⟩ := findK_ok es (i + 1) h
        exact ⟨r, by simp only [findA, hb]; exact h1, h2⟩
    · cases h
def lookupK {β : Type} (C : Cfg) (t : TypeId) (es : List (AV × AV)) (k : AV) (ok : Bool) (K : AV → Option β) : Option β :=
  match C.P.underlying t with
  | some (.map kt e) => match C.P.underlying kt with
    | some d => if keyOk d then findK d k (fun r => match r with
      | some v => K (if ok then .tup [v, .bool true] else v)
      | none => match zeroA C e with
        | some z => K (if ok then .tup [z, .bool false] else z)
        | none => none) es else none
    | none => none
  | _ => none
theorem lookupK_ok {β : Type} {C : Cfg} {h : AH} {t : TypeId} {x k : AV} {es : List (AV × AV)} {ok : Bool} {K : AV → Option β} {z : β} (hm : mapOf h x = some es) (hl : lookupK C t es k ok K = some z) : ∃ v, lookupA C h t x k ok = some v ∧ K v = some z := by
  unfold lookupK at hl
  split at hl
  · rename_i kt e ht
    split at hl
    · rename_i d hd
      split at hl
      · rename_i hk
        obtain ⟨r, h1, h2⟩ := findK_ok es 0 hl
        cases r with
        | none =>
          simp only [Option.map_none] at h2
          split at h2
          · rename_i zz hz
            exact ⟨_, by simp only [lookupA, ht, hd, if_pos hk, hm, h1, hz], h2⟩
          · cases h2
        | some p =>
          exact ⟨_, by simp only [lookupA, ht, hd, if_pos hk, hm, h1], h2⟩
      · cases hl
    · cases hl
  · cases hl
def lookupT (C : Cfg) (h : AH) (t : TypeId) (x k : AV) (ok : Bool) : Option AV := match x with
  | .map i => match h[i]? with
    | some (some (.tmap kt vt m)) => match C.P.underlying t with
      | some (.map kd e) => match C.P.underlying kd, zeroA C e with
        | some d, some z => if keyTy d kt ∧ kt.ck k ∧ vt.ck z then
            some (if ok then .tup [vt.enc ((tget kt vt (kt.dec k) m).getD (vt.dec z)), .bool (tget kt vt (kt.dec k) m).isSome] else vt.enc ((tget kt vt (kt.dec k) m).getD (vt.dec z)))
          else none
        | _, _ => none
      | _ => none
    | _ => lookupA C h t (.map i) k ok
  | x => lookupA C h t x k ok
theorem lookupT_ok (hr : Rel R ρ h w) {t : TypeId} {x k av : AV} {ok : Bool} {u v : Value} (hl : lookupT C h t x k ok = some av) (hx : VRep w R ρ x u) (hk : VRep w R ρ k v) :
    ∃ r, (Instr.lookup t u v ok).run C.P w = .ok r w ∧ VRep w R ρ av r := by
  unfold lookupT at hl
  split at hl
  · rename_i i
    split at hl
    · rename_i kt vt m hi
      split at hl
      · rename_i kd e ht
        split at hl
        · rename_i d z hd hz
          split at hl
          · rename_i hc
            obtain ⟨h1, h2, h3⟩ := hc
            injection hl with hl
            have hil : i < h.length := (List.getElem?_eq_some_iff.1 hi).1
            obtain ⟨r1, f1⟩ := untype_map hr hi
            have hk2 := kt.ok h2 hk
            have hmap : mapOf (h.set i (some (.map (encM kt vt m)))) (.map i) = some (encM kt vt m) := by
              simp only [mapOf, List.getElem?_set_self hil]
            rcases findA_enc (vt := vt) h1 (kt.dec k) m 0 with ⟨g1, g2, _⟩ | ⟨n, v0, g1, g2, _⟩
            · have hA : lookupA C (h.set i (some (.map (encM kt vt m)))) t (.map i) (kt.enc (kt.dec k)) ok = some (if ok then .tup [z, .bool false] else z) := by
                simp only [lookupA, ht, hd, keyTy_ok h1, if_true, hmap, g2, hz]
              obtain ⟨r, hr1, hr2⟩ := lookupA_ok r1 hA hx hk2
              refine ⟨r, hr1, ?_⟩
              rw [g1] at hl
              subst hl
              cases ok
              · exact vt.ok h3 hr2
              · obtain ⟨us, rfl, hus⟩ := VRep.tup_inv hr2
                obtain ⟨u1, us1, he, k1, k2⟩ := hus.cons_inv
                refine .tup' ?_
                rw [he]
                exact .cons (vt.ok h3 k1) k2
            · have hA : lookupA C (h.set i (some (.map (encM kt vt m)))) t (.map i) (kt.enc (kt.dec k)) ok = some (if ok then .tup [vt.enc v0, .bool true] else vt.enc v0) := by
                simp only [lookupA, ht, hd, keyTy_ok h1, if_true, hmap, g2]
              obtain ⟨r, hr1, hr2⟩ := lookupA_ok r1 hA hx hk2
              refine ⟨r, hr1, ?_⟩
              rw [g1] at hl
              subst hl
              exact hr2
          · cases hl
        · cases hl
      · cases hl
    · exact lookupA_ok hr hl hx hk
  · exact lookupA_ok hr hl hx hk
def mapUpdateT (C : Cfg) (h : AH) (t : TypeId) (x k v : AV) : Option AH := match x with
  | .map i => match h[i]? with
    | some (some (.tmap kt vt m)) => match C.P.underlying t with
      | some (.map kd e) => match C.P.underlying kd with
        | some d => if keyTy d kt ∧ kt.ck k ∧ vt.ck v then some (h.set i (some (.tmap kt vt (tput kt vt (kt.dec k) (vt.dec v) m)))) else none
        | _ => none
      | _ => none
    | _ => mapUpdateA C h t (.map i) k v
  | x => mapUpdateA C h t x k v
theorem mapUpdateT_ok (hr : Rel R ρ h w) {t : TypeId} {m k x : AV} {h' : AH} {um uk ux : Value} (hs : mapUpdateT C h t m k x = some h') (hm : VRep w R ρ m um) (hk : VRep w R ρ k uk) (hx : VRep w R ρ x ux) :
    PostU C R ρ h w (Instr.mapUpdate t um uk ux) h' := by
  unfold mapUpdateT at hs
  split at hs
  · rename_i i
    split at hs
    · rename_i kt vt m hi
      split at hs
      · rename_i kd e ht
        split at hs
        · rename_i d hd
          split at hs
          · rename_i hc
            obtain ⟨h1, h2, h3⟩ := hc
            injection hs with hs; subst hs
            have hil : i < h.length := (List.getElem?_eq_some_iff.1 hi).1
            obtain ⟨r1, f1⟩ := untype_map hr hi
            have hk2 := kt.ok h2 hk
            have hx2 := vt.ok h3 hx
            have hA : mapUpdateA C (h.set i (some (.map (encM kt vt m)))) t (.map i) (kt.enc (kt.dec k)) (vt.enc (vt.dec x)) = some (h.set i (some (.map (encM kt vt (tput kt vt (kt.dec k) (vt.dec x) m))))) := by
              rcases findA_enc (vt := vt) h1 (kt.dec k) m 0 with ⟨_, g2, g3⟩ | ⟨n, v0, _, g2, g3⟩
              · simp only [mapUpdateA, ht, hd, List.getElem?_set_self hil, keyTy_ok h1, if_true, g2]
                rw [g3]; simp [encM]
              · simp only [mapUpdateA, ht, hd, List.getElem?_set_self hil, keyTy_ok h1, if_true, g2]
                rw [g3]; simp [encM, List.map_set]
            obtain ⟨R', ρ', w', k1, k2, k3⟩ := mapUpdateA_ok r1 hA hm hk2 hx2
            obtain ⟨r2, f2⟩ := retype_map (kt := kt) (vt := vt) (m := tput kt vt (kt.dec k) (vt.dec x) m) (i := i) k2 (by rw [List.getElem?_set_self hil])
            refine ⟨R', ρ', w', k1, by simpa using r2, ?_⟩
            have := (f1.trans k3).trans f2
            simpa using this
          · cases hs
        · cases hs
      · cases hs
    · exact mapUpdateA_ok hr hs hm hk hx
  · exact mapUpdateA_ok hr hs hm hk hx
def makeMapT (T : Tb) (h : AH) (t : TypeId) : ABlk := match T.mp t with
  | some (kt, vt) => .tmap kt vt []
  | none => .map []
theorem makeMapT_ok (hr : Rel R ρ h w) (t : TypeId) : Post C R ρ h w (Instr.makeMap t none) (.map h.length) (h ++ [some (makeMapT T h t)]) := by
  obtain ⟨R', ρ', u, w', h1, h2, h3, h4⟩ := makeMapA_ok (C := C) hr t
  unfold makeMapT
  split
  · rename_i kt vt ht
    obtain ⟨r2, f2⟩ := retype_map (kt := kt) (vt := vt) (m := []) (i := h.length) h3 (by simp [encM])
    refine ⟨R', ρ', u, w', h1, h2, by simpa using r2, ?_⟩
    have := h4.trans f2
    simpa using this
  · exact ⟨R', ρ', u, w', h1, h2, h3, h4⟩
end
end Go.DI
set_option linter.unusedVariables false
set_option linter.unusedSimpArgs false
namespace Go.DI
section
variable {C : Cfg} {T : Tb} {w : World} {R : Nat → Prop} {ρ : Nm} {h : AH} {β : Type}
theorem AC.own {P : Program} {g : FuncId} {args : List AV} {bt : TypeId} {t : Ty} {l : List t.El} (hc : AC P g args [] (.ret (.orow t 0)) [some (.row bt t l)]) (ha : ∀ c ∈ args, Nameless c) :
    CallOk P g args h (.orow t h.length) (h ++ [some (.row bt t l)]) := by
  intro R ρ w vs hr hvs
  refine (hc R ρ0 w vs (.base hr.ro) (Nameless.reps ha hvs)).mono ?_
  rintro e w' ⟨R', ρ', u, ⟨rfl, hu⟩, r1, f1⟩
  have hnl : ∀ b, ¬ Lv ρ0 [] b := by rintro b ⟨i, blk, N, hi, _⟩; simp at hi
  have hkeep : ∀ b, b < w.heap.size → w'.heap[b]? = w.heap[b]? := fun b hb => f1.keeps b hb (hnl b)
  have hrolds : ∀ b, R' b → R b ∨ w.heap.size ≤ b := by
    intro b hb
    rcases f1.rolds b hb with h6 | h6 | h6
    · exact .inl h6
    · exact absurd h6 (hnl b)
    · exact .inr h6
  have r2 : Rel R' ρ h w' := by
    refine ⟨fun i blk hi => ?_, hr.inj, hr.dom, r1.ro⟩
    obtain ⟨b, N, h1, h2, h3⟩ := hr.live i blk hi
    refine ⟨b, N, h1, h2.mono h3 (fun hg => hkeep b (h2.lt hg)) (fun k hk => hkeep k (hr.ro k hk)) f1.ros (Nm.le_refl _), ?_⟩
    rcases h3 with ⟨h4, h5⟩ | h4
    · refine .inl ⟨h4, fun hb => ?_⟩
      rcases hrolds b hb with h6 | h6
      · exact h5 h6
      · have := h2.lt h4; omega
    · exact .inr h4
  obtain ⟨b, N, hn, hb, hre⟩ := r1.live 0 _ rfl
  have hb2 : BRep w' R' ρ b N (.row bt t l) := by
    obtain ⟨k1, k2⟩ := hb
    refine ⟨k1, fun hg => ?_⟩
    obtain ⟨arr, k3, k4, k5, k6⟩ := k2 hg
    refine ⟨arr, k3, k4, k5, fun j o c hj hc => ?_⟩
    obtain ⟨u, hu, hv⟩ := k6 j o c hj hc
    exact ⟨u, hu, t.namelessC _ c (List.mem_of_getElem? hc) _ _ _ _ _ hv⟩
  have hbig : N.gh = false → w.heap.size ≤ b := by
    intro hg
    rcases f1.lives b ⟨0, _, N, rfl, hn, hg⟩ with h6 | h6
    · exact absurd h6 (hnl b)
    · exact h6
  have r3 := rel_name r2 (.row bt t l) hb2 (fun hg hl => by have := hr.lv_lt hl; have := hbig hg; omega) hre
  have hle := Nm.le_upd (bn := (b, N)) (hr.dom h.length (Nat.le_refl _))
  refine ⟨R', _, u, rfl, ?_, r3, ⟨f1.os, f1.tape, f1.output, f1.size, hle, f1.ros, fun b hb _ => hkeep b hb, fun c hl => ?_, fun b hb => ?_, by simp, fun x hx hn => by rw [Nm.upd_ne (by omega)]; exact hn, f1.frz⟩⟩
  · cases hu with
    | @orow _ _ b' N' cap hn' hg hl hcc =>
      rw [hn] at hn'
      simp only [Option.some.injEq, Prod.mk.injEq] at hn'
      obtain ⟨rfl, rfl⟩ := hn'
      exact .orow (Nm.upd_self _ _ _) hg hl hcc
    | @onil _ _ b' N' hn' hg =>
      rw [hn] at hn'
      simp only [Option.some.injEq, Prod.mk.injEq] at hn'
      obtain ⟨rfl, rfl⟩ := hn'
      exact .onil (Nm.upd_self _ _ _) hg
  · obtain ⟨j, blk, N2, hj, hn2, hg2⟩ := hl
    by_cases hjl : j = h.length
    · subst hjl
      rw [Nm.upd_self] at hn2
      simp only [Option.some.injEq, Prod.mk.injEq] at hn2
      obtain ⟨rfl, rfl⟩ := hn2
      exact .inr (hbig hg2)
    · rw [Nm.upd_ne hjl] at hn2
      have hjl2 : j < h.length := by
        have := (List.getElem?_eq_some_iff.1 hj).1
        simp at this; omega
      rw [List.getElem?_append_left hjl2] at hj
      exact .inl ⟨j, blk, N2, hj, hn2, hg2⟩
  · rcases hrolds b hb with h6 | h6
    · exact .inl h6
    · exact .inr (.inr h6)
theorem AC.moved {P : Program} {g : FuncId} {args : List AV} {bt bt' : TypeId} {t t' : Ty} {l : List t.El} {y : List t'.El} (hc : AC P g (.orow t 0 :: args) [some (.row bt t l)] (.ret (.orow t' 1)) [none, some (.row bt' t' y)]) (ha : ∀ c ∈ args, Nameless c)
    {i : Nat} (hi : h[i]? = some (some (.row bt t l))) : CallOk P g (.orow t i :: args) h (.orow t' h.length) (h.set i none ++ [some (.row bt' t' y)]) := by
  intro R ρ w vs hr hvs
  obtain ⟨b, N, hn, hb, hre⟩ := hr.live i _ hi
  have hil : i < h.length := (List.getElem?_eq_some_iff.1 hi).1
  let ρm : Nm := fun k => if k = 0 then some (b, N) else none
  have hm0 : ρm 0 = some (b, N) := rfl
  have rowm : ∀ {w : World} {R : Nat → Prop} {ρ ρ' : Nm} {b : Nat} {N : BN} {bt : TypeId} {t : Ty} {l : List t.El}, BRep w R ρ b N (.row bt t l) → BRep w R ρ' b N (.row bt t l) := by
    intro w R ρ ρ' b N bt t l hb
    obtain ⟨k1, k2⟩ := hb
    refine ⟨k1, fun hg => ?_⟩
    obtain ⟨arr, k3, k4, k5, k6⟩ := k2 hg
    refine ⟨arr, k3, k4, k5, fun j o c hj hc => ?_⟩
    obtain ⟨u, hu, hv⟩ := k6 j o c hj hc
    exact ⟨u, hu, t.namelessC _ c (List.mem_of_getElem? hc) _ _ _ _ _ hv⟩
  have hone : ∀ (k : Nat) (blk : ABlk), ([some (ABlk.row bt t l)] : AH)[k]? = some (some blk) → k = 0 ∧ blk = .row bt t l := by
    intro k blk hk
    cases k with
    | zero => simp at hk; exact ⟨rfl, hk.symm⟩
    | succ k => simp at hk
  have rm : Rel R ρm [some (.row bt t l)] w := by
    refine ⟨fun k blk hk => ?_, fun k k' bk bk' c Nk Nk' hk hk' _ _ _ _ => ?_, fun k hk => ?_, hr.ro⟩
    · obtain ⟨rfl, rfl⟩ := hone k blk hk
      exact ⟨b, N, rfl, rowm hb, hre⟩
    · rw [(hone k _ hk).1, (hone k' _ hk').1]
    · show (if k = 0 then _ else _) = _
      rw [if_neg]
      simp at hk; omega
  obtain ⟨u0, us0, hu0, g1, g2⟩ := hvs.cons_inv
  have gm : VRep w R ρm (.orow t 0) u0 := by
    cases g1 with
    | @orow _ _ b' N' cap hn' hg hl hcc =>
      rw [hn] at hn'
      simp only [Option.some.injEq, Prod.mk.injEq] at hn'
      obtain ⟨rfl, rfl⟩ := hn'
      exact .orow hm0 hg hl hcc
    | @onil _ _ b' N' hn' hg =>
      rw [hn] at hn'
      simp only [Option.some.injEq, Prod.mk.injEq] at hn'
      obtain ⟨rfl, rfl⟩ := hn'
      exact .onil hm0 hg
  refine (hc R ρm w vs rm (by rw [hu0]; exact .cons gm (Nameless.reps ha g2))).mono ?_
  rintro e w' ⟨R', ρ', u, ⟨rfl, hu⟩, r1, f1⟩
  have hlm : ∀ c, Lv ρm [some (.row bt t l)] c → c = b ∧ N.gh = false := by
    rintro c ⟨k, blk, N', hk, hn', hg⟩
    obtain ⟨rfl, rfl⟩ := hone k blk hk
    rw [hm0] at hn'
    simp only [Option.some.injEq, Prod.mk.injEq] at hn'
    obtain ⟨rfl, rfl⟩ := hn'
    exact ⟨rfl, hg⟩
  have hkeep : ∀ c, c < w.heap.size → (N.gh = false → c ≠ b) → w'.heap[c]? = w.heap[c]? := fun c h1 h2 => f1.keeps c h1 fun hl => h2 (hlm c hl).2 (hlm c hl).1
  have hRb : N.gh = false → ¬ R b := hre.notR
  have hRk : ∀ k, R k → w'.heap[k]? = w.heap[k]? := fun k hk => hkeep k (hr.ro k hk) fun hg e => hRb hg (e ▸ hk)
  have hsub : ∀ (j : Nat) (blk : ABlk), (h.set i none)[j]? = some (some blk) → j ≠ i ∧ h[j]? = some (some blk) := by
    intro j blk hj
    rw [List.getElem?_set] at hj
    split at hj
    · exfalso; first | (split at hj <;> simp at hj; done) | (simp at hj; done)
    · rename_i hne; exact ⟨fun e => hne e.symm, hj⟩
  have hneb : ∀ (j : Nat) (blk : ABlk) (c : Nat) (M : BN), j ≠ i → h[j]? = some (some blk) → ρ j = some (c, M) → M.gh = false → N.gh = false → c ≠ b := by
    intro j blk c M hji hj hc' hg1 hg2 e
    subst e
    exact hji (hr.inj j i _ _ _ _ _ hj hi hc' hn hg1 hg2)
  have r2 : Rel R' ρ (h.set i none) w' := by
    refine ⟨fun j blk hj => ?_, fun j k bj bk c Nj Nk hj hk => hr.inj j k bj bk c Nj Nk (hsub _ _ hj).2 (hsub _ _ hk).2, fun j hj => hr.dom j (by simpa using hj), r1.ro⟩
    obtain ⟨hji, hj⟩ := hsub j blk hj
    obtain ⟨c, M, h1, h2, h3⟩ := hr.live j blk hj
    refine ⟨c, M, h1, h2.mono h3 (fun hg => hkeep c (h2.lt hg) (hneb j blk c M hji hj h1 hg)) hRk f1.ros (Nm.le_refl _), ?_⟩
    rcases h3 with ⟨h4, h5⟩ | h4
    · refine .inl ⟨h4, fun hR => ?_⟩
      rcases f1.rolds c hR with h6 | h6 | h6
      · exact h5 h6
      · obtain ⟨e, hg⟩ := hlm c h6
        exact hneb j blk c M hji hj h1 h4 hg e
      · have := h2.lt h4; omega
    · exact .inr h4
  obtain ⟨b2, N2, hn2, hb2, hre2⟩ := r1.live 1 _ rfl
  have hl2 : N2.gh = false → (b2 = b ∧ N.gh = false) ∨ w.heap.size ≤ b2 := by
    intro hg
    rcases f1.lives b2 ⟨1, _, N2, rfl, hn2, hg⟩ with h6 | h6
    · exact .inl (hlm b2 h6)
    · exact .inr h6
  have r3 := rel_name r2 (.row bt' t' y) (rowm hb2) (fun hg hl => by
    obtain ⟨j, blk, M, hj, hnj, hgj⟩ := hl
    obtain ⟨hji, hj⟩ := hsub j blk hj
    rcases hl2 hg with ⟨e, hgN⟩ | h6
    · exact hneb j blk b2 M hji hj hnj hgj hgN e
    · have := hr.lv_lt ⟨j, blk, M, hj, hnj, hgj⟩; omega) hre2
  have hle := Nm.le_upd (bn := (b2, N2)) (hr.dom h.length (Nat.le_refl _))
  have hlen : (h.set i none).length = h.length := by simp
  rw [hlen] at r3
  refine ⟨R', _, u, rfl, ?_, r3, ⟨f1.os, f1.tape, f1.output, f1.size, hle, f1.ros, fun c hc' hl => hkeep c hc' fun hg e => hl (e ▸ ⟨i, _, N, hi, hn, hg⟩), fun c hl => ?_, fun c hR => ?_, by simp, fun x hx hn => by rw [Nm.upd_ne (by omega)]; exact hn, f1.frz⟩⟩
  · cases hu with
    | @orow _ _ b' N' cap hn' hg hl hcc =>
      rw [hn2] at hn'
      simp only [Option.some.injEq, Prod.mk.injEq] at hn'
      obtain ⟨rfl, rfl⟩ := hn'
      exact .orow (Nm.upd_self _ _ _) hg hl hcc
    | @onil _ _ b' N' hn' hg =>
      rw [hn2] at hn'
      simp only [Option.some.injEq, Prod.mk.injEq] at hn'
      obtain ⟨rfl, rfl⟩ := hn'
      exact .onil (Nm.upd_self _ _ _) hg
  · obtain ⟨j, blk, M, hj, hnj, hgj⟩ := hl
    by_cases hjl : j = h.length
    · subst hjl
      rw [Nm.upd_self] at hnj
      simp only [Option.some.injEq, Prod.mk.injEq] at hnj
      obtain ⟨rfl, rfl⟩ := hnj
      rcases hl2 hgj with ⟨e, hg⟩ | h6
      · exact .inl (e ▸ ⟨i, _, N, hi, hn, hg⟩)
      · exact .inr h6
    · rw [Nm.upd_ne hjl] at hnj
      have hjl2 : j < (h.set i none).length := by
        have := (List.getElem?_eq_some_iff.1 hj).1
        simp at this ⊢; omega
      rw [List.getElem?_append_left hjl2] at hj
      exact .inl ⟨j, blk, M, (hsub j blk hj).2, hnj, hgj⟩
  · rcases f1.rolds c hR with h6 | h6 | h6
    · exact .inl h6
    · obtain ⟨e, hg⟩ := hlm c h6
      exact .inr (.inl (e ▸ ⟨i, _, N, hi, hn, hg⟩))
    · exact .inr (.inr h6)
theorem VReps.resV_inv {w : World} {R : Nat → Prop} {ρ : Nm} {cs : List AV} {u : Value} (hv : VRep w R ρ (resV cs) u) :
    (∃ c, cs = [c] ∧ VRep w R ρ c u) ∨ ∃ us : Array Value, u = .tuple us ∧ VReps w R ρ cs us.toList ∧ resV cs = .tup cs ∧ ∀ c, cs ≠ [c] := by
  unfold resV at hv ⊢
  split at hv
  · exact .inl ⟨_, rfl, hv⟩
  · rename_i hne
    obtain ⟨us, rfl, hus⟩ := hv.tup_inv
    exact .inr ⟨us, rfl, hus, rfl, hne⟩
def allNoRef (ts : List Ty) : Bool := ts.all Ty.noRef
theorem noRef_encs : ∀ (ts : List Ty) (x : Els ts), allNoRef ts = true → ∀ c ∈ encs ts x, ∀ (w : World) (R : Nat → Prop) (ρ : Nm) (w' : World) (R' : Nat → Prop) (ρ' : Nm) (u : Value), VRep w R ρ c u → VRep w' R' ρ' c u
  | [], _, _, c, h => by simp [encs] at h
  | t :: ts, x, hn, c, h => by
    simp only [allNoRef, List.all_cons, Bool.and_eq_true] at hn
    rcases List.mem_cons.1 h with rfl | h
    · intro w R ρ w' R' ρ' u hv; exact t.noRef_ok hn.1 x.1 hv
    · exact noRef_encs ts x.2 hn.2 c h
theorem noRef_res {ts : List Ty} {x : Els ts} (hn : allNoRef ts = true) {w' : World} {R' : Nat → Prop} {ρ' : Nm} {u : Value} (hv : VRep w R ρ (resV (encs ts x)) u) : VRep w' R' ρ' (resV (encs ts x)) u := by
  rcases VReps.resV_inv hv with ⟨c, hc, h1⟩ | ⟨us, rfl, hus, he, _⟩
  · rw [hc]
    show VRep w' R' ρ' c u
    exact noRef_encs ts x hn c (by rw [hc]; simp) _ _ _ _ _ _ _ h1
  · rw [he]
    exact .tup' ⟨hus.1, fun k c u hc hu => noRef_encs ts x hn c (List.mem_of_getElem? hc) _ _ _ _ _ _ _ (hus.2 k c u hc hu)⟩
theorem unfreeze {h1 : AH} {R1 R' : Nat → Prop} {w' : World} (hr : Rel R ρ h w) (f1 : Frm R ρ h w R1 ρ h1 w) (hr1 : Rel R1 ρ h1 w) (r2 : Rel R' ρ h1 w') (f2 : Frm R1 ρ h1 w R' ρ h1 w') (hsub : ∀ (b : Nat), Lv ρ h b → ¬ R b → (Lv ρ h1 b → w'.heap[b]? = w.heap[b]?)) :
    Rel (fun k => R' k ∧ ¬ Lv ρ h k) ρ h w' ∧ Frm R ρ h w (fun k => R' k ∧ ¬ Lv ρ h k) ρ h w' := by
  have hk : ∀ b, b < w.heap.size → w'.heap[b]? = w.heap[b]? := by
    intro b hb
    by_cases hl : Lv ρ h1 b
    · have hl0 : Lv ρ h b := by
        rcases f1.lives b hl with h6 | h6
        · exact h6
        · omega
      exact hsub b hl0 (fun hR => hr.notLive hR hl0) hl
    · exact f2.keeps b hb hl
  have hRR : ∀ k, R k → R' k ∧ ¬ Lv ρ h k := fun k hk => ⟨f2.ros k (f1.ros k hk), hr.notLive hk⟩
  refine ⟨⟨fun i blk hi => ?_, hr.inj, hr.dom, fun b hb => r2.ro b hb.1⟩, ⟨f2.os, f2.tape, f2.output, f2.size, Nm.le_refl _, hRR, fun b hb _ => hk b hb, fun b hl => .inl hl, fun b hb => ?_, Nat.le_refl _, fun _ _ h => h, Nat.le_trans f1.frz f2.frz⟩⟩
  · obtain ⟨b, N, k1, k2, k3⟩ := hr.live i blk hi
    refine ⟨b, N, k1, k2.mono k3 (fun hg => hk b (k2.lt hg)) (fun k hkR => hk k (hr.ro k hkR)) hRR (Nm.le_refl _), ?_⟩
    rcases k3 with ⟨h4, h5⟩ | h4
    · exact .inl ⟨h4, fun hb => hb.2 ⟨i, blk, N, hi, k1, h4⟩⟩
    · exact .inr h4
  · rcases f2.rolds b hb.1 with h6 | h6 | h6
    · rcases f1.rolds b h6 with h7 | h7 | h7
      · exact .inl h7
      · exact absurd h7 hb.2
      · exact .inr (.inr h7)
    · rcases f1.lives b h6 with h7 | h7
      · exact absurd h7 hb.2
      · exact .inr (.inr h7)
    · exact .inr (.inr h6)
def hide1 : AV → AV
  | .lst _ _ => .slc
  | v => v
def hideV : AV → AV
  | .agg cs => .agg (cs.map hide1)
  | v => hide1 v
theorem hideC (t : Ty) : ∀ (x : t.El) (w : World) (R : Nat → Prop) (ρ : Nm) (w' : World) (R' : Nat → Prop) (ρ' : Nm) (c : AV), c ∈ (t.enc x).cells → ∀ u, VRep w R ρ c u → VRep w' R' ρ' (hide1 c) u := by
  induction t with
  | unit => intro x w R ρ w' R' ρ' c hc; simp [Ty.enc, AV.cells] at hc
  | int k => intro x w R ρ w' R' ρ' c hc u hv; simp only [Ty.enc, AV.cells, List.mem_singleton] at hc; subst hc; cases hv; constructor
  | bool => intro x w R ρ w' R' ρ' c hc u hv; simp only [Ty.enc, AV.cells, List.mem_singleton] at hc; subst hc; cases hv; constructor
  | str => intro x w R ρ w' R' ρ' c hc u hv; simp only [Ty.enc, AV.cells, List.mem_singleton] at hc; subst hc; cases hv; constructor
  | flt k => intro x w R ρ w' R' ρ' c hc u hv; simp only [Ty.enc, AV.cells, List.mem_singleton] at hc; subst hc; cases hv; constructor
  | list t _ =>
    intro x w R ρ w' R' ρ' c hc u hv
    simp only [Ty.enc, AV.cells, List.mem_singleton] at hc
    subst hc
    cases hv with
    | lst hv =>
      obtain ⟨a, c, rfl⟩ := hv.ro_slice
      exact .slc _ _ _
  | wrap a ih => intro x w R ρ w' R' ρ' c hc u hv; exact ih x w R ρ w' R' ρ' c hc u hv
  | pair a b iha ihb =>
    intro x w R ρ w' R' ρ' c hc u hv
    simp only [Ty.enc, AV.cells, List.mem_append] at hc
    rcases hc with hc | hc
    · exact iha x.1 w R ρ w' R' ρ' c hc u hv
    · exact ihb x.2 w R ρ w' R' ρ' c hc u hv
theorem hide_agg {cs : List AV} {w w' : World} {R R' : Nat → Prop} {ρ ρ' : Nm} {u : Value} (h : ∀ c ∈ cs, ∀ u, VRep w R ρ c u → VRep w' R' ρ' (hide1 c) u) (hv : VRep w R ρ (.agg cs) u) : VRep w' R' ρ' (.agg (cs.map hide1)) u := by
  obtain ⟨us, rfl, hus⟩ := hv.agg_inv
  refine .agg' ⟨by simpa using hus.1, fun k c u hc hu => ?_⟩
  rw [List.getElem?_map] at hc
  obtain ⟨c0, hc0, rfl⟩ := Option.map_eq_some_iff.1 hc
  exact h c0 (List.mem_of_getElem? hc0) u (hus.2 k c0 u hc0 hu)
theorem hide_ok (t : Ty) (x : t.El) {w w' : World} {R R' : Nat → Prop} {ρ ρ' : Nm} {u : Value} (hv : VRep w R ρ (t.enc x) u) : VRep w' R' ρ' (hideV (t.enc x)) u := by
  have h1 := fun c hc => hideC t x w R ρ w' R' ρ' c hc
  cases t with
  | unit => exact hide_agg (cs := []) (fun c hc => by simp at hc) hv
  | wrap a => exact hide_agg h1 hv
  | pair a b => exact hide_agg h1 hv
  | _ => exact h1 _ (by simp [Ty.enc, AV.cells]) u hv
theorem hide_encs : ∀ (ts : List Ty) (x : Els ts) (w : World) (R : Nat → Prop) (ρ : Nm) (w' : World) (R' : Nat → Prop) (ρ' : Nm) (us : List Value), VReps w R ρ (encs ts x) us → VReps w' R' ρ' ((encs ts x).map hideV) us
  | [], x, w, R, ρ, w', R', ρ', us, hv => by
    obtain rfl := hv.nil_inv
    exact .nil
  | t :: ts, x, w, R, ρ, w', R', ρ', us, hv => by
    obtain ⟨u, us', rfl, h1, h2⟩ := VReps.cons_inv hv
    exact .cons (hide_ok t x.1 h1) (hide_encs ts x.2 w R ρ w' R' ρ' us' h2)
theorem hide_res {ts : List Ty} {x : Els ts} {w w' : World} {R R' : Nat → Prop} {ρ ρ' : Nm} {u : Value} (hv : VRep w R ρ (resV (encs ts x)) u) : VRep w' R' ρ' (resV ((encs ts x).map hideV)) u := by
  rcases VReps.resV_inv hv with ⟨c, hc, h1⟩ | ⟨us, rfl, hus, he, hne⟩
  · have h2 := hide_encs ts x w R ρ w' R' ρ' [u] (by rw [hc]; exact .cons h1 .nil)
    rw [hc] at h2 ⊢
    obtain ⟨u', us', he, h3, h4⟩ := VReps.cons_inv h2
    simp only [List.cons.injEq] at he
    obtain ⟨rfl, rfl⟩ := he
    exact h3
  · have h2 := hide_encs ts x w R ρ w' R' ρ' _ hus
    have : resV ((encs ts x).map hideV) = .tup ((encs ts x).map hideV) := by
      unfold resV
      split
      · rename_i c hc
        exfalso
        cases hl : encs ts x with
        | nil => rw [hl] at hc; simp at hc
        | cons d l => rw [hl] at hc; simp at hc; exact hne d (by rw [hl, hc.2])
      · rfl
    rw [this]
    exact .tup' h2
def keysOf (args : List AV) : List FuncId := args.filterMap fun
  | .func f _ _ => some f
  | _ => none
def callT (T : Tb) (h : AH) (g : FuncId) (args : List AV) (K Kp : AV → AH → Option β) : Option β := match T.fn g (keysOf args) with
  | some e => match frzArgs e.ps h args with
    | some (x, h1) => (e.F x).bind fun y => if e.hid then K (resV ((encs e.rs y).map hideV)) h else K (resV (encs e.rs y)) (if allNoRef e.rs then h else h1)
    | none => none
  | none => match T.own g (keysOf args) with
    | some e => match frzArgs e.ps h args with
      | some (x, h1) => (e.F x).bind fun y => if e.t.noRef then K (.orow e.t h.length) (h ++ [some (.row e.bt e.t y)]) else K (.orow e.t h1.length) (h1 ++ [some (.row e.bt e.t y)])
      | none => none
    | none => match T.mov g (keysOf args) with
      | some e => match args with
        | .orow τ i :: rest => match frzArgs e.ps h rest with
          | some (x, h1) => match h1[i]? with
            | some (some (.row bt ty l)) => if hty : ty = e.t then (if bt = e.bt ∧ τ = e.t then (e.F (hty ▸ l) x).bind fun y => K (.orow e.t' h1.length) (h1.set i none ++ [some (.row e.bt' e.t' y)]) else none) else none
            | _ => none
          | none => none
        | _ => none
      | none => match T.gen g (keysOf args) with
        | some r => r.run h args K
        | none => match T.pan g (keysOf args) with
          | some r => r.run h args K Kp
          | none => none
theorem AC.pureKeep {P : Program} {g : FuncId} {args : List AV} {v : AV} (hc : AC P g args [] (.ret v) []) (ha : ∀ c ∈ args, Nameless c) (hv : Nameless v) (hr : Rel R ρ h w) {vs : Array Value} (hvs : VReps w R ρ args vs.toList) :
    Calls P g vs w fun e w' => ∃ R' u, e = .returned u ∧ VRep w' R' ρ v u ∧ Rel R' ρ h w' ∧ Frm R ρ h w R' ρ h w' ∧ ∀ b, b < w.heap.size → w'.heap[b]? = w.heap[b]? := by
  refine (hc R ρ0 w vs (.base hr.ro) (Nameless.reps ha hvs)).mono ?_
  rintro e w' ⟨R', ρ', u, ⟨rfl, hu⟩, r1, f1⟩
  obtain rfl := r1.nil_names
  have hnl : ∀ b, ¬ Lv ρ0 [] b := by rintro b ⟨i, blk, N, hi, _⟩; simp at hi
  have hkeep : ∀ b, b < w.heap.size → w'.heap[b]? = w.heap[b]? := fun b hb => f1.keeps b hb (hnl b)
  refine ⟨R', u, rfl, hv _ _ _ _ _ hu, ⟨fun i blk hi => ?_, hr.inj, hr.dom, r1.ro⟩, ⟨f1.os, f1.tape, f1.output, f1.size, Nm.le_refl _, f1.ros, fun b hb _ => hkeep b hb, fun b hl => .inl hl, fun b hb => ?_, Nat.le_refl _, fun _ _ h => h, f1.frz⟩, hkeep⟩
  · obtain ⟨b, N, h1, h2, h3⟩ := hr.live i blk hi
    refine ⟨b, N, h1, h2.mono h3 (fun hg => hkeep b (h2.lt hg)) (fun k hk => hkeep k (hr.ro k hk)) f1.ros (Nm.le_refl _), ?_⟩
    rcases h3 with ⟨h4, h5⟩ | h4
    · refine .inl ⟨h4, fun hb => ?_⟩
      rcases f1.rolds b hb with h6 | h6 | h6
      · exact h5 h6
      · exact hnl b h6
      · have := h2.lt h4; omega
    · exact .inr h4
  · rcases f1.rolds b hb with h6 | h6 | h6
    · exact .inl h6
    · exact absurd h6 (hnl b)
    · exact .inr (.inr h6)
theorem AC.ownKeep {P : Program} {g : FuncId} {args : List AV} {bt : TypeId} {t : Ty} {l : List t.El} (hc : AC P g args [] (.ret (.orow t 0)) [some (.row bt t l)]) (ha : ∀ c ∈ args, Nameless c) (hn : t.noRef = true) {h1 : AH} {R1 : Nat → Prop} (hr : Rel R ρ h w) (f1 : Frm R ρ h w R1 ρ h1 w) (hr1 : Rel R1 ρ h1 w) {vs : Array Value} (hvs : VReps w R1 ρ args vs.toList) :
    Calls P g vs w fun e w' => ∃ R' ρ' u, e = .returned u ∧ VRep w' R' ρ' (.orow t h.length) u ∧ Rel R' ρ' (h ++ [some (.row bt t l)]) w' ∧ Frm R ρ h w R' ρ' (h ++ [some (.row bt t l)]) w' := by
  refine (hc R1 ρ0 w vs (.base hr1.ro) (Nameless.reps ha hvs)).mono ?_
  rintro e w' ⟨R', ρ', u, ⟨rfl, hu⟩, r1, f2⟩
  have hnl : ∀ b, ¬ Lv ρ0 [] b := by rintro b ⟨i, blk, N, hi, _⟩; simp at hi
  have hkeep : ∀ b, b < w.heap.size → w'.heap[b]? = w.heap[b]? := fun b hb => f2.keeps b hb (hnl b)
  have hrolds : ∀ b, R' b → R1 b ∨ w.heap.size ≤ b := by
    intro b hb
    rcases f2.rolds b hb with h6 | h6 | h6
    · exact .inl h6
    · exact absurd h6 (hnl b)
    · exact .inr h6
  have r2 : Rel R' ρ h1 w' := by
    refine ⟨fun i blk hi => ?_, hr1.inj, hr1.dom, r1.ro⟩
    obtain ⟨b, N, k1, k2, k3⟩ := hr1.live i blk hi
    refine ⟨b, N, k1, k2.mono k3 (fun hg => hkeep b (k2.lt hg)) (fun k hk => hkeep k (hr1.ro k hk)) f2.ros (Nm.le_refl _), ?_⟩
    rcases k3 with ⟨h4, h5⟩ | h4
    · refine .inl ⟨h4, fun hb => ?_⟩
      rcases hrolds b hb with h6 | h6
      · exact h5 h6
      · have := k2.lt h4; omega
    · exact .inr h4
  have f2' : Frm R1 ρ h1 w R' ρ h1 w' := ⟨f2.os, f2.tape, f2.output, f2.size, Nm.le_refl _, f2.ros, fun b hb _ => hkeep b hb, fun b hl => .inl hl, fun b hb => (hrolds b hb).elim .inl (fun h => .inr (.inr h)), Nat.le_refl _, fun _ _ h => h, f2.frz⟩
  obtain ⟨r3, f3⟩ := unfreeze hr f1 hr1 r2 f2' (fun b hl _ _ => hkeep b (hr.lv_lt hl))
  obtain ⟨b, N, hnm, hb, hre⟩ := r1.live 0 _ rfl
  have hb2 : BRep w' (fun k => R' k ∧ ¬ Lv ρ h k) ρ b N (.row bt t l) := by
    obtain ⟨k1, k2⟩ := hb
    refine ⟨k1, fun hg => ?_⟩
    obtain ⟨arr, k3, k4, k5, k6⟩ := k2 hg
    refine ⟨arr, k3, k4, k5, fun j o c hj hc => ?_⟩
    obtain ⟨u, hu, hv⟩ := k6 j o c hj hc
    exact ⟨u, hu, t.noRefC hn (l.getD j t.dflt) _ _ _ _ _ _ c (List.mem_of_getElem? hc) u hv⟩
  have hbig : N.gh = false → w.heap.size ≤ b := by
    intro hg
    rcases f2.lives b ⟨0, _, N, rfl, hnm, hg⟩ with h6 | h6
    · exact absurd h6 (hnl b)
    · exact h6
  have hre2 : Real (fun k => R' k ∧ ¬ Lv ρ h k) b N (.row bt t l) := by
    rcases hre with ⟨h5, h6⟩ | h5
    · exact .inl ⟨h5, fun h7 => h6 h7.1⟩
    · exact .inr h5
  have r4 := rel_name r3 (.row bt t l) hb2 (fun hg hl => by have := hr.lv_lt hl; have := hbig hg; omega) hre2
  have hle := Nm.le_upd (bn := (b, N)) (hr.dom h.length (Nat.le_refl _))
  refine ⟨_, _, u, rfl, ?_, r4, ⟨f3.os, f3.tape, f3.output, f3.size, hle, f3.ros, fun c hc' _ => hkeep c hc', fun c hl => ?_, f3.rolds, by simp, fun x hx hn' => by rw [Nm.upd_ne (by omega)]; exact hn', f3.frz⟩⟩
  · cases hu with
    | @orow _ _ b' N' cap hn' hg hl hcc =>
      rw [hnm] at hn'
      simp only [Option.some.injEq, Prod.mk.injEq] at hn'
      obtain ⟨rfl, rfl⟩ := hn'
      exact .orow (Nm.upd_self _ _ _) hg hl hcc
    | @onil _ _ b' N' hn' hg =>
      rw [hnm] at hn'
      simp only [Option.some.injEq, Prod.mk.injEq] at hn'
      obtain ⟨rfl, rfl⟩ := hn'
      exact .onil (Nm.upd_self _ _ _) hg
  · obtain ⟨j, blk, N2, hj, hn2, hg2⟩ := hl
    by_cases hjl : j = h.length
    · subst hjl
      rw [Nm.upd_self] at hn2
      simp only [Option.some.injEq, Prod.mk.injEq] at hn2
      obtain ⟨rfl, rfl⟩ := hn2
      exact .inr (hbig hg2)
    · rw [Nm.upd_ne hjl] at hn2
      have hjl2 : j < h.length := by
        have := (List.getElem?_eq_some_iff.1 hj).1
        simp at this; omega
      rw [List.getElem?_append_left hjl2] at hj
      exact .inl ⟨j, blk, N2, hj, hn2, hg2⟩
theorem callT_ok {P : Program} (hT : T.Ok P) {g : FuncId} {args : List AV} {K Kp : AV → AH → Option β} {z : β} (hc : callT T h g args K Kp = some z) : (∃ v h', K v h' = some z ∧ CallOk P g args h v h') ∨ ∃ v h', Kp v h' = some z ∧ CallPan P g args h v h' := by
  unfold callT at hc
  split at hc
  · rename_i e he
    split at hc
    · rename_i x h1 hf
      obtain ⟨y, hy, hK⟩ := Option.bind_eq_some_iff.1 hc
      cases hh : e.hid with
      | true =>
        rw [hh] at hK
        simp only [if_true] at hK
        refine .inl ⟨_, _, hK, fun R ρ w vs hr hvs => ?_⟩
        obtain ⟨R1, r1, f1, v1⟩ := frzArgs_ok e.ps hf hr hvs
        refine ((hT.fn g _ e he x y hy).pureKeep (nameless_args _ _) (.resV (nameless_encs _ _)) r1 v1).mono ?_
        rintro ee w' ⟨R', u, rfl, hu, r2, f2, hkp⟩
        obtain ⟨r3, f3⟩ := unfreeze hr f1 r1 r2 f2 (fun b hl _ _ => hkp b (hr.lv_lt hl))
        exact ⟨_, ρ, u, rfl, hide_res hu, r3, f3⟩
      | false =>
      rw [hh] at hK
      simp only [Bool.false_eq_true, if_false] at hK
      refine .inl ⟨_, _, hK, fun R ρ w vs hr hvs => ?_⟩
      obtain ⟨R1, r1, f1, v1⟩ := frzArgs_ok e.ps hf hr hvs
      refine ((hT.fn g _ e he x y hy).pureKeep (nameless_args _ _) (.resV (nameless_encs _ _)) r1 v1).mono ?_
      rintro ee w' ⟨R', u, rfl, hu, r2, f2, hkp⟩
      cases hn : allNoRef e.rs with
      | true =>
        simp only [if_true]
        obtain ⟨r3, f3⟩ := unfreeze hr f1 r1 r2 f2 (fun b hl _ _ => hkp b (hr.lv_lt hl))
        exact ⟨_, ρ, u, rfl, noRef_res hn hu, r3, f3⟩
      | false =>
        simp only [Bool.false_eq_true, if_false]
        exact ⟨R', ρ, u, rfl, hu, r2, f1.trans f2⟩
    · cases hc
  · split at hc
    · rename_i e he
      split at hc
      · rename_i x h1 hf
        obtain ⟨y, hy, hK⟩ := Option.bind_eq_some_iff.1 hc
        split at hK
        · rename_i hnr
          refine .inl ⟨_, _, hK, fun R ρ w vs hr hvs => ?_⟩
          obtain ⟨R1, r1, f1, v1⟩ := frzArgs_ok e.ps hf hr hvs
          exact (hT.own g _ e he x y hy).ownKeep (nameless_args _ _) hnr hr f1 r1 v1
        refine .inl ⟨_, _, hK, fun R ρ w vs hr hvs => ?_⟩
        obtain ⟨R1, r1, f1, v1⟩ := frzArgs_ok e.ps hf hr hvs
        refine ((hT.own g _ e he x y hy).own (nameless_args _ _) R1 ρ w vs r1 v1).mono ?_
        rintro ee w' ⟨R', ρ', u, rfl, hu, r2, f2⟩
        exact ⟨R', ρ', u, rfl, hu, r2, f1.trans f2⟩
      · cases hc
    · split at hc
      · rename_i e he
        split at hc
        · rename_i τ i rest _ _
          split at hc
          · rename_i x h1 hf
            split at hc
            · rename_i bt ty l hi
              split at hc
              · rename_i hty
                split at hc
                · rename_i hbt
                  obtain ⟨y, hy, hK⟩ := Option.bind_eq_some_iff.1 hc
                  obtain ⟨hbt, hτ⟩ := hbt
                  subst hτ
                  subst hbt
                  refine .inl ⟨_, _, hK, fun R ρ w vs hr hvs => ?_⟩
                  obtain ⟨u0, us0, hu0, g1, g2⟩ := hvs.cons_inv
                  obtain ⟨R1, r1, f1, v1⟩ := frzArgs_ok e.ps hf hr g2
                  have hi' : h1[i]? = some (some (ABlk.row e.bt e.t (hty ▸ l))) := by rw [hi]; cases hty; rfl
                  refine ((hT.mov g _ e he _ x y hy).moved (nameless_args _ _) hi' R1 ρ w vs r1 (by rw [hu0]; exact .cons (g1.frm f1 hr) v1)).mono ?_
                  rintro ee w' ⟨R', ρ', u, rfl, hu, r2, f2⟩
                  exact ⟨R', ρ', u, rfl, hu, r2, f1.trans f2⟩
                · cases hc
              · cases hc
            · cases hc
          · cases hc
        · cases hc
      · split at hc
        · rename_i r hr
          exact .inl (hT.gen g _ r hr β h args K z hc)
        · split at hc
          · rename_i r hr
            exact hT.pan g _ r hr β h args K Kp z hc
          · cases hc
end
end Go.DI
set_option linter.unusedVariables false
set_option linter.unusedSimpArgs false
namespace Go.DI
section
variable {C : Cfg} {T : Tb} {h : AH} {ev : Operand → Option AV} {β : Type}
theorem StepOk.of_run {op : Op} {v : AV} {h' : AH} (hs : ∀ R ρ w (a : Act) (o : Oper), o.op = op → Rel R ρ h w → EvRep w R ρ ev a → ∃ R' ρ' u w', (execOp a.eval o).run C.P w = .ok (.value u) w' ∧ VRep w' R' ρ' v u ∧ Rel R' ρ' h' w' ∧ Frm R ρ h w R' ρ' h' w') :
    StepOk C.P op ev h v h' := by
  intro R ρ w a o hop hr hev K Q hK
  obtain ⟨R', ρ', u, w', h1, h2, h3, h4⟩ := hs R ρ w a o hop hr hev
  unfold Oper.wp
  rw [h1]
  exact hK _ _ _ _ h2 h3 h4
def valT (x : Option AV) (h : AH) (K : AV → AH → Option β) : Option β := match x with
  | some v => K v h
  | none => none
theorem valT_ok {x : Option AV} {K : AV → AH → Option β} {z : β} (hx : valT x h K = some z) : ∃ v, x = some v ∧ K v h = some z := by
  unfold valT at hx
  split at hx
  · rename_i v; exact ⟨v, rfl, hx⟩
  · cases hx
def skipT (x : Option AH) (K : AV → AH → Option β) : Option β := match x with
  | some h' => K .undef h'
  | none => none
theorem skipT_ok {x : Option AH} {K : AV → AH → Option β} {z : β} (hx : skipT x K = some z) : ∃ h', x = some h' ∧ K .undef h' = some z := by
  unfold skipT at hx
  split at hx
  · rename_i v; exact ⟨v, rfl, hx⟩
  · cases hx
def dfltT (C : Cfg) (h : AH) (ev : Operand → Option AV) (op : Op) (K : AV → AH → Option β) : Option β := match opA C h ev op with
  | some (.val v h') => K v h'
  | some (.skip h') => K .undef h'
  | _ => none
theorem dfltT_ok (hC : C.Ok) {op : Op} {K : AV → AH → Option β} {z : β} (hx : dfltT C h ev op K = some z) : ∃ v h', StepOk C.P op ev h v h' ∧ K v h' = some z := by
  unfold dfltT at hx
  split at hx
  · rename_i v h' ho; exact ⟨v, h', .of_val hC ho, hx⟩
  · rename_i h' ho; exact ⟨.undef, h', .of_skip hC ho, hx⟩
  · cases hx
def evT (x : Option AV) (K : AV → Option β) : Option β := match x with
  | some v => K v
  | none => none
theorem evT_ok {x : Option AV} {K : AV → Option β} {z : β} (hx : evT x K = some z) : ∃ v, x = some v ∧ K v = some z := by
  unfold evT at hx
  split at hx
  · rename_i v; exact ⟨v, rfl, hx⟩
  · cases hx
def pickT (c : AV) (x y : Option AV) (h : AH) (K : AV → AH → Option β) : Option β := match c with
  | .bool b => bif b then valT x h K else valT y h K
  | _ => none
def clearT (C : Cfg) (h : AH) (t : TypeId) (sz i off len : Nat) (K : AV → AH → Option β) : Option β := match h[i]?, C.P.underlying t with
  | some (some (.row bt (.int k) s)), some (.slice e) => match zeroA C e with
    | some (.int k' n) => bif Nat.beq sz 1 && (Nat.beq (off + len) s.length && (Nat.blt 0 s.length && (decide (k' = k) && decide (n = 0)))) then K .undef (h.set i (some (.row bt (.int k) (s.take off ++ List.replicate len (0 : Int))))) else none
    | _ => none
  | _, _ => none
theorem flat_int (k : IntKind) : ∀ (s : List Int), (Ty.int k).flat s = s.map (AV.int k)
  | [] => rfl
  | n :: s => by
    rw [Ty.flat_cons, List.map_cons, ← flat_int k s]; rfl
theorem clearT_ok {t : TypeId} {sz i off len : Nat} {K : AV → AH → Option β} {z : β} (hx : clearT C h t sz i off len K = some z) :
    ∃ h', K .undef h' = some z ∧ ∀ (R : Nat → Prop) (ρ : Nm) (w : World) (tty : TypeId) (ts : Array TypeId) (us : Array Value) (u : Value), Rel R ρ h w → VRep w R ρ (.own sz i off len) u → ts[0]? = some t → us[0]? = some u → Post C R ρ h w (Builtin.clear_ ts tty us) .undef h' := by
  unfold clearT at hx
  split at hx
  · rename_i bt k s e hi ht
    split at hx
    · rename_i k' n hz
      cases hc : (Nat.beq sz 1 && (Nat.beq (off + len) s.length && (Nat.blt 0 s.length && (decide (k' = k) && decide (n = 0))))) with
      | false => rw [hc] at hx; cases hx
      | true =>
        rw [hc] at hx
        simp only [Bool.and_eq_true, decide_eq_true_eq] at hc
        obtain ⟨c1, c2, c3, rfl, rfl⟩ := hc
        have c1 := Nat.eq_of_beq_eq_true c1
        have c2 := Nat.eq_of_beq_eq_true c2
        have c3 : 0 < s.length := Nat.blt_eq ▸ c3
        subst c1
        refine ⟨_, hx, fun R ρ w tty ts us u hr hv hts hus => ?_⟩
        cases hv with
        | @own _ _ _ _ b N cap hn hle hcN =>
        obtain ⟨q1, q2, q3⟩ := row_at hr hi hn
        have hg : N.gh = false := by
          cases hg : N.gh with
          | false => rfl
          | true =>
            have := q3 hg
            rw [this] at c3
            simp at c3
        obtain ⟨hB, hRb⟩ := q2 hg
        have hC2 := row_cells hB hg
        obtain ⟨zv, hz1, hz2⟩ := zeroA_ok hz
        have hzv : zv = .int k' 0 := by
          have := hz2 w R ρ
          cases this
          rfl
        subst hzv
        have hfl : ((Ty.int k').flat s).length = s.length := by rw [flat_int, List.length_map]
        have hnew : ((Ty.int k').flat s).take off ++ List.replicate len (AV.int k' 0) ++ ((Ty.int k').flat s).drop (off + (List.replicate len (AV.int k' 0)).length) = (Ty.int k').flat (s.take off ++ List.replicate len (0 : Int)) := by
          rw [List.length_replicate, c2, List.drop_of_length_le (by rw [hfl]; exact Nat.le_refl _), List.append_nil, flat_int, flat_int, List.map_append, List.map_take, List.map_replicate]
        have hlen : N.len = (s.take off ++ List.replicate len (0 : Int)).length := by
          rw [q1, List.length_append, List.length_take, List.length_replicate]; omega
        cases len with
        | zero =>
          have hs : s.take off ++ List.replicate 0 (0 : Int) = s := by
            rw [List.replicate_zero, List.append_nil, List.take_of_length_le (by omega)]
          have hs : (s.take off ++ List.replicate 0 (0 : Int) : List (Ty.int k').El) = s := hs
          obtain ⟨r1, r2⟩ := rel_retell (blk := .row bt (.int k') (s.take off ++ List.replicate 0 (0 : Int))) hr hi hn hg (by rw [hs]; exact hB)
          exact ⟨R, ρ, .tuple #[], w, by simp [Builtin.clear_, hts, hus, run_underlying ht], .undef, r1, r2⟩
        | succ m =>
          have hus2 : (Builtin.zeroCells (Value.int k' 0).cells (m + 1)).toList = List.replicate (m + 1) (Value.int k' 0) := by
            have hcz : (Value.int k' 0).cells = #[Value.int k' 0] := rfl
            rw [hcz]
            unfold Builtin.zeroCells
            apply List.ext_getElem
            · simp
            · intro j h1 h2
              simp [Nat.mod_one]
          have hvc : VReps w R ρ (List.replicate (m + 1) (AV.int k' 0)) (List.replicate (m + 1) (Value.int k' 0)) := by
            refine ⟨by simp, fun j c u hc hu => ?_⟩
            have h1 := List.eq_of_mem_replicate (List.mem_of_getElem? hc)
            have h2 := List.eq_of_mem_replicate (List.mem_of_getElem? hu)
            rw [h1, h2]
            exact .int _ _
          have hb2 := BRep_store (o := off) hC2 hvc (by rw [hfl, List.length_replicate]; omega) hRb
          rw [hnew] at hb2
          have hrow := cells_row hb2 hlen
          obtain ⟨arr, ha, hN, hcN2, _⟩ := hC2
          obtain ⟨s1, s2, s3, s4⟩ := setCells_size (b := b) (List.replicate (m + 1) (Value.int k' 0)) off w
          obtain ⟨r1, r2⟩ := rel_upd hr hi hn _ s2 s3 s4 s1 (fun k hk => setCells_keep _ _ _ k hk) hrow hg (Nat.le_of_eq (setCells_drawn _ _ _).symm)
          rw [hfl] at hcN2
          have hth := block_there ha off (m + 1) (by omega)
          have hst := run_storeCells_cells (P := C.P) b off (List.replicate (m + 1) (Value.int k' 0)) 0 w (fun j hj => by simpa using (hth j (by simpa using hj)).1) (fun j hj => by simpa using (hth j (by simpa using hj)).2) (fun v hv => by rw [List.eq_of_mem_replicate hv]; rfl)
          simp only [Nat.add_zero] at hst
          refine ⟨R, ρ, .tuple #[], _, ?_, .undef, r1, r2⟩
          simp only [Builtin.clear_, hts, hus, Sem.run_bind, run_underlying ht, Result.andThen_ok, hz1, hus2, hst, Sem.run_pure]
    · cases hx
  · cases hx
def prefT (C : Cfg) (h : AH) (t : TypeId) (k : IntKind) (i : Nat) (hi : Option AV) (K : AV → AH → Option β) : Option β := match h[i]? with
  | some (some (.row bt (.int k') s)) => if k' = k ∧ szOk C t (.int k) then bndT none (some hi) s.length fun _ n => bif Nat.blt 0 s.length then K (.orow (.int k') h.length) (h.set i none ++ [some (.row bt (.int k') (s.take n))]) else none else none
  | _ => none
theorem prefT_ok {t : TypeId} {k : IntKind} {i : Nat} {hi : Option AV} {K : AV → AH → Option β} {z : β} (hx : prefT C h t k i hi K = some z) :
    ∃ v h', K v h' = some z ∧ ∀ (R : Nat → Prop) (ρ : Nm) (w : World) (u : Value) (vhi : Option Value), Rel R ρ h w → VRep w R ρ (.orow (.int k) i) u → (∀ a, hi = some a → ∃ v, vhi = some v ∧ VRep w R ρ a v) →
      Post C R ρ h w (Instr.sliceAt t u none vhi none) v h' := by
  unfold prefT at hx
  split at hx
  · rename_i bt k' s hi0
    split at hx
    · rename_i hc0
      obtain ⟨rfl, hsz⟩ := hc0
      obtain ⟨l, n, hb, hln, hns, hK⟩ := bndT_ok hx
      have hl0 := bndA_lo hb
      subst hl0
      cases hc : Nat.blt 0 s.length with
      | false => rw [hc] at hK; cases hK
      | true =>
        rw [hc] at hK
        have hlt : 0 < s.length := Nat.blt_eq ▸ hc
        refine ⟨_, _, hK, fun R ρ w u vhi hr hv hhi => ?_⟩
        unfold szOk at hsz
        split at hsz
        · rename_i e ht
          split at hsz
          · rename_i ti hti
            have hz : ti.size = (Ty.int k').sz := by simpa using hsz
            cases hv with
            | @orow _ _ b N cap hn hg hlc hcc =>
              obtain ⟨q1, q2, _⟩ := row_at hr hi0 hn
              obtain ⟨hB, hRb⟩ := q2 hg
              have hx2 : VRep w R ρ (.own (Ty.int k').sz i 0 s.length) (.slice (some ⟨b, 0, none⟩) N.len cap) := by
                rw [q1]; exact .own hn (by omega) (by omega)
              have hav : sliceA C t (.own (Ty.int k').sz i 0 s.length) none (some hi) = some (.own (Ty.int k').sz i (0 + 0 * (Ty.int k').sz) (n - 0)) := by
                simp only [sliceA, ht, hti, hz, if_true, hb]
                rw [if_neg (fun e => e.2 rfl)]
              obtain ⟨r, k1, k2⟩ := sliceA_ok (vlo := none) (vhi := vhi) hav hx2 (fun a ha => by cases ha) (fun a ha => hhi a (by injection ha)) (fun _ => rfl) (fun e => by cases e)
              rw [Nat.zero_mul, Nat.add_zero, Nat.sub_zero] at k2
              cases k2 with
              | @own _ _ _ _ b2 N2 cap2 hn2 hle2 hc2 =>
              rw [hn] at hn2
              simp only [Option.some.injEq, Prod.mk.injEq] at hn2
              obtain ⟨rfl, rfl⟩ := hn2
              have hcells := (row_cells hB hg).cells_take (n * (Ty.int k').sz)
              rw [Ty.flat_take] at hcells
              obtain ⟨arr, c1, c2, c3, c4⟩ := hcells
              have hB2 : BRep w R ρ b ⟨N.n, n, false⟩ (.row bt (Ty.int k') (s.take n)) := cells_row ⟨arr, c1, c2, c3, c4⟩ (by show n = (s.take n).length; rw [List.length_take]; omega)
              obtain ⟨r1, f1⟩ := rel_rename (N' := ⟨N.n, n, false⟩) hr hi0 hn hg rfl hB2
              exact ⟨R, _, _, w, k1, .orow (N := ⟨N.n, n, false⟩) (Nm.upd_self _ _ _) rfl hle2 (by simp only []; omega), r1, f1⟩
            | @onil _ _ b N hn hg =>
              obtain ⟨_, _, q3⟩ := row_at hr hi0 hn
              have := q3 hg
              rw [this] at hlt
              simp at hlt
          · cases hsz
        · cases hsz
    · cases hx
  · cases hx
def callOpT (C : Cfg) (T : Tb) (h : AH) (ev : Operand → Option AV) (c : Call) (K Kp : AV → AH → Option β) : Option β :=
  match c.callee with
  | .builtin .append => match c.argTypes.toList, mapO ev c.args.toList with
    | [t, tx], some [x, y] => appendT C T h t tx x y K
    | _, _ => none
  | .builtin .len => match c.argTypes.toList, mapO ev c.args.toList with
    | t :: _, some [x] => valT (lenT C h t x) h K
    | _, _ => none
  | .builtin .cap => match c.argTypes.toList, mapO ev c.args.toList with
    | t :: _, some [.nils] => match C.P.underlying t with
      | some (.slice _) => K (.int .i64 0) h
      | _ => none
    | _, _ => none
  | .builtin .clear => match c.argTypes.toList, mapO ev c.args.toList with
    | t :: _, some [.own sz i off len] => clearT C h t sz i off len K
    | _, _ => dfltT C h ev (.call c) K
  | .value f => match mapO ev c.args.toList, ev f with
    | some xs, some (.func g first caps) => if C.isFn g then callT T h g (first ++ xs ++ caps) K Kp else (match T.ext g with
      | some r => r.run (first ++ xs ++ caps) fun v => K v h
      | none => none)
    | _, _ => none
  | _ => dfltT C h ev (.call c) K
theorem bytesA_flat : ∀ (l : List Int), bytesA ((Ty.int .u8).flat l) = some l
  | [] => rfl
  | n :: l => by
    have h : (Ty.int .u8).flat (n :: l) = .int .u8 n :: (Ty.int .u8).flat l := by simp [Ty.flat, Ty.enc, AV.cells]
    rw [h]
    simp only [bytesA, bytesA_flat l]
def convT (C : Cfg) (h : AH) (src dst : TypeId) (i : Nat) (K : AV → AH → Option β) : Option β := match h[i]? with
  | some (some (.row _ (.int .u8) l)) => match C.P.underlying src, C.P.underlying dst with
    | some (.slice e), some .string => match C.P.underlying e with
      | some (.int .u8) => K (.str (l.map fun n => UInt8.ofNat n.toNat)) h
      | _ => none
    | _, _ => none
  | _ => none
theorem convT_ok {src dst : TypeId} {i : Nat} {K : AV → AH → Option β} {z : β} (hx : convT C h src dst i K = some z) :
    ∃ v, K v h = some z ∧ ∀ R ρ w u, Rel R ρ h w → VRep w R ρ (.orow (.int .u8) i) u → ∃ r, (convert src dst u).run C.P w = .ok r w ∧ VRep w R ρ v r := by
  unfold convT at hx
  split at hx
  · rename_i bt l hi
    split at hx
    · rename_i e hs hd
      split at hx
      · rename_i he
        refine ⟨_, hx, fun R ρ w u hr hv => ?_⟩
        cases hv with
        | @orow _ _ b N cap hn hg hlc hc =>
          obtain ⟨q1, q2, _⟩ := row_at hr hi hn
          obtain ⟨hB, _⟩ := q2 hg
          have hil : i < h.length := (List.getElem?_eq_some_iff.1 hi).1
          obtain ⟨r1, _⟩ := rel_retell hr hi hn hg (row_cells hB hg)
          have hx2 : VRep w R ρ (.own 1 i 0 l.length) (.slice (some ⟨b, 0, none⟩) N.len cap) := by
            rw [q1]; exact .own hn (by omega) (by have : (Ty.int .u8).sz = 1 := rfl; rw [this] at hc; omega)
          have hfl : ((Ty.int .u8).flat l).length = l.length := by rw [Ty.flat_len]; show l.length * 1 = _; omega
          have hA : convA C (h.set i (some (.cells bt ((Ty.int .u8).flat l)))) src dst (.own 1 i 0 l.length) = some (.str (l.map fun n => UInt8.ofNat n.toNat)) := by
            have h2 : (h.set i (some (ABlk.cells bt ((Ty.int .u8).flat l))))[i]? = some (some (.cells bt ((Ty.int .u8).flat l))) := by rw [List.getElem?_set_self hil]
            simp only [convA, hs, hd, he, h2]
            rw [if_pos (by omega), List.drop_zero, List.take_of_length_le (by omega), bytesA_flat]; rfl
          exact convA_ok r1 hA hx2
        | @onil _ _ b N hn hg =>
          obtain ⟨_, _, q3⟩ := row_at hr hi hn
          have := q3 hg
          subst this
          have hA : convA C h src dst .nils = some (.str []) := by simp only [convA, hs, hd, he]
          exact convA_ok hr hA .nils
      · cases hx
    · cases hx
  · cases hx
def lookT (C : Cfg) (h : AH) (t : TypeId) (x k : AV) (ok : Bool) (K : AV → AH → Option β) : Option β := match mapOf h x with
  | some es => lookupK C t es k ok fun v => K v h
  | none => valT (lookupT C h t x k ok) h K
theorem lookT_ok {t : TypeId} {x k : AV} {ok : Bool} {K : AV → AH → Option β} {z : β} (hx : lookT C h t x k ok K = some z) :
    ∃ v, K v h = some z ∧ ∀ (R : Nat → Prop) (ρ : Nm) (w : World) (u kv : Value), Rel R ρ h w → VRep w R ρ x u → VRep w R ρ k kv → ∃ r, (Instr.lookup t u kv ok).run C.P w = .ok r w ∧ VRep w R ρ v r := by
  unfold lookT at hx
  split at hx
  · rename_i es hm
    obtain ⟨v, h1, h2⟩ := lookupK_ok hm hx
    exact ⟨v, h2, fun R ρ w u kv hr hu hk => lookupA_ok hr h1 hu hk⟩
  · obtain ⟨v, h1, h2⟩ := valT_ok hx
    exact ⟨v, h2, fun R ρ w u kv hr hu hk => lookupT_ok hr h1 hu hk⟩
def cvfT (C : Cfg) (src dst : TypeId) (s : FloatKind) (b : Nat) (K : AV → Option β) : Option β := match C.P.underlying src, C.P.underlying dst with
  | some _, some (.int k) => bif fIntOk s b k then K (.int k (fInt s b)) else none
  | some _, some (.float k) => if s = k then K (.flt k b) else none
  | _, _ => none
theorem cvfT_ok {src dst : TypeId} {s : FloatKind} {b : Nat} {K : AV → Option β} {z : β} (hx : cvfT C src dst s b K = some z) : ∃ v, convA C h src dst (.flt s b) = some v ∧ K v = some z := by
  unfold cvfT at hx
  split at hx
  · rename_i d k hs hd
    rcases cond_some hx with ⟨h1, h2⟩ | ⟨h1, h2⟩
    · exact ⟨_, by simp only [convA, hs, hd, h1, cond_true], h2⟩
    · cases h2
  · rename_i d k hs hd
    split at hx
    · rename_i hk; exact ⟨_, by simp only [convA, hs, hd, if_pos hk], hx⟩
    · cases hx
  · cases hx
def opTp (C : Cfg) (T : Tb) (h : AH) (ev : Operand → Option AV) (op : Op) (K Kp : AV → AH → Option β) : Option β :=
  match op with
  | .move x | .assign x => valT (ev x) h K
  | .pick c x y => evT (ev c) fun c => pickT c (ev x) (ev y) h K
  | .load t a => evT (ev a) fun x => valT (loadT C h t x) h K
  | .nilCheck x => match ev x with
    | some (.optr t i j o) => K (.optr t i j o) h
    | _ => dfltT C h ev (.nilCheck x) K
  | .binOp op t x y ty => evT (ev x) fun x => evT (ev y) fun y => binT C op t x y fun v => K v h
  | .slice t x lo hi none => evT (ev x) fun x => (match x, lo, hi with
    | .orow (.int k) i, none, some y => prefT C h t k i (ev y) K
    | x, lo, hi => sliceT C h t x (lo.map ev) (hi.map ev) fun v => K v h)
  | .fieldAddr s x f => evT (ev x) fun x => valT (fieldAddrT C s x f) h K
  | .indexAddr t x ix => evT (ev x) fun x => evT (ev ix) fun ix => indexAddrT C h t x ix K
  | .index t x ix => evT (ev x) fun x => evT (ev ix) fun ix => indexT C t x ix fun v => K v h
  | .lookup t x k ok => evT (ev x) fun x => evT (ev k) fun k => lookT C h t x k ok K
  | .store t a x => evT (ev a) fun a => evT (ev x) fun x => skipT (storeT C h t a x) K
  | .mapUpdate t m k x => evT (ev m) fun m => evT (ev k) fun k => evT (ev x) fun x => skipT (mapUpdateT C h t m k x) K
  | .makeMap t none => K (.map h.length) (h ++ [some (makeMapT T h t)])
  | .call c => callOpT C T h ev c K Kp
  | .panic x => match ev x with
    | some (.iface t v) => Kp (.iface t v) h
    | _ => none
  | .convert src dst x => match ev x with
    | some (.orow (.int .u8) i) => convT C h src dst i K
    | some (.flt s b) => cvfT C src dst s b fun v => K v h
    | _ => dfltT C h ev (.convert src dst x) K
  | op => dfltT C h ev op K
theorem run_value {s : Sem Value} {P : Program} {w w' : World} {u : Value} (h : s.run P w = .ok u w') : (do pure (.value (← s)) : Sem Next).run P w = .ok (.value u) w' := by
  rw [Sem.run_bind, h]; rfl
theorem callOpT_ok (hC : C.Ok) (hT : T.Ok C.P) {c : Call} {K Kp : AV → AH → Option β} {z : β} (hx : callOpT C T h ev c K Kp = some z) : (∃ v h', StepOk C.P (.call c) ev h v h' ∧ K v h' = some z) ∨ ∃ v h', StepPan C.P (.call c) ev h v h' ∧ Kp v h' = some z := by
  unfold callOpT at hx
  split at hx
  · rename_i hcal
    split at hx
    · rename_i t tx x y hts hxs
      obtain ⟨v, h', hK, hs⟩ := appendT_ok hx
      refine .inl ⟨v, h', .of_run fun R ρ w a o hop hr hev => ?_, hK⟩
      obtain ⟨dst, op, type, pos, after, guard⟩ := o
      subst hop
      have hvs := mapO_ok (f := a.eval) hev hxs
      obtain ⟨u, us', hu1, g1, g2⟩ := hvs.cons_inv
      obtain ⟨u2, us'', rfl, g3, g4⟩ := g2.cons_inv
      obtain rfl := g4.nil_inv
      have e1 : c.argTypes = #[t, tx] := Array.toList_inj.1 hts
      have e2 : c.args.map a.eval = #[u, u2] := Array.toList_inj.1 (by simpa using hu1)
      obtain ⟨R', ρ', r, w', k1, k2, k3, k4⟩ := hs R ρ w type u u2 hr g1 g3
      refine ⟨R', ρ', r, w', ?_, k2, k3, k4⟩
      have : (execOp a.eval { dst := dst, op := .call c, type := type, pos := pos, after := after, guard := guard }) = (do pure (.value (← Builtin.append_ c.argTypes type (c.args.map a.eval))) : Sem Next) := by
        simp [execOp, resolve, hcal, invoke]
        rfl
      rw [this, e1, e2]
      exact run_value k1
    · cases hx
  · rename_i hcal
    split at hx
    · rename_i t rest x hts hxs
      obtain ⟨v, hl, hK⟩ := valT_ok hx
      refine .inl ⟨v, h, .of_run fun R ρ w a o hop hr hev => ?_, hK⟩
      obtain ⟨dst, op, type, pos, after, guard⟩ := o
      subst hop
      have hvs := mapO_ok (f := a.eval) hev hxs
      obtain ⟨u, us', hu1, g1, g2⟩ := hvs.cons_inv
      obtain rfl := g2.nil_inv
      have e1 : c.argTypes[0]? = some t := by rw [← Array.getElem?_toList, hts]; rfl
      have e2 : (c.args.map a.eval)[0]? = some u := by
        have : (c.args.map a.eval) = #[u] := Array.toList_inj.1 (by simpa using hu1)
        rw [this]; rfl
      obtain ⟨r, k1, k2⟩ := lenT_ok (C := C) (ty := type) hr hl g1 e1 (c.args.map a.eval) e2
      refine ⟨R, ρ, r, w, ?_, k2, hr, Frm.refl _ _ _ _⟩
      have : (execOp a.eval { dst := dst, op := .call c, type := type, pos := pos, after := after, guard := guard }) = (do pure (.value (← Builtin.len_ c.argTypes type (c.args.map a.eval))) : Sem Next) := by
        simp [execOp, resolve, hcal, invoke]
        rfl
      rw [this]
      exact run_value k1
    · cases hx
  · rename_i hcal
    split at hx
    · rename_i t rest hts hxs
      split at hx
      · rename_i e ht
        refine .inl ⟨_, h, .of_run fun R ρ w a o hop hr hev => ?_, hx⟩
        obtain ⟨dst, op, type, pos, after, guard⟩ := o
        subst hop
        have hvs := mapO_ok (f := a.eval) hev hxs
        obtain ⟨u, us', hu1, g1, g2⟩ := hvs.cons_inv
        obtain rfl := g2.nil_inv
        cases g1
        have e1 : c.argTypes[0]? = some t := by rw [← Array.getElem?_toList, hts]; rfl
        have e2 : (c.args.map a.eval)[0]? = some (.slice none 0 0) := by
          have : (c.args.map a.eval) = #[.slice none 0 0] := Array.toList_inj.1 (by simpa using hu1)
          rw [this]; rfl
        refine ⟨R, ρ, .int .i64 0, w, ?_, .int _ _, hr, Frm.refl _ _ _ _⟩
        have : (execOp a.eval { dst := dst, op := .call c, type := type, pos := pos, after := after, guard := guard }) = (do pure (.value (← Builtin.cap_ c.argTypes type (c.args.map a.eval))) : Sem Next) := by
          simp [execOp, resolve, hcal, invoke]
          rfl
        rw [this]
        exact run_value (by simp [Builtin.cap_, e1, e2, run_underlying ht, goInt])
      · cases hx
    · cases hx
  · rename_i hcal
    split at hx
    · rename_i t rest sz i off len hts hxs
      obtain ⟨h', hK, hs⟩ := clearT_ok hx
      refine .inl ⟨_, h', .of_run fun R ρ w a o hop hr hev => ?_, hK⟩
      obtain ⟨dst, op, type, pos, after, guard⟩ := o
      subst hop
      have hvs := mapO_ok (f := a.eval) hev hxs
      obtain ⟨u, us', hu1, g1, g2⟩ := hvs.cons_inv
      obtain rfl := g2.nil_inv
      have e1 : c.argTypes[0]? = some t := by rw [← Array.getElem?_toList, hts]; rfl
      have e2 : (c.args.map a.eval)[0]? = some u := by
        have : (c.args.map a.eval) = #[u] := Array.toList_inj.1 (by simpa using hu1)
        rw [this]; rfl
      obtain ⟨R', ρ', r, w', k1, k2, k3, k4⟩ := hs R ρ w type _ _ u hr g1 e1 e2
      refine ⟨R', ρ', r, w', ?_, k2, k3, k4⟩
      have : (execOp a.eval { dst := dst, op := .call c, type := type, pos := pos, after := after, guard := guard }) = (do pure (.value (← Builtin.clear_ c.argTypes type (c.args.map a.eval))) : Sem Next) := by
        simp [execOp, resolve, hcal, invoke]
        rfl
      rw [this]
      exact run_value k1
    · exact .inl (dfltT_ok hC hx)
  · rename_i f hcal
    split at hx
    · rename_i xs g first caps hxs hg
      split at hx
      · rename_i hfn
        have hA : ∀ o : Oper, o.op = .call c → opA C h ev o.op = some (.call g (first ++ xs ++ caps)) := fun o hop => by
          rw [hop]
          simp only [opA, pureOp, hxs, hcal, hg, hfn, if_true]
        rcases callT_ok hT hx with ⟨v, h', hK, hs⟩ | ⟨v, h', hK, hs⟩
        · refine .inl ⟨v, h', fun R ρ w a o hop hr hev K Q hKK => ?_, hK⟩
          obtain ⟨us, hrun, hvs⟩ := opA_ok hC hr hev (hA o hop)
          unfold Oper.wp
          rw [hrun]
          simp only [Oper.upon]
          refine (hs R ρ w us hr hvs).mono ?_
          rintro e w' ⟨R', ρ', u, rfl, k1, k2, k3⟩
          exact hKK _ _ _ _ k1 k2 k3
        · refine .inr ⟨v, h', fun R ρ w a o hop hr hev K Q hKK => ?_, hK⟩
          obtain ⟨us, hrun, hvs⟩ := opA_ok hC hr hev (hA o hop)
          unfold Oper.wp
          rw [hrun]
          simp only [Oper.upon]
          refine (hs R ρ w us hr hvs).mono ?_
          rintro e w' ⟨R', ρ', u, rfl, k1, k2, k3⟩
          exact hKK _ _ _ _ k1 k2 k3
      · split at hx
        · rename_i r0 hr0
          obtain ⟨v, hK, hv⟩ := hT.ext g r0 hr0 _ _ _ _ hx
          refine .inl ⟨v, h, .of_run fun R ρ w a o hop hr hev => ?_, hK⟩
          obtain ⟨dst, op, type, pos, after, guard⟩ := o
          subst hop
          have hvs := mapO_ok (f := a.eval) hev hxs
          have h1 := hev _ _ hg
          generalize hfv : a.eval f = fv at h1
          cases h1 with
          | func vf vc h2 h3 h4 h5 =>
          have hall : VReps w R ρ (first ++ xs ++ caps) (vf ++ c.args.map a.eval ++ vc).toList := by
            simp only [Array.toList_append, Array.toList_map]
            refine (VReps.append ⟨by simpa using h2, fun k c u hc hu => h4 k c u hc (by simpa using hu)⟩ hvs).append ⟨by simpa using h3, fun k c u hc hu => h5 k c u hc (by simpa using hu)⟩
          obtain ⟨u, hu, hvu⟩ := hv w R ρ _ hall
          refine ⟨R, ρ, u, w, ?_, hvu, hr, Frm.refl _ _ _ _⟩
          rw [← hu]
          simp [execOp, resolve, hcal, hfv, Deferred.ofValue, invoke]
        · cases hx
    · cases hx
  · exact .inl (dfltT_ok hC hx)
theorem opTp_ok (hC : C.Ok) (hT : T.Ok C.P) {op : Op} {K Kp : AV → AH → Option β} {z : β} (hx : opTp C T h ev op K Kp = some z) : (∃ v h', StepOk C.P op ev h v h' ∧ K v h' = some z) ∨ ∃ v h', StepPan C.P op ev h v h' ∧ Kp v h' = some z := by
  unfold opTp at hx
  split at hx
  · rename_i x
    obtain ⟨v, hv, hK⟩ := valT_ok hx
    exact .inl ⟨v, h, .of_run fun R ρ w a o hop hr hev => by
      obtain ⟨dst, op, type, pos, after, guard⟩ := o
      subst hop
      exact ⟨R, ρ, _, w, rfl, hev _ _ hv, hr, Frm.refl _ _ _ _⟩, hK⟩
  · rename_i x
    obtain ⟨v, hv, hK⟩ := valT_ok hx
    exact .inl ⟨v, h, .of_run fun R ρ w a o hop hr hev => by
      obtain ⟨dst, op, type, pos, after, guard⟩ := o
      subst hop
      exact ⟨R, ρ, _, w, rfl, hev _ _ hv, hr, Frm.refl _ _ _ _⟩, hK⟩
  · rename_i c x y
    obtain ⟨cv, hc, hx⟩ := evT_ok hx
    unfold pickT at hx
    split at hx
    · rename_i b
      have key : ∀ (p : Operand) (v : AV), (p = if b then x else y) → ev p = some v → StepOk C.P (.pick c x y) ev h v h := by
        intro p v hp hv
        refine .of_run fun R ρ w a o hop hr hev => ?_
        obtain ⟨dst, op, type, pos, after, guard⟩ := o
        subst hop
        have h1 := hev _ _ hc
        refine ⟨R, ρ, a.eval p, w, ?_, hev _ _ hv, hr, Frm.refl _ _ _ _⟩
        simp only [execOp]
        generalize hcv : a.eval c = cv' at h1
        cases h1
        subst hp
        cases b <;> simp [asBool]
      rcases cond_some hx with ⟨hb, hx⟩ | ⟨hb, hx⟩
      · obtain ⟨v, hv, hK⟩ := valT_ok hx
        exact .inl ⟨v, h, key x v (by rw [hb]; rfl) hv, hK⟩
      · obtain ⟨v, hv, hK⟩ := valT_ok hx
        exact .inl ⟨v, h, key y v (by rw [hb]; rfl) hv, hK⟩
    · cases hx
  · rename_i t x
    obtain ⟨xv, hxv, hx⟩ := evT_ok hx
    obtain ⟨v, hl, hK⟩ := valT_ok hx
    exact .inl ⟨v, h, .of_pure (fun f => Instr.loadAt t (f x)) (fun a o hop => by obtain ⟨_, _, _, _, _, _⟩ := o; subst hop; rfl) fun R ρ w a hr hev => loadT_ok hr (hev _ _ hxv) hl, hK⟩
  · rename_i x
    split at hx
    · rename_i t i j o hv
      refine .inl ⟨_, h, .of_run fun R ρ w a o hop hr hev => ?_, hx⟩
      obtain ⟨dst, op, type, pos, after, guard⟩ := o
      subst hop
      have h1 := hev _ _ hv
      simp only [execOp]
      generalize a.eval x = u at h1
      cases h1 with
      | optr hn hj => exact ⟨R, ρ, _, w, rfl, .optr hn hj, hr, Frm.refl _ _ _ _⟩
    · exact .inl (dfltT_ok hC hx)
  · rename_i op t x y ty
    obtain ⟨xv, hxv, hx⟩ := evT_ok hx
    obtain ⟨yv, hyv, hx⟩ := evT_ok hx
    obtain ⟨v, hb, hK⟩ := binT_ok hx
    refine .inl ⟨v, h, .of_val hC ?_, hK⟩
    simp only [opA, pureOp, hxv, hyv, hb]
  · rename_i t x lo hi
    obtain ⟨xv, hxv, hx⟩ := evT_ok hx
    split at hx
    · rename_i k i y _h0
      obtain ⟨v, h', hK, hs⟩ := prefT_ok hx
      refine .inl ⟨v, h', .of_run fun R ρ w a o hop hr hev => ?_, hK⟩
      obtain ⟨dst, op, type, pos, after, guard⟩ := o
      subst hop
      obtain ⟨R', ρ', r, w', k1, k2, k3, k4⟩ := hs R ρ w _ (some (a.eval y)) hr (hev _ _ hxv) (fun b hb => ⟨_, rfl, hev _ _ hb⟩)
      refine ⟨R', ρ', r, w', ?_, k2, k3, k4⟩
      have : (execOp a.eval { dst := dst, op := .slice t x none (some y) none, type := type, pos := pos, after := after, guard := guard }) = (do pure (.value (← Instr.sliceAt t (a.eval x) none (some (a.eval y)) none)) : Sem Next) := rfl
      rw [this]
      exact run_value k1
    obtain ⟨v, hK, hs⟩ := sliceT_ok hx
    refine .inl ⟨v, h, .of_pure (fun f => Instr.sliceAt t (f x) (lo.map f) (hi.map f) none) (fun a o hop => by obtain ⟨_, _, _, _, _, _⟩ := o; subst hop; rfl) fun R ρ w a hr hev => ?_, hK⟩
    refine hs w R ρ _ _ _ hr (hev _ _ hxv) ?_ ?_ ?_ ?_
    · intro b hb
      obtain ⟨x, rfl, hxb⟩ := Option.map_eq_some_iff.1 hb
      exact ⟨_, rfl, hev _ _ hxb⟩
    · intro b hb
      obtain ⟨x, rfl, hxb⟩ := Option.map_eq_some_iff.1 hb
      exact ⟨_, rfl, hev _ _ hxb⟩
    · intro hb
      rw [Option.map_eq_none_iff] at hb; rw [hb]; rfl
    · intro hb
      rw [Option.map_eq_none_iff] at hb; rw [hb]; rfl
  · rename_i s x f
    obtain ⟨xv, hxv, hx⟩ := evT_ok hx
    obtain ⟨v, hl, hK⟩ := valT_ok hx
    exact .inl ⟨v, h, .of_pure (fun g => Instr.fieldAt s (g x) f) (fun a o hop => by obtain ⟨_, _, _, _, _, _⟩ := o; subst hop; rfl) fun R ρ w a hr hev => fieldAddrT_ok hl (hev _ _ hxv), hK⟩
  · rename_i t x ix
    obtain ⟨xv, hxv, hx⟩ := evT_ok hx
    obtain ⟨iv, hiv, hx⟩ := evT_ok hx
    obtain ⟨v, hK, hs⟩ := indexAddrT_ok hx
    exact .inl ⟨v, h, .of_pure (fun g => Instr.indexAt t (g x) (g ix)) (fun a o hop => by obtain ⟨_, _, _, _, _, _⟩ := o; subst hop; rfl) fun R ρ w a hr hev => hs R ρ w _ _ hr (hev _ _ hxv) (hev _ _ hiv), hK⟩
  · rename_i t x ix
    obtain ⟨xv, hxv, hx⟩ := evT_ok hx
    obtain ⟨iv, hiv, hx⟩ := evT_ok hx
    obtain ⟨v, hb, hK⟩ := indexT_ok hx
    refine .inl ⟨v, h, .of_val hC ?_, hK⟩
    simp only [opA, pureOp, hxv, hiv, hb]
  · rename_i t x k ok
    obtain ⟨xv, hxv, hx⟩ := evT_ok hx
    obtain ⟨kv, hkv, hx⟩ := evT_ok hx
    obtain ⟨v, hK, hl⟩ := lookT_ok hx
    exact .inl ⟨v, h, .of_pure (fun g => Instr.lookup t (g x) (g k) ok) (fun a o hop => by obtain ⟨_, _, _, _, _, _⟩ := o; subst hop; rfl) fun R ρ w a hr hev => hl R ρ w _ _ hr (hev _ _ hxv) (hev _ _ hkv), hK⟩
  · rename_i t p x
    obtain ⟨av, hav, hx⟩ := evT_ok hx
    obtain ⟨xv, hxv, hx⟩ := evT_ok hx
    obtain ⟨h', hl, hK⟩ := skipT_ok hx
    exact .inl ⟨_, h', .of_unit (fun g => Instr.storeAt t (g p) (g x)) (fun a o hop => by obtain ⟨_, _, _, _, _, _⟩ := o; subst hop; rfl) fun R ρ w a hr hev => storeT_ok hr hl (hev _ _ hav) (hev _ _ hxv), hK⟩
  · rename_i t m k x
    obtain ⟨mv, hmv, hx⟩ := evT_ok hx
    obtain ⟨kv, hkv, hx⟩ := evT_ok hx
    obtain ⟨xv, hxv, hx⟩ := evT_ok hx
    obtain ⟨h', hl, hK⟩ := skipT_ok hx
    exact .inl ⟨_, h', .of_unit (fun g => Instr.mapUpdate t (g m) (g k) (g x)) (fun a o hop => by obtain ⟨_, _, _, _, _, _⟩ := o; subst hop; rfl) fun R ρ w a hr hev => mapUpdateT_ok hr hl (hev _ _ hmv) (hev _ _ hkv) (hev _ _ hxv), hK⟩
  · rename_i t
    exact .inl ⟨_, _, .of_sem (fun g => Instr.makeMap t none) (fun a o hop => by obtain ⟨_, _, _, _, _, _⟩ := o; subst hop; rfl) fun R ρ w a hr hev => makeMapT_ok hr t, hx⟩
  · rename_i c
    exact callOpT_ok hC hT hx
  · rename_i x
    split at hx
    · rename_i t v hv
      refine .inr ⟨_, h, fun R ρ w a o hop hr hev K Q hKK => ?_, hx⟩
      have hA : opA C h ev o.op = some (.pan (.iface t v)) := by
        rw [hop]
        simp only [opA, pureOp, hv]
      obtain ⟨u, hrun, hu⟩ := opA_ok hC hr hev hA
      unfold Oper.wp
      rw [hrun]
      exact hKK _ _ _ _ hu hr (Frm.refl _ _ _ _)
    · cases hx
  · rename_i src dst x
    split at hx
    · rename_i i hxv
      obtain ⟨v, hK, hs⟩ := convT_ok hx
      exact .inl ⟨v, h, .of_pure (fun g => convert src dst (g x)) (fun a o hop => by obtain ⟨_, _, _, _, _, _⟩ := o; subst hop; rfl) fun R ρ w a hr hev => hs R ρ w _ hr (hev _ _ hxv), hK⟩
    · rename_i s b hxv
      obtain ⟨v, hA, hK⟩ := cvfT_ok (h := h) hx
      exact .inl ⟨v, h, .of_pure (fun g => convert src dst (g x)) (fun a o hop => by obtain ⟨_, _, _, _, _, _⟩ := o; subst hop; rfl) fun R ρ w a hr hev => convA_ok hr hA (hev _ _ hxv), hK⟩
    · exact .inl (dfltT_ok hC hx)
  · exact .inl (dfltT_ok hC hx)
end
end Go.DI
set_option linter.unusedVariables false
set_option linter.unusedSimpArgs false
namespace Go.DI
structure FrmW (p : Nat) (R : Nat → Prop) (ρ : Nm) (h : AH) (w : World) (R' : Nat → Prop) (ρ' : Nm) (h' : AH) (w' : World) : Prop where
  os : w'.os = w.os
  tape : w'.tape = w.tape
  output : w'.output = w.output
  size : w.heap.size ≤ w'.heap.size
  ros : ∀ b, R b → R' b
  keeps : ∀ b, b < w.heap.size → ¬ Lv ρ h b → w'.heap[b]? = w.heap[b]?
  lives : ∀ b, Lv ρ' h' b → Lv ρ h b ∨ w.heap.size ≤ b
  rolds : ∀ b, R' b → R b ∨ Lv ρ h b ∨ w.heap.size ≤ b
  frz : w.drawn ≤ w'.drawn
  pins : ∀ i bn, i < p → ρ i = some bn → ρ' i = some bn
theorem Frm.weak {p : Nat} {R R' : Nat → Prop} {ρ ρ' : Nm} {h h' : AH} {w w' : World} (f : Frm R ρ h w R' ρ' h' w') : FrmW p R ρ h w R' ρ' h' w' := ⟨f.os, f.tape, f.output, f.size, f.ros, f.keeps, f.lives, f.rolds, f.frz, fun i bn _ h => f.names i bn h⟩
theorem FrmW.refl {p : Nat} (R : Nat → Prop) (ρ : Nm) (h : AH) (w : World) : FrmW p R ρ h w R ρ h w := (Frm.refl R ρ h w).weak
theorem FrmW.trans {p : Nat} {R R1 R2 : Nat → Prop} {ρ ρ1 ρ2 : Nm} {h h1 h2 : AH} {w w1 w2 : World} (a : FrmW p R ρ h w R1 ρ1 h1 w1) (b : FrmW p R1 ρ1 h1 w1 R2 ρ2 h2 w2) : FrmW p R ρ h w R2 ρ2 h2 w2 where
  os := b.os.trans a.os
  tape := b.tape.trans a.tape
  output := b.output.trans a.output
  size := Nat.le_trans a.size b.size
  ros := fun x hx => b.ros x (a.ros x hx)
  keeps := fun x hx hl => by
    rw [b.keeps x (Nat.lt_of_lt_of_le hx a.size) (fun hl1 => ?_), a.keeps x hx hl]
    rcases a.lives x hl1 with h | h
    · exact hl h
    · omega
  lives := fun x hx => by
    rcases b.lives x hx with h | h
    · exact a.lives x h
    · exact .inr (Nat.le_trans a.size h)
  rolds := fun x hx => by
    rcases b.rolds x hx with h | h | h
    · exact a.rolds x h
    · rcases a.lives x h with h | h
      · exact .inr (.inl h)
      · exact .inr (.inr h)
    · exact .inr (.inr (Nat.le_trans a.size h))
  frz := Nat.le_trans a.frz b.frz
  pins := fun i bn hi h => b.pins i bn hi (a.pins i bn hi h)
def FinW (p : Nat) (R : Nat → Prop) (ρ : Nm) (h : AH) (w : World) (x : AX) (s' : AS) : Exit → Act → World → Prop := fun e a' w' =>
  a'.defers = [] ∧ ∃ R' ρ', Rel R' ρ' s'.h w' ∧ RegRep w' R' ρ' s'.r a' ∧ FrmW p R ρ h w R' ρ' s'.h w' ∧ XRep w' R' ρ' x e
def CA (C : Cfg) (c : Code) (s : AS) (x : AX) (s' : AS) : Prop :=
  ∀ (R : Nat → Prop) (ρ : Nm) (a : Act) (w : World), Rel R ρ s.h w → RegRep w R ρ s.r a → a.defers = [] → c.wp C.P (FinW C.pin R ρ s.h w x s') a w
theorem FinW.pre {p : Nat} {R R1 : Nat → Prop} {ρ ρ1 : Nm} {h h1 : AH} {w w1 : World} {x : AX} {s' : AS} (f : FrmW p R ρ h w R1 ρ1 h1 w1) {e : Exit} {a' : Act} {w' : World} (hf : FinW p R1 ρ1 h1 w1 x s' e a' w') : FinW p R ρ h w x s' e a' w' := by
  obtain ⟨h1, R', ρ', h2, h3, h4, h5⟩ := hf
  exact ⟨h1, R', ρ', h2, h3, f.trans h4, h5⟩
theorem CA.pre {C : Cfg} {c : Code} {s s1 : AS} {x : AX} {s' : AS} (hc : CA C c s1 x s') (hp : ∀ R ρ (a : Act) w, Rel R ρ s.h w → RegRep w R ρ s.r a → ∃ R1 ρ1, Rel R1 ρ1 s1.h w ∧ RegRep w R1 ρ1 s1.r a ∧ FrmW C.pin R ρ s.h w R1 ρ1 s1.h w) : CA C c s x s' := by
  intro R ρ a w hr ha hd
  obtain ⟨R1, ρ1, r1, a1, f1⟩ := hp R ρ a w hr ha
  exact wp_mono (hc R1 ρ1 a w r1 a1 hd) fun e a' w' hf => hf.pre f1
theorem CA.post {C : Cfg} {c : Code} {s s1 : AS} {x : AX} {s' : AS} (hc : CA C c s x s1) (hx : ∀ v, x ≠ .pan v) (hp : ∀ R ρ (a : Act) w, Rel R ρ s1.h w → RegRep w R ρ s1.r a → ∃ R1 ρ1, Rel R1 ρ1 s'.h w ∧ RegRep w R1 ρ1 s'.r a ∧ FrmW C.pin R ρ s1.h w R1 ρ1 s'.h w) : CA C c s x s' := by
  intro R ρ a w hr ha hd
  refine wp_mono (hc R ρ a w hr ha hd) fun e a' w' hf => ?_
  obtain ⟨h1, R', ρ', h2, h3, h4, h5⟩ := hf
  obtain ⟨R1, ρ1, r1, a1, f1⟩ := hp R' ρ' a' w' h2 h3
  refine ⟨h1, R1, ρ1, r1, a1, h4.trans f1, ?_⟩
  cases x with
  | pan v => exact absurd rfl (hx v)
  | _ => exact h5
section
variable {C : Cfg} {T : Tb} {β : Type}
def setO (r : List AV) (c : Operand) (b : Bool) : List AV := match c with
  | .tmp t => r.set t (.bool b)
  | _ => r
theorem set_same {r : List AV} {t : Nat} {v : AV} (h : r[t]? = some v) : r.set t v = r := by
  apply List.ext_getElem?
  intro k
  rw [List.getElem?_set]
  split
  · rename_i hk; subst hk
    rw [h, if_pos (List.getElem?_eq_some_iff.1 h).1]
  · rfl
theorem setO_same {r : List AV} {c : Operand} {b : Bool} (h : evO r c = some (.bool b)) : setO r c b = r := by
  cases c with
  | tmp t =>
    simp only [evO, Option.some.injEq] at h
    cases ht : r[t]? with
    | none => rw [ht] at h; cases h
    | some v =>
      rw [ht] at h
      simp only [Option.getD_some] at h
      subst h
      exact set_same ht
  | _ => rfl
def guardT (all : Array Oper) (r : List AV) (o : Oper) (yes no : List AV → Option β) : Option β :=
  match o.guard with
  | none => yes r
  | some (j, want) => match (all[j]?).bind (·.dst) with
    | some d => match r[d]? with
      | some (.bool b) => match want with
        | true => bif b then yes (r.set d (.bool true)) else no (r.set d (.bool false))
        | false => bif b then no (r.set d (.bool true)) else yes (r.set d (.bool false))
      | some .undef => no r
      | none => no r
      | _ => none
    | none => no r
theorem guardT_ok {all : Array Oper} {r : List AV} {o : Oper} {yes no : List AV → Option β} {z : β} (hg : guardT all r o yes no = some z) : (wantedA all r o = some true ∧ yes r = some z) ∨ (wantedA all r o = some false ∧ no r = some z) := by
  unfold guardT at hg
  unfold wantedA
  split at hg
  · rename_i h1; rw [h1]; exact .inl ⟨rfl, hg⟩
  · rename_i j want h1
    rw [h1]
    split at hg
    · rename_i d h2
      simp only [h2]
      split at hg
      · rename_i b h3
        simp only [h3]
        split at hg
        · rcases cond_some hg with ⟨hb, h⟩ | ⟨hb, h⟩
          · subst hb; rw [set_same h3] at h; exact .inl ⟨rfl, h⟩
          · subst hb; rw [set_same h3] at h; exact .inr ⟨rfl, h⟩
        · rcases cond_some hg with ⟨hb, h⟩ | ⟨hb, h⟩
          · subst hb; rw [set_same h3] at h; exact .inr ⟨rfl, h⟩
          · subst hb; rw [set_same h3] at h; exact .inl ⟨rfl, h⟩
      · rename_i h3; simp only [h3]; exact .inr ⟨trivial, hg⟩
      · rename_i h3; simp only [h3]; exact .inr ⟨trivial, hg⟩
      · cases hg
    · rename_i h2
      simp only [h2]
      exact .inr ⟨trivial, hg⟩
def opsT (C : Cfg) (T : Tb) (all : Array Oper) : List Nat → AS → (AX → AS → Option β) → Option β
  | [], s, K => K .normal s
  | i :: rest, s, K => match all[i]? with
    | none => opsT C T all rest s K
    | some o => guardT all s.r o (fun r => opTp C T s.h (evO r) o.op (fun v h' => opsT C T all rest ⟨setR r o.dst v, h'⟩ K) (fun v h' => K (.pan v) ⟨s.r, h'⟩)) (fun r => opsT C T all rest ⟨setR r o.dst .undef, s.h⟩ K)
theorem opsT_ok {p : Nat} (hC : C.Ok) (hT : T.Ok C.P) (all : Array Oper) : ∀ (is : List Nat) (s : AS) (K : AX → AS → Option β) (z : β), opsT C T all is s K = some z →
    ∃ x s', K x s' = some z ∧ ∀ (R : Nat → Prop) (ρ : Nm) (a : Act) (w : World), Rel R ρ s.h w → RegRep w R ρ s.r a → a.defers = [] →
      ∀ (Q : Exit → Act → World → Prop), (∀ e a' w', FinW p R ρ s.h w x s' e a' w' → Q e a' w') → wpOps C.P all Q is a w
  | [], s, K, z, hx => ⟨.normal, s, hx, fun R ρ a w hr ha hd Q hQ => hQ _ _ _ ⟨hd, R, ρ, hr, ha, FrmW.refl _ _ _ _, rfl⟩⟩
  | i :: rest, s, K, z, hx => by
    simp only [opsT] at hx
    cases ho : all[i]? with
    | none =>
      rw [ho] at hx
      obtain ⟨x, s', hK, hw⟩ := opsT_ok hC hT all rest s K z hx
      refine ⟨x, s', hK, fun R ρ a w hr ha hd Q hQ => ?_⟩
      unfold wpOps
      rw [ho]
      exact hw R ρ a w hr ha hd Q hQ
    | some o =>
      rw [ho] at hx
      simp only at hx
      rcases guardT_ok hx with ⟨hw, hx⟩ | ⟨hw, hx⟩
      · rcases opTp_ok hC hT hx with ⟨v, h', hstep, hx⟩ | ⟨v, h', hstep, hx⟩
        · obtain ⟨x, s', hK, hrest⟩ := opsT_ok hC hT all rest _ K z hx
          refine ⟨x, s', hK, fun R ρ a w hr ha hd Q hQ => ?_⟩
          unfold wpOps
          rw [ho]
          simp only
          rw [yielded_of ha hw]
          simp only [if_true]
          refine .inl ?_
          refine hstep R ρ w a o rfl hr (fun x av hx => evO_ok ha hx) _ _ fun R' ρ' u w' h1 h2 h3 => ?_
          exact hrest R' ρ' _ w' h2 ((ha.frm h3 hr).put o.dst h1) (by cases o.dst <;> exact hd) Q fun e a' w'' hf => hQ e a' w'' (hf.pre h3.weak)
        · refine ⟨.pan v, _, hx, fun R ρ a w hr ha hd Q hQ => ?_⟩
          unfold wpOps
          rw [ho]
          simp only
          rw [yielded_of ha hw]
          simp only [if_true]
          refine .inl ?_
          refine hstep R ρ w a o rfl hr (fun x av hx => evO_ok ha hx) _ _ fun R' ρ' u w' h1 h2 h3 => ?_
          exact hQ _ _ _ ⟨hd, R', ρ', h2, ha.frm h3 hr, h3.weak, u, rfl, h1⟩
      · obtain ⟨x, s', hK, hrest⟩ := opsT_ok hC hT all rest _ K z hx
        refine ⟨x, s', hK, fun R ρ a w hr ha hd Q hQ => ?_⟩
        unfold wpOps
        rw [ho]
        simp only
        rw [yielded_of ha hw]
        simp only [Bool.false_eq_true, if_false]
        exact hrest R ρ _ w hr (ha.put o.dst .undef) (by cases o.dst <;> exact hd) Q hQ
def codeKey : Code → Option Nat
  | .region id _ _ => some id
  | .seq a b => match codeKey a with
    | some k => some k
    | none => codeKey b
  | .cond _ a b => match codeKey a with
    | some k => some k
    | none => codeKey b
  | .block _ c | .loop c | .scope c => codeKey c
  | _ => none
def loopsOf : Code → List (Nat × Code)
  | .seq a b | .cond _ a b => loopsOf a ++ loopsOf b
  | .block _ c => loopsOf c
  | .loop c => match codeKey c with
    | some k => [(k, c)]
    | none => []
  | _ => []
def headV {γ : Type} (v : AV) (k : AV → γ) : γ := match v with
  | .agg cs => k (.agg cs)
  | v => k v
theorem headV_eq {γ : Type} (v : AV) (k : AV → γ) : headV v k = k v := by cases v <;> rfl
def forceC {γ : Type} : List AV → (List AV → γ) → γ
  | [], k => k []
  | x :: r, k => headV x fun x' => forceC r fun r' => k (x' :: r')
theorem forceC_eq {γ : Type} : ∀ (l : List AV) (k : List AV → γ), forceC l k = k l
  | [], k => rfl
  | x :: r, k => by simp only [forceC, headV_eq, forceC_eq r]
def forceV {γ : Type} (v : AV) (k : AV → γ) : γ := match v with
  | .agg cs => forceC cs fun cs' => k (.agg cs')
  | .tup cs => forceC cs fun cs' => k (.tup cs')
  | v => k v
theorem forceV_eq {γ : Type} (v : AV) (k : AV → γ) : forceV v k = k v := by cases v <;> simp [forceV, forceC_eq]
def forceR {γ : Type} : List AV → (List AV → γ) → γ
  | [], k => k []
  | x :: r, k => forceV x fun x' => forceR r fun r' => k (x' :: r')
theorem forceR_eq {γ : Type} : ∀ (l : List AV) (k : List AV → γ), forceR l k = k l
  | [], k => rfl
  | x :: r, k => by simp only [forceR, forceV_eq, forceR_eq r]
def forceB {γ : Type} (b : Option ABlk) (k : Option ABlk → γ) : γ := match b with
  | some (.cells t cs) => forceR cs fun cs' => k (some (.cells t cs'))
  | some (.row t ty l) => k (some (.row t ty l))
  | some (.map es) => k (some (.map es))
  | some (.tmap kt vt m) => k (some (.tmap kt vt m))
  | none => k none
theorem forceB_eq {γ : Type} (b : Option ABlk) (k : Option ABlk → γ) : forceB b k = k b := by
  cases b with
  | none => rfl
  | some b => cases b <;> simp [forceB, forceR_eq]
def forceH {γ : Type} : AH → (AH → γ) → γ
  | [], k => k []
  | x :: r, k => forceB x fun x' => forceH r fun r' => k (x' :: r')
theorem forceH_eq {γ : Type} : ∀ (l : AH) (k : AH → γ), forceH l k = k l
  | [], k => rfl
  | x :: r, k => by simp only [forceH, forceB_eq, forceH_eq r]
def forceS {γ : Type} (s : AS) (k : AS → γ) : γ := forceR s.r fun r => forceH s.h fun h => k ⟨r, h⟩
theorem forceS_eq {γ : Type} (s : AS) (k : AS → γ) : forceS s k = k s := by simp [forceS, forceR_eq, forceH_eq]
abbrev DrT (β : Type) := Array Oper → AS → (AX → AS → Option β) → Option β
def panS (p n : Nat) : AS := ⟨List.replicate n .any, List.replicate p none⟩
abbrev LpT (β : Type) := Nat → AS → (AX → AS → Option β) → Option β
def codeT (C : Cfg) (T : Tb) (dr : DrT β) (lp : LpT β) : Code → AS → (AX → AS → Option β) → Option β
  | .skip, s, K => K .normal s
  | .label _, s, K => K .normal s
  | .seq a b, s, K => codeT C T dr lp a s fun x s' => match x with
    | .normal => codeT C T dr lp b s' K
    | x => K x s'
  | .cond c a b, s, K => match evO s.r c with
    | some (.bool t) => bif t then codeT C T dr lp a ⟨setO s.r c true, s.h⟩ K else codeT C T dr lp b ⟨setO s.r c false, s.h⟩ K
    | _ => none
  | .block id c, s, K => codeT C T dr lp c s fun x s' => match x with
    | .exit i => if i = id then K .normal s' else K (.exit i) s'
    | x => K x s'
  | .loop c, s, K => match codeKey c with
    | some k => lp k s K
    | none => none
  | .exit id, s, K => K (.exit id) s
  | .ret, s, K => K .ret s
  | .region _ ops draw, s, K => if draw then dr ops s (fun x s' => forceS s' (K x)) else opsT C T ops (List.range ops.size) s (fun x s' => forceS s' (K x))
  | _, _, _ => none
def DrTOk (C : Cfg) (dr : DrT β) : Prop := ∀ (id : Nat) (ops : Array Oper) (s : AS) (K : AX → AS → Option β) (z : β), dr ops s K = some z → ∃ x s', K x s' = some z ∧ CA C (.region id ops true) s x s'
def LpTOk (C : Cfg) (lp : LpT β) (ls : List (Nat × Code)) : Prop := ∀ p ∈ ls, ∀ (s : AS) (K : AX → AS → Option β) (z : β), lp p.1 s K = some z → ∃ x s', K x s' = some z ∧ CA C (.loop p.2) s x s'
theorem codeT_ok (hC : C.Ok) (hT : T.Ok C.P) {dr : DrT β} {lp : LpT β} (hdr : DrTOk C dr) : ∀ (c : Code), LpTOk C lp (loopsOf c) → ∀ (s : AS) (K : AX → AS → Option β) (z : β), codeT C T dr lp c s K = some z →
    ∃ x s', K x s' = some z ∧ CA C c s x s' := by
  intro c
  induction c with
  | skip =>
    intro _ s K z hx
    exact ⟨_, _, hx, fun R ρ a w hr ha hd => wp_skip ⟨hd, R, ρ, hr, ha, FrmW.refl _ _ _ _, rfl⟩⟩
  | label l =>
    intro _ s K z hx
    exact ⟨_, _, hx, fun R ρ a w hr ha hd => wp_label ⟨hd, R, ρ, hr, ha, FrmW.refl _ _ _ _, rfl⟩⟩
  | seq c1 c2 ih1 ih2 =>
    intro hl s K z hx
    obtain ⟨x1, s1, hx1, hc1⟩ := ih1 (fun p hp => hl p (List.mem_append_left _ hp)) s _ z hx
    cases x1 with
    | normal =>
      obtain ⟨x2, s2, hx2, hc2⟩ := ih2 (fun p hp => hl p (List.mem_append_right _ hp)) s1 K z hx1
      refine ⟨x2, s2, hx2, fun R ρ a w hr ha hd => wp_seq (wp_mono (hc1 R ρ a w hr ha hd) ?_)⟩
      rintro e a1 w1 ⟨hd1, R1, ρ1, hr1, ha1, f1, he⟩
      have he : e = .normal := he
      subst he
      exact wp_mono (hc2 R1 ρ1 a1 w1 hr1 ha1 hd1) fun e a' w' hf => hf.pre f1
    | exit id =>
      refine ⟨_, s1, hx1, fun R ρ a w hr ha hd => wp_seq (wp_mono (hc1 R ρ a w hr ha hd) ?_)⟩
      rintro e a1 w1 ⟨hd1, R1, ρ1, hr1, ha1, f1, he⟩
      have he : e = .exit id := he
      subst he
      exact ⟨hd1, R1, ρ1, hr1, ha1, f1, rfl⟩
    | ret =>
      refine ⟨_, s1, hx1, fun R ρ a w hr ha hd => wp_seq (wp_mono (hc1 R ρ a w hr ha hd) ?_)⟩
      rintro e a1 w1 ⟨hd1, R1, ρ1, hr1, ha1, f1, he⟩
      have he : e = .ret := he
      subst he
      exact ⟨hd1, R1, ρ1, hr1, ha1, f1, rfl⟩
    | pan v =>
      refine ⟨_, s1, hx1, fun R ρ a w hr ha hd => wp_seq (wp_mono (hc1 R ρ a w hr ha hd) ?_)⟩
      rintro e a1 w1 ⟨hd1, R1, ρ1, hr1, ha1, f1, u, he, hu⟩
      subst he
      exact ⟨hd1, R1, ρ1, hr1, ha1, f1, u, rfl, hu⟩
  | cond c t e iht ihe =>
    intro hl s K z hx
    simp only [codeT] at hx
    split at hx
    · rename_i b hc
      rcases cond_some hx with ⟨hb, hx⟩ | ⟨hb, hx⟩
      · subst hb
        rw [setO_same hc] at hx
        obtain ⟨x, s', hK, hca⟩ := iht (fun p hp => hl p (List.mem_append_left _ hp)) s K z hx
        refine ⟨x, s', hK, fun R ρ a w hr ha hd => ?_⟩
        have h1 := evO_ok ha hc
        generalize hv : a.eval c = v at h1
        cases h1
        exact wp_cond_true hv (hca R ρ a w hr ha hd)
      · subst hb
        rw [setO_same hc] at hx
        obtain ⟨x, s', hK, hca⟩ := ihe (fun p hp => hl p (List.mem_append_right _ hp)) s K z hx
        refine ⟨x, s', hK, fun R ρ a w hr ha hd => ?_⟩
        have h1 := evO_ok ha hc
        generalize hv : a.eval c = v at h1
        cases h1
        exact wp_cond_false hv (hca R ρ a w hr ha hd)
    · cases hx
  | block id c ih =>
    intro hl s K z hx
    obtain ⟨x1, s1, hx1, hc1⟩ := ih hl s _ z hx
    cases x1 with
    | normal =>
      refine ⟨_, s1, hx1, fun R ρ a w hr ha hd => wp_block (wp_mono (hc1 R ρ a w hr ha hd) ?_)⟩
      rintro e a1 w1 ⟨hd1, R1, ρ1, hr1, ha1, f1, he⟩
      have he : e = .normal := he
      subst he
      exact ⟨hd1, R1, ρ1, hr1, ha1, f1, rfl⟩
    | exit id' =>
      simp only at hx1
      split at hx1
      · rename_i hid
        refine ⟨_, s1, hx1, fun R ρ a w hr ha hd => wp_block (wp_mono (hc1 R ρ a w hr ha hd) ?_)⟩
        rintro e a1 w1 ⟨hd1, R1, ρ1, hr1, ha1, f1, he⟩
        have he : e = .exit id' := he
        subst he
        simp only [Exit.inBlock]
        rw [if_pos hid]
        exact ⟨hd1, R1, ρ1, hr1, ha1, f1, rfl⟩
      · rename_i hid
        refine ⟨_, s1, hx1, fun R ρ a w hr ha hd => wp_block (wp_mono (hc1 R ρ a w hr ha hd) ?_)⟩
        rintro e a1 w1 ⟨hd1, R1, ρ1, hr1, ha1, f1, he⟩
        have he : e = .exit id' := he
        subst he
        simp only [Exit.inBlock]
        rw [if_neg hid]
        exact ⟨hd1, R1, ρ1, hr1, ha1, f1, rfl⟩
    | ret =>
      refine ⟨_, s1, hx1, fun R ρ a w hr ha hd => wp_block (wp_mono (hc1 R ρ a w hr ha hd) ?_)⟩
      rintro e a1 w1 ⟨hd1, R1, ρ1, hr1, ha1, f1, he⟩
      have he : e = .ret := he
      subst he
      exact ⟨hd1, R1, ρ1, hr1, ha1, f1, rfl⟩
    | pan v =>
      refine ⟨_, s1, hx1, fun R ρ a w hr ha hd => wp_block (wp_mono (hc1 R ρ a w hr ha hd) ?_)⟩
      rintro e a1 w1 ⟨hd1, R1, ρ1, hr1, ha1, f1, u, he, hu⟩
      subst he
      exact ⟨hd1, R1, ρ1, hr1, ha1, f1, u, rfl, hu⟩
  | loop c ih =>
    intro hl s K z hx
    simp only [codeT] at hx
    split at hx
    · rename_i k hk
      exact hl (k, c) (by simp [loopsOf, hk]) s K z hx
    · cases hx
  | exit id =>
    intro _ s K z hx
    exact ⟨_, _, hx, fun R ρ a w hr ha hd => wp_exit ⟨hd, R, ρ, hr, ha, FrmW.refl _ _ _ _, rfl⟩⟩
  | ret =>
    intro _ s K z hx
    exact ⟨_, _, hx, fun R ρ a w hr ha hd => wp_ret ⟨hd, R, ρ, hr, ha, FrmW.refl _ _ _ _, rfl⟩⟩
  | region id ops draw =>
    intro _ s K z hx
    simp only [codeT] at hx
    cases draw with
    | true =>
      simp only [if_true] at hx
      obtain ⟨x, s', hK, hca⟩ := hdr id ops s _ z hx
      rw [forceS_eq] at hK
      exact ⟨x, s', hK, hca⟩
    | false =>
      simp only [Bool.false_eq_true, if_false] at hx
      obtain ⟨x, s', hK, hops⟩ := opsT_ok hC hT ops _ s _ z hx
      rw [forceS_eq] at hK
      exact ⟨x, s', hK, fun R ρ a w hr ha hd => wp_region (hops R ρ a w hr ha hd _ (fun e a' w' hf => hf))⟩
  | rangeFunc f ps as_ b iha ihb => intro _ s K z hx; simp [codeT] at hx
  | scope c ih => intro _ s K z hx; simp [codeT] at hx
  | goto l => intro _ s K z hx; simp [codeT] at hx
  | refuse y => intro _ s K z hx; simp [codeT] at hx
end
end Go.DI
set_option linter.unusedVariables false
set_option linter.unusedSimpArgs false
namespace Go.DI
section
variable {C : Cfg} {T : Tb}
def retT (C : Cfg) (rs : List Ty) (res : List ResultVar) (x : AX) (s : AS) : Option (Els rs) := match x with
  | .ret | .normal => match resA C s res with
    | some l => match frzs rs s.h l with
      | some (y, _) => some y
      | none => none
    | none => none
  | _ => none
def funcT (C : Cfg) (T : Tb) (rs : List Ty) (dr : DrT (Els rs)) (lp : LpT (Els rs)) (fn : Func) (c : Code) (args : List AV) : Option (Els rs) :=
  codeT C T dr lp c ⟨args ++ List.replicate (fn.ntmps - args.length) .undef, []⟩ (retT C rs fn.results.toList)
theorem Lv.none {ρ : Nm} {b : Nat} : ¬ Lv ρ [] b := by rintro ⟨i, blk, N, hi, _⟩; simp at hi
theorem funcT_end {f : FuncId} {fn : Func} {c : Code} (hfn : C.P.funcs[f]? = some fn) (hb : fn.body = some c) {args : List AV} {x : AX} {s' : AS} (hx : x = .ret ∨ x = .normal)
    (hca : CA C c ⟨args ++ List.replicate (fn.ntmps - args.length) .undef, []⟩ x s') {l : List AV} (hl : resA C s' fn.results.toList = some l)
    {v : AV} {h' : AH} (hfin : ∀ R ρ w u, Rel R ρ s'.h w → VRep w R ρ (resV l) u → ∃ R' ρ', Rel R' ρ' h' w ∧ VRep w R' ρ' v u ∧ (∀ b, R b → R' b) ∧ (∀ b, Lv ρ' h' b → Lv ρ s'.h b) ∧ (∀ b, R' b → R b ∨ Lv ρ s'.h b)) :
    AC C.P f args [] (.ret v) h' := by
  intro R ρ w vs hr hvs
  refine calls_of_wp hfn hb ?_
  have hsz : vs.size = args.length := by have := hvs.1; simpa using this
  have ha : RegRep w R ρ (args ++ List.replicate (fn.ntmps - args.length) .undef) { tmps := vs ++ Array.replicate (fn.ntmps - vs.size) undef, defers := [] } := by
    unfold RegRep
    simp only [Array.toList_append, Array.toList_replicate, hsz]
    exact hvs.append (VReps.replicate .undef _)
  refine wp_mono (hca R ρ _ w hr ha rfl) ?_
  rintro e a' w' ⟨hd, R', ρ', hr', ha', f', hx'⟩
  obtain ⟨us, h1, h2⟩ := resA_ok (C := C) hr' ha' hl
  have hres : ∃ v, (results fn a'.tmps).run C.P w' = .ok v w' ∧ VRep w' R' ρ' (resV l) v := by
    have hm : (fn.results.mapM (resF a'.tmps)).run C.P w' = .ok us.toArray w' := by
      rw [Array.mapM_eq_mapM_toList, Sem.run_map, h1]; rfl
    rw [results_eq, Sem.run_bind]
    refine ⟨if h : us.toArray.size = 1 then us.toArray[0] else .tuple us.toArray, by rw [hm]; rfl, ?_⟩
    have hlen := h2.1
    cases l with
    | nil =>
      obtain rfl := h2.nil_inv
      exact .tup' .nil
    | cons c1 l =>
      obtain ⟨u1, us', rfl, h3, h4⟩ := h2.cons_inv
      cases l with
      | nil =>
        obtain rfl := h4.nil_inv
        simpa [resV] using h3
      | cons c2 l =>
        have : ¬ ((u1 :: us').toArray.size = 1) := by
          have := h4.1
          simp at this ⊢
          intro he; rw [he] at this; simp at this
        rw [dif_neg this]
        exact .tup' (.cons h3 h4)
  obtain ⟨u, hv1, hv2⟩ := hres
  obtain ⟨R2, ρ2, r2, v2, k1, k2, k3⟩ := hfin R' ρ' w' u hr' hv2
  have hρ := hr.nil_names
  have hf : Frm R ρ [] w R2 ρ2 h' w' := by
    refine ⟨f'.os, f'.tape, f'.output, f'.size, (by rw [hρ]; intro i bn h; cases h), fun b hb => k1 b (f'.ros b hb), f'.keeps, fun b hl => ?_, fun b hb => ?_, Nat.zero_le _, fun x hx => by simp at hx, f'.frz⟩
    · exact f'.lives b (k2 b hl)
    · rcases k3 b hb with h | h
      · exact f'.rolds b h
      · rcases f'.lives b h with h | h
        · exact absurd h Lv.none
        · exact .inr (.inr h)
  rcases hx with rfl | rfl
  · have he : e = .ret := hx'
    subst he
    exact ⟨hd, u, hv1, R2, ρ2, u, ⟨rfl, v2⟩, r2, hf⟩
  · have he : e = .normal := hx'
    subst he
    exact ⟨hd, u, hv1, R2, ρ2, u, ⟨rfl, v2⟩, r2, hf⟩
theorem encs_len : ∀ (ts : List Ty) (x : Els ts), (encs ts x).length = ts.length
  | [], _ => rfl
  | t :: ts, x => by simp [encs, encs_len ts]
theorem frzs_len : ∀ (ts : List Ty) {h : AH} {cs : List AV} {r : Els ts × AH}, frzs ts h cs = some r → cs.length = ts.length
  | [], h, cs, r, hf => by
    simp only [frzs] at hf
    split at hf
    · rename_i hc
      have : cs = [] := by simpa using hc
      subst this; rfl
    · cases hf
  | t :: ts, h, cs, r, hf => by
    simp only [frzs] at hf
    split at hf
    · split at hf
      · split at hf
        · rename_i he2
          simp [frzs_len ts he2]
        · cases hf
      · cases hf
    · cases hf
theorem retT_fin {rs : List Ty} {f : FuncId} {fn : Func} {c : Code} (hfn : C.P.funcs[f]? = some fn) (hb : fn.body = some c)
    {args : List AV} {x : AX} {s' : AS} {y : Els rs} (hK : retT C rs fn.results.toList x s' = some y) (hca : CA C c ⟨args ++ List.replicate (fn.ntmps - args.length) .undef, []⟩ x s') : AC C.P f args [] (.ret (resV (encs rs y))) [] := by
  have key : (x = .ret ∨ x = .normal) ∧ ∃ l h', resA C s' fn.results.toList = some l ∧ frzs rs s'.h l = some (y, h') := by
    unfold retT at hK
    split at hK
    · split at hK
      · rename_i l hl
        split at hK
        · rename_i y' h' he
          injection hK with hK; subst hK
          exact ⟨.inl rfl, l, h', hl, he⟩
        · cases hK
      · cases hK
    · split at hK
      · rename_i l hl
        split at hK
        · rename_i y' h' he
          injection hK with hK; subst hK
          exact ⟨.inr rfl, l, h', hl, he⟩
        · cases hK
      · cases hK
    · cases hK
  obtain ⟨hx, l, h', hl, he⟩ := key
  refine funcT_end hfn hb hx hca hl fun R ρ w u hr hv => ?_
  -- what comes back is read as typed data
  have main : ∃ R', Rel R' ρ h' w ∧ Frm R ρ s'.h w R' ρ h' w ∧ VRep w R' ρ (resV (encs rs y)) u := by
    rcases VReps.resV_inv hv with ⟨c, rfl, h1⟩ | ⟨us, rfl, hus, he1, hne⟩
    · obtain ⟨R', r1, f1, v1⟩ := frzs_ok rs he hr (VReps.cons h1 .nil)
      refine ⟨R', r1, f1, ?_⟩
      have h2 : (encs rs y).length = 1 := by rw [encs_len, ← frzs_len rs he]; rfl
      cases hm : encs rs y with
      | nil => rw [hm] at h2; simp at h2
      | cons d m =>
        rw [hm] at h2 v1
        have : m = [] := by simpa using h2
        subst this
        obtain ⟨u', us', he2, h3, _⟩ := v1.cons_inv
        simp only [List.cons.injEq] at he2
        rw [he2.1]; exact h3
    · obtain ⟨R', r1, f1, v1⟩ := frzs_ok rs he hr hus
      refine ⟨R', r1, f1, ?_⟩
      have h2 : (encs rs y).length = l.length := by rw [encs_len, ← frzs_len rs he]
      have : resV (encs rs y) = .tup (encs rs y) := by
        unfold resV
        split
        · rename_i d hd
          rw [hd] at h2
          obtain ⟨c, rfl⟩ : ∃ c, l = [c] := by
            cases l with
            | nil => simp at h2
            | cons c l => cases l with
              | nil => exact ⟨c, rfl⟩
              | cons _ _ => simp at h2
          exact absurd rfl (hne c)
        · rfl
      rw [this]
      exact .tup' v1
  obtain ⟨R', r1, f1, v1⟩ := main
  refine ⟨R', ρ0, .base r1.ro, Nameless.resV (nameless_encs rs y) _ _ _ _ _ v1, f1.ros, fun b hl => absurd hl Lv.none, fun b hb => ?_⟩
  rcases f1.rolds b hb with h | h | h
  · exact .inl h
  · exact .inr h
  · have := r1.ro b hb; omega
theorem funcT_ok (hC : C.Ok) (hT : T.Ok C.P) {rs : List Ty} {dr : DrT (Els rs)} {lp : LpT (Els rs)} (hdr : DrTOk C dr) {f : FuncId} {fn : Func} {c : Code} (hfn : C.P.funcs[f]? = some fn) (hb : fn.body = some c) (hlp : LpTOk C lp (loopsOf c))
    {args : List AV} {y : Els rs} (hf : funcT C T rs dr lp fn c args = some y) : AC C.P f args [] (.ret (resV (encs rs y))) [] := by
  obtain ⟨x, s', hK, hca⟩ := codeT_ok hC hT hdr c hlp _ _ _ hf
  exact retT_fin hfn hb hK hca
end
end Go.DI
set_option linter.unusedVariables false
set_option linter.unusedSimpArgs false
namespace Go.DI
section
variable {C : Cfg} {T : Tb} {P : Program}
def CL (C : Cfg) (c : Code) (s : AS) (x : AX) (s' : AS) : Prop :=
  ∀ (R : Nat → Prop) (ρ : Nm) (a : Act) (w : World), Rel R ρ s.h w → RegRep w R ρ s.r a → a.defers = [] →
    ∀ (b : Frame) (kk : List Item) (cs : List Frame), ∃ e a' w', FinW C.pin R ρ s.h w x s' e a' w' ∧ Arrives C.P (lone (b.at a (.code c :: .inLoop c :: kk)) cs w) b kk cs e a' w'
theorem CL.loop {c : Code} {s s' : AS} {x : AX} (hc : CL C c s x s') : CA C (.loop c) s x s' := by
  intro R ρ a w hr ha hd b kk cs
  obtain ⟨e, a', w', hq, harr⟩ := hc R ρ a w hr ha hd b kk cs
  exact ⟨e, a', w', hq, .of_steps (.one step_loop) harr⟩
theorem CL.step {c : Code} {s s1 s' : AS} {x : AX} (hc : CA C c s .normal s1) (hl : CL C c s1 x s') : CL C c s x s' := by
  intro R ρ a w hr ha hd b kk cs
  obtain ⟨e, a2, w2, hfin, harr⟩ := hc R ρ a w hr ha hd b (.inLoop c :: kk) cs
  obtain ⟨hd2, R2, ρ2, hr2, ha2, f2, he⟩ := hfin
  have he : e = .normal := he
  subst he
  obtain ⟨e3, a3, w3, hfin3, harr3⟩ := hl R2 ρ2 a2 w2 hr2 ha2 hd2 b kk cs
  exact ⟨e3, a3, w3, hfin3.pre f2, .of_steps (Steps.trans harr (.one step_inLoop)) harr3⟩
theorem CL.out {c : Code} {s s' : AS} {x : AX} (hc : CA C c s x s') (hx : x ≠ .normal) : CL C c s x s' := by
  intro R ρ a w hr ha hd b kk cs
  obtain ⟨e, a2, w2, hfin, harr⟩ := hc R ρ a w hr ha hd b (.inLoop c :: kk) cs
  refine ⟨e, a2, w2, hfin, ?_⟩
  obtain ⟨_, R2, ρ2, _, _, _, he⟩ := hfin
  cases x with
  | normal => exact absurd rfl hx
  | exit id =>
    have he : e = .exit id := he
    subst he
    exact .pass (x := .inLoop c) rfl (fun _ _ => .inl (by simp)) harr
  | ret =>
    have he : e = .ret := he
    subst he
    exact .pass (x := .inLoop c) rfl (fun _ _ => .inl (by simp)) harr
  | pan v =>
    obtain ⟨u, he, _⟩ := he
    subst he
    exact .pass (x := .inLoop c) rfl (fun _ _ => .inl (by simp)) harr
def Weak (p : Nat) (s s1 : AS) : Prop := ∀ (R : Nat → Prop) (ρ : Nm) (a : Act) (w : World), Rel R ρ s.h w → RegRep w R ρ s.r a → ∃ R1 ρ1, Rel R1 ρ1 s1.h w ∧ RegRep w R1 ρ1 s1.r a ∧ FrmW p R ρ s.h w R1 ρ1 s1.h w
theorem CL.pre {c : Code} {s s1 s' : AS} {x : AX} (hc : CL C c s1 x s') (hp : Weak C.pin s s1) : CL C c s x s' := by
  intro R ρ a w hr ha hd b kk cs
  obtain ⟨R1, ρ1, r1, a1, f1⟩ := hp R ρ a w hr ha
  obtain ⟨e, a', w', hf, harr⟩ := hc R1 ρ1 a w r1 a1 hd b kk cs
  exact ⟨e, a', w', hf.pre f1, harr⟩
structure Lay (p : Nat) (X : Type) where
  enc : X → AS
  dec : AS → Option X
  ok : ∀ s x, dec s = some x → Weak p s (enc x)
def roundsT {X Y : Type} (G : X → Option (X ⊕ Y)) : Nat → X → Option Y
  | 0, _ => none
  | n + 1, x => (G x).bind fun y => Sum.elim (roundsT G n) some y
structure Exits (p : Nat) (A B : Type) where
  xa : AX
  la : Lay p A
  xb : AX
  lb : Lay p B
def AX.same : AX → AX → Bool
  | .normal, .normal => true
  | .exit i, .exit j => i == j
  | .ret, .ret => true
  | _, _ => false
theorem AX.same_eq {x y : AX} (h : x.same y = true) : x = y := by
  cases x <;> cases y <;> simp [AX.same] at h <;> first | rfl | (subst h; rfl)
def bodyK {p : Nat} {X A B : Type} (L : Lay p X) (E : Exits p A B) (x : AX) (s : AS) : Option (X ⊕ (A ⊕ B)) :=
  if x.same .normal then (match L.dec s with
    | some x => some (.inl x)
    | none => none)
  else if x.same E.xa then (match E.la.dec s with
    | some a => some (.inr (.inl a))
    | none => none)
  else if x.same E.xb then (match E.lb.dec s with
    | some b => some (.inr (.inr b))
    | none => none)
  else none
theorem CA.postW {c : Code} {s s1 s' : AS} {x : AX} (hc : CA C c s x s1) (hx : ∀ v, x ≠ .pan v) (hp : Weak C.pin s1 s') : CA C c s x s' := hc.post hx hp
theorem rounds_ok (hC : C.Ok) (hT : T.Ok C.P) {X A B : Type} {dr : DrT (X ⊕ (A ⊕ B))} {lp : LpT (X ⊕ (A ⊕ B))} (hdr : DrTOk C dr) {c : Code} (hlp : LpTOk C lp (loopsOf c)) {L : Lay C.pin X} {E : Exits C.pin A B}
    {G : X → Option (X ⊕ (A ⊕ B))} (hG : ∀ x, codeT C T dr lp c (L.enc x) (bodyK L E) = G x) (hxa : E.xa.same .normal = false) (hxb : E.xb.same .normal = false) (hpa : ∀ v, E.xa ≠ .pan v) (hpb : ∀ v, E.xb ≠ .pan v) :
    ∀ (n : Nat) (x : X) (y : A ⊕ B), roundsT G n x = some y → CL C c (L.enc x) (Sum.elim (fun _ => E.xa) (fun _ => E.xb) y) (Sum.elim E.la.enc E.lb.enc y)
  | 0, x, y, h => by simp [roundsT] at h
  | n + 1, x, y, h => by
    simp only [roundsT] at h
    obtain ⟨z, hz, h⟩ := Option.bind_eq_some_iff.1 h
    obtain ⟨x', s', hK, hca⟩ := codeT_ok hC hT hdr c hlp _ _ z ((hG x).trans hz)
    unfold bodyK at hK
    split at hK
    · rename_i hx
      have := AX.same_eq hx
      subst this
      split at hK
      · rename_i x2 hd
        injection hK with hK; subst hK
        exact CL.step hca ((rounds_ok hC hT hdr hlp hG hxa hxb hpa hpb n x2 y h).pre (L.ok _ _ hd))
      · cases hK
    · split at hK
      · rename_i hx
        have := AX.same_eq hx
        subst this
        split at hK
        · rename_i a hd
          injection hK with hK; subst hK
          simp only [Sum.elim_inr, Option.some.injEq] at h
          subst h
          exact CL.out (hca.postW hpa (E.la.ok _ _ hd)) (fun e => by have e : E.xa = .normal := e; rw [e] at hxa; cases hxa)
        · cases hK
      · split at hK
        · rename_i hx
          have := AX.same_eq hx
          subst this
          split at hK
          · rename_i b hd
            injection hK with hK; subst hK
            simp only [Sum.elim_inr, Option.some.injEq] at h
            subst h
            exact CL.out (hca.postW hpb (E.lb.ok _ _ hd)) (fun e => by have e : E.xb = .normal := e; rw [e] at hxb; cases hxb)
          · cases hK
        · cases hK
def lpOne {p : Nat} {X A B β : Type} (L : Lay p X) (E : Exits p A B) (F : X → Option (A ⊕ B)) (s : AS) (K : AX → AS → Option β) : Option β := match L.dec s with
  | some x => (F x).bind fun y => Sum.elim (fun a => K E.xa (E.la.enc a)) (fun b => K E.xb (E.lb.enc b)) y
  | none => none
theorem lpOne_ok {X A B β : Type} {L : Lay C.pin X} {E : Exits C.pin A B} {F : X → Option (A ⊕ B)} {c : Code} (hF : ∀ x y, F x = some y → CL C c (L.enc x) (Sum.elim (fun _ => E.xa) (fun _ => E.xb) y) (Sum.elim E.la.enc E.lb.enc y))
    {s : AS} {K : AX → AS → Option β} {z : β} (hx : lpOne L E F s K = some z) : ∃ x s', K x s' = some z ∧ CA C (.loop c) s x s' := by
  unfold lpOne at hx
  split at hx
  · rename_i x hd
    obtain ⟨y, hy, hx⟩ := Option.bind_eq_some_iff.1 hx
    have h1 := ((hF x y hy).pre (L.ok _ _ hd)).loop
    cases y with
    | inl a => exact ⟨_, _, hx, h1⟩
    | inr b => exact ⟨_, _, hx, h1⟩
  · cases hx
end
end Go.DI
