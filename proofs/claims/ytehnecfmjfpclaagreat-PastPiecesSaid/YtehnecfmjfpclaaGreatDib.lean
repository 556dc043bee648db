import Derived.Test.YtehnecfmjfpclaaGreatDia
/- A reading of programs by functions on data, and that it is right. No conditions. -/
set_option linter.unusedVariables false
set_option linter.unusedSimpArgs false
namespace Go.DI
def minGo (k : IntKind) (a : Int) : List AV → Option AV
  | [] => some (.int k a)
  | .int _ b :: r => minGo k (if b < a then b else a) r
  | _ :: _ => none
def minA : List AV → Option AV
  | .int k a :: r => minGo k a r
  | _ => none
def maxGo (k : IntKind) (a : Int) : List AV → Option AV
  | [] => some (.int k a)
  | .int _ b :: r => maxGo k (if b > a then b else a) r
  | _ :: _ => none
def maxA : List AV → Option AV
  | .int k a :: r => maxGo k a r
  | _ => none
def builtinA (C : Cfg) (h : AH) (b : Builtin) (ts : List TypeId) (xs : List AV) : Option (AV × AH) :=
  match b, ts, xs with
  | .append, [t, tx], [x, y] => appendA C h t tx x y
  | .len, t :: _, [x] => (lenA C h t x).map fun v => (v, h)
  | .min, _, xs => (minA xs).map fun v => (v, h)
  | .max, _, xs => (maxA xs).map fun v => (v, h)
  | .clear, t :: _, [x] => (clearA C h t x).map fun h' => (.undef, h')
  | _, _, _ => none
inductive OR where
  | val (v : AV) (h : AH)
  | skip (h : AH)
  | call (g : FuncId) (args : List AV)
  | pan (v : AV)
def opA (C : Cfg) (h : AH) (ev : Operand → Option AV) (o : Op) : Option OR :=
  match pureOp C h ev o with
  | some v => some (.val v h)
  | none => match o with
    | .alloc e => match zeroA C e with
      | some z => (boxA h e z).map fun p => .val p.1 p.2
      | none => none
    | .box e x => match ev x with
      | some v => (boxA h e v).map fun p => .val p.1 p.2
      | none => none
    | .build t ps => (buildA C ev t ps.toList).map fun v => .val v h
    | .buildSlice t n ps => (buildSliceA C h ev t n ps.toList).map fun p => .val p.1 p.2
    | .store t a x => match ev a, ev x with
      | some p, some v => (storeA C h t p v).map .skip
      | _, _ => none
    | .mapUpdate t m k x | .insert t m k x => match ev m, ev k, ev x with
      | some a, some b, some c => (mapUpdateA C h t a b c).map .skip
      | _, _, _ => none
    | .makeMap _ none => some (.val (.map h.length) (h ++ [some (.map [])]))
    | .panic x => match ev x with
      | some (.iface t v) => some (.pan (.iface t v))
      | _ => none
    | .call c => match mapO ev c.args.toList with
      | some xs => match c.callee with
        | .builtin b => (builtinA C h b c.argTypes.toList xs).map fun p => .val p.1 p.2
        | .value f => match ev f with
          | some (.func g first caps) => if C.isFn g then some (.call g (first ++ xs ++ caps)) else none
          | _ => none
        | _ => none
      | none => none
    | _ => none
section
variable {C : Cfg} {w : World} {R : Nat → Prop} {ρ : Nm} {h : AH}
theorem minGo_ok {k : IntKind} : ∀ {xs : List AV} {a : Int} {av : AV} {us : List Value}, minGo k a xs = some av → VReps w R ρ xs us → ∃ r, (us.foldlM Builtin.min2 (.int k a)).run C.P w = .ok r w ∧ VRep w R ρ av r
  | [], a, av, us, hm, hv => by
    simp [minGo] at hm; subst hm
    obtain rfl := hv.nil_inv
    exact ⟨_, by simp, .int _ _⟩
  | x :: r, a, av, us, hm, hv => by
    obtain ⟨u, us', rfl, h1, h2⟩ := hv.cons_inv
    cases x <;> simp only [minGo] at hm <;> (try (cases hm; done))
    cases h1
    obtain ⟨q, hq, hqv⟩ := minGo_ok hm h2
    exact ⟨q, by rw [← hq]; simp [Builtin.min2], hqv⟩
theorem minA_ok {ts : Array TypeId} {ty : TypeId} {xs : List AV} {av : AV} {us : Array Value} (hm : minA xs = some av) (hv : VReps w R ρ xs us.toList) : ∃ r, (Builtin.min_ ts ty us).run C.P w = .ok r w ∧ VRep w R ρ av r := by
  cases xs with
  | nil => simp [minA] at hm
  | cons x r =>
    obtain ⟨u, us', hu, h1, h2⟩ := hv.cons_inv
    cases x <;> simp only [minA] at hm <;> (try (cases hm; done))
    cases h1
    obtain ⟨q, hq, hqv⟩ := minGo_ok (C := C) hm h2
    exact ⟨q, by rw [← hq]; simp only [Builtin.min_, hu], hqv⟩
theorem maxGo_ok {k : IntKind} : ∀ {xs : List AV} {a : Int} {av : AV} {us : List Value}, maxGo k a xs = some av → VReps w R ρ xs us → ∃ r, (us.foldlM Builtin.max2 (.int k a)).run C.P w = .ok r w ∧ VRep w R ρ av r
  | [], a, av, us, hm, hv => by
    simp [maxGo] at hm; subst hm
    obtain rfl := hv.nil_inv
    exact ⟨_, by simp, .int _ _⟩
  | x :: r, a, av, us, hm, hv => by
    obtain ⟨u, us', rfl, h1, h2⟩ := hv.cons_inv
    cases x <;> simp only [maxGo] at hm <;> (try (cases hm; done))
    cases h1
    obtain ⟨q, hq, hqv⟩ := maxGo_ok hm h2
    exact ⟨q, by rw [← hq]; simp [Builtin.max2], hqv⟩
theorem maxA_ok {ts : Array TypeId} {ty : TypeId} {xs : List AV} {av : AV} {us : Array Value} (hm : maxA xs = some av) (hv : VReps w R ρ xs us.toList) : ∃ r, (Builtin.max_ ts ty us).run C.P w = .ok r w ∧ VRep w R ρ av r := by
  cases xs with
  | nil => simp [maxA] at hm
  | cons x r =>
    obtain ⟨u, us', hu, h1, h2⟩ := hv.cons_inv
    cases x <;> simp only [maxA] at hm <;> (try (cases hm; done))
    cases h1
    obtain ⟨q, hq, hqv⟩ := maxGo_ok (C := C) hm h2
    exact ⟨q, by rw [← hq]; simp only [Builtin.max_, hu], hqv⟩
theorem builtinA_ok (hr : Rel R ρ h w) {b : Builtin} {ts : Array TypeId} {ty : TypeId} {consts : Array Bool} {xs : List AV} {us : Array Value} {av : AV} {h' : AH} (hb : builtinA C h b ts.toList xs = some (av, h')) (hv : VReps w R ρ xs us.toList) :
    ∃ R' ρ' u w', (builtin b ts ty consts us).run C.P w = .ok (.value u) w' ∧ VRep w' R' ρ' av u ∧ Rel R' ρ' h' w' ∧ Frm R ρ h w R' ρ' h' w' := by
  have lift : ∀ s : Sem Value, Post C R ρ h w s av h' → ∃ R' ρ' u w', (do pure (.value (← s)) : Sem Next).run C.P w = .ok (.value u) w' ∧ VRep w' R' ρ' av u ∧ Rel R' ρ' h' w' ∧ Frm R ρ h w R' ρ' h' w' := by
    rintro s ⟨R', ρ', u, w', h1, h2⟩
    exact ⟨R', ρ', u, w', by rw [Sem.run_bind, h1]; rfl, h2⟩
  have pur : ∀ s : Sem Value, (∃ r, s.run C.P w = .ok r w ∧ VRep w R ρ av r) → h' = h → Post C R ρ h w s av h' := by
    rintro s ⟨r, h1, h2⟩ rfl
    exact ⟨R, ρ, r, w, h1, h2, hr, Frm.refl _ _ _ _⟩
  unfold builtinA at hb
  split at hb
  · rename_i t tx x y hts
    obtain ⟨u, us', hu1, h1, h2⟩ := hv.cons_inv
    obtain ⟨v, us'', rfl, h3, h4⟩ := h2.cons_inv
    obtain rfl := h4.nil_inv
    have e1 : ts = #[t, tx] := Array.toList_inj.1 hts
    have e2 : us = #[u, v] := Array.toList_inj.1 hu1
    subst e1; subst e2
    exact lift _ (appendA_ok hr hb h1 h3)
  · rename_i t rest x hts
    obtain ⟨u, us', hu1, h1, h2⟩ := hv.cons_inv
    obtain rfl := h2.nil_inv
    obtain ⟨r, hl, he⟩ := Option.map_eq_some_iff.1 hb
    simp only [Prod.mk.injEq] at he
    obtain ⟨rfl, rfl⟩ := he
    refine lift _ (pur _ (lenA_ok hr hl h1 ?_ us ?_) rfl)
    · rw [← Array.getElem?_toList, hts]; rfl
    · rw [← Array.getElem?_toList, hu1]; rfl
  · obtain ⟨r, hl, he⟩ := Option.map_eq_some_iff.1 hb
    simp only [Prod.mk.injEq] at he
    obtain ⟨rfl, rfl⟩ := he
    have := minA_ok (C := C) (ts := ts) (ty := ty) hl hv
    exact lift _ (pur _ this rfl)
  · obtain ⟨r, hl, he⟩ := Option.map_eq_some_iff.1 hb
    simp only [Prod.mk.injEq] at he
    obtain ⟨rfl, rfl⟩ := he
    have := maxA_ok (C := C) (ts := ts) (ty := ty) hl hv
    exact lift _ (pur _ this rfl)
  · rename_i t rest x hts
    obtain ⟨u, us', hu1, h1, h2⟩ := hv.cons_inv
    obtain rfl := h2.nil_inv
    obtain ⟨r, hl, he⟩ := Option.map_eq_some_iff.1 hb
    simp only [Prod.mk.injEq] at he
    obtain ⟨rfl, rfl⟩ := he
    refine lift _ (clearA_ok hr hl h1 ?_ us ?_)
    · rw [← Array.getElem?_toList, hts]; rfl
    · rw [← Array.getElem?_toList, hu1]; rfl
  · cases hb
def OpIs (C : Cfg) (R : Nat → Prop) (ρ : Nm) (h : AH) (w : World) (s : Sem Next) : OR → Prop
  | .val v h' => ∃ R' ρ' u w', s.run C.P w = .ok (.value u) w' ∧ VRep w' R' ρ' v u ∧ Rel R' ρ' h' w' ∧ Frm R ρ h w R' ρ' h' w'
  | .skip h' => ∃ R' ρ' w', s.run C.P w = .ok .skip w' ∧ Rel R' ρ' h' w' ∧ Frm R ρ h w R' ρ' h' w'
  | .call g xs => ∃ us, s.run C.P w = .ok (.enter g us) w ∧ VReps w R ρ xs us.toList
  | .pan v => ∃ u, s.run C.P w = .halt (.panic u) w ∧ VRep w R ρ v u
theorem opA_ok (hC : C.Ok) (hr : Rel R ρ h w) {ev : Operand → Option AV} {a : Act} (hev : ∀ x av, ev x = some av → VRep w R ρ av (a.eval x)) {o : Oper} {r : OR} (ho : opA C h ev o.op = some r) : OpIs C R ρ h w (execOp a.eval o) r := by
  have lift : ∀ (s : Sem Value) (av : AV) (h' : AH), Post C R ρ h w s av h' → OpIs C R ρ h w (do pure (.value (← s)) : Sem Next) (.val av h') := by
    rintro s av h' ⟨R', ρ', u, w', h1, h2⟩
    exact ⟨R', ρ', u, w', by rw [Sem.run_bind, h1]; rfl, h2⟩
  have liftU : ∀ (s : Sem Unit) (h' : AH), PostU C R ρ h w s h' → OpIs C R ρ h w (do s; pure .skip : Sem Next) (.skip h') := by
    rintro s h' ⟨R', ρ', w', h1, h2⟩
    exact ⟨R', ρ', w', by rw [Sem.run_bind, h1]; rfl, h2⟩
  unfold opA at ho
  split at ho
  · rename_i v hp
    injection ho with ho; subst ho
    obtain ⟨u, h1, h2⟩ := pureOp_ok hC hr hev hp
    exact ⟨R, ρ, u, w, h1, h2, hr, Frm.refl _ _ _ _⟩
  · rename_i hpn; clear hpn
    obtain ⟨dst, op, type, pos, after, guard⟩ := o
    simp only at ho
    split at ho
    · rename_i e
      split at ho
      · rename_i z hz
        obtain ⟨⟨av, h'⟩, hb, rfl⟩ := Option.map_eq_some_iff.1 ho
        exact lift _ _ _ (allocA_ok hr hz hb)
      · cases ho
    · rename_i e x
      split at ho
      · rename_i v hv
        obtain ⟨⟨av, h'⟩, hb, rfl⟩ := Option.map_eq_some_iff.1 ho
        exact lift _ _ _ (boxA_ok hr hb (hev _ _ hv))
      · cases ho
    · rename_i t ps
      obtain ⟨av, hb, rfl⟩ := Option.map_eq_some_iff.1 ho
      obtain ⟨u, h1, h2⟩ := buildA_ok hev hb
      exact lift _ _ _ ⟨R, ρ, u, w, h1, h2, hr, Frm.refl _ _ _ _⟩
    · rename_i t n ps
      obtain ⟨⟨av, h'⟩, hb, rfl⟩ := Option.map_eq_some_iff.1 ho
      exact lift _ _ _ (buildSliceA_ok hr hev hb)
    · rename_i t x y
      split at ho
      · rename_i p v hp hv
        obtain ⟨h', hb, rfl⟩ := Option.map_eq_some_iff.1 ho
        exact liftU _ _ (storeA_ok hr hb (hev _ _ hp) (hev _ _ hv))
      · cases ho
    · rename_i t m k x
      split at ho
      · rename_i p q v hp hq hv
        obtain ⟨h', hb, rfl⟩ := Option.map_eq_some_iff.1 ho
        exact liftU _ _ (mapUpdateA_ok hr hb (hev _ _ hp) (hev _ _ hq) (hev _ _ hv))
      · cases ho
    · rename_i t m k x
      split at ho
      · rename_i p q v hp hq hv
        obtain ⟨h', hb, rfl⟩ := Option.map_eq_some_iff.1 ho
        exact liftU _ _ (mapUpdateA_ok hr hb (hev _ _ hp) (hev _ _ hq) (hev _ _ hv))
      · cases ho
    · rename_i t
      injection ho with ho; subst ho
      exact lift _ _ _ (makeMapA_ok hr t)
    · rename_i x
      split at ho
      · rename_i t v hv
        injection ho with ho; subst ho
        have h1 := hev _ _ hv
        simp only [execOp]
        generalize a.eval x = u at h1
        cases h1 with
        | @iface _ _ u h2 =>
        exact ⟨.iface t u, by simp [Instr.panic], .iface h2⟩
      · cases ho
    · rename_i c
      split at ho
      · rename_i xs hxs
        have hvs := mapO_ok hev hxs
        split at ho
        · rename_i b hb
          obtain ⟨⟨av, h'⟩, hb', rfl⟩ := Option.map_eq_some_iff.1 ho
          obtain ⟨R', ρ', u, w', h1, h2⟩ := builtinA_ok (C := C) (ty := type) (consts := c.args.map fun | .const _ => true | _ => false) (us := c.args.map a.eval) hr hb' (by simpa using hvs)
          refine ⟨R', ρ', u, w', ?_, h2⟩
          rw [← h1]
          simp [execOp, resolve, hb, invoke]
          rfl
        · rename_i f hf
          split at ho
          · rename_i g first caps hg
            split at ho
            · rename_i hfn
              injection ho with ho; subst ho
              have h1 := hev _ _ hg
              generalize hfv : a.eval f = fv at h1
              cases h1 with
              | func vf vc h2 h3 h4 h5 =>
              obtain ⟨fn, hfn1, hfn2, hfn3⟩ := hC.fn g hfn
              refine ⟨vf ++ c.args.map a.eval ++ vc, ?_, ?_⟩
              · have e1 : ¬ (fn.name = "runtime.NumGoroutine") := by simpa using hfn2
                have e2 : ¬ (fn.body = none) := by intro e; rw [e] at hfn3; simp at hfn3
                simp [execOp, resolve, hf, hfv, Deferred.ofValue, invoke, callFunc, hfn1]
                rw [if_neg e1, if_neg e2]
              · simp only [Array.toList_append, Array.toList_map]
                refine (VReps.append ⟨by simpa using h2, fun k c u hc hu => h4 k c u hc (by simpa using hu)⟩ hvs).append ⟨by simpa using h3, fun k c u hc hu => h5 k c u hc (by simpa using hu)⟩
            · cases ho
          · cases ho
        · cases ho
      · cases ho
    · cases ho
end
end Go.DI
set_option linter.unusedVariables false
set_option linter.unusedSimpArgs false
namespace Go.DI
structure AS where
  r : List AV
  h : AH
inductive AX where
  | normal
  | exit (id : Nat)
  | ret
  | pan (v : AV)
inductive Res where
  | ret (v : AV)
  | pan (v : AV)
abbrev CB := FuncId → List AV → AH → Option (Res × AH)
def setR (r : List AV) (d : Option Tmp) (v : AV) : List AV := match d with
  | some d => r.set d v
  | none => r
def wantedA (all : Array Oper) (r : List AV) (o : Oper) : Option Bool :=
  match o.guard with
  | none => some true
  | some (j, want) => match (all[j]?).bind (·.dst) with
    | some d => match r[d]? with
      | some (.bool b) => some (b == want)
      | some .undef => some false
      | none => some false
      | _ => none
    | none => some false
def Res.Is (w : World) (R : Nat → Prop) (ρ : Nm) (r : Res) (e : Ending) (v : Value) : Prop :=
  match r with
  | .ret av => e = .returned v ∧ VRep w R ρ av v
  | .pan av => e = .panicked [{ v, recovered := false }] ∧ VRep w R ρ av v
def AC (P : Program) (f : FuncId) (args : List AV) (h : AH) (r : Res) (h' : AH) : Prop :=
  ∀ R ρ w (vs : Array Value), Rel R ρ h w → VReps w R ρ args vs.toList → Calls P f vs w fun e w' =>
    ∃ R' ρ' v, r.Is w' R' ρ' e v ∧ Rel R' ρ' h' w' ∧ Frm R ρ h w R' ρ' h' w'
def XRep (w : World) (R : Nat → Prop) (ρ : Nm) : AX → Exit → Prop
  | .normal, e => e = .normal
  | .exit id, e => e = .exit id
  | .ret, e => e = .ret
  | .pan av, e => ∃ v, e = .panic [{ v, recovered := false }] ∧ VRep w R ρ av v
def Fin (R : Nat → Prop) (ρ : Nm) (h : AH) (w : World) (x : AX) (s' : AS) : Exit → Act → World → Prop := fun e a' w' =>
  a'.defers = [] ∧ ∃ R' ρ', Rel R' ρ' s'.h w' ∧ RegRep w' R' ρ' s'.r a' ∧ Frm R ρ h w R' ρ' s'.h w' ∧ XRep w' R' ρ' x e
section
variable {C : Cfg}
theorem RegRep.put {w : World} {R : Nat → Prop} {ρ : Nm} {regs : List AV} {a : Act} (ha : RegRep w R ρ regs a) (d : Option Tmp) {av : AV} {v : Value} (hv : VRep w R ρ av v) : RegRep w R ρ (setR regs d av) (a.put d v) := by
  cases d with
  | none => exact ha
  | some d =>
    unfold RegRep
    simp only [setR, Act.put, Array.toList_setIfInBounds]
    exact VReps.set ha d hv
theorem RegRep.frm {R R' : Nat → Prop} {ρ ρ' : Nm} {h h' : AH} {w w' : World} {regs : List AV} {a : Act} (ha : RegRep w R ρ regs a) (f : Frm R ρ h w R' ρ' h' w') (hr : Rel R ρ h w) : RegRep w' R' ρ' regs a := VReps.frm ha f hr
theorem yielded_of {all : Array Oper} {w : World} {R : Nat → Prop} {ρ : Nm} {regs : List AV} {a : Act} (ha : RegRep w R ρ regs a) {o : Oper} {b : Bool} (hw : wantedA all regs o = some b) : Region.wanted o (yielded all a.tmps) = b := by
  unfold wantedA at hw
  unfold Region.wanted
  split at hw
  · rename_i hg; rw [hg]; simpa using hw
  · rename_i j want hg
    rw [hg]
    simp only [yielded]
    split at hw
    · rename_i d hd
      rw [hd]
      simp only [Option.bind_some]
      split at hw
      · rename_i c hr
        obtain ⟨u, hu, hv⟩ := ha.get hr
        have hu' : a.tmps[d]? = some u := by simpa using hu
        cases hv
        rw [hu']
        simp at hw ⊢
        exact hw
      · rename_i hr
        obtain ⟨u, hu, hv⟩ := ha.get hr
        have hu' : a.tmps[d]? = some u := by simpa using hu
        cases hv
        rw [hu']
        simp at hw ⊢
        exact hw
      · rename_i hr
        have : a.tmps[d]? = none := by
          rw [List.getElem?_eq_none_iff] at hr
          rw [Array.getElem?_eq_none_iff]
          have := ha.1; simp at this; omega
        rw [this]
        simp at hw ⊢
        exact hw
      · cases hw
    · rename_i hd
      rw [hd]
      simp at hw ⊢
      exact hw
theorem Fin.pre {R R1 : Nat → Prop} {ρ ρ1 : Nm} {h h1 : AH} {w w1 : World} {x : AX} {s' : AS} (f : Frm R ρ h w R1 ρ1 h1 w1) {e : Exit} {a' : Act} {w' : World} (hf : Fin R1 ρ1 h1 w1 x s' e a' w') : Fin R ρ h w x s' e a' w' := by
  obtain ⟨h1, R', ρ', h2, h3, h4, h5⟩ := hf
  exact ⟨h1, R', ρ', h2, h3, f.trans h4, h5⟩
end
end Go.DI
set_option linter.unusedVariables false
set_option linter.unusedSimpArgs false
namespace Go.DI
abbrev DR := (Cfg → CB → Array Oper → AS → Option (AX × AS))
def resA (C : Cfg) (s : AS) : List ResultVar → Option (List AV)
  | [] => some []
  | .tmp t :: r => match resA C s r with
    | some l => some ((s.r[t]?).getD .undef :: l)
    | none => none
  | .cell a t :: r => match loadA C s.h t ((s.r[a]?).getD .undef), resA C s r with
    | some v, some l => some (v :: l)
    | _, _ => none
def resV : List AV → AV
  | [v] => v
  | l => .tup l
section
variable {C : Cfg} {dr : DR} {cb : CB}
def resF (tmps : Array Value) : ResultVar → Sem Value
  | .tmp t => pure (tmps.getD t undef)
  | .cell x t => do loadVar t (← asAddr (tmps.getD x undef))
theorem results_eq (fn : Func) (tmps : Array Value) : results fn tmps = (do
    let vs ← fn.results.mapM (resF tmps)
    pure (if h : vs.size = 1 then vs[0] else .tuple vs)) := by
  unfold results
  have : (fun x : ResultVar => (match x with
    | .tmp t => pure (tmps.getD t undef)
    | .cell a t => do loadVar t (← asAddr (tmps.getD a undef)) : Sem Value)) = resF tmps := by
    funext x
    cases x <;> rfl
  rw [← this]
  rfl
theorem resA_ok {s : AS} {w : World} {R : Nat → Prop} {ρ : Nm} {a : Act} (hr : Rel R ρ s.h w) (ha : RegRep w R ρ s.r a) : ∀ {rs : List ResultVar} {l : List AV}, resA C s rs = some l →
    ∃ us : List Value, (rs.mapM (resF a.tmps)).run C.P w = .ok us w ∧ VReps w R ρ l us
  | [], l, h => by
    simp [resA] at h; subst h
    exact ⟨[], by simp, .nil⟩
  | .tmp t :: r, l, h => by
    simp only [resA] at h
    split at h
    · rename_i l' hl
      injection h with h; subst h
      obtain ⟨us, h1, h2⟩ := resA_ok hr ha hl
      have hv := evO_ok ha (x := .tmp t) rfl
      refine ⟨a.tmps.getD t undef :: us, ?_, .cons hv h2⟩
      rw [List.mapM_cons]
      simp only [resF, Sem.run_bind, Sem.run_pure, Result.andThen_ok, h1]
    · cases h
  | .cell x t :: r, l, h => by
    simp only [resA] at h
    split at h
    · rename_i v l' hv hl
      injection h with h; subst h
      obtain ⟨us, h1, h2⟩ := resA_ok hr ha hl
      have hx := evO_ok ha (x := .tmp x) rfl
      obtain ⟨u, h3, h4⟩ := loadA_ok hr hx hv
      refine ⟨u :: us, ?_, .cons h4 h2⟩
      rw [List.mapM_cons]
      have h5 : (resF a.tmps (.cell x t)).run C.P w = .ok u w := by
        simp only [resF]
        have e1 : a.eval (.tmp x) = a.tmps.getD x undef := rfl
        rw [e1] at h3
        revert h3
        generalize a.tmps.getD x undef = p
        intro h3
        cases p with
        | pointer q =>
          cases q with
          | none => simp [Instr.loadAt, Instr.sureAddr] at h3
          | some q => simpa [Instr.loadAt, Instr.sureAddr, asAddr] using h3
        | _ => simp [Instr.loadAt, Instr.sureAddr] at h3
      simp only [Sem.run_bind, h5, Result.andThen_ok, h1, Sem.run_pure]
    · cases h
end
end Go.DI
set_option linter.unusedVariables false
set_option linter.unusedSimpArgs false
namespace Go.DI
def AV.theInt : AV → Int
  | .int _ n => n
  | _ => 0
def AV.theBool : AV → Bool
  | .bool b => b
  | _ => false
def AV.theStr : AV → List UInt8
  | .str s => s
  | _ => []
def AV.theFlt : AV → Nat
  | .flt _ b => b
  | _ => 0
def AV.theLst (t : Ty) : AV → List t.El
  | .lst t' l => if h : t' = t then h ▸ l else []
  | _ => []
def Ty.decC : (t : Ty) → List AV → t.El
  | .unit, _ => ()
  | .int _, cs => (cs.headD .any).theInt
  | .bool, cs => (cs.headD .any).theBool
  | .str, cs => (cs.headD .any).theStr
  | .flt _, cs => (cs.headD .any).theFlt
  | .list t, cs => (cs.headD .any).theLst t
  | .wrap a, cs => a.decC cs
  | .pair a b, cs => (a.decC (cs.take a.sz), b.decC (cs.drop a.sz))
def AV.isInt (k : IntKind) : AV → Bool
  | .int k' _ => decide (k' = k)
  | _ => false
def AV.isBool : AV → Bool
  | .bool _ => true
  | _ => false
def AV.isStr : AV → Bool
  | .str _ => true
  | _ => false
def AV.isFlt (k : FloatKind) : AV → Bool
  | .flt k' _ => decide (k' = k)
  | _ => false
def AV.isLst (t : Ty) : AV → Bool
  | .lst t' _ => decide (t' = t)
  | .nils => true
  | _ => false
def one1 (f : AV → Bool) : List AV → Bool
  | [c] => f c
  | _ => false
def Ty.ckC : Ty → List AV → Bool
  | .unit, cs => cs.isEmpty
  | .int k, cs => one1 (AV.isInt k) cs
  | .bool, cs => one1 AV.isBool cs
  | .str, cs => one1 AV.isStr cs
  | .flt k, cs => one1 (AV.isFlt k) cs
  | .list t, cs => one1 (AV.isLst t) cs
  | .wrap a, cs => a.ckC cs
  | .pair a b, cs => a.ckC (cs.take a.sz) && b.ckC (cs.drop a.sz)
def Ty.isAgg : Ty → Bool
  | .unit | .wrap _ | .pair _ _ => true
  | _ => false
def Ty.dec (t : Ty) (v : AV) : t.El := t.decC v.cells
def Ty.ck (t : Ty) (v : AV) : Bool := match v with
  | .agg cs => t.isAgg && t.ckC cs
  | v => !t.isAgg && t.ckC [v]
theorem one1_inv {f : AV → Bool} {cs : List AV} (h : one1 f cs = true) : ∃ c, cs = [c] ∧ f c = true := by
  unfold one1 at h
  split at h
  · exact ⟨_, rfl, h⟩
  · cases h
theorem Ty.enc_agg {t : Ty} (h : t.isAgg = true) (x : t.El) : t.enc x = .agg (t.enc x).cells := by
  cases t <;> simp [Ty.isAgg] at h <;> rfl
theorem Ty.enc_one {t : Ty} (h : t.isAgg = false) (x : t.El) : (t.enc x).cells = [t.enc x] := by
  cases t <;> simp [Ty.isAgg] at h <;> rfl
theorem Ty.enc_len : ∀ (t : Ty) (x : t.El), (t.enc x).cells.length = t.sz
  | .unit, _ => rfl
  | .int _, _ => rfl
  | .bool, _ => rfl
  | .str, _ => rfl
  | .flt _, _ => rfl
  | .list _, _ => rfl
  | .wrap a, x => a.enc_len x
  | .pair a b, x => by
    show ((a.enc x.1).cells ++ (b.enc x.2).cells).length = a.sz + b.sz
    rw [List.length_append, a.enc_len, b.enc_len]
theorem Ty.at_len (t : Ty) (l : List t.El) (j : Nat) : (t.at l j).cells.length = t.sz := t.enc_len _
theorem Ty.enc_cells_one : ∀ (t : Ty) (x : t.El), (t.enc x).cells.all AV.one = true
  | .unit, _ => rfl
  | .int _, _ => rfl
  | .bool, _ => rfl
  | .str, _ => rfl
  | .flt _, _ => rfl
  | .list _, _ => rfl
  | .wrap a, x => a.enc_cells_one x
  | .pair a b, x => by
    show ((a.enc x.1).cells ++ (b.enc x.2).cells).all AV.one = true
    rw [List.all_append, a.enc_cells_one, b.enc_cells_one]; rfl
section
variable {w : World} {R : Nat → Prop} {ρ : Nm}
theorem Ty.okC : ∀ (t : Ty) {cs : List AV} {us : List Value}, t.ckC cs = true → VReps w R ρ cs us → VReps w R ρ (t.enc (t.decC cs)).cells us
  | .unit, cs, us, h, hv => by
    have : cs = [] := by simpa [Ty.ckC] using h
    subst this; exact hv
  | .int k, cs, us, h, hv => by
    obtain ⟨c, rfl, hc⟩ := one1_inv h
    cases c <;> simp [AV.isInt] at hc
    subst hc; exact hv
  | .bool, cs, us, h, hv => by
    obtain ⟨c, rfl, hc⟩ := one1_inv h
    cases c <;> simp [AV.isBool] at hc
    exact hv
  | .str, cs, us, h, hv => by
    obtain ⟨c, rfl, hc⟩ := one1_inv h
    cases c <;> simp [AV.isStr] at hc
    exact hv
  | .flt k, cs, us, h, hv => by
    obtain ⟨c, rfl, hc⟩ := one1_inv h
    cases c <;> simp [AV.isFlt] at hc
    subst hc; exact hv
  | .list t, cs, us, h, hv => by
    obtain ⟨c, rfl, hc⟩ := one1_inv h
    cases c <;> simp [AV.isLst] at hc
    · obtain ⟨u, us', rfl, h1, h2⟩ := hv.cons_inv
      obtain rfl := h2.nil_inv
      cases h1
      exact .cons (.lst (.ronil _ _ _ _)) .nil
    · subst hc
      simpa [Ty.decC, AV.theLst, Ty.enc, AV.cells] using hv
  | .wrap a, cs, us, h, hv => a.okC h hv
  | .pair a b, cs, us, h, hv => by
    simp only [Ty.ckC, Bool.and_eq_true] at h
    have h1 := a.okC h.1 (hv.take a.sz)
    have h2 := b.okC h.2 (hv.drop a.sz)
    have := h1.append h2
    rwa [List.take_append_drop] at this
theorem Ty.ok (t : Ty) {v : AV} {u : Value} (h : t.ck v = true) (hv : VRep w R ρ v u) : VRep w R ρ (t.enc (t.dec v)) u := by
  unfold Ty.ck at h
  split at h
  · rename_i cs
    simp only [Bool.and_eq_true] at h
    obtain ⟨us, rfl, hus⟩ := hv.agg_inv
    rw [t.enc_agg h.1]
    exact .agg' (t.okC h.2 hus)
  · rename_i hna
    simp only [Bool.and_eq_true, Bool.not_eq_true'] at h
    have e : v.cells = [v] := by cases v <;> first | rfl | (exact absurd rfl (hna _))
    have h1 := t.okC h.2 (VReps.cons hv .nil)
    rw [t.enc_one h.1] at h1
    obtain ⟨u', us', he, h2, _⟩ := h1.cons_inv
    simp only [List.cons.injEq] at he
    rw [he.1]
    unfold Ty.dec
    rw [e]; exact h2
end
def Nameless (v : AV) : Prop := ∀ (w : World) (R : Nat → Prop) (ρ ρ' : Nm) (u : Value), VRep w R ρ v u → VRep w R ρ' v u
theorem Nameless.lst {t : Ty} (h : ∀ (x : t.El), ∀ c ∈ (t.enc x).cells, Nameless c) (l : List t.El) : Nameless (.lst t l) := by
  intro w R ρ ρ' u hv
  cases hv with
  | lst hv =>
  refine .lst ?_
  have key : ∀ (n : Nat), VRep w R ρ (.ro t.sz n (t.at l)) u → VRep w R ρ' (.ro t.sz n (t.at l)) u := by
    intro n hw
    cases hw with
    | ronil _ _ a cap => exact .ronil _ _ a cap
    | @ro _ _ _ b off0 cap v hR hl hz hc h5 =>
      exact .ro v hR hl hz hc (fun j o c hj hco => h _ c (List.mem_of_getElem? hco) _ _ _ _ _ (h5 j o c hj hco))
  exact key _ hv
theorem Ty.namelessC : ∀ (t : Ty) (x : t.El), ∀ c ∈ (t.enc x).cells, Nameless c
  | .unit, _, c, h => by simp [Ty.enc, AV.cells] at h
  | .int k, x, c, h => by
    have h : c = .int k x := by simpa [Ty.enc, AV.cells] using h
    subst h; intro w R ρ ρ' u hv; cases hv; exact .int _ _
  | .bool, x, c, h => by
    have h : c = .bool x := by simpa [Ty.enc, AV.cells] using h
    subst h; intro w R ρ ρ' u hv; cases hv; exact .bool _
  | .str, x, c, h => by
    have h : c = .str x := by simpa [Ty.enc, AV.cells] using h
    subst h; intro w R ρ ρ' u hv; cases hv; exact .str _
  | .flt k, x, c, h => by
    have h : c = .flt k x := by simpa [Ty.enc, AV.cells] using h
    subst h; intro w R ρ ρ' u hv; cases hv; exact .flt _ _
  | .list t, x, c, h => by
    have h : c = .lst t x := by simpa [Ty.enc, AV.cells] using h
    subst h; exact Nameless.lst t.namelessC x
  | .wrap a, x, c, h => a.namelessC x c h
  | .pair a b, x, c, h => by
    rcases List.mem_append.1 h with h | h
    · exact a.namelessC x.1 c h
    · exact b.namelessC x.2 c h
theorem Nameless.agg {cs : List AV} (h : ∀ c ∈ cs, Nameless c) : Nameless (.agg cs) := by
  intro w R ρ ρ' u hv
  obtain ⟨us, rfl, hus⟩ := hv.agg_inv
  exact .agg' ⟨hus.1, fun k c u hc hu => h c (List.mem_of_getElem? hc) _ _ _ _ _ (hus.2 k c u hc hu)⟩
theorem Ty.nameless (t : Ty) (x : t.El) : Nameless (t.enc x) := by
  cases h : t.isAgg with
  | true => rw [t.enc_agg h]; exact .agg (t.namelessC x)
  | false =>
    refine t.namelessC x _ ?_
    rw [t.enc_one h]; simp
end Go.DI
set_option linter.unusedVariables false
set_option linter.unusedSimpArgs false
namespace Go.DI
def Ty.flat (t : Ty) (l : List t.El) : List AV := l.flatMap fun x => (t.enc x).cells
theorem Ty.flat_nil (t : Ty) : t.flat [] = [] := rfl
theorem Ty.flat_cons (t : Ty) (x : t.El) (l : List t.El) : t.flat (x :: l) = (t.enc x).cells ++ t.flat l := rfl
theorem Ty.flat_append (t : Ty) (l m : List t.El) : t.flat (l ++ m) = t.flat l ++ t.flat m := by simp [Ty.flat]
theorem Ty.flat_len (t : Ty) (l : List t.El) : (t.flat l).length = l.length * t.sz := by
  induction l with
  | nil => simp [Ty.flat]
  | cons x l ih => rw [Ty.flat_cons, List.length_append, ih, t.enc_len, List.length_cons, Nat.add_mul]; omega
theorem Ty.at_zero (t : Ty) (x : t.El) (l : List t.El) : t.at (x :: l) 0 = t.enc x := rfl
theorem Ty.at_succ (t : Ty) (x : t.El) (l : List t.El) (j : Nat) : t.at (x :: l) (j + 1) = t.at l j := rfl
theorem Ty.flat_cut (t : Ty) : ∀ (l : List t.El) (j : Nat), j < l.length → t.flat l = t.flat (l.take j) ++ (t.at l j).cells ++ t.flat (l.drop (j + 1))
  | [], j, h => by simp at h
  | x :: l, 0, _ => by simp [Ty.flat_cons, Ty.at_zero, Ty.flat_nil]
  | x :: l, j + 1, h => by
    have := t.flat_cut l j (by simpa using h)
    rw [List.take_succ_cons, t.flat_cons, t.flat_cons, t.at_succ, List.drop_succ_cons]
    rw [this]
    simp [List.append_assoc]
theorem Ty.flat_get (t : Ty) (l : List t.El) {j o : Nat} (hj : j < l.length) (ho : o < t.sz) : (t.flat l)[j * t.sz + o]? = (t.at l j).cells[o]? := by
  have hl : (t.flat (l.take j)).length = j * t.sz := by rw [t.flat_len, List.length_take, Nat.min_eq_left (by omega)]
  rw [t.flat_cut l j hj, List.append_assoc, List.getElem?_append_right (by omega), List.getElem?_append_left (by rw [t.at_len]; omega), hl]
  congr 1; omega
section
variable {w : World} {R : Nat → Prop} {ρ : Nm} {h : AH}
theorem row_cells {b : Nat} {N : BN} {bt : TypeId} {t : Ty} {l : List t.El} (hb : BRep w R ρ b N (.row bt t l)) (hg : N.gh = false) : BRep w R ρ b N (.cells bt (t.flat l)) := by
  obtain ⟨h1, h2⟩ := hb
  obtain ⟨arr, h3, h4, h5, h6⟩ := h2 hg
  have hal : arr.toList.length = N.n := by simpa using h4
  refine ⟨arr, h3, h4, by rw [t.flat_len]; exact h5, by rw [List.length_take, t.flat_len]; omega, fun k c u hc hu => ?_⟩
  have hk : k < l.length * t.sz := by rw [← t.flat_len]; exact (List.getElem?_eq_some_iff.1 hc).1
  have hs : 0 < t.sz := Nat.pos_of_ne_zero (fun e => by rw [e] at hk; simp at hk)
  have hj : k / t.sz < l.length := Nat.div_lt_of_lt_mul (by rw [Nat.mul_comm]; exact hk)
  have ho : k % t.sz < t.sz := Nat.mod_lt _ hs
  have hke : k = k / t.sz * t.sz + k % t.sz := by rw [Nat.mul_comm]; exact (Nat.div_add_mod k t.sz).symm
  rw [hke, t.flat_get l hj ho] at hc
  obtain ⟨u', hu', hv⟩ := h6 _ _ _ hj hc
  rw [← hke] at hu'
  rw [List.getElem?_take] at hu
  split at hu
  · have : u' = u := by
      have e : arr.toList[k]? = some u' := by simpa using hu'
      rw [e] at hu; simpa using hu
    exact this ▸ hv
  · cases hu
theorem cells_row {b : Nat} {N : BN} {bt : TypeId} {t : Ty} {l : List t.El} (hb : BRep w R ρ b N (.cells bt (t.flat l))) (hn : N.len = l.length) : BRep w R ρ b N (.row bt t l) := by
  obtain ⟨arr, h1, h2, h3, h4⟩ := hb
  have hal : arr.toList.length = N.n := by simpa using h2
  rw [t.flat_len] at h3
  refine ⟨hn, fun _ => ⟨arr, h1, h2, h3, fun j o c hj hc => ?_⟩⟩
  have ho : o < t.sz := by rw [← t.at_len l j]; exact (List.getElem?_eq_some_iff.1 hc).1
  rw [← t.flat_get l hj ho] at hc
  obtain ⟨u, hu, hv⟩ := h4.get hc
  rw [List.getElem?_take] at hu
  split at hu
  · exact ⟨u, by simpa using hu, hv⟩
  · cases hu
theorem BRep.cells_mono {b : Nat} {N : BN} {bt : TypeId} {cs ds : List AV} (hb : BRep w R ρ b N (.cells bt cs)) (hl : ds.length = cs.length) (hv : ∀ us, VReps w R ρ cs us → VReps w R ρ ds us) : BRep w R ρ b N (.cells bt ds) := by
  obtain ⟨arr, h1, h2, h3, h4⟩ := hb
  exact ⟨arr, h1, h2, by rw [hl]; exact h3, by rw [hl]; exact hv _ h4⟩
theorem rel_retell (hr : Rel R ρ h w) {i : Nat} {blk0 blk : ABlk} {b : Nat} {N : BN} (hi : h[i]? = some (some blk0)) (hn : ρ i = some (b, N)) (hg : N.gh = false) (hb : BRep w R ρ b N blk) :
    Rel R ρ (h.set i (some blk)) w ∧ Frm R ρ h w R ρ (h.set i (some blk)) w :=
  rel_upd hr hi hn blk rfl rfl rfl rfl (fun _ _ => rfl) hb hg (Nat.le_refl _)
theorem rel_rename (hr : Rel R ρ h w) {i : Nat} {blk0 blk : ABlk} {b : Nat} {N N' : BN} (hi : h[i]? = some (some blk0)) (hn : ρ i = some (b, N)) (hg : N.gh = false) (hg' : N'.gh = false) (hb : BRep w R ρ b N' blk) :
    Rel R (ρ.upd h.length (b, N')) (h.set i none ++ [some blk]) w ∧ Frm R ρ h w R (ρ.upd h.length (b, N')) (h.set i none ++ [some blk]) w := by
  obtain ⟨b', N2, hn', hb0, hre⟩ := hr.live _ _ hi
  rw [hn] at hn'
  simp only [Option.some.injEq, Prod.mk.injEq] at hn'
  obtain ⟨rfl, rfl⟩ := hn'
  exact rel_move hr hi hn blk rfl rfl rfl rfl (fun _ _ => rfl) blk0 hb0 N' hb hg hg' (Nat.le_refl _)
theorem rel_ghost (hr : Rel R ρ h w) (bt : TypeId) (t : Ty) :
    Rel R (ρ.upd h.length (0, ⟨0, 0, true⟩)) (h ++ [some (.row bt t [])]) w ∧ Frm R ρ h w R (ρ.upd h.length (0, ⟨0, 0, true⟩)) (h ++ [some (.row bt t [])]) w ∧
      VRep w R (ρ.upd h.length (0, ⟨0, 0, true⟩)) (.orow t h.length) (.slice none 0 0) := by
  have hle := Nm.le_upd (bn := (0, ⟨0, 0, true⟩)) (hr.dom h.length (Nat.le_refl _))
  have hsplit : ∀ (i : Nat) (blk' : ABlk), (h ++ [some (ABlk.row bt t [])])[i]? = some (some blk') → (i < h.length ∧ h[i]? = some (some blk')) ∨ (i = h.length ∧ blk' = .row bt t []) := by
    intro i blk' hi
    rw [List.getElem?_append] at hi
    split at hi
    · rename_i hlt; exact .inl ⟨hlt, hi⟩
    · rename_i hge
      have : i - h.length = 0 := by
        have := (List.getElem?_eq_some_iff.1 hi).1; simp at this; omega
      rw [this] at hi
      simp at hi
      exact .inr ⟨by omega, hi.symm⟩
  have hgl : ∀ (i : Nat) (b : Nat) (N : BN), i = h.length → (ρ.upd h.length (0, ⟨0, 0, true⟩)) i = some (b, N) → N.gh = true := by
    intro i b N he hn
    subst he
    rw [Nm.upd_self] at hn
    simp only [Option.some.injEq, Prod.mk.injEq] at hn
    rw [← hn.2]
  refine ⟨⟨fun i blk' hi => ?_, fun i j bi bj b Ni Nj hi hj hni hnj hgi hgj => ?_, fun i hi => ?_, hr.ro⟩, ⟨rfl, rfl, rfl, Nat.le_refl _, hle, fun _ h => h, fun _ _ _ => rfl, fun b hl => ?_, fun _ h => .inl h, by simp, fun x hx hn => by rw [Nm.upd_ne (by omega)]; exact hn, (by first | exact Nat.le_refl _ | exact Nat.le_succ _)⟩, .onil (Nm.upd_self _ _ _) rfl⟩
  · rcases hsplit i blk' hi with ⟨hlt, hi⟩ | ⟨rfl, rfl⟩
    · obtain ⟨b, N', h1, h2, h3⟩ := hr.live i blk' hi
      exact ⟨b, N', hle _ _ h1, h2.mono h3 (fun _ => rfl) (fun _ _ => rfl) (fun _ h => h) hle, h3⟩
    · exact ⟨0, _, Nm.upd_self _ _ _, ⟨rfl, fun hg => by cases hg⟩, .inr ⟨rfl, _, _, rfl⟩⟩
  · rcases hsplit i bi hi with ⟨hlt, hi⟩ | ⟨he, _⟩
    · rcases hsplit j bj hj with ⟨hlt', hj⟩ | ⟨he, _⟩
      · rw [Nm.upd_ne (by omega)] at hni hnj
        exact hr.inj i j bi bj b Ni Nj hi hj hni hnj hgi hgj
      · rw [hgl j b Nj he hnj] at hgj; cases hgj
    · rw [hgl i b Ni he hni] at hgi; cases hgi
  · rw [List.length_append, List.length_singleton] at hi
    rw [Nm.upd_ne (by omega)]
    exact hr.dom i (by omega)
  · obtain ⟨i, blk', N', hi, hn, hg⟩ := hl
    rcases hsplit i blk' hi with ⟨hlt, hi⟩ | ⟨he, _⟩
    · rw [Nm.upd_ne (by omega)] at hn
      exact .inl ⟨i, blk', N', hi, hn, hg⟩
    · rw [hgl i b N' he hn] at hg; cases hg
theorem rel_freeze (hr : Rel R ρ h w) {i : Nat} {blk : ABlk} {b : Nat} {N : BN} (hi : h[i]? = some (some blk)) (hn : ρ i = some (b, N)) (hg : N.gh = false) :
    Rel (fun k => R k ∨ k = b) ρ (h.set i none) w ∧ Frm R ρ h w (fun k => R k ∨ k = b) ρ (h.set i none) w := by
  have hlb : Lv ρ h b := ⟨i, blk, N, hi, hn, hg⟩
  have hblt := hr.lv_lt hlb
  have hsub : ∀ (j : Nat) (blk' : ABlk), (h.set i none)[j]? = some (some blk') → j ≠ i ∧ h[j]? = some (some blk') := by
    intro j blk' hj
    rw [List.getElem?_set] at hj
    split at hj
    · split at hj <;> simp at hj
    · rename_i hne; exact ⟨fun e => hne e.symm, hj⟩
  refine ⟨⟨fun j blk' hj => ?_, fun j k bj bk c Nj Nk hj hk => hr.inj j k bj bk c Nj Nk (hsub _ _ hj).2 (hsub _ _ hk).2, fun j hj => hr.dom j (by simpa using hj), fun c hc => ?_⟩,
    ⟨rfl, rfl, rfl, Nat.le_refl _, Nm.le_refl _, fun _ h => .inl h, fun _ _ _ => rfl, fun c hl => ?_, fun c hc => ?_, by simp, fun _ _ h => h, (by first | exact Nat.le_refl _ | exact Nat.le_succ _)⟩⟩
  · obtain ⟨hne, hj⟩ := hsub j blk' hj
    obtain ⟨c, N', h1, h2, h3⟩ := hr.live j blk' hj
    refine ⟨c, N', h1, h2.mono h3 (fun _ => rfl) (fun _ _ => rfl) (fun _ h => .inl h) (Nm.le_refl _), ?_⟩
    rcases h3 with ⟨h4, h5⟩ | h4
    · refine .inl ⟨h4, ?_⟩
      rintro (h6 | rfl)
      · exact h5 h6
      · exact hne (hr.inj j i blk' blk c N' N hj hi h1 hn h4 hg)
    · exact .inr h4
  · rcases hc with hc | rfl
    · exact hr.ro c hc
    · exact hblt
  · obtain ⟨j, blk', N', hj, hn', hg'⟩ := hl
    exact .inl ⟨j, blk', N', (hsub j blk' hj).2, hn', hg'⟩
  · rcases hc with hc | rfl
    · exact .inl hc
    · exact .inr (.inl hlb)
theorem lst_of_cells {b : Nat} {N : BN} {bt : TypeId} {t : Ty} {l : List t.El} {cap : Nat} (hb : BRep w R ρ b N (.cells bt (t.flat l))) (hR : R b) (hl : l.length ≤ cap) : VRep w R ρ (.lst t l) (.slice (some ⟨b, 0, none⟩) l.length cap) := by
  obtain ⟨arr, h1, h2, h3, h4⟩ := hb
  refine .lst (.ro (fun j o => arr.getD (j * t.sz + o) (.tuple #[])) hR hl (fun j _ => t.at_len l j) ?_ ?_)
  all_goals
    intro j o c hj hc
    have ho : o < t.sz := by rw [← t.at_len l j]; exact (List.getElem?_eq_some_iff.1 hc).1
    rw [← t.flat_get l hj ho] at hc
    obtain ⟨u, hu, hv⟩ := h4.get hc
    rw [List.getElem?_take] at hu
    split at hu
    · have hu' : arr[j * t.sz + o]? = some u := by simpa using hu
      first
        | (rw [Nat.zero_add]; rw [block_cells h1 _ _ hu']; simp [hu'])
        | (simp only [Array.getD_eq_getD_getElem?, hu', Option.getD_some]; exact hv)
    · cases hu
end
end Go.DI
set_option linter.unusedVariables false
set_option linter.unusedSimpArgs false
namespace Go.DI
def Ty.chunks (t : Ty) : Nat → List AV → Option (List t.El)
  | 0, cs => if cs.isEmpty then some [] else none
  | n + 1, cs => if t.ckC (cs.take t.sz) then (match t.chunks n (cs.drop t.sz) with
    | some l => some (t.decC (cs.take t.sz) :: l)
    | none => none) else none
def frzL (t : Ty) (h : AH) (v : AV) : Option (List t.El × AH) :=
  match v with
  | .lst t' l => if e : t' = t then some (e ▸ l, h) else none
  | .nils => some ([], h)
  | .orow _ i => match h[i]? with
    | some (some (.row _ ty l)) => if e : ty = t then some (e ▸ l, h.set i none) else none
    | _ => none
  | .own sz i off len => match h[i]? with
    | some (some (.cells _ cs)) => if sz = t.sz ∧ off = 0 then (match t.chunks len cs with
      | some l => some (l, h.set i none)
      | none => none) else none
    | some (some (.row _ ty l)) => if e : ty = t then (if sz = t.sz ∧ off = 0 ∧ len ≤ l.length ∧ l.isEmpty = false then some (e ▸ l.take len, h.set i none) else none) else none
    | _ => none
  | _ => none
def Ty.frzC : (t : Ty) → AH → List AV → Option (t.El × AH)
  | .unit, h, cs => if Ty.unit.ckC cs then some (Ty.unit.decC cs, h) else none
  | .int k, h, cs => if (Ty.int k).ckC cs then some ((Ty.int k).decC cs, h) else none
  | .bool, h, cs => if Ty.bool.ckC cs then some (Ty.bool.decC cs, h) else none
  | .str, h, cs => if Ty.str.ckC cs then some (Ty.str.decC cs, h) else none
  | .flt k, h, cs => if (Ty.flt k).ckC cs then some ((Ty.flt k).decC cs, h) else none
  | .list t, h, cs => match cs with
    | [c] => frzL t h c
    | _ => none
  | .wrap a, h, cs => a.frzC h cs
  | .pair a b, h, cs => match a.frzC h (cs.take a.sz) with
    | some (x, h1) => match b.frzC h1 (cs.drop a.sz) with
      | some (y, h2) => some ((x, y), h2)
      | none => none
    | none => none
def Ty.frz (t : Ty) (h : AH) (v : AV) : Option (t.El × AH) := match v with
  | .agg cs => if t.isAgg then t.frzC h cs else none
  | v => if t.isAgg then none else t.frzC h [v]
theorem one1_len {f : AV → Bool} {cs : List AV} (h : one1 f cs = true) : cs.length = 1 := by
  obtain ⟨c, rfl, _⟩ := one1_inv h; rfl
theorem Ty.ckC_len : ∀ (t : Ty) {cs : List AV}, t.ckC cs = true → cs.length = t.sz
  | .unit, cs, h => by
    have : cs = [] := by simpa [Ty.ckC] using h
    subst this; rfl
  | .int k, cs, h => one1_len h
  | .bool, cs, h => one1_len h
  | .str, cs, h => one1_len h
  | .flt k, cs, h => one1_len h
  | .list t, cs, h => one1_len h
  | .wrap a, cs, h => a.ckC_len h
  | .pair a b, cs, h => by
    simp only [Ty.ckC, Bool.and_eq_true] at h
    have h1 := a.ckC_len h.1
    have h2 := b.ckC_len h.2
    rw [List.length_take] at h1
    rw [List.length_drop] at h2
    show cs.length = a.sz + b.sz
    omega
section
variable {w : World} {R : Nat → Prop} {ρ : Nm} {h : AH}
theorem Ty.chunks_ok (t : Ty) : ∀ {n : Nat} {cs : List AV} {l : List t.El}, t.chunks n cs = some l → l.length = n ∧ (t.flat l).length = cs.length ∧ ∀ (w : World) (R : Nat → Prop) (ρ : Nm) (us : List Value), VReps w R ρ cs us → VReps w R ρ (t.flat l) us
  | 0, cs, l, h => by
    simp only [Ty.chunks] at h
    split at h
    · rename_i hc
      injection h with h; subst h
      have : cs = [] := by simpa using hc
      subst this
      exact ⟨rfl, rfl, fun _ _ _ _ h => h⟩
    · cases h
  | n + 1, cs, l, h => by
    simp only [Ty.chunks] at h
    split at h
    · rename_i hc
      split at h
      · rename_i l' hl
        injection h with h; subst h
        obtain ⟨h1, h2, h3⟩ := t.chunks_ok hl
        have hct : (cs.take t.sz).length = t.sz := by
          exact t.ckC_len hc
        refine ⟨by simp [h1], ?_, fun w R ρ us hv => ?_⟩
        · rw [t.flat_cons, List.length_append, t.enc_len, h2, List.length_drop]
          rw [List.length_take] at hct; omega
        · rw [t.flat_cons]
          have h4 := t.okC hc (hv.take t.sz)
          have h5 := h3 w R ρ _ (hv.drop t.sz)
          have := h4.append h5
          rwa [List.take_append_drop] at this
      · cases h
    · cases h
theorem _root_.Go.DI.Ty.flat_take (t : Ty) : ∀ (l : List t.El) (n : Nat), (t.flat l).take (n * t.sz) = t.flat (l.take n)
  | [], n => by simp [Ty.flat]
  | x :: l, 0 => by simp [Ty.flat]
  | x :: l, n + 1 => by
    rw [Ty.flat_cons, List.take_succ_cons, Ty.flat_cons, List.take_append, t.enc_len, List.take_of_length_le (by rw [t.enc_len, Nat.add_mul]; omega), show (n + 1) * t.sz - t.sz = n * t.sz by rw [Nat.add_mul]; omega, t.flat_take l n]
theorem _root_.Go.DI.BRep.cells_take {b : Nat} {N : BN} {bt : TypeId} {cs : List AV} (hb : BRep w R ρ b N (.cells bt cs)) (n : Nat) : BRep w R ρ b N (.cells bt (cs.take n)) := by
  obtain ⟨arr, h1, h2, h3, h4⟩ := hb
  refine ⟨arr, h1, h2, by rw [List.length_take]; omega, ?_⟩
  have := h4.take n
  rw [List.take_take] at this
  rw [List.length_take]
  exact this
theorem frzL_ok (hr : Rel R ρ h w) {t : Ty} {v : AV} {l : List t.El} {h' : AH} {u : Value} (hf : frzL t h v = some (l, h')) (hv : VRep w R ρ v u) :
    ∃ R', Rel R' ρ h' w ∧ Frm R ρ h w R' ρ h' w ∧ VRep w R' ρ (.lst t l) u := by
  unfold frzL at hf
  split at hf
  · rename_i t' l'
    split at hf
    · rename_i e
      subst e
      simp only [Option.some.injEq, Prod.mk.injEq] at hf
      obtain ⟨rfl, rfl⟩ := hf
      exact ⟨R, hr, Frm.refl _ _ _ _, hv⟩
    · cases hf
  · simp only [Option.some.injEq, Prod.mk.injEq] at hf
    obtain ⟨rfl, rfl⟩ := hf
    cases hv
    exact ⟨R, hr, Frm.refl _ _ _ _, .lst (.ronil _ _ _ _)⟩
  · rename_i t' i
    split at hf
    · rename_i bt ty l' hi
      split at hf
      · rename_i e
        subst e
        simp only [Option.some.injEq, Prod.mk.injEq] at hf
        obtain ⟨rfl, rfl⟩ := hf
        obtain ⟨b, N, hn, hb, hre⟩ := hr.live _ _ hi
        cases hv with
        | @orow _ _ b' N' cap hn' hg hl hc =>
          rw [hn] at hn'
          simp only [Option.some.injEq, Prod.mk.injEq] at hn'
          obtain ⟨rfl, rfl⟩ := hn'
          obtain ⟨r1, f1⟩ := rel_freeze hr hi hn hg
          have hlen := hb.1
          have hb2 := (row_cells hb hg).mono (R' := fun k => R k ∨ k = b) (w' := w) (.inl ⟨hg, hre.notR hg⟩) (fun _ => rfl) (fun _ _ => rfl) (fun _ h => .inl h) (Nm.le_refl _)
          refine ⟨_, r1, f1, ?_⟩
          rw [hlen]
          exact lst_of_cells hb2 (.inr rfl) (by omega)
        | @onil _ _ b' N' hn' hg =>
          rw [hn] at hn'
          simp only [Option.some.injEq, Prod.mk.injEq] at hn'
          obtain ⟨rfl, rfl⟩ := hn'
          obtain ⟨r1, f1⟩ := rel_kill hr i
          refine ⟨R, r1, f1, ?_⟩
          rcases hre with ⟨h1, _⟩ | ⟨_, t2, ty2, h2⟩
          · rw [hg] at h1; cases h1
          · injection h2 with h3 h4 h5
            subst h4
            have h5 := eq_of_heq h5
            subst h5
            exact .lst (.ronil _ _ _ _)
      · cases hf
    · cases hf
  · rename_i sz i off len
    split at hf
    · rename_i bt cs hi
      split at hf
      · rename_i hc
        obtain ⟨rfl, rfl⟩ := hc
        split at hf
        · rename_i l' hl
          simp only [Option.some.injEq, Prod.mk.injEq] at hf
          obtain ⟨rfl, rfl⟩ := hf
          obtain ⟨b, N, hn, hb, hre⟩ := hr.live _ _ hi
          obtain ⟨hg, hnR⟩ := hre.cells
          obtain ⟨k1, k2, k3⟩ := t.chunks_ok hl
          cases hv with
          | @own _ _ _ _ b' N' cap hn' hle hcN =>
          rw [hn] at hn'
          simp only [Option.some.injEq, Prod.mk.injEq] at hn'
          obtain ⟨rfl, rfl⟩ := hn'
          obtain ⟨r1, f1⟩ := rel_freeze hr hi hn hg
          have hb2 := (hb.cells_mono k2 (fun us h => k3 _ _ _ us h)).mono (R' := fun k => R k ∨ k = b) (w' := w) (.inl ⟨hg, hnR⟩) (fun _ => rfl) (fun _ _ => rfl) (fun _ h => .inl h) (Nm.le_refl _)
          refine ⟨_, r1, f1, ?_⟩
          subst k1
          exact lst_of_cells hb2 (.inr rfl) hle
        · cases hf
      · cases hf
    · rename_i bt ty l' hi
      split at hf
      · rename_i e
        subst e
        split at hf
        · rename_i hc
          obtain ⟨rfl, rfl, hlen, hne⟩ := hc
          simp only [Option.some.injEq, Prod.mk.injEq] at hf
          obtain ⟨rfl, rfl⟩ := hf
          obtain ⟨b, N, hn, hb, hre⟩ := hr.live _ _ hi
          have hg : N.gh = false := by
            rcases hre with ⟨h1, _⟩ | ⟨_, t2, ty2, h2⟩
            · exact h1
            · injection h2 with h3 h4 h5
              subst h4
              have h5 := eq_of_heq h5
              rw [h5] at hne
              cases hne
          cases hv with
          | @own _ _ _ _ b' N' cap hn' hle hcN =>
          rw [hn] at hn'
          simp only [Option.some.injEq, Prod.mk.injEq] at hn'
          obtain ⟨rfl, rfl⟩ := hn'
          obtain ⟨r1, f1⟩ := rel_freeze hr hi hn hg
          have hb2 := ((row_cells hb hg).cells_take (len * ty.sz)).mono (R' := fun k => R k ∨ k = b) (w' := w) (.inl ⟨hg, hre.notR hg⟩) (fun _ => rfl) (fun _ _ => rfl) (fun _ h => .inl h) (Nm.le_refl _)
          rw [ty.flat_take] at hb2
          refine ⟨_, r1, f1, ?_⟩
          have hll : (l'.take len).length = len := by rw [List.length_take]; omega
          have := lst_of_cells (cap := cap) hb2 (.inr rfl) (by rw [hll]; exact hle)
          rw [hll] at this
          exact this
        · cases hf
      · cases hf
    · cases hf
  · cases hf
theorem Ty.frzC_ok : ∀ (t : Ty) {R : Nat → Prop} {h : AH} {cs : List AV} {us : List Value} {x : t.El} {h' : AH}, t.frzC h cs = some (x, h') → Rel R ρ h w → VReps w R ρ cs us →
    ∃ R', Rel R' ρ h' w ∧ Frm R ρ h w R' ρ h' w ∧ VReps w R' ρ (t.enc x).cells us := by
  have base : ∀ (t : Ty) {R : Nat → Prop} {h : AH} {cs : List AV} {us : List Value} {x : t.El} {h' : AH}, (if t.ckC cs then some (t.decC cs, h) else none) = some (x, h') → Rel R ρ h w → VReps w R ρ cs us →
      ∃ R', Rel R' ρ h' w ∧ Frm R ρ h w R' ρ h' w ∧ VReps w R' ρ (t.enc x).cells us := by
    intro t R h cs us x h' hf hr hv
    split at hf
    · rename_i hc
      simp only [Option.some.injEq, Prod.mk.injEq] at hf
      obtain ⟨rfl, rfl⟩ := hf
      exact ⟨R, hr, Frm.refl _ _ _ _, t.okC hc hv⟩
    · cases hf
  intro t
  induction t with
  | unit => intro R h cs us x h' hf hr hv; exact base .unit hf hr hv
  | int k => intro R h cs us x h' hf hr hv; exact base (.int k) hf hr hv
  | bool => intro R h cs us x h' hf hr hv; exact base .bool hf hr hv
  | str => intro R h cs us x h' hf hr hv; exact base .str hf hr hv
  | flt k => intro R h cs us x h' hf hr hv; exact base (.flt k) hf hr hv
  | list t ih =>
    intro R h cs us x h' hf hr hv
    simp only [Ty.frzC] at hf
    split at hf
    · rename_i c
      obtain ⟨u, us', rfl, h1, h2⟩ := hv.cons_inv
      obtain rfl := h2.nil_inv
      obtain ⟨R', r1, f1, v1⟩ := frzL_ok hr hf h1
      exact ⟨R', r1, f1, .cons v1 .nil⟩
    · cases hf
  | wrap a ih => intro R h cs us x h' hf hr hv; exact ih hf hr hv
  | pair a b iha ihb =>
    intro R h cs us x h' hf hr hv
    simp only [Ty.frzC] at hf
    split at hf
    · rename_i x1 h1 he1
      split at hf
      · rename_i y1 h2 he2
        simp only [Option.some.injEq, Prod.mk.injEq] at hf
        obtain ⟨rfl, rfl⟩ := hf
        obtain ⟨R1, r1, f1, v1⟩ := iha he1 hr (hv.take a.sz)
        obtain ⟨R2, r2, f2, v2⟩ := ihb he2 r1 ((hv.drop a.sz).frm f1 hr)
        refine ⟨R2, r2, f1.trans f2, ?_⟩
        have := (v1.frm f2 r1).append v2
        rwa [List.take_append_drop] at this
      · cases hf
    · cases hf
theorem Ty.frz_ok (t : Ty) (hr : Rel R ρ h w) {v : AV} {u : Value} {x : t.El} {h' : AH} (hf : t.frz h v = some (x, h')) (hv : VRep w R ρ v u) :
    ∃ R', Rel R' ρ h' w ∧ Frm R ρ h w R' ρ h' w ∧ VRep w R' ρ (t.enc x) u := by
  unfold Ty.frz at hf
  split at hf
  · rename_i cs
    split at hf
    · rename_i ha
      obtain ⟨us, rfl, hus⟩ := hv.agg_inv
      obtain ⟨R', r1, f1, v1⟩ := t.frzC_ok hf hr hus
      refine ⟨R', r1, f1, ?_⟩
      rw [t.enc_agg ha]
      exact .agg' v1
    · cases hf
  · split at hf
    · cases hf
    · rename_i ha
      obtain ⟨R', r1, f1, v1⟩ := t.frzC_ok hf hr (VReps.cons hv .nil)
      refine ⟨R', r1, f1, ?_⟩
      rw [t.enc_one (by simpa using ha)] at v1
      obtain ⟨u', us', he, h2, _⟩ := v1.cons_inv
      simp only [List.cons.injEq] at he
      rw [he.1]; exact h2
def Ty.noRef : Ty → Bool
  | .list _ => false
  | .wrap a => a.noRef
  | .pair a b => a.noRef && b.noRef
  | _ => true
theorem Ty.noRefC : ∀ (t : Ty), t.noRef = true → ∀ (x : t.El) (w : World) (R : Nat → Prop) (ρ : Nm) (w' : World) (R' : Nat → Prop) (ρ' : Nm), ∀ c ∈ (t.enc x).cells, ∀ u, VRep w R ρ c u → VRep w' R' ρ' c u
  | .unit, _, _, _, _, _, _, _, _, c, h, _, _ => by simp [Ty.enc, AV.cells] at h
  | .int k, _, x, w, R, ρ, w', R', ρ', c, h, u, hv => by
    have h : c = .int k x := by simpa [Ty.enc, AV.cells] using h
    subst h; cases hv; exact .int _ _
  | .bool, _, x, w, R, ρ, w', R', ρ', c, h, u, hv => by
    have h : c = .bool x := by simpa [Ty.enc, AV.cells] using h
    subst h; cases hv; exact .bool _
  | .str, _, x, w, R, ρ, w', R', ρ', c, h, u, hv => by
    have h : c = .str x := by simpa [Ty.enc, AV.cells] using h
    subst h; cases hv; exact .str _
  | .flt k, _, x, w, R, ρ, w', R', ρ', c, h, u, hv => by
    have h : c = .flt k x := by simpa [Ty.enc, AV.cells] using h
    subst h; cases hv; exact .flt _ _
  | .list _, h, _, _, _, _, _, _, _, _, _, _, _ => by simp [Ty.noRef] at h
  | .wrap a, h, x, w, R, ρ, w', R', ρ', c, hc, u, hv => a.noRefC h x w R ρ w' R' ρ' c hc u hv
  | .pair a b, h, x, w, R, ρ, w', R', ρ', c, hc, u, hv => by
    simp only [Ty.noRef, Bool.and_eq_true] at h
    rcases List.mem_append.1 hc with hc | hc
    · exact a.noRefC h.1 x.1 w R ρ w' R' ρ' c hc u hv
    · exact b.noRefC h.2 x.2 w R ρ w' R' ρ' c hc u hv
theorem Ty.noRef_ok (t : Ty) (h : t.noRef = true) (x : t.El) {w' : World} {R' : Nat → Prop} {ρ' : Nm} {u : Value} (hv : VRep w R ρ (t.enc x) u) : VRep w' R' ρ' (t.enc x) u := by
  cases ha : t.isAgg with
  | true =>
    rw [t.enc_agg ha] at hv ⊢
    obtain ⟨us, rfl, hus⟩ := hv.agg_inv
    exact .agg' ⟨hus.1, fun k c u hc hu => t.noRefC h x _ _ _ _ _ _ c (List.mem_of_getElem? hc) u (hus.2 k c u hc hu)⟩
  | false =>
    refine t.noRefC h x _ _ _ _ _ _ _ ?_ u hv
    rw [t.enc_one ha]; simp
end
end Go.DI
set_option linter.unusedVariables false
set_option linter.unusedSimpArgs false
namespace Go.DI
@[reducible] def Els : List Ty → Type
  | [] => Unit
  | t :: ts => t.El × Els ts
def encs : (ts : List Ty) → Els ts → List AV
  | [], _ => []
  | t :: ts, x => t.enc x.1 :: encs ts x.2
def frzs : (ts : List Ty) → AH → List AV → Option (Els ts × AH)
  | [], h, cs => if cs.isEmpty then some ((), h) else none
  | t :: ts, h, cs => match cs with
    | c :: r => match t.frz h c with
      | some (x, h1) => match frzs ts h1 r with
        | some (y, h2) => some ((x, y), h2)
        | none => none
      | none => none
    | [] => none
def ptrs : (ts : List Ty) → Els ts → List AV
  | [], _ => []
  | t :: ts, x => .roa t.sz 1 (fun _ => t.enc x.1) 0 0 :: ptrs ts x.2
def frzP (t : Ty) (h : AH) (v : AV) : Option (t.El × AH) := match v with
  | .ptr i off => match h[i]? with
    | some (some (.cells _ cs)) => if off = 0 then (match t.frzC (h.set i none) cs with
      | some r => some r
      | none => none) else none
    | _ => none
  | .roa sz n f j o => if o = 0 ∧ t.ckC (f j).cells then some (t.decC (f j).cells, h) else none
  | _ => none
def frzPs : (ts : List Ty) → AH → List AV → Option (Els ts × AH)
  | [], h, cs => if cs.isEmpty then some ((), h) else none
  | t :: ts, h, cs => match cs with
    | c :: r => match frzP t h c with
      | some (x, h1) => match frzPs ts h1 r with
        | some (y, h2) => some ((x, y), h2)
        | none => none
      | none => none
    | [] => none
inductive PTy where
  | ty (t : Ty)
  | clo (f : FuncId) (caps : List Ty)
  | roa (t : Ty)
  | nil
def PTy.El : PTy → Type
  | .ty t => t.El
  | .clo _ ts => Els ts
  | .roa t => t.El
  | .nil => Unit
def PTy.enc : (p : PTy) → p.El → AV
  | .ty t, x => t.enc x
  | .clo f ts, x => .func f [] (ptrs ts x)
  | .roa t, x => .roa t.sz 1 (fun _ => t.enc x) 0 0
  | .nil, _ => .nils
def PTy.frz : (p : PTy) → AH → AV → Option (p.El × AH)
  | .ty t, h, v => t.frz h v
  | .clo f ts, h, v => match v with
    | .func f' first caps => if f' = f ∧ first.isEmpty then frzPs ts h caps else none
    | _ => none
  | .roa t, h, v => frzP t h v
  | .nil, h, v => match v with
    | .nils => some ((), h)
    | _ => none
@[reducible] def Ps : List PTy → Type
  | [] => Unit
  | p :: ps => p.El × Ps ps
def encPs : (ps : List PTy) → Ps ps → List AV
  | [], _ => []
  | p :: ps, x => p.enc x.1 :: encPs ps x.2
def frzArgs : (ps : List PTy) → AH → List AV → Option (Ps ps × AH)
  | [], h, cs => if cs.isEmpty then some ((), h) else none
  | p :: ps, h, cs => match cs with
    | c :: r => match p.frz h c with
      | some (x, h1) => match frzArgs ps h1 r with
        | some (y, h2) => some ((x, y), h2)
        | none => none
      | none => none
    | [] => none
section
variable {w : World} {R : Nat → Prop} {ρ : Nm} {h : AH}
theorem frzs_ok : ∀ (ts : List Ty) {R : Nat → Prop} {h : AH} {cs : List AV} {us : List Value} {x : Els ts} {h' : AH}, frzs ts h cs = some (x, h') → Rel R ρ h w → VReps w R ρ cs us →
    ∃ R', Rel R' ρ h' w ∧ Frm R ρ h w R' ρ h' w ∧ VReps w R' ρ (encs ts x) us
  | [], R, h, cs, us, x, h', hf, hr, hv => by
    simp only [frzs] at hf
    split at hf
    · rename_i hc
      injection hf with hf
      have h2 := congrArg Prod.snd hf
      simp only at h2
      subst h2
      have : cs = [] := by simpa using hc
      subst this
      exact ⟨R, hr, Frm.refl _ _ _ _, hv⟩
    · cases hf
  | t :: ts, R, h, cs, us, x, h', hf, hr, hv => by
    simp only [frzs] at hf
    split at hf
    · rename_i c r
      split at hf
      · rename_i x1 h1 he1
        split at hf
        · rename_i y1 h2 he2
          injection hf with hf
          have e1 := congrArg Prod.fst hf
          have e2 := congrArg Prod.snd hf
          simp only at e1 e2
          subst e1; subst e2
          obtain ⟨u, us', rfl, v1, v2⟩ := hv.cons_inv
          obtain ⟨R1, r1, f1, w1⟩ := t.frz_ok hr he1 v1
          obtain ⟨R2, r2, f2, w2⟩ := frzs_ok ts he2 r1 (v2.frm f1 hr)
          exact ⟨R2, r2, f1.trans f2, .cons (w1.frm f2 r1) w2⟩
        · cases hf
      · cases hf
    · cases hf
theorem roa_of_cells {b : Nat} {N : BN} {bt : TypeId} {t : Ty} {x : t.El} (hb : BRep w R ρ b N (.cells bt (t.enc x).cells)) (hR : R b) : VRep w R ρ (.roa t.sz 1 (fun _ => t.enc x) 0 0) (.pointer (some ⟨b, 0, none⟩)) := by
  obtain ⟨arr, h1, h2, h3, h4⟩ := hb
  have key : ∀ (j o : Nat) (c : AV), j < 1 → (t.enc x).cells[o]? = some c → ∃ u, arr[o]? = some u ∧ VRep w R ρ c u := by
    intro j o c _ hc
    obtain ⟨u, hu, hv⟩ := h4.get hc
    rw [List.getElem?_take] at hu
    split at hu
    · exact ⟨u, by simpa using hu, hv⟩
    · cases hu
  have := VRep.roa (w := w) (R := R) (ρ := ρ) (sz := t.sz) (n := 1) (f := fun _ => t.enc x) (j := 0) (o := 0) (b := b) (off0 := 0) (fun _ o => arr.getD o (.tuple #[])) (by omega) hR (fun _ _ => t.enc_len x)
    (fun j o c hj hc => by
      obtain ⟨u, hu, hv⟩ := key j o c hj hc
      obtain rfl : j = 0 := by omega
      have e : (⟨b, 0 + (0 * t.sz + o), none⟩ : Addr) = ⟨b, o, none⟩ := by simp
      rw [e, block_cells h1 _ _ hu]
      simp [hu])
    (fun j o c hj hc => by
      obtain ⟨u, hu, hv⟩ := key j o c hj hc
      simp only [Array.getD_eq_getD_getElem?, hu, Option.getD_some]; exact hv)
  simpa using this
theorem frzP_ok (hr : Rel R ρ h w) {t : Ty} {v : AV} {u : Value} {x : t.El} {h' : AH} (hf : frzP t h v = some (x, h')) (hv : VRep w R ρ v u) :
    ∃ R', Rel R' ρ h' w ∧ Frm R ρ h w R' ρ h' w ∧ VRep w R' ρ (.roa t.sz 1 (fun _ => t.enc x) 0 0) u := by
  unfold frzP at hf
  split at hf
  · rename_i i off
    split at hf
    · rename_i bt cs hi
      split at hf
      · rename_i ho
        subst ho
        split at hf
        · rename_i r he
          injection hf with hf
          subst hf
          obtain ⟨b, N, hn, hb, hre⟩ := hr.live _ _ hi
          obtain ⟨hg, hnR⟩ := hre.cells
          cases hv with
          | @ptr _ _ b' N' hn' =>
          rw [hn] at hn'
          simp only [Option.some.injEq, Prod.mk.injEq] at hn'
          obtain ⟨rfl, rfl⟩ := hn'
          obtain ⟨r1, f1⟩ := rel_freeze hr hi hn hg
          obtain ⟨arr, h1, h2, h3, h4⟩ := hb
          have hal : arr.toList.length = N.n := by simpa using h2
          obtain ⟨R2, r2, f2, v2⟩ := t.frzC_ok he r1 (h4.mono (R' := fun k => R k ∨ k = b) (w' := w) (ρ' := ρ) (fun _ _ => rfl) (fun _ h => .inl h) (Nm.le_refl _))
          have hl := v2.1
          rw [List.length_take] at hl
          have hl2 : (t.enc x).cells.length = cs.length := by omega
          refine ⟨R2, r2, f1.trans f2, roa_of_cells (N := N) (bt := bt) ⟨arr, h1, h2, by omega, by rw [hl2]; exact v2⟩ (f2.ros _ (.inr rfl))⟩
        · cases hf
      · cases hf
    · cases hf
  · rename_i sz n f j o
    split at hf
    · rename_i hc
      obtain ⟨rfl, hck⟩ := hc
      simp only [Option.some.injEq, Prod.mk.injEq] at hf
      obtain ⟨rfl, rfl⟩ := hf
      refine ⟨R, hr, Frm.refl _ _ _ _, ?_⟩
      cases hv with
      | @roa _ _ _ _ _ b off0 v hj hR hsz hc hv =>
      have hlen : (f j).cells.length = t.sz := t.ckC_len hck
      have hus : VReps w R ρ (f j).cells ((List.range t.sz).map (v j)) := by
        refine ⟨by simp [hlen], fun k c u hk hu => ?_⟩
        have hkl : k < t.sz := by rw [← hlen]; exact (List.getElem?_eq_some_iff.1 hk).1
        simp [List.getElem?_map, List.getElem?_range hkl] at hu
        subst hu
        exact hv j k c hj hk
      have hok := t.okC hck hus
      have := VRep.roa (w := w) (R := R) (ρ := ρ) (sz := t.sz) (n := 1) (f := fun _ => t.enc (t.decC (f j).cells)) (j := 0) (o := 0) (b := b) (off0 := off0 + j * sz) (fun _ o => v j o) (by omega) hR (fun _ _ => t.enc_len _)
        (fun j' o c hj' hco => by
          obtain rfl : j' = 0 := by omega
          have hol : o < (f j).cells.length := by rw [hlen, ← t.enc_len (t.decC (f j).cells)]; exact (List.getElem?_eq_some_iff.1 hco).1
          have := hc j o _ hj (List.getElem?_eq_getElem hol)
          have e : off0 + j * sz + (0 * t.sz + o) = off0 + (j * sz + o) := by omega
          rw [e]; exact this)
        (fun j' o c hj' hco => by
          obtain rfl : j' = 0 := by omega
          obtain ⟨u, hu, hvu⟩ := hok.get hco
          have hol : o < t.sz := by rw [← t.enc_len (t.decC (f j).cells)]; exact (List.getElem?_eq_some_iff.1 hco).1
          simp [List.getElem?_map, List.getElem?_range hol] at hu
          subst hu; exact hvu)
      simpa [Nat.add_assoc] using this
    · cases hf
  · cases hf
theorem frzPs_ok : ∀ (ts : List Ty) {R : Nat → Prop} {h : AH} {cs : List AV} {us : List Value} {x : Els ts} {h' : AH}, frzPs ts h cs = some (x, h') → Rel R ρ h w → VReps w R ρ cs us →
    ∃ R', Rel R' ρ h' w ∧ Frm R ρ h w R' ρ h' w ∧ VReps w R' ρ (ptrs ts x) us
  | [], R, h, cs, us, x, h', hf, hr, hv => by
    simp only [frzPs] at hf
    split at hf
    · rename_i hc
      injection hf with hf
      have h2 := congrArg Prod.snd hf
      simp only at h2
      subst h2
      have : cs = [] := by simpa using hc
      subst this
      exact ⟨R, hr, Frm.refl _ _ _ _, hv⟩
    · cases hf
  | t :: ts, R, h, cs, us, x, h', hf, hr, hv => by
    simp only [frzPs] at hf
    split at hf
    · rename_i c r
      split at hf
      · rename_i x1 h1 he1
        split at hf
        · rename_i y1 h2 he2
          injection hf with hf
          have e1 := congrArg Prod.fst hf
          have e2 := congrArg Prod.snd hf
          simp only at e1 e2
          subst e1; subst e2
          obtain ⟨u, us', rfl, v1, v2⟩ := hv.cons_inv
          obtain ⟨R1, r1, f1, w1⟩ := frzP_ok hr he1 v1
          obtain ⟨R2, r2, f2, w2⟩ := frzPs_ok ts he2 r1 (v2.frm f1 hr)
          exact ⟨R2, r2, f1.trans f2, .cons (w1.frm f2 r1) w2⟩
        · cases hf
      · cases hf
    · cases hf
theorem PTy.frz_ok (p : PTy) (hr : Rel R ρ h w) {v : AV} {u : Value} {x : p.El} {h' : AH} (hf : p.frz h v = some (x, h')) (hv : VRep w R ρ v u) :
    ∃ R', Rel R' ρ h' w ∧ Frm R ρ h w R' ρ h' w ∧ VRep w R' ρ (p.enc x) u := by
  cases p with
  | ty t => exact t.frz_ok hr hf hv
  | roa t => exact frzP_ok hr hf hv
  | nil =>
    simp only [PTy.frz] at hf
    split at hf
    · have h2 : h = h' := by injection hf with hf; exact congrArg Prod.snd hf
      subst h2
      exact ⟨R, hr, Frm.refl _ _ _ _, hv⟩
    · cases hf
  | clo f ts =>
    simp only [PTy.frz] at hf
    split at hf
    · rename_i f' first caps
      have hf2 : (if f' = f ∧ first.isEmpty = true then frzPs ts h caps else none) = some ((x : Els ts), h') := hf
      clear hf
      split at hf2
      · rename_i hc
        obtain ⟨rfl, hfi⟩ := hc
        have : first = [] := by simpa using hfi
        subst this
        cases hv with
        | func vf vc h1 h2 h3 h4 =>
        obtain ⟨R1, r1, f1, v1⟩ := frzPs_ok ts hf2 hr (us := vc.toList) ⟨by simpa using h2, fun k c u hc hu => h4 k c u hc (by simpa using hu)⟩
        exact ⟨R1, r1, f1, .func vf vc h1 (by have := v1.1; simpa using this) (fun k c u hc => by simp at hc) (fun k c u hc hu => v1.2 k c u hc (by simpa using hu))⟩
      · cases hf2
    · cases hf
theorem frzArgs_ok : ∀ (ps : List PTy) {R : Nat → Prop} {h : AH} {cs : List AV} {us : List Value} {x : Ps ps} {h' : AH}, frzArgs ps h cs = some (x, h') → Rel R ρ h w → VReps w R ρ cs us →
    ∃ R', Rel R' ρ h' w ∧ Frm R ρ h w R' ρ h' w ∧ VReps w R' ρ (encPs ps x) us
  | [], R, h, cs, us, x, h', hf, hr, hv => by
    simp only [frzArgs] at hf
    split at hf
    · rename_i hc
      injection hf with hf
      have h2 := congrArg Prod.snd hf
      simp only at h2
      subst h2
      have : cs = [] := by simpa using hc
      subst this
      exact ⟨R, hr, Frm.refl _ _ _ _, hv⟩
    · cases hf
  | p :: ps, R, h, cs, us, x, h', hf, hr, hv => by
    simp only [frzArgs] at hf
    split at hf
    · rename_i c r
      split at hf
      · rename_i x1 h1 he1
        split at hf
        · rename_i y1 h2 he2
          injection hf with hf
          have e1 := congrArg Prod.fst hf
          have e2 := congrArg Prod.snd hf
          simp only at e1 e2
          subst e1; subst e2
          obtain ⟨u, us', rfl, v1, v2⟩ := hv.cons_inv
          obtain ⟨R1, r1, f1, w1⟩ := p.frz_ok hr he1 v1
          obtain ⟨R2, r2, f2, w2⟩ := frzArgs_ok ps he2 r1 (v2.frm f1 hr)
          exact ⟨R2, r2, f1.trans f2, .cons (w1.frm f2 r1) w2⟩
        · cases hf
      · cases hf
    · cases hf
theorem Nameless.roa {t : Ty} (x : t.El) : Nameless (.roa t.sz 1 (fun _ => t.enc x) 0 0) := by
  intro w R ρ ρ' u hv
  cases hv with
  | @roa _ _ _ _ _ b off0 v hj hR hsz hc hv =>
  exact .roa v hj hR hsz hc (fun j o c hj hco => t.namelessC x c (List.mem_of_getElem? hco) _ _ _ _ _ (hv j o c hj hco))
theorem nameless_ptrs : ∀ (ts : List Ty) (x : Els ts), ∀ c ∈ ptrs ts x, Nameless c
  | [], _, c, h => by simp [ptrs] at h
  | t :: ts, x, c, h => by
    rcases List.mem_cons.1 h with rfl | h
    · exact .roa x.1
    · exact nameless_ptrs ts x.2 c h
theorem PTy.nameless (p : PTy) (x : p.El) : Nameless (p.enc x) := by
  cases p with
  | ty t => exact t.nameless x
  | roa t => exact nameless_ptrs [t] (x, ()) (.roa t.sz 1 (fun _ => t.enc x) 0 0) (by simp [ptrs])
  | nil => intro w R ρ ρ' u hv; cases hv; exact .nils
  | clo f ts =>
    intro w R ρ ρ' u hv
    cases hv with
    | func vf vc h1 h2 h3 h4 =>
    exact .func vf vc h1 h2 (fun k c u hc => by simp at hc) (fun k c u hc hu => nameless_ptrs ts x c (List.mem_of_getElem? hc) _ _ _ _ _ (h4 k c u hc hu))
theorem nameless_args : ∀ (ps : List PTy) (x : Ps ps), ∀ c ∈ encPs ps x, Nameless c
  | [], _, c, h => by simp [encPs] at h
  | p :: ps, x, c, h => by
    rcases List.mem_cons.1 h with rfl | h
    · exact p.nameless x.1
    · exact nameless_args ps x.2 c h
theorem nameless_encs : ∀ (ts : List Ty) (x : Els ts), ∀ c ∈ encs ts x, Nameless c
  | [], _, c, h => by simp [encs] at h
  | t :: ts, x, c, h => by
    rcases List.mem_cons.1 h with rfl | h
    · exact t.nameless x.1
    · exact nameless_encs ts x.2 c h
theorem Nameless.reps {w : World} {R : Nat → Prop} {ρ ρ' : Nm} {cs : List AV} {us : List Value} (h : ∀ c ∈ cs, Nameless c) (hv : VReps w R ρ cs us) : VReps w R ρ' cs us :=
  ⟨hv.1, fun k c u hc hu => h c (List.mem_of_getElem? hc) _ _ _ _ _ (hv.2 k c u hc hu)⟩
theorem Nameless.resV {cs : List AV} (h : ∀ c ∈ cs, Nameless c) : Nameless (resV cs) := by
  unfold Go.DI.resV
  split
  · exact h _ (by simp)
  · intro w R ρ ρ' u hv
    obtain ⟨us, rfl, hus⟩ := hv.tup_inv
    exact .tup' (Nameless.reps h hus)
def ρ0 : Nm := fun _ => none
theorem Rel.base (hR : ∀ b, R b → b < w.heap.size) : Rel R ρ0 [] w := ⟨fun i blk h => by simp at h, fun i j bi bj b Ni Nj h => by simp at h, fun _ _ => rfl, hR⟩
theorem Rel.nil_names (hr : Rel R ρ [] w) : ρ = ρ0 := funext fun i => hr.dom i (Nat.zero_le _)
theorem AC.pure {P : Program} {g : FuncId} {args : List AV} {v : AV} (hc : AC P g args [] (.ret v) []) (ha : ∀ c ∈ args, Nameless c) (hv : Nameless v) (hr : Rel R ρ h w) {vs : Array Value} (hvs : VReps w R ρ args vs.toList) :
    Calls P g vs w fun e w' => ∃ R' u, e = .returned u ∧ VRep w' R' ρ v u ∧ Rel R' ρ h w' ∧ Frm R ρ h w R' ρ h w' := by
  refine (hc R ρ0 w vs (.base hr.ro) (Nameless.reps ha hvs)).mono ?_
  rintro e w' ⟨R', ρ', u, ⟨rfl, hu⟩, r1, f1⟩
  obtain rfl := r1.nil_names
  have hnl : ∀ b, ¬ Lv ρ0 [] b := by rintro b ⟨i, blk, N, hi, _⟩; simp at hi
  have hkeep : ∀ b, b < w.heap.size → w'.heap[b]? = w.heap[b]? := fun b hb => f1.keeps b hb (hnl b)
  refine ⟨R', u, rfl, hv _ _ _ _ _ hu, ⟨fun i blk hi => ?_, hr.inj, hr.dom, r1.ro⟩, ⟨f1.os, f1.tape, f1.output, f1.size, Nm.le_refl _, f1.ros, fun b hb _ => hkeep b hb, fun b hl => .inl hl, fun b hb => ?_, Nat.le_refl _, fun _ _ h => h, f1.frz⟩⟩
  · obtain ⟨b, N, h1, h2, h3⟩ := hr.live i blk hi
    refine ⟨b, N, h1, h2.mono h3 (fun hg => hkeep b (h2.lt hg)) (fun k hk => hkeep k (hr.ro k hk)) f1.ros (Nm.le_refl _), ?_⟩
    rcases h3 with ⟨h4, h5⟩ | h4
    · refine .inl ⟨h4, fun hb => ?_⟩
      rcases f1.rolds b hb with h6 | h6 | h6
      · exact h5 h6
      · exact hnl b h6
      · have := h2.lt h4; omega
    · exact .inr h4
  · rcases f1.rolds b hb with h6 | h6 | h6
    · exact .inl h6
    · exact absurd h6 (hnl b)
    · exact .inr (.inr h6)
end
end Go.DI
