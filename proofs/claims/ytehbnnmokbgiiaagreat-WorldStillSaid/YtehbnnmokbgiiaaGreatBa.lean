import Derived.Test.YtehbnnmokbgiiaaGreatAe
import Derived.WalkKit
import Derived.Tactics
import Derived.Tactics2
import Derived.Defers
import Derived.Recover
import Derived.Laws.Pointers
/- A step, many steps: told by functions on data. No conditions. -/
/-! calc.Try: a function value is called; what it throws is caught. -/
set_option linter.unusedVariables false
set_option linter.unusedSimpArgs false
set_option maxRecDepth 100000
namespace Go.DI.S
open Go.Proofs
noncomputable def c_153 : Code := Tryz.f153.body.getD .skip
theorem hb_153 : Tryz.f153.body = some c_153 := by kernel_rfl
theorem hf_153 : CT.P.funcs[153]? = some Tryz.f153 := by kernel_rfl
noncomputable def T_153 : Tb := mkTb tyT mpT []
theorem T_153_ok : T_153.Ok CT.P := mkTb_ok (trivial)
noncomputable def lp_153 {β : Type} : LpT β := fun _ _ _ => none
theorem lp_153_ok {β : Type} : LpTOk CT (lp_153 (β := β)) (loopsOf c_153) := by
  have h : loopsOf c_153 = [] := by kernel_rfl
  rw [h]
  exact LpTOk.nil
theorem f_153 (n : Int) : funcT CT T_153 [I] (drT CT T_153) lp_153 Tryz.f153 c_153 [faultV 251 n] = some (n, ()) := by kernel_rfl
/-- What is there stays; more may come. -/
structure More (w w' : World) : Prop where
  os : w'.os = w.os
  tape : w'.tape = w.tape
  output : w'.output = w.output
  size : w.heap.size ≤ w'.heap.size
  keeps : ∀ b, b < w.heap.size → w'.heap[b]? = w.heap[b]?
  frz : ∀ a, a.block < w.heap.size → w'.frozen? a = w.frozen? a
theorem More.cell {w w' : World} (h : More w w') {p : Addr} (hp : p.block < w.heap.size) : w'.cell? p = w.cell? p := World.cell?_of_block (h.keeps _ hp)
theorem caught_fault {w : World} {n : Int} {v : Value} (hv : ∀ (w : World) (R : Nat → Prop) (ρ : Nm), VRep w R ρ (faultV 251 n) v) : Calls Tryz.prog 153 #[v] w fun e w' => e = .returned (.int .i64 n) ∧ More w w' := by
  have h := funcT_ok CT_ok T_153_ok (drT_ok CT_ok T_153_ok) hf_153 hb_153 lp_153_ok (f_153 n)
  refine (h (fun _ => False) ρ0 w #[v] (.base fun b hb => hb.elim) (.cons (hv _ _ _) .nil)).mono ?_
  rintro e w' ⟨R', ρ', u, ⟨rfl, hu⟩, _, f⟩
  have hu : VRep w' R' ρ' (.int .i64 n) u := hu
  cases hu
  exact ⟨rfl, f.os, f.tape, f.output, f.size, fun b hb => f.keeps b hb Lv.none, f.frz⟩
theorem More.refl (w : World) : More w w := ⟨rfl, rfl, rfl, Nat.le_refl _, fun _ _ => rfl, fun _ _ => rfl⟩
theorem caught_none (w : World) : Calls Tryz.prog 153 #[.nilIface] w fun e w' => e = .returned (.int .i64 0) ∧ More w w' := by
  have h : Calls Tryz.prog 153 #[.nilIface] w fun e w' => e = .returned (.int .i64 0) ∧ w' = w := by
    go_enter Tryz.func153, Tryz.ntmps153
    go_wp2
    simp [bodyPost, results, Tryz.results153, go_sem]
  refine h.mono ?_
  rintro e w' ⟨rfl, rfl⟩
  exact ⟨rfl, .refl _⟩
theorem idle_152 (p : Addr) (w : World) (x : Int) (hp : p.block < w.heap.size) (hc : w.cell? p = some (.int .i64 x)) (hz : w.frozen? p = false) :
    CallsD Tryz.prog 152 #[.pointer (some p)] .returning w fun e u' w' => e = .returned (.tuple #[]) ∧ u' = .returning ∧ ∃ w3, More w w3 ∧ w' = w3.setCell p (.int .i64 0) := by
  refine callsD_of_wpS Tryz.func152 rfl fun c₀ cs hu => ?_
  apply wpS_region
  simp [wpOpsS, go_sem, recoverD, hu, Tryz.ntmps152, Exit.thenS]
  refine (caught_none w).mono ?_
  rintro e w' ⟨rfl, hm⟩
  have hc' : w'.cell? p = some (.int .i64 x) := by rw [hm.cell hp, hc]
  have hz' : w'.frozen? p = false := by rw [hm.frz p hp, hz]
  simp [go_sem, hc', hz', bodyPostS, results, Tryz.results152]
  refine ⟨.returning, ?_, rfl, w', hm, rfl⟩
  cases c₀
  simp_all
theorem raise_152 (p : Addr) (w : World) (x n : Int) (v : Value) (hv : ∀ (w : World) (R : Nat → Prop) (ρ : Nm), VRep w R ρ (faultV 251 n) v) (hp : p.block < w.heap.size) (hc : w.cell? p = some (.int .i64 x)) (hz : w.frozen? p = false) :
    CallsD Tryz.prog 152 #[.pointer (some p)] (.panicking [{ v := v, recovered := false }]) w fun e u' w' => e = .returned (.tuple #[]) ∧ u' = .panicking [{ v := v, recovered := true }] ∧ ∃ w3, More w w3 ∧ w' = w3.setCell p (.int .i64 n) := by
  refine callsD_of_wpS Tryz.func152 rfl fun c₀ cs hu => ?_
  apply wpS_region
  simp [wpOpsS, go_sem, recoverD, hu, Tryz.ntmps152, Exit.thenS]
  refine (caught_fault (w := w) hv).mono ?_
  rintro e w' ⟨rfl, hm⟩
  have hc' : w'.cell? p = some (.int .i64 x) := by rw [hm.cell hp, hc]
  have hz' : w'.frozen? p = false := by rw [hm.frz p hp, hz]
  simp [go_sem, hc', hz', bodyPostS, results, Tryz.results152]
  refine ⟨w', hm, rfl⟩
theorem nilq (f : Fn) (a b : Array Value) (w : World) : (binOp BinOp.eql 1 (.func f a b) .nilFunc).run Tryz.prog w = .ok (.bool false) w := rfl
theorem try_73 (caps : Array Value) (w : World) (Q : World → Prop)
    (hc : Calls Tryz.prog 73 caps (w.alloc (.cells #[.int .i64 0] 30)) fun e w' => e = .returned (.tuple #[]) ∧ Q w' ∧ w.heap.size < w'.heap.size ∧ w'.cell? ⟨w.heap.size, 0, none⟩ = some (.int .i64 0) ∧ w'.frozen? ⟨w.heap.size, 0, none⟩ = false) :
    Calls Tryz.prog 60 #[.func (.func 73) #[] caps] w fun e w' => e = .returned (.int .i64 0) ∧ ∃ w2 w3, Q w2 ∧ More (w2.setCell ⟨w.heap.size, 0, none⟩ (.int .i64 0)) w3 ∧ w' = w3.setCell ⟨w.heap.size, 0, none⟩ (.int .i64 0) := by
  have hmf : ∀ (fn : Fn) (first cap : Array Value) (w : World), (Instr.makeFunc fn first cap).run Tryz.prog w = .ok (.func fn first cap) w := fun _ _ _ _ => rfl
  have hnil : ∀ (f : Fn) (a b : Array Value) (w : World), (binOp BinOp.eql 1 (.func f a b) .nilFunc).run Tryz.prog w = .ok (.bool false) w := nilq
  go_enter_defers Tryz.func60, Tryz.ntmps60
  go_wp2_with (first | (go_at_call 73; refine hc.mono ?_; rintro e w' ⟨rfl, hQ, h0, h1, h2⟩))
  have e1 : (w'.setCell ⟨w.heap.size, 0, none⟩ (.int .i64 0)).cell? ⟨w.heap.size, 0, none⟩ = some (.int .i64 0) := by
    simp [go_sem, h1]
  have e2 : (w'.setCell ⟨w.heap.size, 0, none⟩ (.int .i64 0)).frozen? ⟨w.heap.size, 0, none⟩ = false := by
    simp [go_sem, h2]
  have e0 : w.heap.size < (w'.setCell ⟨w.heap.size, 0, none⟩ (.int .i64 0)).heap.size := by simpa [World.setCell] using h0
  refine leaves_cons (f := 152) (args := #[.pointer (some ⟨w.heap.size, 0, none⟩)]) (by simp) (by simp [go_sem]) ?_
  refine (idle_152 ⟨w.heap.size, 0, none⟩ _ 0 e0 e1 e2).mono ?_
  rintro e u' w'' ⟨rfl, rfl, w3, hm, rfl⟩
  have e4 : w3.cell? ⟨w.heap.size, 0, none⟩ = some (.int .i64 0) := by rw [hm.cell e0, e1]
  have e3 : (w3.setCell ⟨w.heap.size, 0, none⟩ (.int .i64 0)).cell? ⟨w.heap.size, 0, none⟩ = some (.int .i64 0) := by
    simp [go_sem, e4]
  simp [Leaves, settle, results, Tryz.results60, go_sem, e3]
  exact ⟨_, hQ, _, hm, rfl⟩
theorem try_73p (caps : Array Value) (w : World) (n : Int) (Q : World → Prop)
    (hc : Calls Tryz.prog 73 caps (w.alloc (.cells #[.int .i64 0] 30)) fun e w' => (∃ v, e = .panicked [{ v := v, recovered := false }] ∧ ∀ (w : World) (R : Nat → Prop) (ρ : Nm), VRep w R ρ (faultV 251 n) v) ∧ Q w' ∧ w.heap.size < w'.heap.size ∧ w'.cell? ⟨w.heap.size, 0, none⟩ = some (.int .i64 0) ∧ w'.frozen? ⟨w.heap.size, 0, none⟩ = false) :
    Calls Tryz.prog 60 #[.func (.func 73) #[] caps] w fun e w' => e = .returned (.int .i64 n) ∧ ∃ w2 w3, Q w2 ∧ More w2 w3 ∧ w' = w3.setCell ⟨w.heap.size, 0, none⟩ (.int .i64 n) := by
  have hmf : ∀ (fn : Fn) (first cap : Array Value) (w : World), (Instr.makeFunc fn first cap).run Tryz.prog w = .ok (.func fn first cap) w := fun _ _ _ _ => rfl
  have hnil : ∀ (f : Fn) (a b : Array Value) (w : World), (binOp BinOp.eql 1 (.func f a b) .nilFunc).run Tryz.prog w = .ok (.bool false) w := nilq
  go_enter_defers Tryz.func60, Tryz.ntmps60
  go_wp2_with (first | (go_at_call 73; refine hc.mono ?_; rintro e w' ⟨⟨v, rfl, hv⟩, hQ, h0, h1, h2⟩))
  refine leaves_cons (f := 152) (args := #[.pointer (some ⟨w.heap.size, 0, none⟩)]) (by simp) (by simp [go_sem]) ?_
  refine (raise_152 ⟨w.heap.size, 0, none⟩ w' 0 n v hv h0 h1 h2).mono ?_
  rintro e u' w'' ⟨rfl, rfl, w3, hm, rfl⟩
  have e4 : w3.cell? ⟨w.heap.size, 0, none⟩ = some (.int .i64 0) := by rw [hm.cell h0, h1]
  have e3 : (w3.setCell ⟨w.heap.size, 0, none⟩ (.int .i64 n)).cell? ⟨w.heap.size, 0, none⟩ = some (.int .i64 n) := by
    simp [go_sem, e4]
  simp [Leaves, settle, results, Tryz.results60, go_sem, e3]
  exact ⟨_, hQ, _, hm, rfl⟩
theorem try_61 (caps : Array Value) (w : World) (Q : World → Prop)
    (hc : Calls Tryz.prog 61 caps (w.alloc (.cells #[.int .i64 0] 30)) fun e w' => e = .returned (.tuple #[]) ∧ Q w' ∧ w.heap.size < w'.heap.size ∧ w'.cell? ⟨w.heap.size, 0, none⟩ = some (.int .i64 0) ∧ w'.frozen? ⟨w.heap.size, 0, none⟩ = false) :
    Calls Tryz.prog 60 #[.func (.func 61) #[] caps] w fun e w' => e = .returned (.int .i64 0) ∧ ∃ w2 w3, Q w2 ∧ More (w2.setCell ⟨w.heap.size, 0, none⟩ (.int .i64 0)) w3 ∧ w' = w3.setCell ⟨w.heap.size, 0, none⟩ (.int .i64 0) := by
  have hmf : ∀ (fn : Fn) (first cap : Array Value) (w : World), (Instr.makeFunc fn first cap).run Tryz.prog w = .ok (.func fn first cap) w := fun _ _ _ _ => rfl
  have hnil : ∀ (f : Fn) (a b : Array Value) (w : World), (binOp BinOp.eql 1 (.func f a b) .nilFunc).run Tryz.prog w = .ok (.bool false) w := nilq
  go_enter_defers Tryz.func60, Tryz.ntmps60
  go_wp2_with (first | (go_at_call 61; refine hc.mono ?_; rintro e w' ⟨rfl, hQ, h0, h1, h2⟩))
  have e1 : (w'.setCell ⟨w.heap.size, 0, none⟩ (.int .i64 0)).cell? ⟨w.heap.size, 0, none⟩ = some (.int .i64 0) := by
    simp [go_sem, h1]
  have e2 : (w'.setCell ⟨w.heap.size, 0, none⟩ (.int .i64 0)).frozen? ⟨w.heap.size, 0, none⟩ = false := by
    simp [go_sem, h2]
  have e0 : w.heap.size < (w'.setCell ⟨w.heap.size, 0, none⟩ (.int .i64 0)).heap.size := by simpa [World.setCell] using h0
  refine leaves_cons (f := 152) (args := #[.pointer (some ⟨w.heap.size, 0, none⟩)]) (by simp) (by simp [go_sem]) ?_
  refine (idle_152 ⟨w.heap.size, 0, none⟩ _ 0 e0 e1 e2).mono ?_
  rintro e u' w'' ⟨rfl, rfl, w3, hm, rfl⟩
  have e4 : w3.cell? ⟨w.heap.size, 0, none⟩ = some (.int .i64 0) := by rw [hm.cell e0, e1]
  have e3 : (w3.setCell ⟨w.heap.size, 0, none⟩ (.int .i64 0)).cell? ⟨w.heap.size, 0, none⟩ = some (.int .i64 0) := by
    simp [go_sem, e4]
  simp [Leaves, settle, results, Tryz.results60, go_sem, e3]
  exact ⟨_, hQ, _, hm, rfl⟩
theorem try_61p (caps : Array Value) (w : World) (n : Int) (Q : World → Prop)
    (hc : Calls Tryz.prog 61 caps (w.alloc (.cells #[.int .i64 0] 30)) fun e w' => (∃ v, e = .panicked [{ v := v, recovered := false }] ∧ ∀ (w : World) (R : Nat → Prop) (ρ : Nm), VRep w R ρ (faultV 251 n) v) ∧ Q w' ∧ w.heap.size < w'.heap.size ∧ w'.cell? ⟨w.heap.size, 0, none⟩ = some (.int .i64 0) ∧ w'.frozen? ⟨w.heap.size, 0, none⟩ = false) :
    Calls Tryz.prog 60 #[.func (.func 61) #[] caps] w fun e w' => e = .returned (.int .i64 n) ∧ ∃ w2 w3, Q w2 ∧ More w2 w3 ∧ w' = w3.setCell ⟨w.heap.size, 0, none⟩ (.int .i64 n) := by
  have hmf : ∀ (fn : Fn) (first cap : Array Value) (w : World), (Instr.makeFunc fn first cap).run Tryz.prog w = .ok (.func fn first cap) w := fun _ _ _ _ => rfl
  have hnil : ∀ (f : Fn) (a b : Array Value) (w : World), (binOp BinOp.eql 1 (.func f a b) .nilFunc).run Tryz.prog w = .ok (.bool false) w := nilq
  go_enter_defers Tryz.func60, Tryz.ntmps60
  go_wp2_with (first | (go_at_call 61; refine hc.mono ?_; rintro e w' ⟨⟨v, rfl, hv⟩, hQ, h0, h1, h2⟩))
  refine leaves_cons (f := 152) (args := #[.pointer (some ⟨w.heap.size, 0, none⟩)]) (by simp) (by simp [go_sem]) ?_
  refine (raise_152 ⟨w.heap.size, 0, none⟩ w' 0 n v hv h0 h1 h2).mono ?_
  rintro e u' w'' ⟨rfl, rfl, w3, hm, rfl⟩
  have e4 : w3.cell? ⟨w.heap.size, 0, none⟩ = some (.int .i64 0) := by rw [hm.cell h0, h1]
  have e3 : (w3.setCell ⟨w.heap.size, 0, none⟩ (.int .i64 n)).cell? ⟨w.heap.size, 0, none⟩ = some (.int .i64 n) := by
    simp [go_sem, e4]
  simp [Leaves, settle, results, Tryz.results60, go_sem, e3]
  exact ⟨_, hQ, _, hm, rfl⟩
end Go.DI.S

/-! calc.Try of a closure that captures variables, whether it returns or throws. -/
set_option linter.unusedVariables false
set_option linter.unusedSimpArgs false
set_option maxRecDepth 100000
namespace Go.DI.S
open Go.Proofs
/-- What is told hangs on the blocks that live, and on those that are only read. -/
theorem rel_else {w w' : World} {R : Nat → Prop} {ρ : Nm} {h : AH} (hr : Rel R ρ h w) (hk : ∀ b, Lv ρ h b ∨ R b → w'.heap[b]? = w.heap[b]?) (hs : w.heap.size ≤ w'.heap.size) : Rel R ρ h w' := by
  refine ⟨fun i blk hi => ?_, hr.inj, hr.dom, fun b hb => Nat.lt_of_lt_of_le (hr.ro b hb) hs⟩
  obtain ⟨b, N, h1, h2, h3⟩ := hr.live i blk hi
  exact ⟨b, N, h1, h2.mono h3 (fun hg => hk b (.inl ⟨i, blk, N, hi, h1, hg⟩)) (fun k hkR => hk k (.inr hkR)) (fun _ h => h) (Nm.le_refl _), h3⟩
/-- A frame, with a variable of one's own ahead of it, and what is put there behind it. -/
theorem frame_own {p : Nat} {w w2 w3 : World} {R R' : Nat → Prop} {ρ ρ' : Nm} {h h' : AH} {n m : Int} (hr : Rel R ρ h w) (r2 : Rel R' ρ' h' w2) (f2 : FrmW p R ρ h (w.alloc (.cells #[.int .i64 0] 30)) R' ρ' h' w2) (hm : More (w2.setCell ⟨w.heap.size, 0, none⟩ (.int .i64 m)) w3 ∨ More w2 w3) :
    Rel R' ρ' h' (w3.setCell ⟨w.heap.size, 0, none⟩ (.int .i64 n)) ∧ FrmW p R ρ h w R' ρ' h' (w3.setCell ⟨w.heap.size, 0, none⟩ (.int .i64 n)) := by
  have hw1 : ∀ b, b < w.heap.size → (w.alloc (.cells #[.int .i64 0] 30)).heap[b]? = w.heap[b]? := fun b hb => heap_alloc_old w _ b hb
  have hsz1 : (w.alloc (.cells #[.int .i64 0] 30)).heap.size = w.heap.size + 1 := World.size_alloc _ _
  have hnl : ¬ Lv ρ h w.heap.size := fun hl => by have := hr.lv_lt hl; omega
  have hnR : ¬ R w.heap.size := fun hl => by have := hr.ro _ hl; omega
  have hl2 : ∀ b, Lv ρ' h' b ∨ R' b → b ≠ w.heap.size := by
    rintro b hb rfl
    rcases hb with hb | hb
    · rcases f2.lives _ hb with h | h
      · exact hnl h
      · rw [hsz1] at h; omega
    · rcases f2.rolds _ hb with h | h | h
      · exact hnR h
      · exact hnl h
      · rw [hsz1] at h; omega
  have hlt : ∀ b, Lv ρ' h' b ∨ R' b → b < w2.heap.size := fun b hb => hb.elim (fun h => r2.lv_lt h) (fun h => r2.ro b h)
  have hsc : ∀ (w : World) (a : Addr) (v : Value), (w.setCell a v).heap.size = w.heap.size := fun w a v => by simp [World.setCell]
  have hsz2 : w2.heap.size ≤ w3.heap.size := by
    rcases hm with hm | hm
    · have := hm.size; rwa [hsc] at this
    · exact hm.size
  have hk3 : ∀ b, b < w2.heap.size → b ≠ w.heap.size → w3.heap[b]? = w2.heap[b]? := fun b hb hne => by
    rcases hm with hm | hm
    · rw [hm.keeps b (by rw [hsc]; exact hb), heap_setCell_other _ _ _ _ hne]
    · exact hm.keeps b hb
  have hk4 : ∀ b, b < w2.heap.size → b ≠ w.heap.size → (w3.setCell ⟨w.heap.size, 0, none⟩ (.int .i64 n)).heap[b]? = w2.heap[b]? := fun b hb hne => by
    rw [heap_setCell_other _ _ _ _ hne, hk3 b hb hne]
  have hz3 : ∀ a : Addr, a.block < w2.heap.size → a.block ≠ w.heap.size → (w3.setCell ⟨w.heap.size, 0, none⟩ (.int .i64 n)).frozen? a = w2.frozen? a := fun a ha hne => frozen_block (hk4 _ ha hne)
  have hos : w3.os = w2.os ∧ w3.tape = w2.tape ∧ w3.output = w2.output := by
    rcases hm with hm | hm
    · exact ⟨hm.os, hm.tape, hm.output⟩
    · exact ⟨hm.os, hm.tape, hm.output⟩
  refine ⟨rel_else r2 (fun b hb => hk4 b (hlt b hb) (hl2 b hb)) (by rw [hsc]; exact hsz2), ⟨hos.1.trans f2.os, hos.2.1.trans f2.tape, hos.2.2.trans f2.output, ?_, f2.ros, fun b hb hl => ?_, fun b hl => ?_, fun b hb => ?_, fun a ha => ?_, f2.pins⟩⟩
  · rw [hsc]; have := f2.size; rw [hsz1] at this; omega
  · have h5 := f2.size
    rw [hsz1] at h5
    rw [hk4 b (by omega) (by omega), f2.keeps b (by rw [hsz1]; omega) hl, hw1 b hb]
  · rcases f2.lives b hl with h | h
    · exact .inl h
    · rw [hsz1] at h; exact .inr (by omega)
  · rcases f2.rolds b hb with h | h | h
    · exact .inl h
    · exact .inr (.inl h)
    · rw [hsz1] at h; exact .inr (.inr (by omega))
  · have h5 := f2.size
    rw [hsz1] at h5
    have h1 := f2.frz a (by rw [hsz1]; omega)
    have h2 : (w.alloc (.cells #[.int .i64 0] 30)).frozen? a = w.frozen? a := frozen_block (hw1 _ ha)
    rw [hz3 a (by omega) (by omega), h1, h2]
theorem tryE_73 {n : Nat} {is : List Nat} {B : List Bl} {regs : List (Nat × It)} {sg1 sg2 sg3 sg4 : AS → List Nat} {pin : Nat} {st : List Stp} {F : (LayD.mk n regs B sg1).El → Option ((LayD.mk 0 [] B sg2).El ⊕ Int)} {F2 : (LayD.mk 1 [(0, .cloP 73 is)] B sg3).El → Option ((LayD.mk 1 [(0, .data I)] B sg4).El ⊕ Int)}
    (hregs : ∀ (x : RegsEl regs) (b : BlksEl B), ((LayD.mk n regs B sg1).enc (x, b)).r = is.map fun i => .ptr i 0)
    (x0 : RegsEl regs) (hF : ∀ x y, F2 x = some (.inl y) → F (x0, x.2) = some (.inl ((), y.2)) ∧ y.1 = (0, ())) (hFp : ∀ x e, F2 x = some (.inr e) → F (x0, x.2) = some (.inr e))
    (he : (GenPE.mk 251 pin st ⟨n, regs, B, sg1⟩ ⟨0, [], B, sg2⟩ F).Ok CT.P 73) {st2 : List Stp} : (TryE.mk pin st2 ⟨1, [(0, .cloP 73 is)], B, sg3⟩ ⟨1, [(0, .data I)], B, sg4⟩ F2).Ok CT.P 60 := by
  have start : ∀ (x : (LayD.mk 1 [(0, .cloP 73 is)] B sg3).El) (R : Nat → Prop) (ρ : Nm) (w : World) (vs : Array Value), Rel R ρ (encB B x.2) w → VReps w R ρ [.func 73 [] (is.map fun i => .ptr i 0)] vs.toList →
      ∃ vc : Array Value, vs = #[.func (.func 73) #[] vc] ∧ Rel R ρ (encB B x.2) (w.alloc (.cells #[.int .i64 0] 30)) ∧ VReps (w.alloc (.cells #[.int .i64 0] 30)) R ρ (is.map fun i => .ptr i 0) vc.toList := by
    intro x R ρ w vs hr hvs
    obtain ⟨u0, us, hu, h1, h2⟩ := hvs.cons_inv
    obtain rfl := h2.nil_inv
    have hv : vs = #[u0] := Array.toList_inj.1 (by simpa using hu)
    subst hv
    cases h1 with
    | func vf vc k1 k2 k3 k4 =>
    have hvf : vf = #[] := by
      have : vf.size = 0 := by simpa using k1
      exact Array.eq_empty_of_size_eq_zero this
    subst hvf
    have hsz1 : (w.alloc (.cells #[.int .i64 0] 30)).heap.size = w.heap.size + 1 := World.size_alloc _ _
    refine ⟨vc, rfl, rel_else hr (fun b hb => heap_alloc_old w _ b (hb.elim (fun h => hr.lv_lt h) (fun h => hr.ro b h))) (by rw [hsz1]; omega), by simpa using k2, fun k c u hc hu => ?_⟩
    have h5 := k4 k c u hc (by simpa using hu)
    rw [List.getElem?_map] at hc
    obtain ⟨i, hi, rfl⟩ := Option.map_eq_some_iff.1 hc
    cases h5 with
    | ptr h6 => exact .ptr h6
  have var0 : ∀ {p : Nat} {R R' : Nat → Prop} {ρ ρ' : Nm} {h h' : AH} {w w2 : World}, Rel R ρ h w → FrmW p R ρ h (w.alloc (.cells #[.int .i64 0] 30)) R' ρ' h' w2 →
      w.heap.size < w2.heap.size ∧ w2.cell? ⟨w.heap.size, 0, none⟩ = some (.int .i64 0) ∧ w2.frozen? ⟨w.heap.size, 0, none⟩ = false := by
    intro p R R' ρ ρ' h h' w w2 hr f2
    have hsz1 : (w.alloc (.cells #[.int .i64 0] 30)).heap.size = w.heap.size + 1 := World.size_alloc _ _
    have hnl : ¬ Lv ρ h w.heap.size := fun hl => by have := hr.lv_lt hl; omega
    have hb : w2.heap[w.heap.size]? = some (.cells #[.int .i64 0] 30 (0, 0)) := by
      rw [f2.keeps w.heap.size (by rw [hsz1]; omega) hnl]
      exact Array.getElem?_push_size
    have := f2.size
    rw [hsz1] at this
    exact ⟨by omega, by simp [World.cell?, hb], by simp [World.frozen?, hb]⟩
  refine ⟨fun x y hxy R ρ w vs hr hvs => ?_, fun x e hxy R ρ w vs hr hvs => ?_⟩
  · obtain ⟨hF1, hF2⟩ := hF x y hxy
    have hr : Rel R ρ (encB B x.2) w := hr
    obtain ⟨vc, rfl, r1, hcaps⟩ := start x R ρ w vs hr hvs
    have hcall := he.1 (x0, x.2) ((), y.2) hF1 R ρ (w.alloc (.cells #[.int .i64 0] 30)) vc r1 (by rw [hregs x0 x.2]; exact hcaps)
    show Calls CT.P 60 #[.func (.func 73) #[] vc] w _
    refine (try_73 vc w (fun w2 => ∃ R' ρ', Rel R' ρ' (encB B y.2) w2 ∧ FrmW pin R ρ (encB B x.2) (w.alloc (.cells #[.int .i64 0] 30)) R' ρ' (encB B y.2) w2) (hcall.mono ?_)).mono ?_
    · rintro e w' ⟨R', ρ', u, rfl, hu, r2, f2⟩
      have hu : VRep w' R' ρ' (.tup []) u := hu
      obtain ⟨us, rfl, hus⟩ := hu.tup_inv
      have : us = #[] := by
        have := hus.nil_inv
        exact Array.toList_inj.1 (by simpa using this)
      subst this
      exact ⟨rfl, ⟨R', ρ', r2, f2⟩, var0 hr f2⟩
    · rintro e w' ⟨rfl, w2, w3, ⟨R', ρ', r2, f2⟩, hm, rfl⟩
      obtain ⟨r3, f3⟩ := frame_own (n := 0) hr r2 f2 (.inl hm)
      refine ⟨R', ρ', .int .i64 0, rfl, ?_, r3, f3⟩
      have : (LayD.enc ⟨1, [(0, .data I)], B, sg4⟩ y).r = [.int .i64 y.1.1] := rfl
      rw [this, hF2]
      exact .int _ _
  · have hr : Rel R ρ (encB B x.2) w := hr
    obtain ⟨vc, rfl, r1, hcaps⟩ := start x R ρ w vs hr hvs
    have hcall := he.2 (x0, x.2) e (hFp x e hxy) R ρ (w.alloc (.cells #[.int .i64 0] 30)) vc r1 (by rw [hregs x0 x.2]; exact hcaps)
    show Calls CT.P 60 #[.func (.func 73) #[] vc] w _
    refine (try_73p vc w e (fun w2 => ∃ R', Rel R' ρ0 [] w2 ∧ FrmW 0 R ρ (encB B x.2) (w.alloc (.cells #[.int .i64 0] 30)) R' ρ0 [] w2) (hcall.mono ?_)).mono ?_
    · rintro q w' ⟨R', u, rfl, hu, r2, f2⟩
      exact ⟨⟨u, rfl, fun _ _ _ => fault_any hu⟩, ⟨R', r2, f2⟩, var0 hr f2⟩
    · rintro q w' ⟨rfl, w2, w3, ⟨R', r2, f2⟩, hm, rfl⟩
      obtain ⟨r3, f3⟩ := frame_own (n := e) (m := 0) hr r2 f2 (.inr hm)
      exact ⟨R', rfl, r3, f3⟩
theorem tryE_61 {n : Nat} {is : List Nat} {B : List Bl} {regs : List (Nat × It)} {sg1 sg2 sg3 sg4 : AS → List Nat} {pin : Nat} {st : List Stp} {F : (LayD.mk n regs B sg1).El → Option ((LayD.mk 0 [] B sg2).El ⊕ Int)} {F2 : (LayD.mk 1 [(0, .cloP 61 is)] B sg3).El → Option ((LayD.mk 1 [(0, .data I)] B sg4).El ⊕ Int)}
    (hregs : ∀ (x : RegsEl regs) (b : BlksEl B), ((LayD.mk n regs B sg1).enc (x, b)).r = is.map fun i => .ptr i 0)
    (x0 : RegsEl regs) (hF : ∀ x y, F2 x = some (.inl y) → F (x0, x.2) = some (.inl ((), y.2)) ∧ y.1 = (0, ())) (hFp : ∀ x e, F2 x = some (.inr e) → F (x0, x.2) = some (.inr e))
    (he : (GenPE.mk 251 pin st ⟨n, regs, B, sg1⟩ ⟨0, [], B, sg2⟩ F).Ok CT.P 61) {st2 : List Stp} : (TryE.mk pin st2 ⟨1, [(0, .cloP 61 is)], B, sg3⟩ ⟨1, [(0, .data I)], B, sg4⟩ F2).Ok CT.P 60 := by
  have start : ∀ (x : (LayD.mk 1 [(0, .cloP 61 is)] B sg3).El) (R : Nat → Prop) (ρ : Nm) (w : World) (vs : Array Value), Rel R ρ (encB B x.2) w → VReps w R ρ [.func 61 [] (is.map fun i => .ptr i 0)] vs.toList →
      ∃ vc : Array Value, vs = #[.func (.func 61) #[] vc] ∧ Rel R ρ (encB B x.2) (w.alloc (.cells #[.int .i64 0] 30)) ∧ VReps (w.alloc (.cells #[.int .i64 0] 30)) R ρ (is.map fun i => .ptr i 0) vc.toList := by
    intro x R ρ w vs hr hvs
    obtain ⟨u0, us, hu, h1, h2⟩ := hvs.cons_inv
    obtain rfl := h2.nil_inv
    have hv : vs = #[u0] := Array.toList_inj.1 (by simpa using hu)
    subst hv
    cases h1 with
    | func vf vc k1 k2 k3 k4 =>
    have hvf : vf = #[] := by
      have : vf.size = 0 := by simpa using k1
      exact Array.eq_empty_of_size_eq_zero this
    subst hvf
    have hsz1 : (w.alloc (.cells #[.int .i64 0] 30)).heap.size = w.heap.size + 1 := World.size_alloc _ _
    refine ⟨vc, rfl, rel_else hr (fun b hb => heap_alloc_old w _ b (hb.elim (fun h => hr.lv_lt h) (fun h => hr.ro b h))) (by rw [hsz1]; omega), by simpa using k2, fun k c u hc hu => ?_⟩
    have h5 := k4 k c u hc (by simpa using hu)
    rw [List.getElem?_map] at hc
    obtain ⟨i, hi, rfl⟩ := Option.map_eq_some_iff.1 hc
    cases h5 with
    | ptr h6 => exact .ptr h6
  have var0 : ∀ {p : Nat} {R R' : Nat → Prop} {ρ ρ' : Nm} {h h' : AH} {w w2 : World}, Rel R ρ h w → FrmW p R ρ h (w.alloc (.cells #[.int .i64 0] 30)) R' ρ' h' w2 →
      w.heap.size < w2.heap.size ∧ w2.cell? ⟨w.heap.size, 0, none⟩ = some (.int .i64 0) ∧ w2.frozen? ⟨w.heap.size, 0, none⟩ = false := by
    intro p R R' ρ ρ' h h' w w2 hr f2
    have hsz1 : (w.alloc (.cells #[.int .i64 0] 30)).heap.size = w.heap.size + 1 := World.size_alloc _ _
    have hnl : ¬ Lv ρ h w.heap.size := fun hl => by have := hr.lv_lt hl; omega
    have hb : w2.heap[w.heap.size]? = some (.cells #[.int .i64 0] 30 (0, 0)) := by
      rw [f2.keeps w.heap.size (by rw [hsz1]; omega) hnl]
      exact Array.getElem?_push_size
    have := f2.size
    rw [hsz1] at this
    exact ⟨by omega, by simp [World.cell?, hb], by simp [World.frozen?, hb]⟩
  refine ⟨fun x y hxy R ρ w vs hr hvs => ?_, fun x e hxy R ρ w vs hr hvs => ?_⟩
  · obtain ⟨hF1, hF2⟩ := hF x y hxy
    have hr : Rel R ρ (encB B x.2) w := hr
    obtain ⟨vc, rfl, r1, hcaps⟩ := start x R ρ w vs hr hvs
    have hcall := he.1 (x0, x.2) ((), y.2) hF1 R ρ (w.alloc (.cells #[.int .i64 0] 30)) vc r1 (by rw [hregs x0 x.2]; exact hcaps)
    show Calls CT.P 60 #[.func (.func 61) #[] vc] w _
    refine (try_61 vc w (fun w2 => ∃ R' ρ', Rel R' ρ' (encB B y.2) w2 ∧ FrmW pin R ρ (encB B x.2) (w.alloc (.cells #[.int .i64 0] 30)) R' ρ' (encB B y.2) w2) (hcall.mono ?_)).mono ?_
    · rintro e w' ⟨R', ρ', u, rfl, hu, r2, f2⟩
      have hu : VRep w' R' ρ' (.tup []) u := hu
      obtain ⟨us, rfl, hus⟩ := hu.tup_inv
      have : us = #[] := by
        have := hus.nil_inv
        exact Array.toList_inj.1 (by simpa using this)
      subst this
      exact ⟨rfl, ⟨R', ρ', r2, f2⟩, var0 hr f2⟩
    · rintro e w' ⟨rfl, w2, w3, ⟨R', ρ', r2, f2⟩, hm, rfl⟩
      obtain ⟨r3, f3⟩ := frame_own (n := 0) hr r2 f2 (.inl hm)
      refine ⟨R', ρ', .int .i64 0, rfl, ?_, r3, f3⟩
      have : (LayD.enc ⟨1, [(0, .data I)], B, sg4⟩ y).r = [.int .i64 y.1.1] := rfl
      rw [this, hF2]
      exact .int _ _
  · have hr : Rel R ρ (encB B x.2) w := hr
    obtain ⟨vc, rfl, r1, hcaps⟩ := start x R ρ w vs hr hvs
    have hcall := he.2 (x0, x.2) e (hFp x e hxy) R ρ (w.alloc (.cells #[.int .i64 0] 30)) vc r1 (by rw [hregs x0 x.2]; exact hcaps)
    show Calls CT.P 60 #[.func (.func 61) #[] vc] w _
    refine (try_61p vc w e (fun w2 => ∃ R', Rel R' ρ0 [] w2 ∧ FrmW 0 R ρ (encB B x.2) (w.alloc (.cells #[.int .i64 0] 30)) R' ρ0 [] w2) (hcall.mono ?_)).mono ?_
    · rintro q w' ⟨R', u, rfl, hu, r2, f2⟩
      exact ⟨⟨u, rfl, fun _ _ _ => fault_any hu⟩, ⟨R', r2, f2⟩, var0 hr f2⟩
    · rintro q w' ⟨rfl, w2, w3, ⟨R', r2, f2⟩, hm, rfl⟩
      obtain ⟨r3, f3⟩ := frame_own (n := e) (m := 0) hr r2 f2 (.inr hm)
      exact ⟨R', rfl, r3, f3⟩
end Go.DI.S

/-! The program's functions, told by functions on data. -/
set_option linter.unusedVariables false
set_option maxRecDepth 100000
set_option maxHeartbeats 0
namespace Go.DI.S
open Go.Proofs
/-! ### 73: maquette/world.Step$1 -/
noncomputable def c_73 : Code := Tryz.f73.body.getD .skip
theorem hb_73 : Tryz.f73.body = some c_73 := by kernel_rfl
theorem hf_73 : CT.P.funcs[73]? = some Tryz.f73 := by kernel_rfl
noncomputable abbrev IN_73 : LayD := ⟨1, [(0, .ptr 0)], [.var 29 [.data tVec, .own tBody 1, .data (.list tJoint)], .row 39 tBody], fun s => [slotR s 0, slotC s 0 2]⟩
noncomputable abbrev OUT_73 : LayD := ⟨0, [], [.var 29 [.data tVec, .own tBody 1, .data (.list tJoint)], .row 39 tBody], fun s => [0, slotH s 0 2]⟩
noncomputable def T_73 : Tb := mkTb tyT mpT [E_74, E_75, E_76, E_77]
theorem T_73_ok : T_73.Ok CT.P := mkTb_ok (⟨e_74, e_75, e_76, e_77, trivial⟩)
noncomputable def lp_73 {β : Type} : LpT β := fun _ _ _ => none
theorem lp_73_ok {β : Type} : LpTOk (CTp 2) (lp_73 (β := β)) (loopsOf c_73) := by
  have h : loopsOf c_73 = [] := by kernel_rfl
  rw [h]
  exact LpTOk.nil
noncomputable def F_73 (b0 : Ty.El tVec × Unit × Ty.El (.list tJoint) × Unit) (b1 : List (Ty.El tBody)) : Option (OUT_73.El ⊕ Int) := (F_74 (b0.fst, (), b0.snd.snd.fst, ()) b1).bind fun v2 => Sum.elim (fun v4 => (F_75 (b0.fst, (), b0.snd.snd.fst, ()) v4.snd.fst).bind fun v8 => Sum.elim (fun v10 => (F_76 (b0.fst, (), b0.snd.snd.fst, ()) v10.snd.fst).bind fun v14 => Sum.elim (fun v16 => (F_77 (b0.fst, (), b0.snd.snd.fst, ()) v16.snd.fst).bind fun v20 => Sum.elim (fun v22 => Option.some (Sum.inl ((), (b0.fst, (), b0.snd.snd.fst, ()), v22.snd.fst, ()))) (fun v25 => Option.some (Sum.inr v25)) v20) (fun v26 => Option.some (Sum.inr v26)) v14) (fun v27 => Option.some (Sum.inr v27)) v8) (fun v28 => Option.some (Sum.inr v28)) v2
theorem f_73 (x : IN_73.El) : funcXP (CTp 2) T_73 251 IN_73 OUT_73 [] (drT (CTp 2) T_73) lp_73 Tryz.f73 c_73 x = F_73 x.2.1 x.2.2.1 := by kernel_rfl
noncomputable def E_73 : Ent := .mkGenP 73 [] ⟨251, 2, [], IN_73, OUT_73, fun x => F_73 x.2.1 x.2.2.1⟩
theorem e_73 : E_73.Ok CT.P := Ent.ofGenP (C := (CTp 2)) (steps := []) (osteps := []) (CTp_ok 2) T_73_ok hf_73 hb_73 lp_73_ok f_73
/-! ### 61: maquette/world.Momentum$1 -/
noncomputable def c_61 : Code := Tryz.f61.body.getD .skip
theorem hb_61 : Tryz.f61.body = some c_61 := by kernel_rfl
theorem hf_61 : CT.P.funcs[61]? = some Tryz.f61 := by kernel_rfl
noncomputable abbrev IN_61 : LayD := ⟨2, [(0, .ptr 0), (1, .ptr 1)], [.var 29 [.data tWorld], .var 24 [.data tVec]], fun s => [slotR s 0, slotR s 1]⟩
noncomputable abbrev OUT_61 : LayD := ⟨0, [], [.var 29 [.data tWorld], .var 24 [.data tVec]], fun _ => [0, 1]⟩
noncomputable def T_61 : Tb := mkTb tyT mpT [E_62]
theorem T_61_ok : T_61.Ok CT.P := mkTb_ok (⟨e_62, trivial⟩)
noncomputable def l_61_1 : Code := atLoop c_61 1
noncomputable abbrev LD_61_1 : LayD := ⟨16, [(1, .ptr 1), (5, .data (.list tBody)), (6, .data I), (7, .data I)], [.var 29 [.data tWorld], .var 24 [.data tVec]], fun s => [0, 1]⟩
noncomputable abbrev LA_61_1 : LayD := ⟨16, [], [.var 29 [.data tWorld], .var 24 [.data tVec]], fun s => [0, 1]⟩
noncomputable abbrev LB_61_1 : LayD := ⟨16, [], [], fun _ => []⟩
noncomputable def EX_61_1 : Exits 2 LA_61_1.El LB_61_1.El := ⟨.exit 0, LA_61_1.lay [], .ret, LB_61_1.lay []⟩

noncomputable def lpi_61_1 {β : Type} : LpT β := fun _ _ _ => none
theorem lpi_61_1_ok {β : Type} : LpTOk (CTp 2) (lpi_61_1 (β := β)) (loopsOf l_61_1) := by
  have h : loopsOf l_61_1 = [] := by kernel_rfl
  rw [h]
  exact LpTOk.nil
noncomputable def G_61_1 (r5 : Ty.El (.list tBody)) (r6 : Ty.El I) (r7 : Ty.El I) (b0 : Ty.El tWorld × Unit) (b1 : Ty.El tVec × Unit) : Option (LD_61_1.El ⊕ ((LA_61_1.El ⊕ LB_61_1.El) ⊕ Int)) := bif Decidable.decide (r7 < r6) then bif Decidable.decide ((0 : Int) ≤ r7 ∧ r7 < (↑(List.length r5) : Int)) then (F_62 b1.fst (List.getD r5 (Int.toNat r7) Go.DI.S.tBody.dflt).snd.snd.snd.snd).bind fun v2 => Sum.elim (fun v4 => Option.some (Sum.inl (((), r5, r6, Go.IntKind.i64.wrap (r7 + (1 : Int)), ()), (b0.fst, ()), (v4.fst, ()), ()))) (fun v5 => Option.some (Sum.inr (Sum.inr v5))) v2 else Option.none else Option.some (Sum.inr (Sum.inl (Sum.inl ((), (b0.fst, ()), (b1.fst, ()), ()))))
theorem g_61_1 (x : LD_61_1.El) : codeT (CTp 2) T_61 (drT (CTp 2) T_61) lpi_61_1 l_61_1 (LD_61_1.enc x) (bodyKP (LD_61_1.lay []) EX_61_1 251 16) = G_61_1 x.1.2.1 x.1.2.2.1 x.1.2.2.2.1 x.2.1 x.2.2.1 := by kernel_rfl
noncomputable def R_61_1 : LD_61_1.El → Option ((LA_61_1.El ⊕ LB_61_1.El) ⊕ Int) := roundsT (fun x => G_61_1 x.1.2.1 x.1.2.2.1 x.1.2.2.2.1 x.2.1 x.2.2.1) fuel
theorem r_61_1 : ∀ x y, R_61_1 x = some y → CL (CTp 2) l_61_1 (LD_61_1.enc x) (Sum.elim (fun ab => Sum.elim (fun _ => EX_61_1.xa) (fun _ => EX_61_1.xb) ab) (fun e => .pan (faultV 251 e)) y) (Sum.elim (fun ab => Sum.elim EX_61_1.la.enc EX_61_1.lb.enc ab) (fun _ => panS 2 16) y) :=
  roundsP_ok (L := LD_61_1.lay []) (E := EX_61_1) (CTp_ok 2) T_61_ok (drT_ok (CTp_ok 2) T_61_ok) lpi_61_1_ok g_61_1 rfl rfl (fun v h => by have hh : (.exit 0 : AX) = .pan v := h; cases hh) (fun v h => by have hh : (.ret : AX) = .pan v := h; cases hh) fuel
noncomputable def lp_61 {β : Type} : LpT β := fun k s K => if Nat.beq k 1 then lpOneP (LD_61_1.lay []) EX_61_1 251 16 R_61_1 s K else none
theorem lp_61_ok {β : Type} : LpTOk (CTp 2) (lp_61 (β := β)) (loopsOf c_61) := by
  have h : loopsOf c_61 = [(1, l_61_1)] := by kernel_rfl
  rw [h]
  exact LpTOk.cons (fun s K z h => lpOneP_ok r_61_1 h) (LpTOk.nil)
noncomputable def F_61 (b0 : Ty.El tWorld × Unit) (b1 : Ty.El tVec × Unit) : Option (OUT_61.El ⊕ Int) := (R_61_1 (((), b0.fst.snd.fst, (↑(List.length b0.fst.snd.fst) : Int), (0 : Int), ()), (b0.fst, ()), (b1.fst, ()), ())).bind fun v1 => Sum.elim (fun v2 => Sum.elim (fun v3 => Option.some (Sum.inl ((), (v3.snd.fst.fst, ()), (v3.snd.snd.fst.fst, ()), ()))) (fun v4 => Option.none) v2) (fun v5 => Option.some (Sum.inr v5)) v1
theorem f_61 (x : IN_61.El) : funcXP (CTp 2) T_61 251 IN_61 OUT_61 [] (drT (CTp 2) T_61) lp_61 Tryz.f61 c_61 x = F_61 x.2.1 x.2.2.1 := by kernel_rfl
noncomputable def E_61 : Ent := .mkGenP 61 [] ⟨251, 2, [], IN_61, OUT_61, fun x => F_61 x.2.1 x.2.2.1⟩
theorem e_61 : E_61.Ok CT.P := Ent.ofGenP (C := (CTp 2)) (steps := []) (osteps := []) (CTp_ok 2) T_61_ok hf_61 hb_61 lp_61_ok f_61
noncomputable abbrev IN_60_73 : LayD := ⟨1, [(0, .cloP 73 [0])], [.var 29 [.data tVec, .own tBody 1, .data (.list tJoint)], .row 39 tBody], fun s => [slotFk s 0 0, slotH s (slotFk s 0 0) 2]⟩
noncomputable abbrev OUT_60_73 : LayD := ⟨1, [(0, .data I)], [.var 29 [.data tVec, .own tBody 1, .data (.list tJoint)], .row 39 tBody], fun s => [0, slotH s 0 2]⟩
noncomputable def F_60_73 (b0 : Ty.El tVec × Unit × Ty.El (.list tJoint) × Unit) (b1 : List (Ty.El tBody)) : Option (OUT_60_73.El ⊕ Int) := (F_73 b0 b1).bind fun y => Sum.elim (fun y => some (.inl ((0, ()), y.2))) (fun e => some (.inr e)) y
noncomputable def E_60_73 : Ent := .mkTry 60 [73] ⟨2, [], IN_60_73, OUT_60_73, fun x => F_60_73 x.2.1 x.2.2.1⟩
theorem ge_73 : GenPE.Ok CT.P 73 ⟨251, 2, [], IN_73, OUT_73, fun x => F_73 x.2.1 x.2.2.1⟩ :=
  funcXP_ok (C := CTp 2) (osteps := []) (CTp_ok 2) T_73_ok (drT_ok (CTp_ok 2) T_73_ok) hf_73 hb_73 lp_73_ok f_73
theorem e_60_73 : E_60_73.Ok CT.P := Ent.mkTry_ok (by
  refine tryE_73 (is := [0]) (F2 := fun x => F_60_73 x.2.1 x.2.2.1) (fun x b => rfl) ((), ()) (fun x y h => ?_) (fun x e h => ?_) ge_73
  · have h : F_60_73 x.2.1 x.2.2.1 = some (.inl y) := h
    unfold F_60_73 at h
    obtain ⟨z, hz, h⟩ := Option.bind_eq_some_iff.1 h
    cases z with
    | inl z => cases h; exact ⟨hz, rfl⟩
    | inr e => cases h
  · have h : F_60_73 x.2.1 x.2.2.1 = some (.inr e) := h
    unfold F_60_73 at h
    obtain ⟨z, hz, h⟩ := Option.bind_eq_some_iff.1 h
    cases z with
    | inl z => cases h
    | inr e => cases h; exact hz)
noncomputable abbrev IN_60_61 : LayD := ⟨1, [(0, .cloP 61 [0, 1])], [.var 29 [.data tWorld], .var 24 [.data tVec]], fun s => [slotFk s 0 0, slotFk s 0 1]⟩
noncomputable abbrev OUT_60_61 : LayD := ⟨1, [(0, .data I)], [.var 29 [.data tWorld], .var 24 [.data tVec]], fun _ => [0, 1]⟩
noncomputable def F_60_61 (b0 : Ty.El tWorld × Unit) (b1 : Ty.El tVec × Unit) : Option (OUT_60_61.El ⊕ Int) := (F_61 b0 b1).bind fun y => Sum.elim (fun y => some (.inl ((0, ()), y.2))) (fun e => some (.inr e)) y
noncomputable def E_60_61 : Ent := .mkTry 60 [61] ⟨2, [], IN_60_61, OUT_60_61, fun x => F_60_61 x.2.1 x.2.2.1⟩
theorem ge_61 : GenPE.Ok CT.P 61 ⟨251, 2, [], IN_61, OUT_61, fun x => F_61 x.2.1 x.2.2.1⟩ :=
  funcXP_ok (C := CTp 2) (osteps := []) (CTp_ok 2) T_61_ok (drT_ok (CTp_ok 2) T_61_ok) hf_61 hb_61 lp_61_ok f_61
theorem e_60_61 : E_60_61.Ok CT.P := Ent.mkTry_ok (by
  refine tryE_61 (is := [0, 1]) (F2 := fun x => F_60_61 x.2.1 x.2.2.1) (fun x b => rfl) ((), (), ()) (fun x y h => ?_) (fun x e h => ?_) ge_61
  · have h : F_60_61 x.2.1 x.2.2.1 = some (.inl y) := h
    unfold F_60_61 at h
    obtain ⟨z, hz, h⟩ := Option.bind_eq_some_iff.1 h
    cases z with
    | inl z => cases h; exact ⟨hz, rfl⟩
    | inr e => cases h
  · have h : F_60_61 x.2.1 x.2.2.1 = some (.inr e) := h
    unfold F_60_61 at h
    obtain ⟨z, hz, h⟩ := Option.bind_eq_some_iff.1 h
    cases z with
    | inl z => cases h
    | inr e => cases h; exact hz)
end Go.DI.S

/-! The program's functions, told by functions on data. -/
set_option linter.unusedVariables false
set_option maxRecDepth 100000
set_option maxHeartbeats 0
namespace Go.DI.S
open Go.Proofs
/-! ### 19: maquette/world.Momentum -/
noncomputable def c_19 : Code := Tryz.f19.body.getD .skip
theorem hb_19 : Tryz.f19.body = some c_19 := by kernel_rfl
theorem hf_19 : CT.P.funcs[19]? = some Tryz.f19 := by kernel_rfl
noncomputable def T_19 : Tb := mkTb tyT mpT [E_60_61]
theorem T_19_ok : T_19.Ok CT.P := mkTb_ok (⟨e_60_61, trivial⟩)
noncomputable def lp_19 {β : Type} : LpT β := fun _ _ _ => none
theorem lp_19_ok {β : Type} : LpTOk CT (lp_19 (β := β)) (loopsOf c_19) := by
  have h : loopsOf c_19 = [] := by kernel_rfl
  rw [h]
  exact LpTOk.nil
noncomputable def F_19 (a1 : Ty.El tWorld) : Option (Els [tVec, I]) := (F_60_61 (a1, ()) (((0 : Int), (0 : Int)), ())).bind fun v2 => Sum.elim (fun v4 => bif v4.fst.fst != (0 : Int) then Option.some (((0 : Int), (0 : Int)), v4.fst.fst, ()) else Option.some (v4.snd.snd.fst.fst, (0 : Int), ())) (fun v11 => bif v11 != (0 : Int) then Option.some (((0 : Int), (0 : Int)), v11, ()) else Option.none) v2
theorem f_19 (x : Ps [.ty tWorld]) : funcT CT T_19 [tVec, I] (drT CT T_19) lp_19 Tryz.f19 c_19 (encPs [.ty tWorld] x) = F_19 x.1 := by kernel_rfl
noncomputable def E_19 : Ent := .fn 19 [] ⟨[.ty tWorld], [tVec, I], fun x => F_19 x.1, false⟩
theorem e_19 : E_19.Ok CT.P := Ent.ofFn CT_ok T_19_ok hf_19 hb_19 lp_19_ok f_19
noncomputable def E_19h : Ent := .fn 19 [] ⟨[.ty tWorld], [tVec, I], fun x => F_19 x.1, true⟩
/-! ### 23: maquette/world.Step -/
noncomputable def c_23 : Code := Tryz.f23.body.getD .skip
theorem hb_23 : Tryz.f23.body = some c_23 := by kernel_rfl
theorem hf_23 : CT.P.funcs[23]? = some Tryz.f23 := by kernel_rfl
noncomputable def T_23 : Tb := mkTb tyT mpT [E_16, E_16h, E_56, E_57, E_60_73]
theorem T_23_ok : T_23.Ok CT.P := mkTb_ok (⟨e_16, e_16, e_56, e_57, e_60_73, trivial⟩)
noncomputable def lp_23 {β : Type} : LpT β := fun _ _ _ => none
theorem lp_23_ok {β : Type} : LpTOk CT (lp_23 (β := β)) (loopsOf c_23) := by
  have h : loopsOf c_23 = [] := by kernel_rfl
  rw [h]
  exact LpTOk.nil
noncomputable def F_23 (a1 : Ty.El tWorld) : Option (Els [tWorld, I]) := (F_16 a1).bind fun v2 => bif !v2.fst then Option.some ((((0 : Int), (0 : Int)), [], []), (9 : Int), ()) else (F_56 a1.snd.fst).bind fun v4 => (F_57 a1.snd.snd).bind fun v6 => (F_60_73 (a1.fst, (), v6.fst, ()) v4).bind fun v8 => Sum.elim (fun v10 => bif v10.fst.fst == (0 : Int) then (F_16 (v10.snd.fst.fst, v10.snd.snd.fst, v10.snd.fst.snd.snd.fst)).bind fun v20 => bif !v20.fst then Option.some ((((0 : Int), (0 : Int)), [], []), (3 : Int), ()) else bif v10.fst.fst != (0 : Int) then Option.some ((((0 : Int), (0 : Int)), [], []), v10.fst.fst, ()) else Option.some ((v10.snd.fst.fst, v10.snd.snd.fst, v10.snd.fst.snd.snd.fst), (0 : Int), ()) else bif v10.fst.fst != (0 : Int) then Option.some ((((0 : Int), (0 : Int)), [], []), v10.fst.fst, ()) else Option.some ((v10.snd.fst.fst, v10.snd.snd.fst, v10.snd.fst.snd.snd.fst), (0 : Int), ())) (fun v41 => bif v41 == (0 : Int) then Option.none else bif v41 != (0 : Int) then Option.some ((((0 : Int), (0 : Int)), [], []), v41, ()) else Option.none) v8
theorem f_23 (x : Ps [.ty tWorld]) : funcT CT T_23 [tWorld, I] (drT CT T_23) lp_23 Tryz.f23 c_23 (encPs [.ty tWorld] x) = F_23 x.1 := by kernel_rfl
noncomputable def E_23 : Ent := .fn 23 [] ⟨[.ty tWorld], [tWorld, I], fun x => F_23 x.1, false⟩
theorem e_23 : E_23.Ok CT.P := Ent.ofFn CT_ok T_23_ok hf_23 hb_23 lp_23_ok f_23
noncomputable def E_23h : Ent := .fn 23 [] ⟨[.ty tWorld], [tWorld, I], fun x => F_23 x.1, true⟩
/-! ### 15: maquette/world.Run -/
noncomputable def c_15 : Code := Tryz.f15.body.getD .skip
theorem hb_15 : Tryz.f15.body = some c_15 := by kernel_rfl
theorem hf_15 : CT.P.funcs[15]? = some Tryz.f15 := by kernel_rfl
noncomputable def T_15 : Tb := mkTb tyT mpT [E_16, E_16h, E_23, E_56, E_57]
theorem T_15_ok : T_15.Ok CT.P := mkTb_ok (⟨e_16, e_16, e_23, e_56, e_57, trivial⟩)
noncomputable def l_15_5 : Code := atLoop c_15 5
noncomputable abbrev LD_15_5 : LayD := ⟨52, [(2, .ptr 0), (4, .ptr 1), (34, .data I), (35, .data I)], [.var 29 [.data tWorld], .var 29 [.data tWorld]], fun s => [slotR s 2, slotR s 4]⟩
noncomputable abbrev LA_15_5 : LayD := ⟨52, [(2, .ptr 0), (4, .ptr 1)], [.var 29 [.data tWorld], .var 29 [.data tWorld]], fun s => [slotR s 2, slotR s 4]⟩
noncomputable abbrev LB_15_5 : LayD := ⟨52, [(4, .ptr 0), (5, .data I), (6, .data I)], [.var 29 [.data tWorld]], fun s => [slotR s 4]⟩
noncomputable def EX_15_5 : Exits 0 LA_15_5.El LB_15_5.El := ⟨.exit 0, LA_15_5.lay [.frzCell 2 2 (.list tBody)], .ret, LB_15_5.lay []⟩

noncomputable def lpi_15_5 {β : Type} : LpT β := fun _ _ _ => none
theorem lpi_15_5_ok {β : Type} : LpTOk CT (lpi_15_5 (β := β)) (loopsOf l_15_5) := by
  have h : loopsOf l_15_5 = [] := by kernel_rfl
  rw [h]
  exact LpTOk.nil
noncomputable def G_15_5 (r34 : Ty.El I) (r35 : Ty.El I) (b0 : Ty.El tWorld × Unit) (b1 : Ty.El tWorld × Unit) : Option (LD_15_5.El ⊕ (LA_15_5.El ⊕ LB_15_5.El)) := bif Decidable.decide (r35 < r34) then (F_23 b0.fst).bind fun v2 => bif v2.snd.fst != (0 : Int) then Option.some (Sum.inr (Sum.inr (((), Go.IntKind.i64.wrap (r35 + (1 : Int)), v2.snd.fst, ()), ((((0 : Int), (0 : Int)), [], []), ()), ()))) else Option.some (Sum.inl (((), (), r34, Go.IntKind.i64.wrap (r35 + (1 : Int)), ()), (v2.fst, ()), (b1.fst, ()), ())) else Option.some (Sum.inr (Sum.inl (((), (), ()), (b0.fst, ()), (b1.fst, ()), ())))
theorem g_15_5 (x : LD_15_5.El) : codeT CT T_15 (drT CT T_15) lpi_15_5 l_15_5 (LD_15_5.enc x) (bodyK (LD_15_5.lay [.frzCell 2 2 (.list tBody)]) EX_15_5) = G_15_5 x.1.2.2.1 x.1.2.2.2.1 x.2.1 x.2.2.1 := by kernel_rfl
noncomputable def R_15_5 : LD_15_5.El → Option (LA_15_5.El ⊕ LB_15_5.El) := roundsT (fun x => G_15_5 x.1.2.2.1 x.1.2.2.2.1 x.2.1 x.2.2.1) fuel
theorem r_15_5 : ∀ x y, R_15_5 x = some y → CL CT l_15_5 (LD_15_5.enc x) (Sum.elim (fun _ => EX_15_5.xa) (fun _ => EX_15_5.xb) y) (Sum.elim EX_15_5.la.enc EX_15_5.lb.enc y) :=
  rounds_ok (L := LD_15_5.lay [.frzCell 2 2 (.list tBody)]) (E := EX_15_5) CT_ok T_15_ok (drT_ok CT_ok T_15_ok) lpi_15_5_ok g_15_5 rfl rfl (fun v h => by have hh : (.exit 0 : AX) = .pan v := h; cases hh) (fun v h => by have hh : (.ret : AX) = .pan v := h; cases hh) fuel
noncomputable def lp_15 {β : Type} : LpT β := fun k s K => if Nat.beq k 5 then lpOne (LD_15_5.lay [.frzCell 2 2 (.list tBody)]) EX_15_5 R_15_5 s K else none
theorem lp_15_ok {β : Type} : LpTOk CT (lp_15 (β := β)) (loopsOf c_15) := by
  have h : loopsOf c_15 = [(5, l_15_5)] := by kernel_rfl
  rw [h]
  exact LpTOk.cons (fun s K z h => lpOne_ok r_15_5 h) (LpTOk.nil)
noncomputable def F_15 (a1 : Ty.El tWorld) (a2 : Ty.El I) : Option (Els [tWorld, I, I]) := bif Decidable.decide (a2 < (0 : Int)) then Option.some ((((0 : Int), (0 : Int)), [], []), (0 : Int), (9 : Int), ()) else bif Decidable.decide (a2 > (200 : Int)) then Option.some ((((0 : Int), (0 : Int)), [], []), (0 : Int), (9 : Int), ()) else bif a2 == (0 : Int) then (F_16 a1).bind fun v2 => bif !v2.fst then Option.some ((((0 : Int), (0 : Int)), [], []), (0 : Int), (9 : Int), ()) else (F_56 a1.snd.fst).bind fun v4 => (F_57 a1.snd.snd).bind fun v6 => (R_15_5 (((), (), a2, (0 : Int), ()), ((a1.fst, v4, v6.fst), ()), ((((0 : Int), (0 : Int)), [], []), ()), ())).bind fun v7 => Sum.elim (fun v8 => Option.some (v8.snd.fst.fst, (0 : Int), (0 : Int), ())) (fun v9 => Option.some (v9.snd.fst.fst, v9.fst.snd.fst, v9.fst.snd.snd.fst, ())) v7 else (F_56 a1.snd.fst).bind fun v11 => (F_57 a1.snd.snd).bind fun v13 => (R_15_5 (((), (), a2, (0 : Int), ()), ((a1.fst, v11, v13.fst), ()), ((((0 : Int), (0 : Int)), [], []), ()), ())).bind fun v14 => Sum.elim (fun v15 => Option.some (v15.snd.fst.fst, (0 : Int), (0 : Int), ())) (fun v16 => Option.some (v16.snd.fst.fst, v16.fst.snd.fst, v16.fst.snd.snd.fst, ())) v14
theorem f_15 (x : Ps [.ty tWorld, .ty I]) : funcT CT T_15 [tWorld, I, I] (drT CT T_15) lp_15 Tryz.f15 c_15 (encPs [.ty tWorld, .ty I] x) = F_15 x.1 x.2.1 := by kernel_rfl
noncomputable def E_15 : Ent := .fn 15 [] ⟨[.ty tWorld, .ty I], [tWorld, I, I], fun x => F_15 x.1 x.2.1, false⟩
theorem e_15 : E_15.Ok CT.P := Ent.ofFn CT_ok T_15_ok hf_15 hb_15 lp_15_ok f_15
noncomputable def E_15h : Ent := .fn 15 [] ⟨[.ty tWorld, .ty I], [tWorld, I, I], fun x => F_15 x.1 x.2.1, true⟩
/-! ### 22: maquette/maquettebook.SameBodies -/
noncomputable def c_22 : Code := Tryz.f22.body.getD .skip
theorem hb_22 : Tryz.f22.body = some c_22 := by kernel_rfl
theorem hf_22 : CT.P.funcs[22]? = some Tryz.f22 := by kernel_rfl
noncomputable def T_22 : Tb := mkTb tyT mpT []
theorem T_22_ok : T_22.Ok CT.P := mkTb_ok (trivial)
noncomputable def l_22_4 : Code := atLoop c_22 4
noncomputable abbrev LD_22_4 : LayD := ⟨27, [(0, .data (.list tBody)), (1, .data (.list tBody)), (5, .data I)], [], fun _ => []⟩
noncomputable abbrev LA_22_4 : LayD := ⟨27, [], [], fun _ => []⟩
noncomputable abbrev LB_22_4 : LayD := ⟨27, [(4, .data .bool)], [], fun _ => []⟩
noncomputable def EX_22_4 : Exits 0 LA_22_4.El LB_22_4.El := ⟨.exit 0, LA_22_4.lay [], .ret, LB_22_4.lay []⟩

noncomputable def lpi_22_4 {β : Type} : LpT β := fun _ _ _ => none
theorem lpi_22_4_ok {β : Type} : LpTOk CT (lpi_22_4 (β := β)) (loopsOf l_22_4) := by
  have h : loopsOf l_22_4 = [] := by kernel_rfl
  rw [h]
  exact LpTOk.nil
noncomputable def G_22_4 (r0 : Ty.El (.list tBody)) (r1 : Ty.El (.list tBody)) (r5 : Ty.El I) : Option (LD_22_4.El ⊕ (LA_22_4.El ⊕ LB_22_4.El)) := bif Decidable.decide (r5 < (↑(List.length r0) : Int)) then bif Decidable.decide ((0 : Int) ≤ r5 ∧ r5 < (↑(List.length r0) : Int)) then bif Decidable.decide ((0 : Int) ≤ r5 ∧ r5 < (↑(List.length r1) : Int)) then bif !((List.getD r0 (Int.toNat r5) Go.DI.S.tBody.dflt).fst == (List.getD r1 (Int.toNat r5) Go.DI.S.tBody.dflt).fst && ((List.getD r0 (Int.toNat r5) Go.DI.S.tBody.dflt).snd.fst.fst == (List.getD r1 (Int.toNat r5) Go.DI.S.tBody.dflt).snd.fst.fst && ((List.getD r0 (Int.toNat r5) Go.DI.S.tBody.dflt).snd.fst.snd == (List.getD r1 (Int.toNat r5) Go.DI.S.tBody.dflt).snd.fst.snd && Bool.true) && ((List.getD r0 (Int.toNat r5) Go.DI.S.tBody.dflt).snd.snd.fst == (List.getD r1 (Int.toNat r5) Go.DI.S.tBody.dflt).snd.snd.fst && ((List.getD r0 (Int.toNat r5) Go.DI.S.tBody.dflt).snd.snd.snd.fst.fst == (List.getD r1 (Int.toNat r5) Go.DI.S.tBody.dflt).snd.snd.snd.fst.fst && ((List.getD r0 (Int.toNat r5) Go.DI.S.tBody.dflt).snd.snd.snd.fst.snd == (List.getD r1 (Int.toNat r5) Go.DI.S.tBody.dflt).snd.snd.snd.fst.snd && Bool.true) && ((List.getD r0 (Int.toNat r5) Go.DI.S.tBody.dflt).snd.snd.snd.snd.fst == (List.getD r1 (Int.toNat r5) Go.DI.S.tBody.dflt).snd.snd.snd.snd.fst && ((List.getD r0 (Int.toNat r5) Go.DI.S.tBody.dflt).snd.snd.snd.snd.snd == (List.getD r1 (Int.toNat r5) Go.DI.S.tBody.dflt).snd.snd.snd.snd.snd && Bool.true) && Bool.true))))) then Option.some (Sum.inr (Sum.inr ((Bool.false, ()), ()))) else Option.some (Sum.inl ((r0, r1, Go.IntKind.i64.wrap (r5 + (1 : Int)), ()), ())) else Option.none else Option.none else Option.some (Sum.inr (Sum.inl ((), ())))
theorem g_22_4 (x : LD_22_4.El) : codeT CT T_22 (drT CT T_22) lpi_22_4 l_22_4 (LD_22_4.enc x) (bodyK (LD_22_4.lay []) EX_22_4) = G_22_4 x.1.1 x.1.2.1 x.1.2.2.1 := by kernel_rfl
noncomputable def R_22_4 : LD_22_4.El → Option (LA_22_4.El ⊕ LB_22_4.El) := roundsT (fun x => G_22_4 x.1.1 x.1.2.1 x.1.2.2.1) fuel
theorem r_22_4 : ∀ x y, R_22_4 x = some y → CL CT l_22_4 (LD_22_4.enc x) (Sum.elim (fun _ => EX_22_4.xa) (fun _ => EX_22_4.xb) y) (Sum.elim EX_22_4.la.enc EX_22_4.lb.enc y) :=
  rounds_ok (L := LD_22_4.lay []) (E := EX_22_4) CT_ok T_22_ok (drT_ok CT_ok T_22_ok) lpi_22_4_ok g_22_4 rfl rfl (fun v h => by have hh : (.exit 0 : AX) = .pan v := h; cases hh) (fun v h => by have hh : (.ret : AX) = .pan v := h; cases hh) fuel
noncomputable def lp_22 {β : Type} : LpT β := fun k s K => if Nat.beq k 4 then lpOne (LD_22_4.lay []) EX_22_4 R_22_4 s K else none
theorem lp_22_ok {β : Type} : LpTOk CT (lp_22 (β := β)) (loopsOf c_22) := by
  have h : loopsOf c_22 = [(4, l_22_4)] := by kernel_rfl
  rw [h]
  exact LpTOk.cons (fun s K z h => lpOne_ok r_22_4 h) (LpTOk.nil)
noncomputable def F_22 (a1 : Ty.El (.list tBody)) (a2 : Ty.El (.list tBody)) : Option (Els [.bool]) := bif (↑(List.length a1) : Int) != (↑(List.length a2) : Int) then Option.some (Bool.false, ()) else (R_22_4 ((a1, a2, (0 : Int), ()), ())).bind fun v1 => Sum.elim (fun v2 => Option.some (Bool.true, ())) (fun v3 => Option.some (v3.fst.fst, ())) v1
theorem f_22 (x : Ps [.ty (.list tBody), .ty (.list tBody)]) : funcT CT T_22 [.bool] (drT CT T_22) lp_22 Tryz.f22 c_22 (encPs [.ty (.list tBody), .ty (.list tBody)] x) = F_22 x.1 x.2.1 := by kernel_rfl
noncomputable def E_22 : Ent := .fn 22 [] ⟨[.ty (.list tBody), .ty (.list tBody)], [.bool], fun x => F_22 x.1 x.2.1, false⟩
theorem e_22 : E_22.Ok CT.P := Ent.ofFn CT_ok T_22_ok hf_22 hb_22 lp_22_ok f_22
noncomputable def E_22h : Ent := .fn 22 [] ⟨[.ty (.list tBody), .ty (.list tBody)], [.bool], fun x => F_22 x.1 x.2.1, true⟩
/-! ### 17: maquette/maquettelaw12.same -/
noncomputable def c_17 : Code := Tryz.f17.body.getD .skip
theorem hb_17 : Tryz.f17.body = some c_17 := by kernel_rfl
theorem hf_17 : CT.P.funcs[17]? = some Tryz.f17 := by kernel_rfl
noncomputable def T_17 : Tb := mkTb tyT mpT [E_22]
theorem T_17_ok : T_17.Ok CT.P := mkTb_ok (⟨e_22, trivial⟩)
noncomputable def l_17_4 : Code := atLoop c_17 4
noncomputable abbrev LD_17_4 : LayD := ⟨43, [(2, .ptr 0), (3, .ptr 1), (22, .data I), (23, .data I)], [.var 29 [.data tWorld], .var 35 [.data tWorld]], fun s => [slotR s 2, slotR s 3]⟩
noncomputable abbrev LA_17_4 : LayD := ⟨43, [(2, .ptr 0), (3, .ptr 1)], [.var 29 [.data tWorld], .var 35 [.data tWorld]], fun s => [slotR s 2, slotR s 3]⟩
noncomputable abbrev LB_17_4 : LayD := ⟨43, [(4, .data .bool)], [], fun _ => []⟩
noncomputable def EX_17_4 : Exits 0 LA_17_4.El LB_17_4.El := ⟨.exit 0, LA_17_4.lay [], .ret, LB_17_4.lay []⟩

noncomputable def lpi_17_4 {β : Type} : LpT β := fun _ _ _ => none
theorem lpi_17_4_ok {β : Type} : LpTOk CT (lpi_17_4 (β := β)) (loopsOf l_17_4) := by
  have h : loopsOf l_17_4 = [] := by kernel_rfl
  rw [h]
  exact LpTOk.nil
noncomputable def G_17_4 (r22 : Ty.El I) (r23 : Ty.El I) (b0 : Ty.El tWorld × Unit) (b1 : Ty.El tWorld × Unit) : Option (LD_17_4.El ⊕ (LA_17_4.El ⊕ LB_17_4.El)) := bif Decidable.decide (r23 < r22) then bif Decidable.decide ((0 : Int) ≤ r23 ∧ r23 < (↑(List.length b0.fst.snd.snd) : Int)) then bif Decidable.decide ((0 : Int) ≤ r23 ∧ r23 < (↑(List.length b1.fst.snd.snd) : Int)) then bif !((List.getD b0.fst.snd.snd (Int.toNat r23) Go.DI.S.tJoint.dflt).fst == (List.getD b1.fst.snd.snd (Int.toNat r23) Go.DI.S.tJoint.dflt).fst && ((List.getD b0.fst.snd.snd (Int.toNat r23) Go.DI.S.tJoint.dflt).snd.fst == (List.getD b1.fst.snd.snd (Int.toNat r23) Go.DI.S.tJoint.dflt).snd.fst && ((List.getD b0.fst.snd.snd (Int.toNat r23) Go.DI.S.tJoint.dflt).snd.snd == (List.getD b1.fst.snd.snd (Int.toNat r23) Go.DI.S.tJoint.dflt).snd.snd && Bool.true))) then Option.some (Sum.inr (Sum.inr ((Bool.false, ()), ()))) else Option.some (Sum.inl (((), (), r22, Go.IntKind.i64.wrap (r23 + (1 : Int)), ()), (b0.fst, ()), (b1.fst, ()), ())) else Option.none else Option.none else Option.some (Sum.inr (Sum.inl (((), (), ()), (b0.fst, ()), (b1.fst, ()), ())))
theorem g_17_4 (x : LD_17_4.El) : codeT CT T_17 (drT CT T_17) lpi_17_4 l_17_4 (LD_17_4.enc x) (bodyK (LD_17_4.lay []) EX_17_4) = G_17_4 x.1.2.2.1 x.1.2.2.2.1 x.2.1 x.2.2.1 := by kernel_rfl
noncomputable def R_17_4 : LD_17_4.El → Option (LA_17_4.El ⊕ LB_17_4.El) := roundsT (fun x => G_17_4 x.1.2.2.1 x.1.2.2.2.1 x.2.1 x.2.2.1) fuel
theorem r_17_4 : ∀ x y, R_17_4 x = some y → CL CT l_17_4 (LD_17_4.enc x) (Sum.elim (fun _ => EX_17_4.xa) (fun _ => EX_17_4.xb) y) (Sum.elim EX_17_4.la.enc EX_17_4.lb.enc y) :=
  rounds_ok (L := LD_17_4.lay []) (E := EX_17_4) CT_ok T_17_ok (drT_ok CT_ok T_17_ok) lpi_17_4_ok g_17_4 rfl rfl (fun v h => by have hh : (.exit 0 : AX) = .pan v := h; cases hh) (fun v h => by have hh : (.ret : AX) = .pan v := h; cases hh) fuel
noncomputable def lp_17 {β : Type} : LpT β := fun k s K => if Nat.beq k 4 then lpOne (LD_17_4.lay []) EX_17_4 R_17_4 s K else none
theorem lp_17_ok {β : Type} : LpTOk CT (lp_17 (β := β)) (loopsOf c_17) := by
  have h : loopsOf c_17 = [(4, l_17_4)] := by kernel_rfl
  rw [h]
  exact LpTOk.cons (fun s K z h => lpOne_ok r_17_4 h) (LpTOk.nil)
noncomputable def F_17 (a1 : Ty.El tWorld) (a2 : Ty.El tWorld) : Option (Els [.bool]) := bif !(a1.fst.fst == a2.fst.fst && (a1.fst.snd == a2.fst.snd && Bool.true)) then Option.some (Bool.false, ()) else bif (↑(List.length a1.snd.snd) : Int) != (↑(List.length a2.snd.snd) : Int) then Option.some (Bool.false, ()) else (R_17_4 (((), (), (↑(List.length a1.snd.snd) : Int), (0 : Int), ()), (a1, ()), (a2, ()), ())).bind fun v1 => Sum.elim (fun v2 => (F_22 v2.snd.fst.fst.snd.fst v2.snd.snd.fst.fst.snd.fst).bind fun v4 => Option.some (v4.fst, ())) (fun v5 => Option.some (v5.fst.fst, ())) v1
theorem f_17 (x : Ps [.ty tWorld, .ty tWorld]) : funcT CT T_17 [.bool] (drT CT T_17) lp_17 Tryz.f17 c_17 (encPs [.ty tWorld, .ty tWorld] x) = F_17 x.1 x.2.1 := by kernel_rfl
noncomputable def E_17 : Ent := .fn 17 [] ⟨[.ty tWorld, .ty tWorld], [.bool], fun x => F_17 x.1 x.2.1, false⟩
theorem e_17 : E_17.Ok CT.P := Ent.ofFn CT_ok T_17_ok hf_17 hb_17 lp_17_ok f_17
noncomputable def E_17h : Ent := .fn 17 [] ⟨[.ty tWorld, .ty tWorld], [.bool], fun x => F_17 x.1 x.2.1, true⟩
/-! ### 18: maquette/maquettelaw12.Ref -/
noncomputable def c_18 : Code := Tryz.f18.body.getD .skip
theorem hb_18 : Tryz.f18.body = some c_18 := by kernel_rfl
theorem hf_18 : CT.P.funcs[18]? = some Tryz.f18 := by kernel_rfl
noncomputable def T_18 : Tb := mkTb tyT mpT []
theorem T_18_ok : T_18.Ok CT.P := mkTb_ok (trivial)
noncomputable def lp_18 {β : Type} : LpT β := fun _ _ _ => none
theorem lp_18_ok {β : Type} : LpTOk CT (lp_18 (β := β)) (loopsOf c_18) := by
  have h : loopsOf c_18 = [] := by kernel_rfl
  rw [h]
  exact LpTOk.nil
noncomputable def F_18 (a1 : Ty.El tWorld) : Option (Els [tWorld]) := Option.some (a1, ())
theorem f_18 (x : Ps [.ty tWorld]) : funcT CT T_18 [tWorld] (drT CT T_18) lp_18 Tryz.f18 c_18 (encPs [.ty tWorld] x) = F_18 x.1 := by kernel_rfl
noncomputable def E_18 : Ent := .fn 18 [] ⟨[.ty tWorld], [tWorld], fun x => F_18 x.1, false⟩
theorem e_18 : E_18.Ok CT.P := Ent.ofFn CT_ok T_18_ok hf_18 hb_18 lp_18_ok f_18
noncomputable def E_18h : Ent := .fn 18 [] ⟨[.ty tWorld], [tWorld], fun x => F_18 x.1, true⟩
/-! ### 14: maquette/maquettelaw12.alive -/
noncomputable def c_14 : Code := Tryz.f14.body.getD .skip
theorem hb_14 : Tryz.f14.body = some c_14 := by kernel_rfl
theorem hf_14 : CT.P.funcs[14]? = some Tryz.f14 := by kernel_rfl
noncomputable def T_14 : Tb := mkTb tyT mpT [E_23, E_19]
theorem T_14_ok : T_14.Ok CT.P := mkTb_ok (⟨e_23, e_19, trivial⟩)
noncomputable def lp_14 {β : Type} : LpT β := fun _ _ _ => none
theorem lp_14_ok {β : Type} : LpTOk CT (lp_14 (β := β)) (loopsOf c_14) := by
  have h : loopsOf c_14 = [] := by kernel_rfl
  rw [h]
  exact LpTOk.nil
noncomputable def F_14  : Option (Els [.bool]) := (F_23 (((0 : Int), (0 : Int)), [((1 : Int), ((4294967296 : Int), (0 : Int)), (4294967296 : Int), ((0 : Int), (0 : Int)), (4294967296 : Int), (0 : Int))], [])).bind fun v2 => (F_19 v2.fst).bind fun v4 => bif v2.snd.fst == (0 : Int) then bif (↑(List.length v2.fst.snd.fst) : Int) == (1 : Int) then bif Decidable.decide ((0 : Int) ≤ (0 : Int) ∧ (0 : Int) < (↑(List.length v2.fst.snd.fst) : Int)) then bif (List.getD v2.fst.snd.fst (0 : Nat) Go.DI.S.tBody.dflt).snd.snd.snd.fst.fst == (67108864 : Int) then bif v4.snd.fst == (0 : Int) then Option.some (v4.fst.fst == (4294967296 : Int), ()) else Option.some (Bool.false, ()) else Option.some (Bool.false, ()) else Option.none else Option.some (Bool.false, ()) else Option.some (Bool.false, ())
theorem f_14 (x : Ps []) : funcT CT T_14 [.bool] (drT CT T_14) lp_14 Tryz.f14 c_14 (encPs [] x) = F_14 := by kernel_rfl
noncomputable def E_14 : Ent := .fn 14 [] ⟨[], [.bool], fun x => F_14, false⟩
theorem e_14 : E_14.Ok CT.P := Ent.ofFn CT_ok T_14_ok hf_14 hb_14 lp_14_ok f_14
noncomputable def E_14h : Ent := .fn 14 [] ⟨[], [.bool], fun x => F_14, true⟩
end Go.DI.S

