import Derived.Test.YtmleimalginhhaaKa
import Derived.WalkKit
import Derived.Tactics
import Derived.Tactics2
import Derived.Defers
import Derived.Recover
import Derived.Laws.Pointers
/- KinNests: calc.Try, kin.Copy, each told by a function on data. No conditions. -/
/-! calc.Try: what a function value does is done; a deferred recover finds nothing. -/
set_option linter.unusedVariables false
set_option linter.unusedSimpArgs false
set_option maxRecDepth 100000
namespace Go.DI.S
open Go.Proofs
theorem caught_nil (w : World) : Calls Try.prog 122 #[.nilIface] w fun e w' => e = .returned (.int .i64 0) ∧ w' = w := by
  go_enter Try.func122, Try.ntmps122
  go_wp2
  simp [bodyPost, results, Try.results122, go_sem]
theorem idle121 (p : Addr) (w : World) (x : Int) (hc : w.cell? p = some (.int .i64 x)) (hz : w.frozen? p = false) :
    CallsD Try.prog 121 #[.pointer (some p)] .returning w fun e u' w' => e = .returned (.tuple #[]) ∧ u' = .returning ∧ w' = w.setCell p (.int .i64 0) := by
  refine callsD_of_wpS Try.func121 rfl fun c₀ cs hu => ?_
  apply wpS_region
  simp [wpOpsS, go_sem, recoverD, hu, Try.ntmps121, Exit.thenS]
  refine (caught_nil w).mono ?_
  rintro e w' ⟨rfl, rfl⟩
  simp [go_sem, hc, hz, bodyPostS, results, Try.results121]
  cases c₀
  simp_all
theorem nilq (f : Fn) (a b : Array Value) (w : World) : (binOp BinOp.eql 1 (.func f a b) .nilFunc).run Try.prog w = .ok (.bool false) w := rfl
theorem try_84 (caps : Array Value) (w : World) (Q : World → Prop)
    (hc : Calls Try.prog 84 caps (w.alloc (.cells #[.int .i64 0] 37)) fun e w' => e = .returned (.tuple #[]) ∧ Q w' ∧ w'.cell? ⟨w.heap.size, 0, none⟩ = some (.int .i64 0) ∧ w'.frozen? ⟨w.heap.size, 0, none⟩ = false) :
    Calls Try.prog 83 #[.func (.func 84) #[] caps] w fun e w' => e = .returned (.int .i64 0) ∧ ∃ w2, Q w2 ∧ w' = (w2.setCell ⟨w.heap.size, 0, none⟩ (.int .i64 0)).setCell ⟨w.heap.size, 0, none⟩ (.int .i64 0) := by
  have hmf : ∀ (fn : Fn) (first cap : Array Value) (w : World), (Instr.makeFunc fn first cap).run Try.prog w = .ok (.func fn first cap) w := fun _ _ _ _ => rfl
  have hnil : ∀ (f : Fn) (a b : Array Value) (w : World), (binOp BinOp.eql 1 (.func f a b) .nilFunc).run Try.prog w = .ok (.bool false) w := nilq
  go_enter_defers Try.func83, Try.ntmps83
  go_wp2_with (first | (go_at_call 84; refine hc.mono ?_; rintro e w' ⟨rfl, hQ, h1, h2⟩))
  have e1 : (w'.setCell ⟨w.heap.size, 0, none⟩ (.int .i64 0)).cell? ⟨w.heap.size, 0, none⟩ = some (.int .i64 0) := by
    simp [go_sem, h1]
  have e2 : (w'.setCell ⟨w.heap.size, 0, none⟩ (.int .i64 0)).frozen? ⟨w.heap.size, 0, none⟩ = false := by
    simp [go_sem, h2]
  refine leaves_cons (f := 121) (args := #[.pointer (some ⟨w.heap.size, 0, none⟩)]) (by simp) (by simp [go_sem]) ?_
  refine (idle121 ⟨w.heap.size, 0, none⟩ _ 0 e1 e2).mono ?_
  rintro e u' w'' ⟨rfl, rfl, rfl⟩
  have e3 : ((w'.setCell ⟨w.heap.size, 0, none⟩ (.int .i64 0)).setCell ⟨w.heap.size, 0, none⟩ (.int .i64 0)).cell? ⟨w.heap.size, 0, none⟩ = some (.int .i64 0) := by
    simp [go_sem, e1]
  simp [Leaves, settle, results, Try.results83, go_sem, e3]
  exact ⟨_, hQ, rfl⟩

/-- What is told hangs on the blocks that live, and on those that are only read. -/
theorem rel_other {w w' : World} {R : Nat → Prop} {ρ : Nm} {h : AH} (hr : Rel R ρ h w) (hk : ∀ b, Lv ρ h b ∨ R b → w'.heap[b]? = w.heap[b]?) (hs : w.heap.size ≤ w'.heap.size) : Rel R ρ h w' := by
  refine ⟨fun i blk hi => ?_, hr.inj, hr.dom, fun b hb => Nat.lt_of_lt_of_le (hr.ro b hb) hs⟩
  obtain ⟨b, N, h1, h2, h3⟩ := hr.live i blk hi
  exact ⟨b, N, h1, h2.mono h3 (fun hg => hk b (.inl ⟨i, blk, N, hi, h1, hg⟩)) (fun k hkR => hk k (.inr hkR)) (fun _ h => h) (Nm.le_refl _), h3⟩
/-- calc.Try of a closure that captures variables, which returns. -/
theorem try_gen {n : Nat} {is : List Nat} {B : List Bl} {regs : List (Nat × It)} {sg1 sg2 sg3 sg4 : AS → List Nat} {pin : Nat} {st : List Stp} {F : (LayD.mk n regs B sg1).El → Option (LayD.mk 0 [] B sg2).El} {F2 : (LayD.mk 1 [(0, .cloP 84 is)] B sg3).El → Option (LayD.mk 1 [(0, .data I)] B sg4).El}
    (hregs : ∀ (x : RegsEl regs) (b : BlksEl B), ((LayD.mk n regs B sg1).enc (x, b)).r = is.map fun i => .ptr i 0)
    (x0 : RegsEl regs) (hF : ∀ x y, F2 x = some y → F (x0, x.2) = some ((), y.2) ∧ y.1 = (0, ()))
    (he : (GenE.mk pin st ⟨n, regs, B, sg1⟩ ⟨0, [], B, sg2⟩ F).Ok CT.P 84) {st2 : List Stp} : (GenE.mk pin st2 ⟨1, [(0, .cloP 84 is)], B, sg3⟩ ⟨1, [(0, .data I)], B, sg4⟩ F2).Ok CT.P 83 := by
  intro x y hxy R ρ w vs hr hvs
  obtain ⟨hF1, hF2⟩ := hF x y hxy
  have hr : Rel R ρ (encB B x.2) w := hr
  have hvs : VReps w R ρ [.func 84 [] (is.map fun i => .ptr i 0)] vs.toList := hvs
  obtain ⟨u0, us, hu, h1, h2⟩ := hvs.cons_inv
  obtain rfl := h2.nil_inv
  have hv : vs = #[u0] := Array.toList_inj.1 (by simpa using hu)
  subst hv
  cases h1 with
  | func vf vc k1 k2 k3 k4 =>
  have hvf : vf = #[] := by
    have : vf.size = 0 := by simpa using k1
    exact Array.eq_empty_of_size_eq_zero this
  subst hvf
  have hw1 : ∀ b, b < w.heap.size → (w.alloc (.cells #[.int .i64 0] 37)).heap[b]? = w.heap[b]? := fun b hb => heap_alloc_old w _ b hb
  have hsz1 : (w.alloc (.cells #[.int .i64 0] 37)).heap.size = w.heap.size + 1 := World.size_alloc _ _
  have r1 : Rel R ρ (encB B x.2) (w.alloc (.cells #[.int .i64 0] 37)) := rel_other hr (fun b hb => hw1 b (hb.elim (fun h => hr.lv_lt h) (fun h => hr.ro b h))) (by rw [hsz1]; omega)
  have hcaps : VReps (w.alloc (.cells #[.int .i64 0] 37)) R ρ (is.map fun i => .ptr i 0) vc.toList := by
    refine ⟨by simpa using k2, fun k c u hc hu => ?_⟩
    have h5 := k4 k c u hc (by simpa using hu)
    rw [List.getElem?_map] at hc
    obtain ⟨i, hi, rfl⟩ := Option.map_eq_some_iff.1 hc
    cases h5 with
    | ptr h6 => exact .ptr h6
  have hcall := he (x0, x.2) ((), y.2) hF1 R ρ (w.alloc (.cells #[.int .i64 0] 37)) vc r1 (by rw [hregs x0 x.2]; exact hcaps)
  have hnl : ¬ Lv ρ (encB B x.2) w.heap.size := fun h => by have := hr.lv_lt h; omega
  have hnR : ¬ R w.heap.size := fun h => by have := hr.ro _ h; omega
  show Calls CT.P 83 #[.func (.func 84) #[] vc] w _
  refine (try_84 vc w (fun w2 => ∃ R' ρ', Rel R' ρ' (encB B y.2) w2 ∧ FrmW pin R ρ (encB B x.2) (w.alloc (.cells #[.int .i64 0] 37)) R' ρ' (encB B y.2) w2) (hcall.mono ?_)).mono ?_
  · rintro e w' ⟨R', ρ', u, rfl, hu, r2, f2⟩
    have hu : VRep w' R' ρ' (.tup []) u := hu
    obtain ⟨us, rfl, hus⟩ := hu.tup_inv
    have : us = #[] := by
      have := hus.nil_inv
      exact Array.toList_inj.1 (by simpa using this)
    subst this
    have hb : w'.heap[w.heap.size]? = some (.cells #[.int .i64 0] 37 (0, 0)) := by
      rw [f2.keeps w.heap.size (by rw [hsz1]; omega) hnl]
      exact Array.getElem?_push_size
    exact ⟨rfl, ⟨R', ρ', r2, f2⟩, by simp [World.cell?, hb], by simp [World.frozen?, hb]⟩
  · rintro e w' ⟨rfl, w2, ⟨R', ρ', r2, f2⟩, rfl⟩
    have hsz2 : ((w2.setCell ⟨w.heap.size, 0, none⟩ (.int .i64 0)).setCell ⟨w.heap.size, 0, none⟩ (.int .i64 0)).heap.size = w2.heap.size := by
      simp [World.setCell]
    have hk2 : ∀ b, b ≠ w.heap.size → ((w2.setCell ⟨w.heap.size, 0, none⟩ (.int .i64 0)).setCell ⟨w.heap.size, 0, none⟩ (.int .i64 0)).heap[b]? = w2.heap[b]? := fun b hb => by
      rw [heap_setCell_other _ _ _ _ hb, heap_setCell_other _ _ _ _ hb]
    have hl2 : ∀ b, Lv ρ' (encB B y.2) b ∨ R' b → b ≠ w.heap.size := by
      rintro b hb rfl
      rcases hb with hb | hb
      · rcases f2.lives _ hb with h | h
        · exact hnl h
        · rw [hsz1] at h; omega
      · rcases f2.rolds _ hb with h | h | h
        · exact hnR h
        · exact hnl h
        · rw [hsz1] at h; omega
    have r3 := rel_other (w' := (w2.setCell ⟨w.heap.size, 0, none⟩ (.int .i64 0)).setCell ⟨w.heap.size, 0, none⟩ (.int .i64 0)) r2 (fun b hb => hk2 b (hl2 b hb)) (by rw [hsz2]; exact Nat.le_refl _)
    refine ⟨R', ρ', .int .i64 0, rfl, ?_, r3, ⟨f2.os, f2.tape, f2.output, by rw [hsz2]; have := f2.size; rw [hsz1] at this; omega, f2.ros, fun b hb hl => ?_, fun b hl => ?_, fun b hb => ?_, fun a ha => ?_, f2.pins⟩⟩
    · have : (LayD.enc ⟨1, [(0, .data I)], B, sg4⟩ y).r = [.int .i64 y.1.1] := rfl
      rw [this, hF2]
      exact .int _ _
    · rw [hk2 b (by omega), f2.keeps b (by rw [hsz1]; omega) hl, hw1 b hb]
    · rcases f2.lives b hl with h | h
      · exact .inl h
      · rw [hsz1] at h; exact .inr (by omega)
    · rcases f2.rolds b hb with h | h | h
      · exact .inl h
      · exact .inr (.inl h)
      · rw [hsz1] at h; exact .inr (.inr (by omega))
    · have h1 := f2.frz a (by rw [hsz1]; omega)
      have h2 : (w.alloc (.cells #[.int .i64 0] 37)).frozen? a = w.frozen? a := frozen_block (hw1 _ ha)
      have h3 : ((w2.setCell ⟨w.heap.size, 0, none⟩ (.int .i64 0)).setCell ⟨w.heap.size, 0, none⟩ (.int .i64 0)).frozen? a = w2.frozen? a := frozen_block (hk2 _ (by omega))
      rw [h3, h1, h2]
end Go.DI.S

/-! The program's functions, told by functions on data. -/
set_option linter.unusedVariables false
set_option maxRecDepth 100000
set_option maxHeartbeats 0
namespace Go.DI.S
open Go.Proofs
/-! ### 37: maquette/kin.Inside -/
noncomputable def c_37o : Code := Try.f37.body.getD .skip
theorem hb_37o : Try.f37.body = some c_37o := by kernel_rfl
theorem hf_37o : CT.P.funcs[37]? = some Try.f37 := by kernel_rfl
noncomputable def T_37o : Tb := mkTb tyT mpT [E_20, E_73, E_74]
theorem T_37o_ok : T_37o.Ok CT.P := mkTb_ok (⟨e_20, e_73, e_74, trivial⟩)
noncomputable def lp_37o {β : Type} : LpT β := fun _ _ _ => none
theorem lp_37o_ok {β : Type} : LpTOk CT (lp_37o (β := β)) (loopsOf c_37o) := by
  have h : loopsOf c_37o = [] := by kernel_rfl
  rw [h]
  exact LpTOk.nil
noncomputable def F_37o (a1 : Ty.El tScene) (a2 : Ty.El I) : Option (List (Ty.El I)) :=
  (F_20 a1).bind fun v2 => bif !v2.fst then Option.some [] else (F_73 a1 a2).bind fun v4 => (F_74 v4).bind fun v6 => Option.some v6.snd.fst
theorem f_37o (x : Ps [.ty tScene, .ty I]) : funcO CT T_37o 3 I (drT CT T_37o) lp_37o Try.f37 c_37o (encPs [.ty tScene, .ty I] x) = F_37o x.1 x.2.1 := by kernel_rfl
noncomputable def E_37o : Ent := .own 37 [] ⟨[.ty tScene, .ty I], 3, I, fun x => F_37o x.1 x.2.1⟩
theorem e_37o : E_37o.Ok CT.P := Ent.ofOwn CT_ok T_37o_ok hf_37o hb_37o lp_37o_ok f_37o
/-! ### 81: maquette/kin.joints -/
noncomputable def c_81 : Code := Try.f81.body.getD .skip
theorem hb_81 : Try.f81.body = some c_81 := by kernel_rfl
theorem hf_81 : CT.P.funcs[81]? = some Try.f81 := by kernel_rfl
noncomputable def T_81 : Tb := mkTb tyT mpT [E_59]
theorem T_81_ok : T_81.Ok CT.P := mkTb_ok (⟨e_59, trivial⟩)
noncomputable def l_81_3 : Code := atLoop c_81 3
noncomputable abbrev LD_81_3 : LayD := ⟨46, [(1, .data (.list I)), (5, .own I 0), (9, .data (.list tThing)), (10, .data I), (11, .data I)], [.row 3 I], fun s => [slotR s 5]⟩
noncomputable abbrev LA_81_3 : LayD := ⟨46, [(5, .own I 0)], [.row 3 I], fun s => [slotR s 5]⟩
noncomputable abbrev LB_81_3 : LayD := ⟨46, [], [], fun _ => []⟩
noncomputable def EX_81_3 : Exits 0 LA_81_3.El LB_81_3.El := ⟨.exit 0, LA_81_3.lay [.nilReg 5 3 I], .ret, LB_81_3.lay []⟩

noncomputable def lpi_81_3 {β : Type} : LpT β := fun _ _ _ => none
theorem lpi_81_3_ok {β : Type} : LpTOk CT (lpi_81_3 (β := β)) (loopsOf l_81_3) := by
  have h : loopsOf l_81_3 = [] := by kernel_rfl
  rw [h]
  exact LpTOk.nil
noncomputable def G_81_3 (r1 : Ty.El (.list I)) (r9 : Ty.El (.list tThing)) (r10 : Ty.El I) (r11 : Ty.El I) (b0 : List (Ty.El I)) : Option (LD_81_3.El ⊕ (LA_81_3.El ⊕ LB_81_3.El)) :=
  bif Decidable.decide (r11 < r10) then
    bif Decidable.decide ((0 : Int) ≤ r11 ∧ r11 < (↑(List.length r9) : Int)) then
      bif (List.getD r9 (Int.toNat r11) Go.DI.S.tThing.dflt).snd.fst == (2 : Int) then
        (F_59 r1 (List.getD r9 (Int.toNat r11) Go.DI.S.tThing.dflt).fst).bind fun v2 =>
          bif !v2.fst then
            (F_59 r1 (List.getD r9 (Int.toNat r11) Go.DI.S.tThing.dflt).snd.snd.snd.fst.fst).bind fun v4 =>
              bif v4.fst then
                (F_59 r1 (List.getD r9 (Int.toNat r11) Go.DI.S.tThing.dflt).snd.snd.snd.fst.snd.fst).bind fun v6 =>
                  bif v6.fst then
                    bif ((b0.length + [(List.getD r9 (Int.toNat r11) Go.DI.S.tThing.dflt).fst].length) * (8 : Nat)).ble (70368744177664 : Nat) then
                      Option.some (Sum.inl ((r1, (), r9, r10, Go.IntKind.i64.wrap (r11 + (1 : Int)), ()), b0 ++ [(List.getD r9 (Int.toNat r11) Go.DI.S.tThing.dflt).fst], ()))
                    else Option.none
                  else Option.some (Sum.inl ((r1, (), r9, r10, Go.IntKind.i64.wrap (r11 + (1 : Int)), ()), b0, ()))
              else Option.some (Sum.inl ((r1, (), r9, r10, Go.IntKind.i64.wrap (r11 + (1 : Int)), ()), b0, ()))
          else Option.some (Sum.inl ((r1, (), r9, r10, Go.IntKind.i64.wrap (r11 + (1 : Int)), ()), b0, ()))
      else Option.some (Sum.inl ((r1, (), r9, r10, Go.IntKind.i64.wrap (r11 + (1 : Int)), ()), b0, ()))
    else Option.none
  else Option.some (Sum.inr (Sum.inl (((), ()), b0, ())))
theorem g_81_3 (x : LD_81_3.El) : codeT CT T_81 (drT CT T_81) lpi_81_3 l_81_3 (LD_81_3.enc x) (bodyK (LD_81_3.lay [.nilReg 5 3 I]) EX_81_3) = G_81_3 x.1.1 x.1.2.2.1 x.1.2.2.2.1 x.1.2.2.2.2.1 x.2.1 := by kernel_rfl
noncomputable def R_81_3 : LD_81_3.El → Option (LA_81_3.El ⊕ LB_81_3.El) := roundsT (fun x => G_81_3 x.1.1 x.1.2.2.1 x.1.2.2.2.1 x.1.2.2.2.2.1 x.2.1) fuel
theorem r_81_3 : ∀ x y, R_81_3 x = some y → CL CT l_81_3 (LD_81_3.enc x) (Sum.elim (fun _ => EX_81_3.xa) (fun _ => EX_81_3.xb) y) (Sum.elim EX_81_3.la.enc EX_81_3.lb.enc y) :=
  rounds_ok (L := LD_81_3.lay [.nilReg 5 3 I]) (E := EX_81_3) CT_ok T_81_ok (drT_ok CT_ok T_81_ok) lpi_81_3_ok g_81_3 rfl rfl (fun v h => by have hh : (.exit 0 : AX) = .pan v := h; cases hh) (fun v h => by have hh : (.ret : AX) = .pan v := h; cases hh) fuel
noncomputable def lp_81 {β : Type} : LpT β := fun k s K => if Nat.beq k 3 then lpOne (LD_81_3.lay [.nilReg 5 3 I]) EX_81_3 R_81_3 s K else none
theorem lp_81_ok {β : Type} : LpTOk CT (lp_81 (β := β)) (loopsOf c_81) := by
  have h : loopsOf c_81 = [(3, l_81_3)] := by kernel_rfl
  rw [h]
  exact LpTOk.cons (fun s K z h => lpOne_ok r_81_3 h) (LpTOk.nil)
noncomputable def F_81 (a1 : Ty.El tScene) (a2 : Ty.El (.list I)) : Option (List (Ty.El I)) :=
  (R_81_3 ((a2, (), a1.snd.snd, (↑(List.length a1.snd.snd) : Int), (0 : Int), ()), [], ())).bind fun v1 => Sum.elim (fun v2 => Option.some v2.snd.fst) (fun v3 => Option.none) v1
theorem f_81 (x : Ps [.ty tScene, .ty (.list I)]) : funcO CT T_81 3 I (drT CT T_81) lp_81 Try.f81 c_81 (encPs [.ty tScene, .ty (.list I)] x) = F_81 x.1 x.2.1 := by kernel_rfl
noncomputable def E_81 : Ent := .own 81 [] ⟨[.ty tScene, .ty (.list I)], 3, I, fun x => F_81 x.1 x.2.1⟩
theorem e_81 : E_81.Ok CT.P := Ent.ofOwn CT_ok T_81_ok hf_81 hb_81 lp_81_ok f_81
/-! ### 82: maquette/kin.own -/
noncomputable def c_82 : Code := Try.f82.body.getD .skip
theorem hb_82 : Try.f82.body = some c_82 := by kernel_rfl
theorem hf_82 : CT.P.funcs[82]? = some Try.f82 := by kernel_rfl
noncomputable def T_82 : Tb := mkTb tyT mpT [E_90, E_46]
theorem T_82_ok : T_82.Ok CT.P := mkTb_ok (⟨e_90, e_46, trivial⟩)
noncomputable def l_82_3 : Code := atLoop c_82 3
noncomputable abbrev LD_82_3 : LayD := ⟨23, [(0, .own tThing 0), (7, .own tThing 0), (8, .data I), (9, .data I)], [.row 32 tThing], fun s => [slotR s 0]⟩
noncomputable abbrev LA_82_3 : LayD := ⟨23, [(0, .own tThing 0)], [.row 32 tThing], fun s => [slotR s 0]⟩
noncomputable abbrev LB_82_3 : LayD := ⟨23, [], [], fun _ => []⟩
noncomputable def EX_82_3 : Exits 0 LA_82_3.El LB_82_3.El := ⟨.exit 0, LA_82_3.lay [], .ret, LB_82_3.lay []⟩

noncomputable def lpi_82_3 {β : Type} : LpT β := fun _ _ _ => none
theorem lpi_82_3_ok {β : Type} : LpTOk CT (lpi_82_3 (β := β)) (loopsOf l_82_3) := by
  have h : loopsOf l_82_3 = [] := by kernel_rfl
  rw [h]
  exact LpTOk.nil
noncomputable def G_82_3 (r8 : Ty.El I) (r9 : Ty.El I) (b0 : List (Ty.El tThing)) : Option (LD_82_3.El ⊕ (LA_82_3.El ⊕ LB_82_3.El)) :=
  bif Decidable.decide (r9 < r8) then
    bif Decidable.decide ((0 : Int) ≤ r9 ∧ r9 < (↑b0.length : Int)) then
      (F_46 (b0.getD (Int.toNat r9) Go.DI.S.tThing.dflt).snd.snd.snd.snd).bind fun v2 =>
        bif Decidable.decide ((0 : Int) ≤ r9 ∧ r9 < (↑b0.length : Int)) then
          Option.some
            (Sum.inl
              (((), (), r8, Go.IntKind.i64.wrap (r9 + (1 : Int)), ()),
                b0.set (Int.toNat r9)
                  ((b0.getD (Int.toNat r9) Go.DI.S.tThing.dflt).fst, (b0.getD (Int.toNat r9) Go.DI.S.tThing.dflt).snd.fst, (b0.getD (Int.toNat r9) Go.DI.S.tThing.dflt).snd.snd.fst,
                    (b0.getD (Int.toNat r9) Go.DI.S.tThing.dflt).snd.snd.snd.fst, v2.fst),
                ()))
        else Option.none
    else Option.none
  else Option.some (Sum.inr (Sum.inl (((), ()), b0, ())))
theorem g_82_3 (x : LD_82_3.El) : codeT CT T_82 (drT CT T_82) lpi_82_3 l_82_3 (LD_82_3.enc x) (bodyK (LD_82_3.lay []) EX_82_3) = G_82_3 x.1.2.2.1 x.1.2.2.2.1 x.2.1 := by kernel_rfl
noncomputable def R_82_3 : LD_82_3.El → Option (LA_82_3.El ⊕ LB_82_3.El) := roundsT (fun x => G_82_3 x.1.2.2.1 x.1.2.2.2.1 x.2.1) fuel
theorem r_82_3 : ∀ x y, R_82_3 x = some y → CL CT l_82_3 (LD_82_3.enc x) (Sum.elim (fun _ => EX_82_3.xa) (fun _ => EX_82_3.xb) y) (Sum.elim EX_82_3.la.enc EX_82_3.lb.enc y) :=
  rounds_ok (L := LD_82_3.lay []) (E := EX_82_3) CT_ok T_82_ok (drT_ok CT_ok T_82_ok) lpi_82_3_ok g_82_3 rfl rfl (fun v h => by have hh : (.exit 0 : AX) = .pan v := h; cases hh) (fun v h => by have hh : (.ret : AX) = .pan v := h; cases hh) fuel
noncomputable def lp_82 {β : Type} : LpT β := fun k s K => if Nat.beq k 3 then lpOne (LD_82_3.lay []) EX_82_3 R_82_3 s K else none
theorem lp_82_ok {β : Type} : LpTOk CT (lp_82 (β := β)) (loopsOf c_82) := by
  have h : loopsOf c_82 = [(3, l_82_3)] := by kernel_rfl
  rw [h]
  exact LpTOk.cons (fun s K z h => lpOne_ok r_82_3 h) (LpTOk.nil)
noncomputable def F_82 (a1 : Ty.El (.list tThing)) : Option (List (Ty.El tThing)) :=
  (F_90 a1).bind fun v2 => (R_82_3 (((), (), (↑v2.length : Int), (0 : Int), ()), v2, ())).bind fun v4 => Sum.elim (fun v5 => Option.some v5.snd.fst) (fun v6 => Option.none) v4
theorem f_82 (x : Ps [.ty (.list tThing)]) : funcO CT T_82 32 tThing (drT CT T_82) lp_82 Try.f82 c_82 (encPs [.ty (.list tThing)] x) = F_82 x.1 := by kernel_rfl
noncomputable def E_82 : Ent := .own 82 [] ⟨[.ty (.list tThing)], 32, tThing, fun x => F_82 x.1⟩
theorem e_82 : E_82.Ok CT.P := Ent.ofOwn CT_ok T_82_ok hf_82 hb_82 lp_82_ok f_82
/-! ### 123: (maquette/kin.copies).of -/
noncomputable def c_123 : Code := Try.f123.body.getD .skip
theorem hb_123 : Try.f123.body = some c_123 := by kernel_rfl
theorem hf_123 : CT.P.funcs[123]? = some Try.f123 := by kernel_rfl
noncomputable abbrev IN_123 : LayD := ⟨2, [(0, .map 0), (1, .data I)], [.tmap I I], fun s => [slotR s 0]⟩
noncomputable abbrev OUT_123 : LayD := ⟨1, [(0, .data I)], [.tmap I I], fun _ => [0]⟩
noncomputable def T_123 : Tb := mkTb tyT mpT []
theorem T_123_ok : T_123.Ok CT.P := mkTb_ok (trivial)
noncomputable def lp_123 {β : Type} : LpT β := fun _ _ _ => none
theorem lp_123_ok {β : Type} : LpTOk (CTp 1) (lp_123 (β := β)) (loopsOf c_123) := by
  have h : loopsOf c_123 = [] := by kernel_rfl
  rw [h]
  exact LpTOk.nil
noncomputable def F_123 (a1 : Ty.El I) (b0 : List (Ty.El I × Ty.El I)) : Option OUT_123.El :=
  bif (Go.DI.tget Go.DI.S.I Go.DI.S.I a1 b0).isSome then Option.some (((Go.DI.tget Go.DI.S.I Go.DI.S.I a1 b0).getD (0 : Int), ()), b0, ()) else Option.some ((a1, ()), b0, ())
theorem f_123 (x : IN_123.El) : funcX (CTp 1) T_123 IN_123 OUT_123 [] (drT (CTp 1) T_123) lp_123 Try.f123 c_123 x = F_123 x.1.2.1 x.2.1 := by kernel_rfl
noncomputable def E_123 : Ent := .mkGen 123 [] ⟨1, [], IN_123, OUT_123, fun x => F_123 x.1.2.1 x.2.1⟩
theorem e_123 : E_123.Ok CT.P := Ent.ofGen (C := (CTp 1)) (steps := []) (osteps := []) (CTp_ok 1) T_123_ok hf_123 hb_123 lp_123_ok f_123
/-! ### 161: maquette/calc.must -/
noncomputable def c_161 : Code := Try.f161.body.getD .skip
theorem hb_161 : Try.f161.body = some c_161 := by kernel_rfl
theorem hf_161 : CT.P.funcs[161]? = some Try.f161 := by kernel_rfl
noncomputable def T_161 : Tb := mkTb tyT mpT []
theorem T_161_ok : T_161.Ok CT.P := mkTb_ok (trivial)
noncomputable def lp_161 {β : Type} : LpT β := fun _ _ _ => none
theorem lp_161_ok {β : Type} : LpTOk CT (lp_161 (β := β)) (loopsOf c_161) := by
  have h : loopsOf c_161 = [] := by kernel_rfl
  rw [h]
  exact LpTOk.nil
noncomputable def F_161 (a1 : Ty.El I) (a2 : Ty.El I) : Option (Els [I]) :=
  bif a2 != (0 : Int) then Option.none else Option.some (a1, ())
theorem f_161 (x : Ps [.ty I, .ty I]) : funcT CT T_161 [I] (drT CT T_161) lp_161 Try.f161 c_161 (encPs [.ty I, .ty I] x) = F_161 x.1 x.2.1 := by kernel_rfl
noncomputable def E_161 : Ent := .fn 161 [] ⟨[.ty I, .ty I], [I], fun x => F_161 x.1 x.2.1, false⟩
theorem e_161 : E_161.Ok CT.P := Ent.ofFn CT_ok T_161_ok hf_161 hb_161 lp_161_ok f_161
noncomputable def E_161h : Ent := .fn 161 [] ⟨[.ty I, .ty I], [I], fun x => F_161 x.1 x.2.1, true⟩
/-! ### 162: maquette/fix.Add -/
noncomputable def c_162 : Code := Try.f162.body.getD .skip
theorem hb_162 : Try.f162.body = some c_162 := by kernel_rfl
theorem hf_162 : CT.P.funcs[162]? = some Try.f162 := by kernel_rfl
noncomputable def T_162 : Tb := mkTb tyT mpT []
theorem T_162_ok : T_162.Ok CT.P := mkTb_ok (trivial)
noncomputable def lp_162 {β : Type} : LpT β := fun _ _ _ => none
theorem lp_162_ok {β : Type} : LpTOk CT (lp_162 (β := β)) (loopsOf c_162) := by
  have h : loopsOf c_162 = [] := by kernel_rfl
  rw [h]
  exact LpTOk.nil
noncomputable def F_162 (a1 : Ty.El I) (a2 : Ty.El I) : Option (Els [I, I]) :=
  bif Decidable.decide (a1 < (0 : Int)) == Decidable.decide (a2 < (0 : Int)) then
    bif !Decidable.decide (Go.IntKind.i64.wrap (a1 + a2) < (0 : Int)) == Decidable.decide (a1 < (0 : Int)) then Option.some ((0 : Int), (3 : Int), ())
    else Option.some (Go.IntKind.i64.wrap (a1 + a2), (0 : Int), ())
  else Option.some (Go.IntKind.i64.wrap (a1 + a2), (0 : Int), ())
theorem f_162 (x : Ps [.ty I, .ty I]) : funcT CT T_162 [I, I] (drT CT T_162) lp_162 Try.f162 c_162 (encPs [.ty I, .ty I] x) = F_162 x.1 x.2.1 := by kernel_rfl
noncomputable def E_162 : Ent := .fn 162 [] ⟨[.ty I, .ty I], [I, I], fun x => F_162 x.1 x.2.1, false⟩
theorem e_162 : E_162.Ok CT.P := Ent.ofFn CT_ok T_162_ok hf_162 hb_162 lp_162_ok f_162
noncomputable def E_162h : Ent := .fn 162 [] ⟨[.ty I, .ty I], [I, I], fun x => F_162 x.1 x.2.1, true⟩
/-! ### 146: maquette/calc.Add -/
noncomputable def c_146 : Code := Try.f146.body.getD .skip
theorem hb_146 : Try.f146.body = some c_146 := by kernel_rfl
theorem hf_146 : CT.P.funcs[146]? = some Try.f146 := by kernel_rfl
noncomputable def T_146 : Tb := mkTb tyT mpT [E_161, E_162]
theorem T_146_ok : T_146.Ok CT.P := mkTb_ok (⟨e_161, e_162, trivial⟩)
noncomputable def lp_146 {β : Type} : LpT β := fun _ _ _ => none
theorem lp_146_ok {β : Type} : LpTOk CT (lp_146 (β := β)) (loopsOf c_146) := by
  have h : loopsOf c_146 = [] := by kernel_rfl
  rw [h]
  exact LpTOk.nil
noncomputable def F_146 (a1 : Ty.El I) (a2 : Ty.El I) : Option (Els [I]) :=
  (F_162 a1 a2).bind fun v2 => (F_161 v2.fst v2.snd.fst).bind fun v4 => Option.some (v4.fst, ())
theorem f_146 (x : Ps [.ty I, .ty I]) : funcT CT T_146 [I] (drT CT T_146) lp_146 Try.f146 c_146 (encPs [.ty I, .ty I] x) = F_146 x.1 x.2.1 := by kernel_rfl
noncomputable def E_146 : Ent := .fn 146 [] ⟨[.ty I, .ty I], [I], fun x => F_146 x.1 x.2.1, false⟩
theorem e_146 : E_146.Ok CT.P := Ent.ofFn CT_ok T_146_ok hf_146 hb_146 lp_146_ok f_146
noncomputable def E_146h : Ent := .fn 146 [] ⟨[.ty I, .ty I], [I], fun x => F_146 x.1 x.2.1, true⟩
/-! ### 124: maquette/vec.Add -/
noncomputable def c_124 : Code := Try.f124.body.getD .skip
theorem hb_124 : Try.f124.body = some c_124 := by kernel_rfl
theorem hf_124 : CT.P.funcs[124]? = some Try.f124 := by kernel_rfl
noncomputable def T_124 : Tb := mkTb tyT mpT [E_146]
theorem T_124_ok : T_124.Ok CT.P := mkTb_ok (⟨e_146, trivial⟩)
noncomputable def lp_124 {β : Type} : LpT β := fun _ _ _ => none
theorem lp_124_ok {β : Type} : LpTOk CT (lp_124 (β := β)) (loopsOf c_124) := by
  have h : loopsOf c_124 = [] := by kernel_rfl
  rw [h]
  exact LpTOk.nil
noncomputable def F_124 (a1 : Ty.El tVec) (a2 : Ty.El tVec) : Option (Els [tVec]) :=
  (F_146 a1.fst a2.fst).bind fun v2 => (F_146 a1.snd a2.snd).bind fun v4 => Option.some ((v2.fst, v4.fst), ())
theorem f_124 (x : Ps [.ty tVec, .ty tVec]) : funcT CT T_124 [tVec] (drT CT T_124) lp_124 Try.f124 c_124 (encPs [.ty tVec, .ty tVec] x) = F_124 x.1 x.2.1 := by kernel_rfl
noncomputable def E_124 : Ent := .fn 124 [] ⟨[.ty tVec, .ty tVec], [tVec], fun x => F_124 x.1 x.2.1, false⟩
theorem e_124 : E_124.Ok CT.P := Ent.ofFn CT_ok T_124_ok hf_124 hb_124 lp_124_ok f_124
noncomputable def E_124h : Ent := .fn 124 [] ⟨[.ty tVec, .ty tVec], [tVec], fun x => F_124 x.1 x.2.1, true⟩
/-! ### 85: (maquette/kin.copies).thing -/
noncomputable def c_85 : Code := Try.f85.body.getD .skip
theorem hb_85 : Try.f85.body = some c_85 := by kernel_rfl
theorem hf_85 : CT.P.funcs[85]? = some Try.f85 := by kernel_rfl
noncomputable abbrev IN_85 : LayD := ⟨3, [(0, .map 0), (1, .data tThing), (2, .data tVec)], [.tmap I I], fun s => [slotR s 0]⟩
noncomputable abbrev OUT_85 : LayD := ⟨1, [(0, .data tThing)], [.tmap I I], fun _ => [0]⟩
noncomputable def T_85 : Tb := mkTb tyT mpT [E_46o, E_123, E_124, E_88]
theorem T_85_ok : T_85.Ok CT.P := mkTb_ok (⟨e_46o, e_123, e_124, e_88, trivial⟩)
noncomputable def l_85_11 : Code := atLoop c_85 11
noncomputable abbrev LD_85_11 : LayD := ⟨68, [(0, .map 0), (4, .ptr 1), (6, .ptr 3), (52, .own I 2), (53, .data I), (54, .data I)], [.tmap I I, .var 32 [.data I, .data I, .data tBody, .data tJoint, .own I 2], .row 3 I, .var 32 [.data tThing]], fun s => [0, slotR s 4, slotC s 4 13, slotR s 6]⟩
noncomputable abbrev LA_85_11 : LayD := ⟨68, [(4, .ptr 1), (6, .ptr 3)], [.tmap I I, .var 32 [.data I, .data I, .data tBody, .data tJoint, .own I 2], .row 3 I, .var 32 [.data tThing]], fun s => [0, slotR s 4, slotC s 4 13, slotR s 6]⟩
noncomputable abbrev LB_85_11 : LayD := ⟨68, [], [], fun _ => []⟩
noncomputable def EX_85_11 : Exits 1 LA_85_11.El LB_85_11.El := ⟨.exit 1, LA_85_11.lay [.nilCell 4 13 3 I], .ret, LB_85_11.lay []⟩

noncomputable def lpi_85_11 {β : Type} : LpT β := fun _ _ _ => none
theorem lpi_85_11_ok {β : Type} : LpTOk (CTp 1) (lpi_85_11 (β := β)) (loopsOf l_85_11) := by
  have h : loopsOf l_85_11 = [] := by kernel_rfl
  rw [h]
  exact LpTOk.nil
noncomputable def G_85_11 (r53 : Ty.El I) (r54 : Ty.El I) (b0 : List (Ty.El I × Ty.El I)) (b1 : Ty.El I × Ty.El I × Ty.El tBody × Ty.El tJoint × Unit × Unit) (b2 : List (Ty.El I)) (b3 : Ty.El tThing × Unit) : Option (LD_85_11.El ⊕ (LA_85_11.El ⊕ LB_85_11.El)) :=
  bif Decidable.decide (r54 < r53) then
    bif Decidable.decide ((0 : Int) ≤ r54 ∧ r54 < (↑b2.length : Int)) then
      (F_123 (b2.getD (Int.toNat r54) (0 : Int)) b0).bind fun v2 =>
        bif Decidable.decide ((0 : Int) ≤ r54 ∧ r54 < (↑b2.length : Int)) then
          Option.some
            (Sum.inl
              (((), (), (), (), r53, Go.IntKind.i64.wrap (r54 + (1 : Int)), ()), v2.snd.fst, (b1.fst, b1.snd.fst, b1.snd.snd.fst, b1.snd.snd.snd.fst, (), ()),
                b2.set (Int.toNat r54) v2.fst.fst, (b3.fst, ()), ()))
        else Option.none
    else Option.none
  else Option.some (Sum.inr (Sum.inl (((), (), ()), b0, (b1.fst, b1.snd.fst, b1.snd.snd.fst, b1.snd.snd.snd.fst, (), ()), b2, (b3.fst, ()), ())))
theorem g_85_11 (x : LD_85_11.El) : codeT (CTp 1) T_85 (drT (CTp 1) T_85) lpi_85_11 l_85_11 (LD_85_11.enc x) (bodyK (LD_85_11.lay [.nilCell 4 13 3 I]) EX_85_11) = G_85_11 x.1.2.2.2.2.1 x.1.2.2.2.2.2.1 x.2.1 x.2.2.1 x.2.2.2.1 x.2.2.2.2.1 := by kernel_rfl
noncomputable def R_85_11 : LD_85_11.El → Option (LA_85_11.El ⊕ LB_85_11.El) := roundsT (fun x => G_85_11 x.1.2.2.2.2.1 x.1.2.2.2.2.2.1 x.2.1 x.2.2.1 x.2.2.2.1 x.2.2.2.2.1) fuel
theorem r_85_11 : ∀ x y, R_85_11 x = some y → CL (CTp 1) l_85_11 (LD_85_11.enc x) (Sum.elim (fun _ => EX_85_11.xa) (fun _ => EX_85_11.xb) y) (Sum.elim EX_85_11.la.enc EX_85_11.lb.enc y) :=
  rounds_ok (L := LD_85_11.lay [.nilCell 4 13 3 I]) (E := EX_85_11) (CTp_ok 1) T_85_ok (drT_ok (CTp_ok 1) T_85_ok) lpi_85_11_ok g_85_11 rfl rfl (fun v h => by have hh : (.exit 1 : AX) = .pan v := h; cases hh) (fun v h => by have hh : (.ret : AX) = .pan v := h; cases hh) fuel
noncomputable def lp_85 {β : Type} : LpT β := fun k s K => if Nat.beq k 11 then lpOne (LD_85_11.lay [.nilCell 4 13 3 I]) EX_85_11 R_85_11 s K else none
theorem lp_85_ok {β : Type} : LpTOk (CTp 1) (lp_85 (β := β)) (loopsOf c_85) := by
  have h : loopsOf c_85 = [(11, l_85_11)] := by kernel_rfl
  rw [h]
  exact LpTOk.cons (fun s K z h => lpOne_ok r_85_11 h) (LpTOk.nil)
noncomputable def F_85 (a1 : Ty.El tThing) (a2 : Ty.El tVec) (b0 : List (Ty.El I × Ty.El I)) : Option OUT_85.El :=
  (F_123 a1.fst b0).bind fun v2 =>
    bif a1.snd.fst == (1 : Int) then
      (F_124 a1.snd.snd.fst.snd.snd.snd.fst a2).bind fun v4 =>
        (F_88 (a1.snd.snd.fst.fst, a1.snd.snd.fst.snd.fst, a1.snd.snd.fst.snd.snd.fst, v4.fst, a1.snd.snd.fst.snd.snd.snd.snd)).bind fun v6 =>
          bif !v6.fst then Option.none
          else
            (F_46o a1.snd.snd.snd.snd).bind fun v8 =>
              (R_85_11
                    (((), (), (), (), (↑v8.length : Int), (0 : Int), ()), v2.snd.fst,
                      (v2.fst.fst, a1.snd.fst, (a1.snd.snd.fst.fst, a1.snd.snd.fst.snd.fst, a1.snd.snd.fst.snd.snd.fst, v4.fst, a1.snd.snd.fst.snd.snd.snd.snd), a1.snd.snd.snd.fst,
                        (), ()),
                      v8,
                      (((0 : Int), (0 : Int), ((0 : Int), ((0 : Int), (0 : Int)), (0 : Int), ((0 : Int), (0 : Int)), (0 : Int), (0 : Int)), ((0 : Int), (0 : Int), (0 : Int)), []),
                        ()),
                      ())).bind
                fun v14 =>
                Sum.elim
                  (fun v15 =>
                    Option.some
                      (((v15.snd.snd.fst.fst, v15.snd.snd.fst.snd.fst, v15.snd.snd.fst.snd.snd.fst, v15.snd.snd.fst.snd.snd.snd.fst, v15.snd.snd.snd.fst), ()), v15.snd.fst, ()))
                  (fun v16 => Option.none) v14
    else
      bif a1.snd.fst == (2 : Int) then (F_123 a1.snd.snd.snd.fst.fst v2.snd.fst).bind fun v20 => (F_123 a1.snd.snd.snd.fst.snd.fst v20.snd.fst).bind fun v24 => Option.none
      else
        (F_46o a1.snd.snd.snd.snd).bind fun v26 =>
          (R_85_11
                (((), (), (), (), (↑v26.length : Int), (0 : Int), ()), v2.snd.fst, (v2.fst.fst, a1.snd.fst, a1.snd.snd.fst, a1.snd.snd.snd.fst, (), ()), v26,
                  (((0 : Int), (0 : Int), ((0 : Int), ((0 : Int), (0 : Int)), (0 : Int), ((0 : Int), (0 : Int)), (0 : Int), (0 : Int)), ((0 : Int), (0 : Int), (0 : Int)), []), ()),
                  ())).bind
            fun v32 =>
            Sum.elim
              (fun v33 =>
                Option.some
                  (((v33.snd.snd.fst.fst, v33.snd.snd.fst.snd.fst, v33.snd.snd.fst.snd.snd.fst, v33.snd.snd.fst.snd.snd.snd.fst, v33.snd.snd.snd.fst), ()), v33.snd.fst, ()))
              (fun v34 => Option.none) v32
theorem f_85 (x : IN_85.El) : funcX (CTp 1) T_85 IN_85 OUT_85 [.frzReg 0 tThing] (drT (CTp 1) T_85) lp_85 Try.f85 c_85 x = F_85 x.1.2.1 x.1.2.2.1 x.2.1 := by kernel_rfl
noncomputable def E_85 : Ent := .mkGen 85 [] ⟨1, [], IN_85, OUT_85, fun x => F_85 x.1.2.1 x.1.2.2.1 x.2.1⟩
theorem e_85 : E_85.Ok CT.P := Ent.ofGen (C := (CTp 1)) (steps := []) (osteps := [.frzReg 0 tThing]) (CTp_ok 1) T_85_ok hf_85 hb_85 lp_85_ok f_85
/-! ### 84: maquette/kin.Copy$1 -/
noncomputable def c_84 : Code := Try.f84.body.getD .skip
theorem hb_84 : Try.f84.body = some c_84 := by kernel_rfl
theorem hf_84 : CT.P.funcs[84]? = some Try.f84 := by kernel_rfl
noncomputable abbrev IN_84 : LayD := ⟨5, [(0, .ptr 0), (1, .ptr 1), (2, .ptr 2), (3, .ptr 3), (4, .ptr 4)], [.var 30 [.data (.list I)], .var 36 [.data tScene], .var 34 [.own tThing 5], .var 121 [.map 6], .var 25 [.data tVec], .row 32 tThing, .tmap I I], fun s => [slotR s 0, slotR s 1, slotR s 2, slotR s 3, slotR s 4, slotC s 2 0, slotC s 3 0]⟩
noncomputable abbrev OUT_84 : LayD := ⟨0, [], [.var 30 [.data (.list I)], .var 36 [.data tScene], .var 34 [.own tThing 5], .var 121 [.map 6], .var 25 [.data tVec], .row 32 tThing, .tmap I I], fun s => [0, 1, 2, 3, 4, slotH s 2 0, slotH s 3 0]⟩
noncomputable def T_84 : Tb := mkTb tyT mpT [E_23, E_85]
theorem T_84_ok : T_84.Ok CT.P := mkTb_ok (⟨e_23, e_85, trivial⟩)
noncomputable def l_84_1 : Code := atLoop c_84 1
noncomputable abbrev LD_84_1 : LayD := ⟨29, [(1, .ptr 1), (2, .ptr 2), (3, .ptr 3), (4, .ptr 4), (9, .data (.list I)), (10, .data I), (11, .data I)], [.var 30 [.data (.list I)], .var 36 [.data tScene], .var 34 [.own tThing 5], .var 121 [.map 6], .var 25 [.data tVec], .row 32 tThing, .tmap I I], fun s => [0, 1, 2, 3, 4, slotH s 2 0, slotH s 3 0]⟩
noncomputable abbrev LA_84_1 : LayD := ⟨29, [], [.var 30 [.data (.list I)], .var 36 [.data tScene], .var 34 [.own tThing 5], .var 121 [.map 6], .var 25 [.data tVec], .row 32 tThing, .tmap I I], fun s => [0, 1, 2, 3, 4, slotH s 2 0, slotH s 3 0]⟩
noncomputable abbrev LB_84_1 : LayD := ⟨29, [], [], fun _ => []⟩
noncomputable def EX_84_1 : Exits 5 LA_84_1.El LB_84_1.El := ⟨.exit 0, LA_84_1.lay [], .ret, LB_84_1.lay []⟩

noncomputable def lpi_84_1 {β : Type} : LpT β := fun _ _ _ => none
theorem lpi_84_1_ok {β : Type} : LpTOk (CTp 5) (lpi_84_1 (β := β)) (loopsOf l_84_1) := by
  have h : loopsOf l_84_1 = [] := by kernel_rfl
  rw [h]
  exact LpTOk.nil
noncomputable def G_84_1 (r9 : Ty.El (.list I)) (r10 : Ty.El I) (r11 : Ty.El I) (b0 : Ty.El (.list I) × Unit) (b1 : Ty.El tScene × Unit) (b2 : Unit × Unit) (b3 : Unit × Unit) (b4 : Ty.El tVec × Unit) (b5 : List (Ty.El tThing)) (b6 : List (Ty.El I × Ty.El I)) : Option (LD_84_1.El ⊕ (LA_84_1.El ⊕ LB_84_1.El)) :=
  bif Decidable.decide (r11 < r10) then
    bif Decidable.decide ((0 : Int) ≤ r11 ∧ r11 < (↑(List.length r9) : Int)) then
      (F_23 b1.fst (List.getD r9 (Int.toNat r11) (0 : Int))).bind fun v2 =>
        (F_85 v2.fst b4.fst b6).bind fun v4 =>
          bif ((b5.length + [v4.fst.fst].length) * (128 : Nat)).ble (70368744177664 : Nat) then
            Option.some
              (Sum.inl
                (((), (), (), (), r9, r10, Go.IntKind.i64.wrap (r11 + (1 : Int)), ()), (b0.fst, ()), (b1.fst, ()), ((), ()), ((), ()), (b4.fst, ()), b5 ++ [v4.fst.fst], v4.snd.fst,
                  ()))
          else Option.none
    else Option.none
  else Option.some (Sum.inr (Sum.inl ((), (b0.fst, ()), (b1.fst, ()), ((), ()), ((), ()), (b4.fst, ()), b5, b6, ())))
theorem g_84_1 (x : LD_84_1.El) : codeT (CTp 5) T_84 (drT (CTp 5) T_84) lpi_84_1 l_84_1 (LD_84_1.enc x) (bodyK (LD_84_1.lay []) EX_84_1) = G_84_1 x.1.2.2.2.2.1 x.1.2.2.2.2.2.1 x.1.2.2.2.2.2.2.1 x.2.1 x.2.2.1 x.2.2.2.1 x.2.2.2.2.1 x.2.2.2.2.2.1 x.2.2.2.2.2.2.1 x.2.2.2.2.2.2.2.1 := by kernel_rfl
noncomputable def R_84_1 : LD_84_1.El → Option (LA_84_1.El ⊕ LB_84_1.El) := roundsT (fun x => G_84_1 x.1.2.2.2.2.1 x.1.2.2.2.2.2.1 x.1.2.2.2.2.2.2.1 x.2.1 x.2.2.1 x.2.2.2.1 x.2.2.2.2.1 x.2.2.2.2.2.1 x.2.2.2.2.2.2.1 x.2.2.2.2.2.2.2.1) fuel
theorem r_84_1 : ∀ x y, R_84_1 x = some y → CL (CTp 5) l_84_1 (LD_84_1.enc x) (Sum.elim (fun _ => EX_84_1.xa) (fun _ => EX_84_1.xb) y) (Sum.elim EX_84_1.la.enc EX_84_1.lb.enc y) :=
  rounds_ok (L := LD_84_1.lay []) (E := EX_84_1) (CTp_ok 5) T_84_ok (drT_ok (CTp_ok 5) T_84_ok) lpi_84_1_ok g_84_1 rfl rfl (fun v h => by have hh : (.exit 0 : AX) = .pan v := h; cases hh) (fun v h => by have hh : (.ret : AX) = .pan v := h; cases hh) fuel
noncomputable def lp_84 {β : Type} : LpT β := fun k s K => if Nat.beq k 1 then lpOne (LD_84_1.lay []) EX_84_1 R_84_1 s K else none
theorem lp_84_ok {β : Type} : LpTOk (CTp 5) (lp_84 (β := β)) (loopsOf c_84) := by
  have h : loopsOf c_84 = [(1, l_84_1)] := by kernel_rfl
  rw [h]
  exact LpTOk.cons (fun s K z h => lpOne_ok r_84_1 h) (LpTOk.nil)
noncomputable def F_84 (b0 : Ty.El (.list I) × Unit) (b1 : Ty.El tScene × Unit) (b2 : Unit × Unit) (b3 : Unit × Unit) (b4 : Ty.El tVec × Unit) (b5 : List (Ty.El tThing)) (b6 : List (Ty.El I × Ty.El I)) : Option OUT_84.El :=
  (R_84_1 (((), (), (), (), b0.fst, (↑(List.length b0.fst) : Int), (0 : Int), ()), (b0.fst, ()), (b1.fst, ()), ((), ()), ((), ()), (b4.fst, ()), b5, b6, ())).bind fun v1 =>
    Sum.elim
      (fun v2 =>
        Option.some
          ((), (v2.snd.fst.fst, ()), (v2.snd.snd.fst.fst, ()), ((), ()), ((), ()), (v2.snd.snd.snd.snd.snd.fst.fst, ()), v2.snd.snd.snd.snd.snd.snd.fst,
            v2.snd.snd.snd.snd.snd.snd.snd.fst, ()))
      (fun v3 => Option.none) v1
theorem f_84 (x : IN_84.El) : funcX (CTp 5) T_84 IN_84 OUT_84 [] (drT (CTp 5) T_84) lp_84 Try.f84 c_84 x = F_84 x.2.1 x.2.2.1 x.2.2.2.1 x.2.2.2.2.1 x.2.2.2.2.2.1 x.2.2.2.2.2.2.1 x.2.2.2.2.2.2.2.1 := by kernel_rfl
noncomputable def E_84 : Ent := .mkGen 84 [] ⟨5, [], IN_84, OUT_84, fun x => F_84 x.2.1 x.2.2.1 x.2.2.2.1 x.2.2.2.2.1 x.2.2.2.2.2.1 x.2.2.2.2.2.2.1 x.2.2.2.2.2.2.2.1⟩
theorem e_84 : E_84.Ok CT.P := Ent.ofGen (C := (CTp 5)) (steps := []) (osteps := []) (CTp_ok 5) T_84_ok hf_84 hb_84 lp_84_ok f_84
end Go.DI.S

/-! The program's functions, told by functions on data. -/
set_option linter.unusedVariables false
set_option maxRecDepth 100000
set_option maxHeartbeats 0
namespace Go.DI.S
open Go.Proofs
noncomputable abbrev IN_83 : LayD := ⟨1, [(0, .cloP 84 [0, 1, 2, 3, 4])], [.var 30 [.data (.list I)], .var 36 [.data tScene], .var 34 [.own tThing 5], .var 121 [.map 6], .var 25 [.data tVec], .row 32 tThing, .tmap I I], fun s => [slotFk s 0 0, slotFk s 0 1, slotFk s 0 2, slotFk s 0 3, slotFk s 0 4, slotH s (slotFk s 0 2) 0, slotH s (slotFk s 0 3) 0]⟩
noncomputable abbrev OUT_83 : LayD := ⟨1, [(0, .data I)], [.var 30 [.data (.list I)], .var 36 [.data tScene], .var 34 [.own tThing 5], .var 121 [.map 6], .var 25 [.data tVec], .row 32 tThing, .tmap I I], fun s => [0, 1, 2, 3, 4, slotH s 2 0, slotH s 3 0]⟩
noncomputable def F_83 (b0 : Ty.El (.list I) × Unit) (b1 : Ty.El tScene × Unit) (b2 : Unit × Unit) (b3 : Unit × Unit) (b4 : Ty.El tVec × Unit) (b5 : List (Ty.El tThing)) (b6 : List (Ty.El I × Ty.El I)) : Option OUT_83.El :=
  (F_84 b0 b1 b2 b3 b4 b5 b6).bind fun y => some ((0, ()), y.2)
noncomputable def E_83 : Ent := .mkGen 83 [84] ⟨5, [], IN_83, OUT_83, fun x => F_83 x.2.1 x.2.2.1 x.2.2.2.1 x.2.2.2.2.1 x.2.2.2.2.2.1 x.2.2.2.2.2.2.1 x.2.2.2.2.2.2.2.1⟩
theorem ge_84 : GenE.Ok CT.P 84 ⟨5, [], IN_84, OUT_84, fun x => F_84 x.2.1 x.2.2.1 x.2.2.2.1 x.2.2.2.2.1 x.2.2.2.2.2.1 x.2.2.2.2.2.2.1 x.2.2.2.2.2.2.2.1⟩ :=
  funcX_ok (C := CTp 5) (osteps := []) (CTp_ok 5) T_84_ok (drT_ok (CTp_ok 5) T_84_ok) hf_84 hb_84 lp_84_ok f_84
theorem e_83 : E_83.Ok CT.P := Ent.mkGen_ok (by
  refine try_gen (is := [0, 1, 2, 3, 4]) (F2 := fun x => F_83 x.2.1 x.2.2.1 x.2.2.2.1 x.2.2.2.2.1 x.2.2.2.2.2.1 x.2.2.2.2.2.2.1 x.2.2.2.2.2.2.2.1) (fun x b => rfl) ((), (), (), (), (), ()) (fun x y h => ?_) ge_84
  have h : F_83 x.2.1 x.2.2.1 x.2.2.2.1 x.2.2.2.2.1 x.2.2.2.2.2.1 x.2.2.2.2.2.2.1 x.2.2.2.2.2.2.2.1 = some y := h
  unfold F_83 at h
  obtain ⟨z, hz, h⟩ := Option.bind_eq_some_iff.1 h
  cases h
  exact ⟨hz, rfl⟩)
/-! ### 42: maquette/kin.Copy -/
noncomputable def c_42 : Code := Try.f42.body.getD .skip
theorem hb_42 : Try.f42.body = some c_42 := by kernel_rfl
theorem hf_42 : CT.P.funcs[42]? = some Try.f42 := by kernel_rfl
noncomputable def T_42 : Tb := mkTb tyT mpT [E_20, E_23h, E_37o, E_81, E_82, E_83]
theorem T_42_ok : T_42.Ok CT.P := mkTb_ok (⟨e_20, e_23, e_37o, e_81, e_82, e_83, trivial⟩)
noncomputable def l_42_14 : Code := atLoop c_42 14
noncomputable abbrev LD_42_14 : LayD := ⟨97, [(1, .data I), (3, .ptr 0), (5, .ptr 1), (6, .ptr 2), (11, .ptr 3), (12, .ptr 5), (62, .own I 4), (63, .data I), (64, .data I)], [.var 36 [.data tScene], .var 25 [.data tVec], .var 36 [.data tScene], .var 30 [.own I 4], .row 3 I, .var 121 [.map 6], .tmap I I], fun s => [slotR s 3, slotR s 5, slotR s 6, slotR s 11, slotC s 11 0, slotR s 12, slotC s 12 0]⟩
noncomputable abbrev LA_42_14 : LayD := ⟨97, [(1, .data I), (3, .ptr 0), (5, .ptr 1), (6, .ptr 2), (11, .ptr 3), (12, .ptr 4)], [.var 36 [.data tScene], .var 25 [.data tVec], .var 36 [.data tScene], .var 30 [.data (.list I)], .var 121 [.map 5], .tmap I I], fun s => [slotR s 3, slotR s 5, slotR s 6, slotR s 11, slotR s 12, slotC s 12 0]⟩
noncomputable abbrev LB_42_14 : LayD := ⟨97, [], [], fun _ => []⟩
noncomputable def EX_42_14 : Exits 0 LA_42_14.El LB_42_14.El := ⟨.exit 1, LA_42_14.lay [.frzCell 11 0 (.list I)], .ret, LB_42_14.lay []⟩

noncomputable def lpi_42_14 {β : Type} : LpT β := fun _ _ _ => none
theorem lpi_42_14_ok {β : Type} : LpTOk CT (lpi_42_14 (β := β)) (loopsOf l_42_14) := by
  have h : loopsOf l_42_14 = [] := by kernel_rfl
  rw [h]
  exact LpTOk.nil
noncomputable def G_42_14 (r1 : Ty.El I) (r63 : Ty.El I) (r64 : Ty.El I) (b0 : Ty.El tScene × Unit) (b1 : Ty.El tVec × Unit) (b2 : Ty.El tScene × Unit) (b3 : Unit × Unit) (b4 : List (Ty.El I)) (b5 : Unit × Unit) (b6 : List (Ty.El I × Ty.El (I))) : Option (LD_42_14.El ⊕ (LA_42_14.El ⊕ LB_42_14.El)) :=
  bif Decidable.decide (r64 < r63) then
    bif Decidable.decide ((0 : Int) ≤ r64 ∧ r64 < (↑b4.length : Int)) then
      Option.some
        (Sum.inl
          ((r1, (), (), (), (), (), (), r63, Go.IntKind.i64.wrap (r64 + (1 : Int)), ()), (b0.fst, ()), (b1.fst, ()), (b2.fst, ()), ((), ()), b4, ((), ()),
            Go.DI.tput Go.DI.S.I Go.DI.S.I (b4.getD (Int.toNat r64) (0 : Int)) (Go.IntKind.i64.wrap (b0.fst.snd.fst + r64)) b6, ()))
    else Option.none
  else Option.some (Sum.inr (Sum.inl ((r1, (), (), (), (), (), ()), (b0.fst, ()), (b1.fst, ()), (b2.fst, ()), (b4, ()), ((), ()), b6, ())))
theorem g_42_14 (x : LD_42_14.El) : codeT CT T_42 (drT CT T_42) lpi_42_14 l_42_14 (LD_42_14.enc x) (bodyK (LD_42_14.lay []) EX_42_14) = G_42_14 x.1.1 x.1.2.2.2.2.2.2.2.1 x.1.2.2.2.2.2.2.2.2.1 x.2.1 x.2.2.1 x.2.2.2.1 x.2.2.2.2.1 x.2.2.2.2.2.1 x.2.2.2.2.2.2.1 x.2.2.2.2.2.2.2.1 := by kernel_rfl
noncomputable def R_42_14 : LD_42_14.El → Option (LA_42_14.El ⊕ LB_42_14.El) := roundsT (fun x => G_42_14 x.1.1 x.1.2.2.2.2.2.2.2.1 x.1.2.2.2.2.2.2.2.2.1 x.2.1 x.2.2.1 x.2.2.2.1 x.2.2.2.2.1 x.2.2.2.2.2.1 x.2.2.2.2.2.2.1 x.2.2.2.2.2.2.2.1) fuel
theorem r_42_14 : ∀ x y, R_42_14 x = some y → CL CT l_42_14 (LD_42_14.enc x) (Sum.elim (fun _ => EX_42_14.xa) (fun _ => EX_42_14.xb) y) (Sum.elim EX_42_14.la.enc EX_42_14.lb.enc y) :=
  rounds_ok (L := LD_42_14.lay []) (E := EX_42_14) CT_ok T_42_ok (drT_ok CT_ok T_42_ok) lpi_42_14_ok g_42_14 rfl rfl (fun v h => by have hh : (.exit 1 : AX) = .pan v := h; cases hh) (fun v h => by have hh : (.ret : AX) = .pan v := h; cases hh) fuel
noncomputable def lp_42 {β : Type} : LpT β := fun k s K => if Nat.beq k 14 then lpOne (LD_42_14.lay []) EX_42_14 R_42_14 s K else none
theorem lp_42_ok {β : Type} : LpTOk CT (lp_42 (β := β)) (loopsOf c_42) := by
  have h : loopsOf c_42 = [(14, l_42_14)] := by kernel_rfl
  rw [h]
  exact LpTOk.cons (fun s K z h => lpOne_ok r_42_14 h) (LpTOk.nil)
noncomputable def F_42 (a1 : Ty.El tScene) (a2 : Ty.El I) (a3 : Ty.El tVec) : Option (Els [tScene, I, I]) :=
  (F_23 a1 a2).bind fun v2 =>
    (F_20 a1).bind fun v4 =>
      bif !v4.fst then Option.some ((((0 : Int), (0 : Int)), (0 : Int), []), (0 : Int), (9 : Int), ())
      else
        bif !v2.snd.fst then Option.some ((((0 : Int), (0 : Int)), (0 : Int), []), (0 : Int), (10 : Int), ())
        else
          bif v2.fst.snd.fst == (2 : Int) then Option.some ((((0 : Int), (0 : Int)), (0 : Int), []), (0 : Int), (9 : Int), ())
          else
            (F_37o a1 a2).bind fun v6 =>
              (F_81 a1 v6).bind fun v8 =>
                bif ((v6.length + v8.length) * (8 : Nat)).ble (70368744177664 : Nat) then
                  bif Decidable.decide (Go.IntKind.i64.wrap ((↑(List.length a1.snd.snd) : Int) + (↑(v6 ++ v8).length : Int)) > (40 : Int)) then
                    Option.some ((((0 : Int), (0 : Int)), (0 : Int), []), (0 : Int), (12 : Int), ())
                  else
                    bif Decidable.decide (Go.IntKind.i64.wrap (a1.snd.fst + (↑(v6 ++ v8).length : Int)) > (1000001 : Int)) then
                      Option.some ((((0 : Int), (0 : Int)), (0 : Int), []), (0 : Int), (12 : Int), ())
                    else
                      (R_42_14
                            ((a2, (), (), (), (), (), (), (↑(v6 ++ v8).length : Int), (0 : Int), ()), (a1, ()), (a3, ()), ((((0 : Int), (0 : Int)), (0 : Int), []), ()), ((), ()),
                              v6 ++ v8, ((), ()), [], ())).bind
                        fun v46 =>
                        Sum.elim
                          (fun v47 =>
                            (F_82 v47.snd.fst.fst.snd.snd).bind fun v49 =>
                              (F_83 (v47.snd.snd.snd.snd.fst.fst, ()) (v47.snd.fst.fst, ()) ((), ()) ((), ()) (v47.snd.snd.fst.fst, ()) v49 v47.snd.snd.snd.snd.snd.snd.fst).bind
                                fun v51 =>
                                bif v51.fst.fst != (0 : Int) then Option.some ((((0 : Int), (0 : Int)), (0 : Int), []), (0 : Int), v51.fst.fst, ())
                                else
                                  Option.some
                                    ((v51.snd.snd.fst.fst.fst, Go.IntKind.i64.wrap (v51.snd.snd.fst.fst.snd.fst + (↑(List.length v51.snd.fst.fst) : Int)),
                                        v51.snd.snd.snd.snd.snd.snd.fst),
                                      (Go.DI.tget Go.DI.S.I Go.DI.S.I v47.fst.fst v51.snd.snd.snd.snd.snd.snd.snd.fst).getD (0 : Int), (0 : Int), ()))
                          (fun v66 => Option.none) v46
                else Option.none
theorem f_42 (x : Ps [.ty tScene, .ty I, .ty tVec]) : funcT CT T_42 [tScene, I, I] (drT CT T_42) lp_42 Try.f42 c_42 (encPs [.ty tScene, .ty I, .ty tVec] x) = F_42 x.1 x.2.1 x.2.2.1 := by kernel_rfl
noncomputable def E_42 : Ent := .fn 42 [] ⟨[.ty tScene, .ty I, .ty tVec], [tScene, I, I], fun x => F_42 x.1 x.2.1 x.2.2.1, false⟩
theorem e_42 : E_42.Ok CT.P := Ent.ofFn CT_ok T_42_ok hf_42 hb_42 lp_42_ok f_42
noncomputable def E_42h : Ent := .fn 42 [] ⟨[.ty tScene, .ty I, .ty tVec], [tScene, I, I], fun x => F_42 x.1 x.2.1 x.2.2.1, true⟩
/-! ### 14: maquette/maquettelaw20.KinNests -/
noncomputable def c_14 : Code := Try.f14.body.getD .skip
theorem hb_14 : Try.f14.body = some c_14 := by kernel_rfl
theorem hf_14 : CT.P.funcs[14]? = some Try.f14 := by kernel_rfl
noncomputable def T_14 : Tb := mkTb tyT mpT [E_17, E_36, E_37, E_38, E_39, E_41, E_42, E_43, E_44]
theorem T_14_ok : T_14.Ok CT.P := mkTb_ok (⟨e_17, e_36, e_37, e_38, e_39, e_41, e_42, e_43, e_44, trivial⟩)
noncomputable def l_14_6 : Code := atLoop c_14 6
noncomputable abbrev LD_14_6 : LayD := ⟨152, [(0, .data I), (3, .ptr 0), (4, .data I), (5, .data I)], [.var 36 [.data tScene]], fun s => [slotR s 3]⟩
noncomputable abbrev LA_14_6 : LayD := ⟨152, [(0, .data I), (3, .ptr 0), (4, .data I)], [.var 36 [.data tScene]], fun s => [slotR s 3]⟩
noncomputable abbrev LB_14_6 : LayD := ⟨152, [(2, .data .bool)], [], fun _ => []⟩
noncomputable def EX_14_6 : Exits 0 LA_14_6.El LB_14_6.El := ⟨.exit 0, LA_14_6.lay [.frzCell 3 3 (.list tThing)], .ret, LB_14_6.lay []⟩

noncomputable def lpi_14_6 {β : Type} : LpT β := fun _ _ _ => none
theorem lpi_14_6_ok {β : Type} : LpTOk CT (lpi_14_6 (β := β)) (loopsOf l_14_6) := by
  have h : loopsOf l_14_6 = [] := by kernel_rfl
  rw [h]
  exact LpTOk.nil
noncomputable def G_14_6 (r0 : Ty.El I) (r4 : Ty.El I) (r5 : Ty.El I) (b0 : Ty.El tScene × Unit) : Option (LD_14_6.El ⊕ (LA_14_6.El ⊕ LB_14_6.El)) :=
  bif Decidable.decide (r5 < r0) then
    (F_41 b0.fst [r4]).bind fun v2 =>
      bif v2.snd.snd.fst != (0 : Int) then Option.some (Sum.inr (Sum.inr ((Bool.false, ()), ())))
      else
        bif v2.snd.fst != Go.IntKind.i64.wrap (r4 + (1 : Int)) then Option.some (Sum.inr (Sum.inr ((Bool.false, ()), ())))
        else
          (F_38 v2.fst r4).bind fun v4 =>
            bif v4.fst != v2.snd.fst then Option.some (Sum.inr (Sum.inr ((Bool.false, ()), ())))
            else Option.some (Sum.inl ((r0, (), v2.snd.fst, Go.IntKind.i64.wrap (r5 + (1 : Int)), ()), (v2.fst, ()), ()))
  else Option.some (Sum.inr (Sum.inl ((r0, (), r4, ()), (b0.fst, ()), ())))
theorem g_14_6 (x : LD_14_6.El) : codeT CT T_14 (drT CT T_14) lpi_14_6 l_14_6 (LD_14_6.enc x) (bodyK (LD_14_6.lay [.frzCell 3 3 (.list tThing)]) EX_14_6) = G_14_6 x.1.1 x.1.2.2.1 x.1.2.2.2.1 x.2.1 := by kernel_rfl
noncomputable def R_14_6 : LD_14_6.El → Option (LA_14_6.El ⊕ LB_14_6.El) := roundsT (fun x => G_14_6 x.1.1 x.1.2.2.1 x.1.2.2.2.1 x.2.1) fuel
theorem r_14_6 : ∀ x y, R_14_6 x = some y → CL CT l_14_6 (LD_14_6.enc x) (Sum.elim (fun _ => EX_14_6.xa) (fun _ => EX_14_6.xb) y) (Sum.elim EX_14_6.la.enc EX_14_6.lb.enc y) :=
  rounds_ok (L := LD_14_6.lay [.frzCell 3 3 (.list tThing)]) (E := EX_14_6) CT_ok T_14_ok (drT_ok CT_ok T_14_ok) lpi_14_6_ok g_14_6 rfl rfl (fun v h => by have hh : (.exit 0 : AX) = .pan v := h; cases hh) (fun v h => by have hh : (.ret : AX) = .pan v := h; cases hh) fuel
noncomputable def lp_14 {β : Type} : LpT β := fun k s K => if Nat.beq k 6 then lpOne (LD_14_6.lay [.frzCell 3 3 (.list tThing)]) EX_14_6 R_14_6 s K else none
theorem lp_14_ok {β : Type} : LpTOk CT (lp_14 (β := β)) (loopsOf c_14) := by
  have h : loopsOf c_14 = [(6, l_14_6)] := by kernel_rfl
  rw [h]
  exact LpTOk.cons (fun s K z h => lpOne_ok r_14_6 h) (LpTOk.nil)
noncomputable def F_14 (a1 : Ty.El I) : Option (Els [.bool]) :=
  bif Decidable.decide (a1 < (1 : Int)) then F_36.bind fun v2 => Option.some (v2.fst, ())
  else
    bif Decidable.decide (a1 > (15 : Int)) then F_36.bind fun v4 => Option.some (v4.fst, ())
    else
      F_36.bind fun v6 =>
        bif !v6.fst then F_36.bind fun v8 => Option.some (v8.fst, ())
        else
          (F_17 (1 : Int) (0 : Int) (0 : Int) (4294967296 : Int)).bind fun v10 =>
            (R_14_6 ((a1, (), (1 : Int), (0 : Int), ()), ((((0 : Int), (0 : Int)), (2 : Int), [v10.fst]), ()), ())).bind fun v11 =>
              Sum.elim
                (fun v12 =>
                  (F_43 v12.snd.fst.fst v12.fst.snd.snd.fst).bind fun v14 =>
                    bif v14.snd.fst != (0 : Int) then Option.some (Bool.false, ())
                    else
                      (F_44 v14.fst [(1 : Int)]).bind fun v16 =>
                        bif !v16.fst then Option.some (Bool.false, ())
                        else
                          (F_37 v12.snd.fst.fst v12.fst.snd.snd.fst).bind fun v18 =>
                            bif (↑(List.length v18.fst) : Int) != Go.IntKind.i64.wrap (v12.fst.fst + (1 : Int)) then Option.some (Bool.false, ())
                            else
                              (F_38 v12.snd.fst.fst v12.fst.snd.snd.fst).bind fun v20 =>
                                bif v20.fst != (0 : Int) then Option.some (Bool.false, ())
                                else
                                  (F_42 v12.snd.fst.fst v12.fst.snd.snd.fst ((4294967296 : Int), (0 : Int))).bind fun v22 =>
                                    bif v22.snd.snd.fst != (0 : Int) then Option.some (Bool.false, ())
                                    else
                                      bif v22.snd.fst != Go.IntKind.i64.wrap ((2 : Int) * Go.IntKind.i64.wrap (v12.fst.fst + (1 : Int))) then Option.some (Bool.false, ())
                                      else
                                        bif (↑(List.length v22.fst.snd.snd) : Int) != Go.IntKind.i64.wrap ((2 : Int) * Go.IntKind.i64.wrap (v12.fst.fst + (1 : Int))) then
                                          Option.some (Bool.false, ())
                                        else
                                          (F_39 v22.fst v22.snd.fst).bind fun v24 =>
                                            (F_39 v22.fst (Go.IntKind.i64.wrap (v12.fst.fst + (2 : Int)))).bind fun v26 =>
                                              bif v24.snd.fst == (0 : Int) then
                                                bif (↑(List.length v24.fst.snd.snd) : Int) == Go.IntKind.i64.wrap (v12.fst.fst + (1 : Int)) then
                                                  bif v26.snd.fst == (0 : Int) then
                                                    Option.some ((↑(List.length v26.fst.snd.snd) : Int) == Go.IntKind.i64.wrap (v12.fst.fst + (1 : Int)), ())
                                                  else Option.some (Bool.false, ())
                                                else Option.some (Bool.false, ())
                                              else Option.some (Bool.false, ()))
                (fun v27 => Option.some (v27.fst.fst, ())) v11
theorem f_14 (x : Ps [.ty I]) : funcT CT T_14 [.bool] (drT CT T_14) lp_14 Try.f14 c_14 (encPs [.ty I] x) = F_14 x.1 := by kernel_rfl
noncomputable def E_14 : Ent := .fn 14 [] ⟨[.ty I], [.bool], fun x => F_14 x.1, false⟩
theorem e_14 : E_14.Ok CT.P := Ent.ofFn CT_ok T_14_ok hf_14 hb_14 lp_14_ok f_14
noncomputable def E_14h : Ent := .fn 14 [] ⟨[.ty I], [.bool], fun x => F_14 x.1, true⟩
end Go.DI.S

