import Derived.Test.YtehnecfmjfpclaaGreatLa
import Derived.Shelf.Spec.SlicesGrow
import Derived.Laws.AppendOwn
/- The past: told by functions on data. No conditions. -/
set_option linter.unusedVariables false
set_option maxRecDepth 100000
set_option maxHeartbeats 0
namespace Go.DI.S
open Go.Proofs
noncomputable def tyQ : TypeId → Option Ty
  | 95 => some (.list tEntry)
  | 159 => some tRec
  | 9 => some .str
  | t => tyT t
noncomputable def c_108 : Code := Tryz.f101.body.getD .skip
theorem hb_108 : Tryz.f101.body = some c_108 := by kernel_rfl
theorem hf_108 : CT.P.funcs[101]? = some Tryz.f101 := by kernel_rfl
noncomputable def k_108 : CloneCode CT Tryz.f101 c_108 31 where
  i0 := (partA c_108).1
  i1 := (partB c_108).1
  i2 := (partC c_108).1
  ops0 := (partA c_108).2
  ops1 := (partB c_108).2
  ops2 := (partC c_108).2
  rest := restOf c_108
  code := by kernel_rfl
  s0 := by kernel_rfl
  s1 := by kernel_rfl
  s2 := by kernel_rfl
  o00 := ((partA c_108).2[0]?).getD default
  o10 := ((partB c_108).2[0]?).getD default
  o11 := ((partB c_108).2[1]?).getD default
  o20 := ((partC c_108).2[0]?).getD default
  h00 := by kernel_rfl
  h10 := by kernel_rfl
  h11 := by kernel_rfl
  h20 := by kernel_rfl
  g00 := ⟨by kernel_rfl, by kernel_rfl, by kernel_rfl⟩
  g10 := ⟨by kernel_rfl, by kernel_rfl, by kernel_rfl⟩
  g11 := ⟨by kernel_rfl, by kernel_rfl, by kernel_rfl⟩
  g20 := ⟨by kernel_rfl, by kernel_rfl, by kernel_rfl⟩
  nt := by kernel_rfl
  res := by kernel_rfl
theorem f_108 (l : List (Ty.El tEntry)) : codeT CT T_P (drT CT T_P) (fun _ _ _ => none) (restOf c_108) ⟨[.lst tEntry l, .any, .nils, .any, .bool false, .any, .any, .any], []⟩ (retO CT 56 tEntry [.tmp 2]) = F_108 l := by kernel_rfl
noncomputable def E_108 : Ent := .own 101 [] ⟨[.ty (.list tEntry)], 56, tEntry, fun x => F_108 x.1⟩
theorem und_95 : CT.P.underlying 31 = some (.slice 56) := by kernel_rfl
theorem lo_108 : loopsOf (restOf c_108) = [] := by kernel_rfl
theorem e_108 : E_108.Ok CT.P := by
  intro x y h
  have h : F_108 x.1 = some y := h
  exact clone_own (e := 56) (bt := 56) CT_ok T_P_ok hf_108 hb_108 k_108 und_95 lo_108 (l := x.1) (y := y) ((f_108 x.1).trans h) (fun h0 => by
    rw [h0] at h
    exact (Option.some.inj h).symm)
end Go.DI.S
set_option linter.unusedVariables false
set_option linter.unusedSimpArgs false
set_option maxRecDepth 100000
set_option maxHeartbeats 0
namespace Go.DI.S
open Go.Proofs
noncomputable def c_grEz : Code := Tryz.f103.body.getD .skip
theorem hb_grEz : Tryz.f103.body = some c_grEz := by kernel_rfl
theorem hf_grEz : CT.P.funcs[103]? = some Tryz.f103 := by kernel_rfl
noncomputable def T_grEz : Tb := mkTb tyT mpT []
theorem T_grEz_ok : T_grEz.Ok CT.P := mkTb_ok (trivial)
noncomputable def lp_grEz {β : Type} : LpT β := fun _ _ _ => none
theorem lp_grEz_ok {β : Type} : LpTOk CT (lp_grEz (β := β)) (loopsOf c_grEz) := by
  have h : loopsOf c_grEz = [] := by kernel_rfl
  rw [h]
  exact LpTOk.nil
noncomputable def F_grEz (a1 : Unit) (a2 : Ty.El I) : Option (List (Ty.El tEntry)) := bif Decidable.decide (a2 < (0 : Int)) then Option.none else bif Decidable.decide (Go.IntKind.i64.wrap (a2 - (0 : Int)) > (0 : Int)) then Option.none else Option.some []
theorem f_grEz (x : Ps [.nil, .ty I]) : funcO CT T_grEz 56 tEntry (drT CT T_grEz) lp_grEz Tryz.f103 c_grEz (encPs [.nil, .ty I] x) = F_grEz x.1 x.2.1 := by kernel_rfl
noncomputable def E_grEz : Ent := .own 103 [] ⟨[.nil, .ty I], 56, tEntry, fun x => F_grEz x.1 x.2.1⟩
theorem e_grEz : E_grEz.Ok CT.P := Ent.ofOwn CT_ok T_grEz_ok hf_grEz hb_grEz lp_grEz_ok f_grEz
theorem row_backE {R : Nat → Prop} {ρ : Nm} {w w' : World} {l v l2 : List tEntry.El} {nb cap : Nat} {N : BN} {h0 : AH} (hr : Rel R ρ h0 w)
    (h1 : w'.os = w.os) (h2 : w'.tape = w.tape) (h3 : w'.output = w.output) (h4 : w.heap.size ≤ w'.heap.size) (hdr : w.drawn ≤ w'.drawn) (hkeep : ∀ k, k < w.heap.size → k ≠ nb → w'.heap[k]? = w.heap[k]?)
    (hnb : (Lv ρ h0 nb ∧ ∃ a1 t1, w.heap[nb]? = some (.cells a1 t1 (0, 0))) ∨ w.heap.size ≤ nb) {arr2 : Array Value} (hb2 : w'.heap[nb]? = some (.cells arr2 56 (0, 0))) (hl2 : l2.length * 8 ≤ arr2.size) (hcells : VReps w R ρ (tEntry.flat l2) (arr2.toList.take (l2.length * 8))) (hlc : l2.length ≤ cap) (hcap : cap * 8 ≤ arr2.size) :
    ∃ R' ρ', VRep w' R' ρ' (.orow tEntry 0) (.slice (some ⟨nb, 0, none⟩) l2.length cap) ∧ Rel R' ρ' [some (.row 56 tEntry l2)] w' ∧ FrmW 0 R ρ h0 w R' ρ' [some (.row 56 tEntry l2)] w' := by
  have hnR : ¬ R nb := by
    intro hR
    rcases hnb with ⟨⟨i, blk, M, hi, hn, hg⟩, _⟩ | h
    · exact hr.notLive hR ⟨i, blk, M, hi, hn, hg⟩
    · have := hr.ro nb hR; omega
  have hB : BRep w' R ρ nb ⟨arr2.size, l2.length, false⟩ (.row 56 tEntry l2) := cells_row ⟨arr2, hb2, rfl, by rw [tEntry.flat_len]; exact hl2, by
    rw [tEntry.flat_len]
    exact hcells.mono (fun k hk => hkeep k (hr.ro k hk) (fun e => hnR (e ▸ hk))) (fun _ h => h) (Nm.le_refl _)⟩ rfl
  refine ⟨R, nm0 nb ⟨arr2.size, l2.length, false⟩, .orow (N := ⟨arr2.size, l2.length, false⟩) rfl rfl hlc hcap, rel_nm0 (brep_row hB) (.inl ⟨rfl, hnR⟩) (fun c hc => Nat.lt_of_lt_of_le (hr.ro c hc) h4),
    ⟨h1, h2, h3, h4, fun _ h => h, fun c hc hnl => hkeep c hc (fun e => ?_), fun c hl => ?_, fun _ h => .inl h, hdr, fun i bn hi => absurd hi (Nat.not_lt_zero _)⟩⟩
  · subst e
    rcases hnb with ⟨h, _⟩ | h
    · exact hnl h
    · omega
  · rw [(lv_nm0 hl).1]
    rcases hnb with ⟨h, _⟩ | h
    · exact .inl h
    · exact .inr h
def growRenE : Go.Shelf.Ren := ⟨fun | 4 => 103 | n => n, fun | 22 => 31 | 25 => 56 | n => n, fun n => n⟩
theorem laysGrowE : Lays8.n4 Tryz.prog growRenE := {
  mixed := by kernel_rfl,
  f4 := ⟨ "slices.Grow[[]maquette/api.Entry,maquette/api.Entry]", by kernel_rfl, Tryz.func103.trans (congrArg some (by kernel_rfl))⟩,
  t0 := Tryz.underlying0, a0 := Tryz.isAgg0, z0 := Tryz.sizeOf0, v0 := Tryz.zeroValue0,
  t3 := Tryz.underlying3, a3 := Tryz.isAgg3, z3 := Tryz.sizeOf3, v3 := Tryz.zeroValue3,
  t4 := Tryz.underlying4, a4 := Tryz.isAgg4, z4 := Tryz.sizeOf4, v4 := Tryz.zeroValue4,
  t9 := Tryz.underlying9, a9 := Tryz.isAgg9, z9 := Tryz.sizeOf9, v9 := Tryz.zeroValue9,
  t20 := Tryz.underlying20, a20 := Tryz.isAgg20, z20 := Tryz.sizeOf20, v20 := Tryz.zeroValue20,
  t22 := Tryz.underlying31, a22 := Tryz.isAgg31, z22 := Tryz.sizeOf31, v22 := Tryz.zeroValue31 }
theorem ok_grE (n : Nat) (h0 : 0 < n) (hn : n ≤ 1000000) : AC CT.P 103 [.nils, .int .i64 n] [] (.ret (.orow tEntry 0)) [some (.row 56 tEntry [])] := by
  intro R ρ w vs hr hvs
  obtain ⟨u0, us, hu, k1, k2⟩ := hvs.cons_inv
  obtain ⟨u1, us1, rfl, k3, k4⟩ := k2.cons_inv
  obtain rfl := k4.nil_inv
  have hv : vs = #[u0, u1] := Array.toList_inj.1 (by simpa using hu)
  subst hv
  cases k1
  cases k3
  obtain ⟨i0, z, hi0, hz0, hs0, hb0, hzs⟩ : ∃ i0 z, Tryz.prog.info? 56 = some i0 ∧ i0.zero = some z ∧ i0.size = 8 ∧ i0.bytes = 80 ∧ z.cells.size = 8 := by
    have h : (Tryz.prog.info? 56).bind (fun i => i.zero.map fun z => (i.size, i.bytes, z.cells.size)) = some (8, 80, 8) := by kernel_rfl
    obtain ⟨i0, hi, h⟩ := Option.bind_eq_some_iff.1 h
    obtain ⟨z, hz, h⟩ := Option.map_eq_some_iff.1 h
    simp only [Prod.mk.injEq] at h
    exact ⟨i0, z, hi, hz, h.1, h.2.1, h.2.2⟩
  have hs := Any8.slices_Grow_grow laysGrowE i0 z hi0 hz0 (by omega) none 0 0 n [] w (Nat.le_refl _) (by omega) (by rw [hb0]; omega) (by omega) (by simp) (fun _ => rfl) (fun a h => by cases h)
  refine hs.mono ?_
  rintro e w' ⟨rfl, rfl⟩
  have hge := grownCap_ge w (0 + n) 0 56
  generalize hA : ([] : List Value).toArray ++ Builtin.zeroCells z.cells (0 + n - 0) ++ Builtin.zeroCells z.cells (grownCap w (0 + n) 0 (growRenE.t 25) - (0 + n)) = A
  have hsz : A.size = grownCap w (0 + n) 0 56 * 8 := by
    rw [← hA]
    simp only [Array.size_append, size_zeroCells, hzs, List.size_toArray, List.length_nil]
    show 0 + (0 + n - 0) * 8 + (grownCap w (0 + n) 0 56 - (0 + n)) * 8 = _
    omega
  have hh : (w.drew.alloc (.cells A (growRenE.t 25))).heap = w.heap.push (.cells A 56) := rfl
  obtain ⟨R', ρ', q1, q2, q3⟩ := row_backE (l := []) (v := []) (l2 := []) (h0 := []) (nb := w.heap.size) (cap := grownCap w (0 + n) 0 56)
    (w' := w.drew.alloc (.cells A (growRenE.t 25))) (N := ⟨0, 0, false⟩)
    (arr2 := A) hr rfl rfl rfl (by rw [hh, Array.size_push]; omega) (Nat.le_succ _) (fun k hk hne => by
      rw [hh, Array.getElem?_push, if_neg (Nat.ne_of_lt hk)]) (.inr (Nat.le_refl _)) (by rw [hh, Array.getElem?_push, if_pos rfl]) (Nat.zero_le _) (by
      show VReps w R ρ [] (A.toList.take 0)
      rw [List.take_zero]
      exact .nil) (Nat.zero_le _) (by rw [hsz]; exact Nat.le_refl _)
  exact ⟨R', ρ', _, ⟨rfl, q1⟩, q2, frm_of hr q3⟩
noncomputable def F_grE (a1 : Unit) (a2 : Ty.El I) : Option (List (Ty.El tEntry)) := bif decide ((0 : Int) < a2) && decide (a2 ≤ (1000000 : Int)) then some [] else F_grEz a1 a2
noncomputable def E_grE : Ent := .own 103 [] ⟨[.nil, .ty I], 56, tEntry, fun x => F_grE x.1 x.2.1⟩
theorem e_grE : E_grE.Ok CT.P := by
  intro x y hxy
  obtain ⟨u, (n : Int), x2⟩ := x
  have hxy : F_grE u n = some y := hxy
  unfold F_grE at hxy
  cases hb : decide ((0 : Int) < n) && decide (n ≤ (1000000 : Int)) with
  | false =>
    rw [hb] at hxy
    exact e_grEz (u, n, x2) y hxy
  | true =>
    rw [hb] at hxy
    have hy : y = [] := (Option.some.inj hxy).symm
    subst hy
    simp only [Bool.and_eq_true, decide_eq_true_eq] at hb
    obtain ⟨m, rfl⟩ := Int.eq_ofNat_of_zero_le (Int.le_of_lt hb.1)
    exact ok_grE m (by omega) (by omega)
end Go.DI.S
set_option linter.unusedVariables false
set_option maxRecDepth 100000
set_option maxHeartbeats 0
namespace Go.DI.S
open Go.Proofs
noncomputable def c_116 : Code := Tryz.f150.body.getD .skip
theorem hb_116 : Tryz.f150.body = some c_116 := by kernel_rfl
theorem hf_116 : CT.P.funcs[150]? = some Tryz.f150 := by kernel_rfl
noncomputable def T_116 : Tb := mkTb tyQ mpT [E_64]
theorem T_116_ok : T_116.Ok CT.P := mkTb_ok (⟨e_64, trivial⟩)
noncomputable def lp_116 {β : Type} : LpT β := fun _ _ _ => none
theorem lp_116_ok {β : Type} : LpTOk CT (lp_116 (β := β)) (loopsOf c_116) := by
  have h : loopsOf c_116 = [] := by kernel_rfl
  rw [h]
  exact LpTOk.nil
noncomputable def F_116 (a1 : Ty.El tEntry) : Option (Els [.bool]) := (F_64 a1).bind fun v2 => Option.some (!v2.fst, ())
theorem f_116 (x : Ps [.ty tEntry]) : funcT CT T_116 [.bool] (drT CT T_116) lp_116 Tryz.f150 c_116 (encPs [.ty tEntry] x) = F_116 x.1 := by kernel_rfl
noncomputable def E_116 : Ent := .fn 150 [] ⟨[.ty tEntry], [.bool], fun x => F_116 x.1, false⟩
theorem e_116 : E_116.Ok CT.P := Ent.ofFn CT_ok T_116_ok hf_116 hb_116 lp_116_ok f_116
noncomputable def c_134 : Code := Tryz.f190.body.getD .skip
theorem hb_134 : Tryz.f190.body = some c_134 := by kernel_rfl
theorem hf_134 : CT.P.funcs[190]? = some Tryz.f190 := by kernel_rfl
noncomputable def T_134 : Tb := mkTb tyQ mpT [E_116]
theorem T_134_ok : T_134.Ok CT.P := mkTb_ok (⟨e_116, trivial⟩)
noncomputable def l_134_2 : Code := atLoop c_134 2
noncomputable abbrev LD_134_2 : LayD := ⟨19, [(0, .data (.list tEntry)), (1, .clo 150 []), (7, .data I), (8, .data I)], [], fun _ => []⟩
noncomputable abbrev LA_134_2 : LayD := ⟨19, [], [], fun _ => []⟩
noncomputable abbrev LB_134_2 : LayD := ⟨19, [(4, .data I)], [], fun _ => []⟩
noncomputable def EX_134_2 : Exits 0 LA_134_2.El LB_134_2.El := ⟨.exit 0, LA_134_2.lay [], .ret, LB_134_2.lay []⟩
noncomputable def lpi_134_2 {β : Type} : LpT β := fun _ _ _ => none
theorem lpi_134_2_ok {β : Type} : LpTOk CT (lpi_134_2 (β := β)) (loopsOf l_134_2) := by
  have h : loopsOf l_134_2 = [] := by kernel_rfl
  rw [h]
  exact LpTOk.nil
noncomputable def G_134_2 (r0 : Ty.El (.list tEntry)) (r1 : Els []) (r7 : Ty.El I) (r8 : Ty.El I) : Option (LD_134_2.El ⊕ (LA_134_2.El ⊕ LB_134_2.El)) := bif Decidable.decide (r8 < r7) then bif Decidable.decide ((0 : Int) ≤ r8 ∧ r8 < (↑(List.length r0) : Int)) then (F_116 (List.getD r0 (Int.toNat r8) Go.DI.S.tEntry.dflt)).bind fun v2 => bif v2.fst then Option.some (Sum.inr (Sum.inr ((r8, ()), ()))) else Option.some (Sum.inl ((r0, (), r7, Go.IntKind.i64.wrap (r8 + (1 : Int)), ()), ())) else Option.none else Option.some (Sum.inr (Sum.inl ((), ())))
theorem g_134_2 (x : LD_134_2.El) : codeT CT T_134 (drT CT T_134) lpi_134_2 l_134_2 (LD_134_2.enc x) (bodyK (LD_134_2.lay []) EX_134_2) = G_134_2 x.1.1 x.1.2.1 x.1.2.2.1 x.1.2.2.2.1 := by kernel_rfl
noncomputable def R_134_2 : LD_134_2.El → Option (LA_134_2.El ⊕ LB_134_2.El) := roundsT (fun x => G_134_2 x.1.1 x.1.2.1 x.1.2.2.1 x.1.2.2.2.1) fuel
theorem r_134_2 : ∀ x y, R_134_2 x = some y → CL CT l_134_2 (LD_134_2.enc x) (Sum.elim (fun _ => EX_134_2.xa) (fun _ => EX_134_2.xb) y) (Sum.elim EX_134_2.la.enc EX_134_2.lb.enc y) :=
  rounds_ok (L := LD_134_2.lay []) (E := EX_134_2) CT_ok T_134_ok (drT_ok CT_ok T_134_ok) lpi_134_2_ok g_134_2 rfl rfl (fun v h => by have hh : (.exit 0 : AX) = .pan v := h; cases hh) (fun v h => by have hh : (.ret : AX) = .pan v := h; cases hh) fuel
noncomputable def lp_134 {β : Type} : LpT β := fun k s K => if Nat.beq k 2 then lpOne (LD_134_2.lay []) EX_134_2 R_134_2 s K else none
theorem lp_134_ok {β : Type} : LpTOk CT (lp_134 (β := β)) (loopsOf c_134) := by
  have h : loopsOf c_134 = [(2, l_134_2)] := by kernel_rfl
  rw [h]
  exact LpTOk.cons (fun s K z h => lpOne_ok r_134_2 h) (LpTOk.nil)
noncomputable def F_134 (a1 : Ty.El (.list tEntry)) (a2 : Els []) : Option (Els [I]) := (R_134_2 ((a1, (), (↑(List.length a1) : Int), (0 : Int), ()), ())).bind fun v1 => Sum.elim (fun v2 => Option.some ((-1 : Int), ())) (fun v3 => Option.some (v3.fst.fst, ())) v1
theorem f_134 (x : Ps [.ty (.list tEntry), .clo 150 []]) : funcT CT T_134 [I] (drT CT T_134) lp_134 Tryz.f190 c_134 (encPs [.ty (.list tEntry), .clo 150 []] x) = F_134 x.1 x.2.1 := by kernel_rfl
noncomputable def E_134 : Ent := .fn 190 [150] ⟨[.ty (.list tEntry), .clo 150 []], [I], fun x => F_134 x.1 x.2.1, false⟩
theorem e_134 : E_134.Ok CT.P := Ent.ofFn CT_ok T_134_ok hf_134 hb_134 lp_134_ok f_134
noncomputable def c_115 : Code := Tryz.f149.body.getD .skip
theorem hb_115 : Tryz.f149.body = some c_115 := by kernel_rfl
theorem hf_115 : CT.P.funcs[149]? = some Tryz.f149 := by kernel_rfl
noncomputable def T_115 : Tb := mkTb tyQ mpT [E_134]
theorem T_115_ok : T_115.Ok CT.P := mkTb_ok (⟨e_134, trivial⟩)
noncomputable def lp_115 {β : Type} : LpT β := fun _ _ _ => none
theorem lp_115_ok {β : Type} : LpTOk CT (lp_115 (β := β)) (loopsOf c_115) := by
  have h : loopsOf c_115 = [] := by kernel_rfl
  rw [h]
  exact LpTOk.nil
noncomputable def F_115 (a1 : Ty.El (.list tEntry)) (a2 : Els []) : Option (Els [.bool]) := (F_134 a1 ()).bind fun v2 => Option.some (Decidable.decide (v2.fst ≥ (0 : Int)), ())
theorem f_115 (x : Ps [.ty (.list tEntry), .clo 150 []]) : funcT CT T_115 [.bool] (drT CT T_115) lp_115 Tryz.f149 c_115 (encPs [.ty (.list tEntry), .clo 150 []] x) = F_115 x.1 x.2.1 := by kernel_rfl
noncomputable def E_115 : Ent := .fn 149 [150] ⟨[.ty (.list tEntry), .clo 150 []], [.bool], fun x => F_115 x.1 x.2.1, false⟩
theorem e_115 : E_115.Ok CT.P := Ent.ofFn CT_ok T_115_ok hf_115 hb_115 lp_115_ok f_115
noncomputable def c_72 : Code := Tryz.f100.body.getD .skip
theorem hb_72 : Tryz.f100.body = some c_72 := by kernel_rfl
theorem hf_72 : CT.P.funcs[100]? = some Tryz.f100 := by kernel_rfl
noncomputable def T_72 : Tb := mkTb tyQ mpT [E_115]
theorem T_72_ok : T_72.Ok CT.P := mkTb_ok (⟨e_115, trivial⟩)
noncomputable def lp_72 {β : Type} : LpT β := fun _ _ _ => none
theorem lp_72_ok {β : Type} : LpTOk CT (lp_72 (β := β)) (loopsOf c_72) := by
  have h : loopsOf c_72 = [] := by kernel_rfl
  rw [h]
  exact LpTOk.nil
noncomputable def F_72 (a1 : Ty.El (.list tEntry)) : Option (Els [.bool]) := bif Decidable.decide ((↑(List.length a1) : Int) ≤ (16 : Int)) then (F_115 a1 ()).bind fun v2 => Option.some (!v2.fst, ()) else Option.some (Bool.false, ())
theorem f_72 (x : Ps [.ty (.list tEntry)]) : funcT CT T_72 [.bool] (drT CT T_72) lp_72 Tryz.f100 c_72 (encPs [.ty (.list tEntry)] x) = F_72 x.1 := by kernel_rfl
noncomputable def E_72 : Ent := .fn 100 [] ⟨[.ty (.list tEntry)], [.bool], fun x => F_72 x.1, false⟩
theorem e_72 : E_72.Ok CT.P := Ent.ofFn CT_ok T_72_ok hf_72 hb_72 lp_72_ok f_72
noncomputable def c_35 : Code := Tryz.f52.body.getD .skip
theorem hb_35 : Tryz.f52.body = some c_35 := by kernel_rfl
theorem hf_35 : CT.P.funcs[52]? = some Tryz.f52 := by kernel_rfl
noncomputable def T_35 : Tb := mkTb tyQ mpT [E_72]
theorem T_35_ok : T_35.Ok CT.P := mkTb_ok (⟨e_72, trivial⟩)
noncomputable def lp_35 {β : Type} : LpT β := fun _ _ _ => none
theorem lp_35_ok {β : Type} : LpTOk CT (lp_35 (β := β)) (loopsOf c_35) := by
  have h : loopsOf c_35 = [] := by kernel_rfl
  rw [h]
  exact LpTOk.nil
noncomputable def F_35 (a1 : Ty.El tPast) : Option (Els [.bool]) := (F_72 a1.fst).bind fun v2 => bif v2.fst then (F_72 a1.snd).bind fun v4 => Option.some (v4.fst, ()) else Option.some (Bool.false, ())
theorem f_35 (x : Ps [.ty tPast]) : funcT CT T_35 [.bool] (drT CT T_35) lp_35 Tryz.f52 c_35 (encPs [.ty tPast] x) = F_35 x.1 := by kernel_rfl
noncomputable def E_35 : Ent := .fn 52 [] ⟨[.ty tPast], [.bool], fun x => F_35 x.1, false⟩
theorem e_35 : E_35.Ok CT.P := Ent.ofFn CT_ok T_35_ok hf_35 hb_35 lp_35_ok f_35
noncomputable def c_107 : Code := Tryz.f34.body.getD .skip
theorem hb_107 : Tryz.f34.body = some c_107 := by kernel_rfl
theorem hf_107 : CT.P.funcs[34]? = some Tryz.f34 := by kernel_rfl
noncomputable def T_107 : Tb := mkTb tyQ mpT [E_132]
theorem T_107_ok : T_107.Ok CT.P := mkTb_ok (⟨e_132, trivial⟩)
noncomputable def l_107_3 : Code := atLoop c_107 3
noncomputable abbrev LD_107_3 : LayD := ⟨22, [(3, .own tEntry 0), (6, .data (.list tEntry)), (7, .data I), (8, .data I)], [.row 56 tEntry], fun s => [slotR s 3]⟩
noncomputable abbrev LA_107_3 : LayD := ⟨22, [(3, .own tEntry 0)], [.row 56 tEntry], fun s => [slotR s 3]⟩
noncomputable abbrev LB_107_3 : LayD := ⟨22, [], [], fun _ => []⟩
noncomputable def EX_107_3 : Exits 0 LA_107_3.El LB_107_3.El := ⟨.exit 0, LA_107_3.lay [.nilReg 3 56 tEntry], .ret, LB_107_3.lay []⟩
noncomputable def lpi_107_3 {β : Type} : LpT β := fun _ _ _ => none
theorem lpi_107_3_ok {β : Type} : LpTOk CT (lpi_107_3 (β := β)) (loopsOf l_107_3) := by
  have h : loopsOf l_107_3 = [] := by kernel_rfl
  rw [h]
  exact LpTOk.nil
noncomputable def G_107_3 (r6 : Ty.El (.list tEntry)) (r7 : Ty.El I) (r8 : Ty.El I) (b0 : List (Ty.El tEntry)) : Option (LD_107_3.El ⊕ (LA_107_3.El ⊕ LB_107_3.El)) := bif Decidable.decide (r8 < r7) then bif Decidable.decide ((0 : Int) ≤ r8 ∧ r8 < (↑(List.length r6) : Int)) then (F_132 (List.getD r6 (Int.toNat r8) Go.DI.S.tEntry.dflt).fst).bind fun v2 => bif ((b0.length + [(v2.fst, (List.getD r6 (Int.toNat r8) Go.DI.S.tEntry.dflt).snd)].length) * (80 : Nat)).ble (70368744177664 : Nat) then Option.some (Sum.inl (((), r6, r7, Go.IntKind.i64.wrap (r8 + (1 : Int)), ()), b0 ++ [(v2.fst, (List.getD r6 (Int.toNat r8) Go.DI.S.tEntry.dflt).snd)], ())) else Option.none else Option.none else Option.some (Sum.inr (Sum.inl (((), ()), b0, ())))
theorem g_107_3 (x : LD_107_3.El) : codeT CT T_107 (drT CT T_107) lpi_107_3 l_107_3 (LD_107_3.enc x) (bodyK (LD_107_3.lay [.nilReg 3 56 tEntry]) EX_107_3) = G_107_3 x.1.2.1 x.1.2.2.1 x.1.2.2.2.1 x.2.1 := by kernel_rfl
noncomputable def R_107_3 : LD_107_3.El → Option (LA_107_3.El ⊕ LB_107_3.El) := roundsT (fun x => G_107_3 x.1.2.1 x.1.2.2.1 x.1.2.2.2.1 x.2.1) fuel
theorem r_107_3 : ∀ x y, R_107_3 x = some y → CL CT l_107_3 (LD_107_3.enc x) (Sum.elim (fun _ => EX_107_3.xa) (fun _ => EX_107_3.xb) y) (Sum.elim EX_107_3.la.enc EX_107_3.lb.enc y) :=
  rounds_ok (L := LD_107_3.lay [.nilReg 3 56 tEntry]) (E := EX_107_3) CT_ok T_107_ok (drT_ok CT_ok T_107_ok) lpi_107_3_ok g_107_3 rfl rfl (fun v h => by have hh : (.exit 0 : AX) = .pan v := h; cases hh) (fun v h => by have hh : (.ret : AX) = .pan v := h; cases hh) fuel
noncomputable def lp_107 {β : Type} : LpT β := fun k s K => if Nat.beq k 3 then lpOne (LD_107_3.lay [.nilReg 3 56 tEntry]) EX_107_3 R_107_3 s K else none
theorem lp_107_ok {β : Type} : LpTOk CT (lp_107 (β := β)) (loopsOf c_107) := by
  have h : loopsOf c_107 = [(3, l_107_3)] := by kernel_rfl
  rw [h]
  exact LpTOk.cons (fun s K z h => lpOne_ok r_107_3 h) (LpTOk.nil)
noncomputable def F_107 (a1 : Ty.El (.list tEntry)) : Option (Els [.list tEntry]) := (R_107_3 (((), a1, (↑(List.length a1) : Int), (0 : Int), ()), [], ())).bind fun v1 => Sum.elim (fun v2 => Option.some (v2.snd.fst, ())) (fun v3 => Option.none) v1
theorem f_107 (x : Ps [.ty (.list tEntry)]) : funcT CT T_107 [.list tEntry] (drT CT T_107) lp_107 Tryz.f34 c_107 (encPs [.ty (.list tEntry)] x) = F_107 x.1 := by kernel_rfl
noncomputable def E_107 : Ent := .fn 34 [] ⟨[.ty (.list tEntry)], [.list tEntry], fun x => F_107 x.1, false⟩
theorem e_107 : E_107.Ok CT.P := Ent.ofFn CT_ok T_107_ok hf_107 hb_107 lp_107_ok f_107
noncomputable def c_65 : Code := Tryz.f53.body.getD .skip
theorem hb_65 : Tryz.f53.body = some c_65 := by kernel_rfl
theorem hf_65 : CT.P.funcs[53]? = some Tryz.f53 := by kernel_rfl
noncomputable def T_65 : Tb := mkTb tyQ mpT [E_107, E_108]
theorem T_65_ok : T_65.Ok CT.P := mkTb_ok (⟨e_107, e_108, trivial⟩)
noncomputable def lp_65 {β : Type} : LpT β := fun _ _ _ => none
theorem lp_65_ok {β : Type} : LpTOk CT (lp_65 (β := β)) (loopsOf c_65) := by
  have h : loopsOf c_65 = [] := by kernel_rfl
  rw [h]
  exact LpTOk.nil
noncomputable def F_65 (a1 : Ty.El (.list tEntry)) (a2 : Ty.El tEntry) : Option (Els [.list tEntry]) := (F_108 a1).bind fun v2 => bif ((v2.length + [a2].length) * (80 : Nat)).ble (70368744177664 : Nat) then (F_107 (v2 ++ [a2])).bind fun v15 => bif Decidable.decide (((0 : Int) ≤ if (0 : Int) > Go.IntKind.i64.wrap ((↑(List.length v15.fst) : Int) - (16 : Int)) then (0 : Int) else Go.IntKind.i64.wrap ((↑(List.length v15.fst) : Int) - (16 : Int))) ∧ (if (0 : Int) > Go.IntKind.i64.wrap ((↑(List.length v15.fst) : Int) - (16 : Int)) then (0 : Int) else Go.IntKind.i64.wrap ((↑(List.length v15.fst) : Int) - (16 : Int))) ≤ (↑(List.length v15.fst) : Int)) then Option.some (List.take (List.length v15.fst - (if (0 : Int) > Go.IntKind.i64.wrap ((↑(List.length v15.fst) : Int) - (16 : Int)) then (0 : Int) else Go.IntKind.i64.wrap ((↑(List.length v15.fst) : Int) - (16 : Int))).toNat) (List.drop (if (0 : Int) > Go.IntKind.i64.wrap ((↑(List.length v15.fst) : Int) - (16 : Int)) then (0 : Int) else Go.IntKind.i64.wrap ((↑(List.length v15.fst) : Int) - (16 : Int))).toNat v15.fst), ()) else Option.none else Option.none
theorem f_65 (x : Ps [.ty (.list tEntry), .ty tEntry]) : funcT CT T_65 [.list tEntry] (drT CT T_65) lp_65 Tryz.f53 c_65 (encPs [.ty (.list tEntry), .ty tEntry] x) = F_65 x.1 x.2.1 := by kernel_rfl
noncomputable def E_65 : Ent := .fn 53 [] ⟨[.ty (.list tEntry), .ty tEntry], [.list tEntry], fun x => F_65 x.1 x.2.1, false⟩
theorem e_65 : E_65.Ok CT.P := Ent.ofFn CT_ok T_65_ok hf_65 hb_65 lp_65_ok f_65
noncomputable def c_31 : Code := Tryz.f17.body.getD .skip
theorem hb_31 : Tryz.f17.body = some c_31 := by kernel_rfl
theorem hf_31 : CT.P.funcs[17]? = some Tryz.f17 := by kernel_rfl
noncomputable def T_31 : Tb := mkTb tyQ mpT [E_35, E_64, E_65]
theorem T_31_ok : T_31.Ok CT.P := mkTb_ok (⟨e_35, e_64, e_65, trivial⟩)
noncomputable def lp_31 {β : Type} : LpT β := fun _ _ _ => none
theorem lp_31_ok {β : Type} : LpTOk CT (lp_31 (β := β)) (loopsOf c_31) := by
  have h : loopsOf c_31 = [] := by kernel_rfl
  rw [h]
  exact LpTOk.nil
noncomputable def F_31 (a1 : Ty.El tPast) (a2 : Ty.El tEntry) : Option (Els [tPast, .bool]) := (F_35 a1).bind fun v2 => bif !v2.fst then Option.some (a1, Bool.false, ()) else (F_64 a2).bind fun v4 => bif !v4.fst then Option.some (a1, Bool.false, ()) else (F_65 a1.fst a2).bind fun v6 => Option.some ((v6.fst, []), Bool.true, ())
theorem f_31 (x : Ps [.ty tPast, .ty tEntry]) : funcT CT T_31 [tPast, .bool] (drT CT T_31) lp_31 Tryz.f17 c_31 (encPs [.ty tPast, .ty tEntry] x) = F_31 x.1 x.2.1 := by kernel_rfl
noncomputable def E_31 : Ent := .fn 17 [] ⟨[.ty tPast, .ty tEntry], [tPast, .bool], fun x => F_31 x.1 x.2.1, false⟩
theorem e_31 : E_31.Ok CT.P := Ent.ofFn CT_ok T_31_ok hf_31 hb_31 lp_31_ok f_31
noncomputable def c_67 : Code := Tryz.f77.body.getD .skip
theorem hb_67 : Tryz.f77.body = some c_67 := by kernel_rfl
theorem hf_67 : CT.P.funcs[77]? = some Tryz.f77 := by kernel_rfl
noncomputable def T_67 : Tb := mkTb tyQ mpT [E_65, E_107]
theorem T_67_ok : T_67.Ok CT.P := mkTb_ok (⟨e_65, e_107, trivial⟩)
noncomputable def lp_67 {β : Type} : LpT β := fun _ _ _ => none
theorem lp_67_ok {β : Type} : LpTOk CT (lp_67 (β := β)) (loopsOf c_67) := by
  have h : loopsOf c_67 = [] := by kernel_rfl
  rw [h]
  exact LpTOk.nil
noncomputable def F_67 (a1 : Ty.El (.list tEntry)) (a2 : Ty.El (.list tEntry)) : Option (Els [.list tEntry, .list tEntry]) := bif Decidable.decide ((0 : Int) ≤ Go.IntKind.i64.wrap ((↑(List.length a1) : Int) - (1 : Int)) ∧ Go.IntKind.i64.wrap ((↑(List.length a1) : Int) - (1 : Int)) ≤ (↑(List.length a1) : Int)) then (F_107 (List.take ((Go.IntKind.i64.wrap ((↑(List.length a1) : Int) - (1 : Int))).toNat - (0 : Nat)) (List.drop (0 : Nat) a1))).bind fun v2 => bif Decidable.decide ((0 : Int) ≤ Go.IntKind.i64.wrap ((↑(List.length a1) : Int) - (1 : Int)) ∧ Go.IntKind.i64.wrap ((↑(List.length a1) : Int) - (1 : Int)) < (↑(List.length a1) : Int)) then (F_65 a2 (List.getD a1 (Go.IntKind.i64.wrap ((↑(List.length a1) : Int) - (1 : Int))).toNat Go.DI.S.tEntry.dflt)).bind fun v4 => Option.some (v2.fst, v4.fst, ()) else Option.none else Option.none
theorem f_67 (x : Ps [.ty (.list tEntry), .ty (.list tEntry)]) : funcT CT T_67 [.list tEntry, .list tEntry] (drT CT T_67) lp_67 Tryz.f77 c_67 (encPs [.ty (.list tEntry), .ty (.list tEntry)] x) = F_67 x.1 x.2.1 := by kernel_rfl
noncomputable def E_67 : Ent := .fn 77 [] ⟨[.ty (.list tEntry), .ty (.list tEntry)], [.list tEntry, .list tEntry], fun x => F_67 x.1 x.2.1, false⟩
theorem e_67 : E_67.Ok CT.P := Ent.ofFn CT_ok T_67_ok hf_67 hb_67 lp_67_ok f_67
noncomputable def c_32 : Code := Tryz.f30.body.getD .skip
theorem hb_32 : Tryz.f30.body = some c_32 := by kernel_rfl
theorem hf_32 : CT.P.funcs[30]? = some Tryz.f30 := by kernel_rfl
noncomputable def T_32 : Tb := mkTb tyQ mpT [E_20, E_35, E_66, E_67]
theorem T_32_ok : T_32.Ok CT.P := mkTb_ok (⟨e_20, e_35, e_66, e_67, trivial⟩)
noncomputable def lp_32 {β : Type} : LpT β := fun _ _ _ => none
theorem lp_32_ok {β : Type} : LpTOk CT (lp_32 (β := β)) (loopsOf c_32) := by
  have h : loopsOf c_32 = [] := by kernel_rfl
  rw [h]
  exact LpTOk.nil
noncomputable def F_32 (a1 : Ty.El tPast) (a2 : Ty.El tScene) : Option (Els [tPast, tScene, I]) := (F_35 a1).bind fun v2 => bif !v2.fst then Option.some (a1, a2, (9 : Int), ()) else (F_20 a2).bind fun v4 => bif !v4.fst then Option.some (a1, a2, (9 : Int), ()) else bif (↑(List.length a1.fst) : Int) == (0 : Int) then Option.some (a1, a2, (13 : Int), ()) else bif Decidable.decide ((0 : Int) ≤ Go.IntKind.i64.wrap ((↑(List.length a1.fst) : Int) - (1 : Int)) ∧ Go.IntKind.i64.wrap ((↑(List.length a1.fst) : Int) - (1 : Int)) < (↑(List.length a1.fst) : Int)) then (F_66 a2 (List.getD a1.fst (Go.IntKind.i64.wrap ((↑(List.length a1.fst) : Int) - (1 : Int))).toNat Go.DI.S.tEntry.dflt)).bind fun v6 => bif v6.snd.fst != (0 : Int) then Option.some (a1, a2, v6.snd.fst, ()) else (F_67 a1.fst a1.snd).bind fun v8 => Option.some ((v8.fst, v8.snd.fst), v6.fst, (0 : Int), ()) else Option.none
theorem f_32 (x : Ps [.ty tPast, .ty tScene]) : funcT CT T_32 [tPast, tScene, I] (drT CT T_32) lp_32 Tryz.f30 c_32 (encPs [.ty tPast, .ty tScene] x) = F_32 x.1 x.2.1 := by kernel_rfl
noncomputable def E_32 : Ent := .fn 30 [] ⟨[.ty tPast, .ty tScene], [tPast, tScene, I], fun x => F_32 x.1 x.2.1, false⟩
theorem e_32 : E_32.Ok CT.P := Ent.ofFn CT_ok T_32_ok hf_32 hb_32 lp_32_ok f_32
noncomputable def c_69 : Code := Tryz.f54.body.getD .skip
theorem hb_69 : Tryz.f54.body = some c_69 := by kernel_rfl
theorem hf_69 : CT.P.funcs[54]? = some Tryz.f54 := by kernel_rfl
noncomputable def T_69 : Tb := mkTb tyQ mpT []
theorem T_69_ok : T_69.Ok CT.P := mkTb_ok (trivial)
noncomputable def l_69_3 : Code := atLoop c_69 3
noncomputable abbrev LD_69_3 : LayD := ⟨22, [(0, .data I), (1, .data I), (5, .own (.int .u8) 0)], [.row 5 (.int .u8)], fun s => [slotR s 5]⟩
noncomputable abbrev LA_69_3 : LayD := ⟨22, [(5, .own (.int .u8) 0)], [.row 5 (.int .u8)], fun s => [slotR s 5]⟩
noncomputable abbrev LB_69_3 : LayD := ⟨22, [], [], fun _ => []⟩
noncomputable def EX_69_3 : Exits 0 LA_69_3.El LB_69_3.El := ⟨.exit 0, LA_69_3.lay [.nilReg 5 5 (.int .u8)], .ret, LB_69_3.lay []⟩
noncomputable def lpi_69_3 {β : Type} : LpT β := fun _ _ _ => none
theorem lpi_69_3_ok {β : Type} : LpTOk CT (lpi_69_3 (β := β)) (loopsOf l_69_3) := by
  have h : loopsOf l_69_3 = [] := by kernel_rfl
  rw [h]
  exact LpTOk.nil
noncomputable def G_69_3 (r0 : Ty.El I) (r1 : Ty.El I) (b0 : List (Ty.El (.int .u8))) : Option (LD_69_3.El ⊕ (LA_69_3.El ⊕ LB_69_3.El)) := bif Decidable.decide (r1 ≥ (0 : Int)) then bif Decidable.decide (Go.IntKind.i64.wrap ((8 : Int) * r1) < (0 : Int)) then Option.none else bif ((b0.length + [Go.IntKind.u8.wrap (Int.fdiv r0 ((2 : Int) ^ Min.min (Go.IntKind.i64.wrap ((8 : Int) * r1)).toNat (64 : Nat)))].length) * (1 : Nat)).ble (70368744177664 : Nat) then Option.some (Sum.inl ((r0, Go.IntKind.i64.wrap (r1 - (1 : Int)), (), ()), b0 ++ [Go.IntKind.u8.wrap (Int.fdiv r0 ((2 : Int) ^ Min.min (Go.IntKind.i64.wrap ((8 : Int) * r1)).toNat (64 : Nat)))], ())) else Option.none else Option.some (Sum.inr (Sum.inl (((), ()), b0, ())))
theorem g_69_3 (x : LD_69_3.El) : codeT CT T_69 (drT CT T_69) lpi_69_3 l_69_3 (LD_69_3.enc x) (bodyK (LD_69_3.lay [.nilReg 5 5 (.int .u8)]) EX_69_3) = G_69_3 x.1.1 x.1.2.1 x.2.1 := by kernel_rfl
noncomputable def R_69_3 : LD_69_3.El → Option (LA_69_3.El ⊕ LB_69_3.El) := roundsT (fun x => G_69_3 x.1.1 x.1.2.1 x.2.1) fuel
theorem r_69_3 : ∀ x y, R_69_3 x = some y → CL CT l_69_3 (LD_69_3.enc x) (Sum.elim (fun _ => EX_69_3.xa) (fun _ => EX_69_3.xb) y) (Sum.elim EX_69_3.la.enc EX_69_3.lb.enc y) :=
  rounds_ok (L := LD_69_3.lay [.nilReg 5 5 (.int .u8)]) (E := EX_69_3) CT_ok T_69_ok (drT_ok CT_ok T_69_ok) lpi_69_3_ok g_69_3 rfl rfl (fun v h => by have hh : (.exit 0 : AX) = .pan v := h; cases hh) (fun v h => by have hh : (.ret : AX) = .pan v := h; cases hh) fuel
noncomputable def lp_69 {β : Type} : LpT β := fun k s K => if Nat.beq k 3 then lpOne (LD_69_3.lay [.nilReg 5 5 (.int .u8)]) EX_69_3 R_69_3 s K else none
theorem lp_69_ok {β : Type} : LpTOk CT (lp_69 (β := β)) (loopsOf c_69) := by
  have h : loopsOf c_69 = [(3, l_69_3)] := by kernel_rfl
  rw [h]
  exact LpTOk.cons (fun s K z h => lpOne_ok r_69_3 h) (LpTOk.nil)
noncomputable def F_69 (a1 : Ty.El I) (a2 : Ty.El I) : Option (Els [.str]) := (R_69_3 ((a1, Go.IntKind.i64.wrap (a2 - (1 : Int)), (), ()), [], ())).bind fun v1 => Sum.elim (fun v2 => Option.some (List.map (fun v3 => UInt8.ofNat (Int.toNat v3)) v2.snd.fst, ())) (fun v4 => Option.none) v1
theorem f_69 (x : Ps [.ty I, .ty I]) : funcT CT T_69 [.str] (drT CT T_69) lp_69 Tryz.f54 c_69 (encPs [.ty I, .ty I] x) = F_69 x.1 x.2.1 := by kernel_rfl
noncomputable def E_69 : Ent := .fn 54 [] ⟨[.ty I, .ty I], [.str], fun x => F_69 x.1 x.2.1, false⟩
theorem e_69 : E_69.Ok CT.P := Ent.ofFn CT_ok T_69_ok hf_69 hb_69 lp_69_ok f_69
noncomputable def c_113 : Code := Tryz.f103.body.getD .skip
theorem hb_113 : Tryz.f103.body = some c_113 := by kernel_rfl
theorem hf_113 : CT.P.funcs[103]? = some Tryz.f103 := by kernel_rfl
noncomputable def T_113 : Tb := mkTb tyQ mpT []
theorem T_113_ok : T_113.Ok CT.P := mkTb_ok (trivial)
noncomputable def lp_113 {β : Type} : LpT β := fun _ _ _ => none
theorem lp_113_ok {β : Type} : LpTOk CT (lp_113 (β := β)) (loopsOf c_113) := by
  have h : loopsOf c_113 = [] := by kernel_rfl
  rw [h]
  exact LpTOk.nil
noncomputable def F_113 (a1 : Unit) (a2 : Ty.El I) : Option (List (Ty.El tEntry)) := bif Decidable.decide (a2 < (0 : Int)) then Option.none else bif Decidable.decide (Go.IntKind.i64.wrap (a2 - (0 : Int)) > (0 : Int)) then Option.none else Option.some []
theorem f_113 (x : Ps [.nil, .ty I]) : funcO CT T_113 56 tEntry (drT CT T_113) lp_113 Tryz.f103 c_113 (encPs [.nil, .ty I] x) = F_113 x.1 x.2.1 := by kernel_rfl
noncomputable def E_113 : Ent := .own 103 [] ⟨[.nil, .ty I], 56, tEntry, fun x => F_113 x.1 x.2.1⟩
theorem e_113 : E_113.Ok CT.P := Ent.ofOwn CT_ok T_113_ok hf_113 hb_113 lp_113_ok f_113
noncomputable def c_70 : Code := Tryz.f56.body.getD .skip
theorem hb_70 : Tryz.f56.body = some c_70 := by kernel_rfl
theorem hf_70 : CT.P.funcs[56]? = some Tryz.f56 := by kernel_rfl
noncomputable def T_70 : Tb := mkTb tyQ mpT [E_113]
theorem T_70_ok : T_70.Ok CT.P := mkTb_ok (⟨e_113, trivial⟩)
noncomputable def l_70_11 : Code := atLoop c_70 11
noncomputable def l_70_3 : Code := atLoop c_70 3
noncomputable abbrev LD_70_3 : LayD := ⟨36, [(0, .data (.list (.list tEntry))), (3, .data I), (9, .data (.list (.list tEntry))), (10, .data I), (11, .data I)], [], fun _ => []⟩
noncomputable abbrev LA_70_3 : LayD := ⟨36, [(0, .data (.list (.list tEntry))), (3, .data I)], [], fun _ => []⟩
noncomputable abbrev LB_70_3 : LayD := ⟨36, [], [], fun _ => []⟩
noncomputable def EX_70_3 : Exits 0 LA_70_3.El LB_70_3.El := ⟨.exit 0, LA_70_3.lay [], .ret, LB_70_3.lay []⟩
noncomputable def lpi_70_3 {β : Type} : LpT β := fun _ _ _ => none
theorem lpi_70_3_ok {β : Type} : LpTOk CT (lpi_70_3 (β := β)) (loopsOf l_70_3) := by
  have h : loopsOf l_70_3 = [] := by kernel_rfl
  rw [h]
  exact LpTOk.nil
noncomputable def G_70_3 (r0 : Ty.El (.list (.list tEntry))) (r3 : Ty.El I) (r9 : Ty.El (.list (.list tEntry))) (r10 : Ty.El I) (r11 : Ty.El I) : Option (LD_70_3.El ⊕ (LA_70_3.El ⊕ LB_70_3.El)) := bif Decidable.decide (r11 < r10) then bif Decidable.decide ((0 : Int) ≤ r11 ∧ r11 < (↑(List.length r9) : Int)) then bif Decidable.decide (Go.IntKind.i64.wrap (r3 + (↑(List.length (List.getD r9 (Int.toNat r11) Go.DI.S.tEntry.list.dflt)) : Int)) < (0 : Int)) then Option.none else Option.some (Sum.inl ((r0, Go.IntKind.i64.wrap (r3 + (↑(List.length (List.getD r9 (Int.toNat r11) Go.DI.S.tEntry.list.dflt)) : Int)), r9, r10, Go.IntKind.i64.wrap (r11 + (1 : Int)), ()), ())) else Option.none else Option.some (Sum.inr (Sum.inl ((r0, r3, ()), ())))
theorem g_70_3 (x : LD_70_3.El) : codeT CT T_70 (drT CT T_70) lpi_70_3 l_70_3 (LD_70_3.enc x) (bodyK (LD_70_3.lay []) EX_70_3) = G_70_3 x.1.1 x.1.2.1 x.1.2.2.1 x.1.2.2.2.1 x.1.2.2.2.2.1 := by kernel_rfl
noncomputable def R_70_3 : LD_70_3.El → Option (LA_70_3.El ⊕ LB_70_3.El) := roundsT (fun x => G_70_3 x.1.1 x.1.2.1 x.1.2.2.1 x.1.2.2.2.1 x.1.2.2.2.2.1) fuel
theorem r_70_3 : ∀ x y, R_70_3 x = some y → CL CT l_70_3 (LD_70_3.enc x) (Sum.elim (fun _ => EX_70_3.xa) (fun _ => EX_70_3.xb) y) (Sum.elim EX_70_3.la.enc EX_70_3.lb.enc y) :=
  rounds_ok (L := LD_70_3.lay []) (E := EX_70_3) CT_ok T_70_ok (drT_ok CT_ok T_70_ok) lpi_70_3_ok g_70_3 rfl rfl (fun v h => by have hh : (.exit 0 : AX) = .pan v := h; cases hh) (fun v h => by have hh : (.ret : AX) = .pan v := h; cases hh) fuel
noncomputable abbrev LD_70_11 : LayD := ⟨36, [(6, .own tEntry 0), (25, .data (.list (.list tEntry))), (26, .data I), (27, .data I)], [.row 56 tEntry], fun s => [slotR s 6]⟩
noncomputable abbrev LA_70_11 : LayD := ⟨36, [(6, .own tEntry 0)], [.row 56 tEntry], fun s => [slotR s 6]⟩
noncomputable abbrev LB_70_11 : LayD := ⟨36, [], [], fun _ => []⟩
noncomputable def EX_70_11 : Exits 0 LA_70_11.El LB_70_11.El := ⟨.exit 2, LA_70_11.lay [], .ret, LB_70_11.lay []⟩
noncomputable def lpi_70_11 {β : Type} : LpT β := fun _ _ _ => none
theorem lpi_70_11_ok {β : Type} : LpTOk CT (lpi_70_11 (β := β)) (loopsOf l_70_11) := by
  have h : loopsOf l_70_11 = [] := by kernel_rfl
  rw [h]
  exact LpTOk.nil
noncomputable def G_70_11 (r25 : Ty.El (.list (.list tEntry))) (r26 : Ty.El I) (r27 : Ty.El I) (b0 : List (Ty.El tEntry)) : Option (LD_70_11.El ⊕ (LA_70_11.El ⊕ LB_70_11.El)) := bif Decidable.decide (r27 < r26) then bif Decidable.decide ((0 : Int) ≤ r27 ∧ r27 < (↑(List.length r25) : Int)) then bif ((b0.length + List.length (List.getD r25 (Int.toNat r27) Go.DI.S.tEntry.list.dflt)) * (80 : Nat)).ble (70368744177664 : Nat) then Option.some (Sum.inl (((), r25, r26, Go.IntKind.i64.wrap (r27 + (1 : Int)), ()), b0 ++ List.getD r25 (Int.toNat r27) Go.DI.S.tEntry.list.dflt, ())) else Option.none else Option.none else Option.some (Sum.inr (Sum.inl (((), ()), b0, ())))
theorem g_70_11 (x : LD_70_11.El) : codeT CT T_70 (drT CT T_70) lpi_70_11 l_70_11 (LD_70_11.enc x) (bodyK (LD_70_11.lay []) EX_70_11) = G_70_11 x.1.2.1 x.1.2.2.1 x.1.2.2.2.1 x.2.1 := by kernel_rfl
noncomputable def R_70_11 : LD_70_11.El → Option (LA_70_11.El ⊕ LB_70_11.El) := roundsT (fun x => G_70_11 x.1.2.1 x.1.2.2.1 x.1.2.2.2.1 x.2.1) fuel
theorem r_70_11 : ∀ x y, R_70_11 x = some y → CL CT l_70_11 (LD_70_11.enc x) (Sum.elim (fun _ => EX_70_11.xa) (fun _ => EX_70_11.xb) y) (Sum.elim EX_70_11.la.enc EX_70_11.lb.enc y) :=
  rounds_ok (L := LD_70_11.lay []) (E := EX_70_11) CT_ok T_70_ok (drT_ok CT_ok T_70_ok) lpi_70_11_ok g_70_11 rfl rfl (fun v h => by have hh : (.exit 2 : AX) = .pan v := h; cases hh) (fun v h => by have hh : (.ret : AX) = .pan v := h; cases hh) fuel
noncomputable def lp_70 {β : Type} : LpT β := fun k s K => if Nat.beq k 3 then lpOne (LD_70_3.lay []) EX_70_3 R_70_3 s K else if Nat.beq k 11 then lpOne (LD_70_11.lay []) EX_70_11 R_70_11 s K else none
theorem lp_70_ok {β : Type} : LpTOk CT (lp_70 (β := β)) (loopsOf c_70) := by
  have h : loopsOf c_70 = [(3, l_70_3), (11, l_70_11)] := by kernel_rfl
  rw [h]
  exact LpTOk.cons (fun s K z h => lpOne_ok r_70_3 h) (LpTOk.cons (fun s K z h => lpOne_ok r_70_11 h) (LpTOk.nil))
noncomputable def F_70 (a1 : Ty.El (.list (.list tEntry))) : Option (Els [.list tEntry]) := (R_70_3 ((a1, (0 : Int), a1, (↑(List.length a1) : Int), (0 : Int), ()), ())).bind fun v1 => Sum.elim (fun v2 => (F_113 () v2.fst.snd.fst).bind fun v4 => (R_70_11 (((), v2.fst.fst, (↑(List.length v2.fst.fst) : Int), (0 : Int), ()), v4, ())).bind fun v5 => Sum.elim (fun v6 => Option.some (v6.snd.fst, ())) (fun v7 => Option.none) v5) (fun v8 => Option.none) v1
theorem f_70 (x : Ps [.ty (.list (.list tEntry))]) : funcT CT T_70 [.list tEntry] (drT CT T_70) lp_70 Tryz.f56 c_70 (encPs [.ty (.list (.list tEntry))] x) = F_70 x.1 := by kernel_rfl
noncomputable def E_70 : Ent := .fn 56 [] ⟨[.ty (.list (.list tEntry))], [.list tEntry], fun x => F_70 x.1, false⟩
theorem e_70 : E_70.Ok CT.P := Ent.ofFn CT_ok T_70_ok hf_70 hb_70 lp_70_ok f_70
noncomputable def c_34 : Code := Tryz.f18.body.getD .skip
theorem hb_34 : Tryz.f18.body = some c_34 := by kernel_rfl
theorem hf_34 : CT.P.funcs[18]? = some Tryz.f18 := by kernel_rfl
noncomputable def T_34 : Tb := mkTb tyQ mpT [E_20, E_35, E_69, E_70]
theorem T_34_ok : T_34.Ok CT.P := mkTb_ok (⟨e_20, e_35, e_69, e_70, trivial⟩)
noncomputable def l_34_13 : Code := atLoop c_34 13
noncomputable def l_34_6 : Code := atLoop c_34 6
noncomputable def l_34_16 : Code := atLoop l_34_13 16
noncomputable abbrev LD_34_16 : LayD := ⟨116, [(7, .data (.list tRec)), (12, .data I), (15, .data .str), (79, .data (.list tEntry)), (80, .data I), (81, .data I)], [], fun _ => []⟩
noncomputable abbrev LA_34_16 : LayD := ⟨116, [(7, .data (.list tRec)), (12, .data I), (79, .data (.list tEntry)), (80, .data I), (81, .data I)], [], fun _ => []⟩
noncomputable abbrev LB_34_16 : LayD := ⟨116, [], [], fun _ => []⟩
noncomputable def EX_34_16 : Exits 0 LA_34_16.El LB_34_16.El := ⟨.exit 4, LA_34_16.lay [], .ret, LB_34_16.lay []⟩
noncomputable def lpi_34_16 {β : Type} : LpT β := fun _ _ _ => none
theorem lpi_34_16_ok {β : Type} : LpTOk CT (lpi_34_16 (β := β)) (loopsOf l_34_16) := by
  have h : loopsOf l_34_16 = [] := by kernel_rfl
  rw [h]
  exact LpTOk.nil
noncomputable def G_34_16 (r7 : Ty.El (.list tRec)) (r12 : Ty.El I) (r15 : Ty.El .str) (r79 : Ty.El (.list tEntry)) (r80 : Ty.El I) (r81 : Ty.El I) : Option (LD_34_16.El ⊕ (LA_34_16.El ⊕ LB_34_16.El)) := bif !r15 == [] then bif (if (899 : Int) < (↑(List.length r15) : Int) then (899 : Int) else (↑(List.length r15) : Int)) == (↑(List.length r15) : Int) then bif Decidable.decide (((0 : Int) ≤ if (899 : Int) < (↑(List.length r15) : Int) then (899 : Int) else (↑(List.length r15) : Int)) ∧ (if (899 : Int) < (↑(List.length r15) : Int) then (899 : Int) else (↑(List.length r15) : Int)) ≤ (↑(List.length r15) : Int)) then bif Decidable.decide ((1 : Nat) + (List.take ((if (899 : Int) < (↑(List.length r15) : Int) then (899 : Int) else (↑(List.length r15) : Int)).toNat - (0 : Nat)) (List.drop (0 : Nat) r15)).length ≤ (4611686018427387904 : Nat)) then Option.none else Option.none else Option.none else bif Decidable.decide (((0 : Int) ≤ if (899 : Int) < (↑(List.length r15) : Int) then (899 : Int) else (↑(List.length r15) : Int)) ∧ (if (899 : Int) < (↑(List.length r15) : Int) then (899 : Int) else (↑(List.length r15) : Int)) ≤ (↑(List.length r15) : Int)) then bif Decidable.decide ((1 : Nat) + (List.take ((if (899 : Int) < (↑(List.length r15) : Int) then (899 : Int) else (↑(List.length r15) : Int)).toNat - (0 : Nat)) (List.drop (0 : Nat) r15)).length ≤ (4611686018427387904 : Nat)) then Option.none else Option.none else Option.none else Option.some (Sum.inr (Sum.inl ((r7, r12, r79, r80, r81, ()), ())))
theorem g_34_16 (x : LD_34_16.El) : codeT CT T_34 (drT CT T_34) lpi_34_16 l_34_16 (LD_34_16.enc x) (bodyK (LD_34_16.lay []) EX_34_16) = G_34_16 x.1.1 x.1.2.1 x.1.2.2.1 x.1.2.2.2.1 x.1.2.2.2.2.1 x.1.2.2.2.2.2.1 := by kernel_rfl
noncomputable def R_34_16 : LD_34_16.El → Option (LA_34_16.El ⊕ LB_34_16.El) := roundsT (fun x => G_34_16 x.1.1 x.1.2.1 x.1.2.2.1 x.1.2.2.2.1 x.1.2.2.2.2.1 x.1.2.2.2.2.2.1) fuel
theorem r_34_16 : ∀ x y, R_34_16 x = some y → CL CT l_34_16 (LD_34_16.enc x) (Sum.elim (fun _ => EX_34_16.xa) (fun _ => EX_34_16.xb) y) (Sum.elim EX_34_16.la.enc EX_34_16.lb.enc y) :=
  rounds_ok (L := LD_34_16.lay []) (E := EX_34_16) CT_ok T_34_ok (drT_ok CT_ok T_34_ok) lpi_34_16_ok g_34_16 rfl rfl (fun v h => by have hh : (.exit 4 : AX) = .pan v := h; cases hh) (fun v h => by have hh : (.ret : AX) = .pan v := h; cases hh) fuel
noncomputable abbrev LD_34_6 : LayD := ⟨116, [(3, .ptr 0), (7, .data (.list tRec)), (55, .data (.list tThing)), (56, .data I), (57, .data I)], [.var 33 [.data tPast]], fun s => [slotR s 3]⟩
noncomputable abbrev LA_34_6 : LayD := ⟨116, [(3, .ptr 0), (7, .data (.list tRec))], [.var 33 [.data tPast]], fun s => [slotR s 3]⟩
noncomputable abbrev LB_34_6 : LayD := ⟨116, [], [], fun _ => []⟩
noncomputable def EX_34_6 : Exits 0 LA_34_6.El LB_34_6.El := ⟨.exit 0, LA_34_6.lay [.frzReg 7 (.list tRec)], .ret, LB_34_6.lay []⟩
noncomputable def lpi_34_6 {β : Type} : LpT β := fun _ _ _ => none
theorem lpi_34_6_ok {β : Type} : LpTOk CT (lpi_34_6 (β := β)) (loopsOf l_34_6) := by
  have h : loopsOf l_34_6 = [] := by kernel_rfl
  rw [h]
  exact LpTOk.nil
noncomputable def G_34_6 (r7 : Ty.El (.list tRec)) (r55 : Ty.El (.list tThing)) (r56 : Ty.El I) (r57 : Ty.El I) (b0 : Ty.El tPast × Unit) : Option (LD_34_6.El ⊕ (LA_34_6.El ⊕ LB_34_6.El)) := bif Decidable.decide (r57 < r56) then bif Decidable.decide ((0 : Int) ≤ r57 ∧ r57 < (↑(List.length r55) : Int)) then Option.none else Option.none else Option.some (Sum.inr (Sum.inl (((), r7, ()), (b0.fst, ()), ())))
theorem g_34_6 (x : LD_34_6.El) : codeT CT T_34 (drT CT T_34) lpi_34_6 l_34_6 (LD_34_6.enc x) (bodyK (LD_34_6.lay [.frzReg 7 (.list tRec)]) EX_34_6) = G_34_6 x.1.2.1 x.1.2.2.1 x.1.2.2.2.1 x.1.2.2.2.2.1 x.2.1 := by kernel_rfl
noncomputable def R_34_6 : LD_34_6.El → Option (LA_34_6.El ⊕ LB_34_6.El) := roundsT (fun x => G_34_6 x.1.2.1 x.1.2.2.1 x.1.2.2.2.1 x.1.2.2.2.2.1 x.2.1) fuel
theorem r_34_6 : ∀ x y, R_34_6 x = some y → CL CT l_34_6 (LD_34_6.enc x) (Sum.elim (fun _ => EX_34_6.xa) (fun _ => EX_34_6.xb) y) (Sum.elim EX_34_6.la.enc EX_34_6.lb.enc y) :=
  rounds_ok (L := LD_34_6.lay [.frzReg 7 (.list tRec)]) (E := EX_34_6) CT_ok T_34_ok (drT_ok CT_ok T_34_ok) lpi_34_6_ok g_34_6 rfl rfl (fun v h => by have hh : (.exit 0 : AX) = .pan v := h; cases hh) (fun v h => by have hh : (.ret : AX) = .pan v := h; cases hh) fuel
noncomputable abbrev LD_34_13 : LayD := ⟨116, [(7, .data (.list tRec)), (12, .data I), (79, .data (.list tEntry)), (80, .data I), (81, .data I)], [], fun _ => []⟩
noncomputable abbrev LA_34_13 : LayD := ⟨116, [(7, .data (.list tRec))], [], fun _ => []⟩
noncomputable abbrev LB_34_13 : LayD := ⟨116, [], [], fun _ => []⟩
noncomputable def EX_34_13 : Exits 0 LA_34_13.El LB_34_13.El := ⟨.exit 2, LA_34_13.lay [], .ret, LB_34_13.lay []⟩
noncomputable def lpi_34_13 {β : Type} : LpT β := fun k s K => if Nat.beq k 16 then lpOne (LD_34_16.lay []) EX_34_16 R_34_16 s K else none
theorem lpi_34_13_ok {β : Type} : LpTOk CT (lpi_34_13 (β := β)) (loopsOf l_34_13) := by
  have h : loopsOf l_34_13 = [(16, l_34_16)] := by kernel_rfl
  rw [h]
  exact LpTOk.cons (fun s K z h => lpOne_ok r_34_16 h) (LpTOk.nil)
noncomputable def G_34_13 (r7 : Ty.El (.list tRec)) (r12 : Ty.El I) (r79 : Ty.El (.list tEntry)) (r80 : Ty.El I) (r81 : Ty.El I) : Option (LD_34_13.El ⊕ (LA_34_13.El ⊕ LB_34_13.El)) := bif Decidable.decide (r81 < r80) then bif Decidable.decide ((0 : Int) ≤ r81 ∧ r81 < (↑(List.length r79) : Int)) then Option.none else Option.none else Option.some (Sum.inr (Sum.inl ((r7, ()), ())))
theorem g_34_13 (x : LD_34_13.El) : codeT CT T_34 (drT CT T_34) lpi_34_13 l_34_13 (LD_34_13.enc x) (bodyK (LD_34_13.lay []) EX_34_13) = G_34_13 x.1.1 x.1.2.1 x.1.2.2.1 x.1.2.2.2.1 x.1.2.2.2.2.1 := by kernel_rfl
noncomputable def R_34_13 : LD_34_13.El → Option (LA_34_13.El ⊕ LB_34_13.El) := roundsT (fun x => G_34_13 x.1.1 x.1.2.1 x.1.2.2.1 x.1.2.2.2.1 x.1.2.2.2.2.1) fuel
theorem r_34_13 : ∀ x y, R_34_13 x = some y → CL CT l_34_13 (LD_34_13.enc x) (Sum.elim (fun _ => EX_34_13.xa) (fun _ => EX_34_13.xb) y) (Sum.elim EX_34_13.la.enc EX_34_13.lb.enc y) :=
  rounds_ok (L := LD_34_13.lay []) (E := EX_34_13) CT_ok T_34_ok (drT_ok CT_ok T_34_ok) lpi_34_13_ok g_34_13 rfl rfl (fun v h => by have hh : (.exit 2 : AX) = .pan v := h; cases hh) (fun v h => by have hh : (.ret : AX) = .pan v := h; cases hh) fuel
noncomputable def lp_34 {β : Type} : LpT β := fun k s K => if Nat.beq k 6 then lpOne (LD_34_6.lay [.frzReg 7 (.list tRec)]) EX_34_6 R_34_6 s K else if Nat.beq k 13 then lpOne (LD_34_13.lay []) EX_34_13 R_34_13 s K else none
theorem lp_34_ok {β : Type} : LpTOk CT (lp_34 (β := β)) (loopsOf c_34) := by
  have h : loopsOf c_34 = [(6, l_34_6), (13, l_34_13)] := by kernel_rfl
  rw [h]
  exact LpTOk.cons (fun s K z h => lpOne_ok r_34_6 h) (LpTOk.cons (fun s K z h => lpOne_ok r_34_13 h) (LpTOk.nil))
noncomputable def F_34 (a1 : Ty.El tScene) (a2 : Ty.El tPast) : Option (Els [.list tRec, I]) := (F_20 a1).bind fun v2 => bif !v2.fst then Option.some ([], (9 : Int), ()) else (F_35 a2).bind fun v4 => bif !v4.fst then Option.some ([], (9 : Int), ()) else (F_69 a1.fst.fst (8 : Int)).bind fun v6 => (F_69 a1.fst.snd (8 : Int)).bind fun v8 => bif Decidable.decide (List.length v6.fst + List.length v8.fst ≤ (4611686018427387904 : Nat)) then (F_69 a1.snd.fst (4 : Int)).bind fun v10 => bif Decidable.decide ((v6.fst ++ v8.fst).length + List.length v10.fst ≤ (4611686018427387904 : Nat)) then bif Decidable.decide ((v6.fst ++ v8.fst ++ v10.fst).length + (List.map (fun v11 => UInt8.ofNat v11.toNat) [Go.IntKind.u8.wrap (↑(List.length a2.fst) : Int), Go.IntKind.u8.wrap (↑(List.length a2.snd) : Int)]).length ≤ (4611686018427387904 : Nat)) then (R_34_6 (((), [((0 : Int), v6.fst ++ v8.fst ++ v10.fst ++ List.map (fun v13 => UInt8.ofNat v13.toNat) [Go.IntKind.u8.wrap (↑(List.length a2.fst) : Int), Go.IntKind.u8.wrap (↑(List.length a2.snd) : Int)])], a1.snd.snd, (↑(List.length a1.snd.snd) : Int), (0 : Int), ()), (a2, ()), ())).bind fun v14 => Sum.elim (fun v15 => (F_70 [v15.snd.fst.fst.fst, v15.snd.fst.fst.snd]).bind fun v17 => (R_34_13 ((v15.fst.snd.fst, (2000000 : Int), v17.fst, (↑(List.length v17.fst) : Int), (0 : Int), ()), ())).bind fun v18 => Sum.elim (fun v19 => Option.some (v19.fst.fst, (0 : Int), ())) (fun v20 => Option.none) v18) (fun v21 => Option.none) v14 else Option.none else Option.none else Option.none
theorem f_34 (x : Ps [.ty tScene, .ty tPast]) : funcT CT T_34 [.list tRec, I] (drT CT T_34) lp_34 Tryz.f18 c_34 (encPs [.ty tScene, .ty tPast] x) = F_34 x.1 x.2.1 := by kernel_rfl
noncomputable def E_34 : Ent := .fn 18 [] ⟨[.ty tScene, .ty tPast], [.list tRec, I], fun x => F_34 x.1 x.2.1, false⟩
theorem e_34 : E_34.Ok CT.P := Ent.ofFn CT_ok T_34_ok hf_34 hb_34 lp_34_ok f_34
noncomputable def c_30 : Code := Tryz.f7.body.getD .skip
theorem hb_30 : Tryz.f7.body = some c_30 := by kernel_rfl
theorem hf_30 : CT.P.funcs[7]? = some Tryz.f7 := by kernel_rfl
noncomputable def T_30 : Tb := mkTb tyQ mpT [E_19, E_31, E_32, E_34]
theorem T_30_ok : T_30.Ok CT.P := mkTb_ok (⟨e_19, e_31, e_32, e_34, trivial⟩)
noncomputable def lp_30 {β : Type} : LpT β := fun _ _ _ => none
theorem lp_30_ok {β : Type} : LpTOk CT (lp_30 (β := β)) (loopsOf c_30) := by
  have h : loopsOf c_30 = [] := by kernel_rfl
  rw [h]
  exact LpTOk.nil
noncomputable def F_30  : Option (Els [.bool]) := (F_31 ([], []) ([], Bool.false, ((0 : Int), (0 : Int)), ((0 : Int), (0 : Int)), (1 : Int), (2 : Int))).bind fun v2 => F_19.bind fun v4 => (F_32 v2.fst (v4.fst.fst, (2 : Int), v4.fst.snd.snd)).bind fun v6 => (F_32 v6.fst v6.snd.fst).bind fun v8 => F_19.bind fun v10 => (F_34 v10.fst ([], [])).bind fun v12 => bif v2.snd.fst then bif v6.snd.snd.fst == (0 : Int) then bif (↑(List.length v6.fst.snd) : Int) == (1 : Int) then bif v6.snd.fst.snd.fst == (1 : Int) then bif v8.snd.snd.fst == (13 : Int) then bif v12.snd.fst == (0 : Int) then bif (↑(List.length v12.fst) : Int) == (1 : Int) then bif Decidable.decide ((0 : Int) ≤ (0 : Int) ∧ (0 : Int) < (↑(List.length v12.fst) : Int)) then Option.some ((↑(List.length (List.getD v12.fst (0 : Nat) Go.DI.S.tRec.dflt).snd) : Int) == (22 : Int), ()) else Option.none else Option.some (Bool.false, ()) else Option.some (Bool.false, ()) else Option.some (Bool.false, ()) else Option.some (Bool.false, ()) else Option.some (Bool.false, ()) else Option.some (Bool.false, ()) else Option.some (Bool.false, ())
theorem f_30 (x : Ps []) : funcT CT T_30 [.bool] (drT CT T_30) lp_30 Tryz.f7 c_30 (encPs [] x) = F_30 := by kernel_rfl
noncomputable def E_30 : Ent := .fn 7 [] ⟨[], [.bool], fun x => F_30, false⟩
theorem e_30 : E_30.Ok CT.P := Ent.ofFn CT_ok T_30_ok hf_30 hb_30 lp_30_ok f_30
end Go.DI.S
set_option linter.unusedVariables false
set_option maxRecDepth 100000
set_option maxHeartbeats 0
namespace Go.DI.S
open Go.Proofs
noncomputable def c_txt : Code := Tryz.f50.body.getD .skip
theorem hb_txt : Tryz.f50.body = some c_txt := by kernel_rfl
theorem hf_txt : CT.P.funcs[50]? = some Tryz.f50 := by kernel_rfl
noncomputable abbrev IN_txt : LayD := ⟨2, [(0, .ptr 0), (1, .data .str)], [.var 113 [.own (.int .u8) 1], .row 5 (.int .u8)], fun s => [slotR s 0, slotC s 0 0]⟩
noncomputable abbrev OUT_txt : LayD := ⟨0, [], [.var 113 [.own (.int .u8) 1], .row 5 (.int .u8)], fun s => [0, slotH s 0 0]⟩
noncomputable def T_txt : Tb := mkTb tyQ mpT [E_102]
theorem T_txt_ok : T_txt.Ok CT.P := mkTb_ok (⟨e_102, trivial⟩)
noncomputable def lp_txt {β : Type} : LpT β := fun _ _ _ => none
theorem lp_txt_ok {β : Type} : LpTOk (CTp 1) (lp_txt (β := β)) (loopsOf c_txt) := by
  have h : loopsOf c_txt = [] := by kernel_rfl
  rw [h]
  exact LpTOk.nil
noncomputable def F_txt (a1 : Ty.El .str) (b0 : Unit × Unit) (b1 : List (Ty.El (.int .u8))) : Option OUT_txt.El := (F_102 (↑(List.length a1) : Int) (2 : Int) ((), ()) b1).bind fun v2 => bif ((List.length v2.snd.snd.fst + List.length a1) * (1 : Nat)).ble (70368744177664 : Nat) then Option.some ((), ((), ()), v2.snd.snd.fst ++ List.map (fun v7 => (↑v7.toBitVec.toFin.1 : Int)) a1, ()) else Option.none
theorem f_txt (x : IN_txt.El) : funcX (CTp 1) T_txt IN_txt OUT_txt [] (drT (CTp 1) T_txt) lp_txt Tryz.f50 c_txt x = F_txt x.1.2.1 x.2.1 x.2.2.1 := by kernel_rfl
noncomputable def E_txt : Ent := .mkGen 50 [] ⟨1, [.nilCell 0 0 5 (.int .u8)], IN_txt, OUT_txt, fun x => F_txt x.1.2.1 x.2.1 x.2.2.1⟩
theorem e_txt : E_txt.Ok CT.P := Ent.ofGen (C := (CTp 1)) (steps := [.nilCell 0 0 5 (.int .u8)]) (osteps := []) (CTp_ok 1) T_txt_ok hf_txt hb_txt lp_txt_ok f_txt
noncomputable def c_putE : Code := Tryz.f16.body.getD .skip
theorem hb_putE : Tryz.f16.body = some c_putE := by kernel_rfl
theorem hf_putE : CT.P.funcs[16]? = some Tryz.f16 := by kernel_rfl
noncomputable def T_putE : Tb := mkTb tyQ mpT [E_64, E_102, E_103, E_txt]
theorem T_putE_ok : T_putE.Ok CT.P := mkTb_ok (⟨e_64, e_102, e_103, e_txt, trivial⟩)
noncomputable def l_putE_6 : Code := atLoop c_putE 6
noncomputable abbrev LD_putE_6 : LayD := ⟨64, [(1, .ptr 0), (4, .ptr 1), (18, .data (.list tDelta)), (19, .data I), (20, .data I)], [.var 56 [.data tEntry], .var 113 [.own (.int .u8) 2], .row 5 (.int .u8)], fun s => [slotR s 1, slotR s 4, slotC s 4 0]⟩
noncomputable abbrev LA_putE_6 : LayD := ⟨64, [(1, .ptr 0), (4, .ptr 1)], [.var 56 [.data tEntry], .var 113 [.own (.int .u8) 2], .row 5 (.int .u8)], fun s => [slotR s 1, slotR s 4, slotC s 4 0]⟩
noncomputable abbrev LB_putE_6 : LayD := ⟨64, [], [], fun _ => []⟩
noncomputable def EX_putE_6 : Exits 0 LA_putE_6.El LB_putE_6.El := ⟨.exit 0, LA_putE_6.lay [.nilCell 4 0 5 (.int .u8)], .ret, LB_putE_6.lay []⟩
noncomputable def lpi_putE_6 {β : Type} : LpT β := fun _ _ _ => none
theorem lpi_putE_6_ok {β : Type} : LpTOk CT (lpi_putE_6 (β := β)) (loopsOf l_putE_6) := by
  have h : loopsOf l_putE_6 = [] := by kernel_rfl
  rw [h]
  exact LpTOk.nil
noncomputable def G_putE_6 (r18 : Ty.El (.list tDelta)) (r19 : Ty.El I) (r20 : Ty.El I) (b0 : Ty.El tEntry × Unit) (b1 : Unit × Unit) (b2 : List (Ty.El (.int .u8))) : Option (LD_putE_6.El ⊕ (LA_putE_6.El ⊕ LB_putE_6.El)) := bif Decidable.decide (r20 < r19) then bif Decidable.decide ((0 : Int) ≤ r20 ∧ r20 < (↑(List.length r18) : Int)) then (F_102 (List.getD r18 (Int.toNat r20) Go.DI.S.tDelta.dflt).fst (4 : Int) ((), ()) b2).bind fun v2 => (F_txt (List.getD r18 (Int.toNat r20) Go.DI.S.tDelta.dflt).snd.fst ((), ()) v2.snd.snd.fst).bind fun v6 => (F_txt (List.getD r18 (Int.toNat r20) Go.DI.S.tDelta.dflt).snd.snd ((), ()) v6.snd.snd.fst).bind fun v10 => Option.some (Sum.inl (((), (), r18, r19, Go.IntKind.i64.wrap (r20 + (1 : Int)), ()), (b0.fst, ()), ((), ()), v10.snd.snd.fst, ())) else Option.none else Option.some (Sum.inr (Sum.inl (((), (), ()), (b0.fst, ()), ((), ()), b2, ())))
theorem g_putE_6 (x : LD_putE_6.El) : codeT CT T_putE (drT CT T_putE) lpi_putE_6 l_putE_6 (LD_putE_6.enc x) (bodyK (LD_putE_6.lay [.nilCell 4 0 5 (.int .u8)]) EX_putE_6) = G_putE_6 x.1.2.2.1 x.1.2.2.2.1 x.1.2.2.2.2.1 x.2.1 x.2.2.1 x.2.2.2.1 := by kernel_rfl
noncomputable def R_putE_6 : LD_putE_6.El → Option (LA_putE_6.El ⊕ LB_putE_6.El) := roundsT (fun x => G_putE_6 x.1.2.2.1 x.1.2.2.2.1 x.1.2.2.2.2.1 x.2.1 x.2.2.1 x.2.2.2.1) fuel
theorem r_putE_6 : ∀ x y, R_putE_6 x = some y → CL CT l_putE_6 (LD_putE_6.enc x) (Sum.elim (fun _ => EX_putE_6.xa) (fun _ => EX_putE_6.xb) y) (Sum.elim EX_putE_6.la.enc EX_putE_6.lb.enc y) :=
  rounds_ok (L := LD_putE_6.lay [.nilCell 4 0 5 (.int .u8)]) (E := EX_putE_6) CT_ok T_putE_ok (drT_ok CT_ok T_putE_ok) lpi_putE_6_ok g_putE_6 rfl rfl (fun v h => by have hh : (.exit 0 : AX) = .pan v := h; cases hh) (fun v h => by have hh : (.ret : AX) = .pan v := h; cases hh) fuel
noncomputable def lp_putE {β : Type} : LpT β := fun k s K => if Nat.beq k 6 then lpOne (LD_putE_6.lay [.nilCell 4 0 5 (.int .u8)]) EX_putE_6 R_putE_6 s K else none
theorem lp_putE_ok {β : Type} : LpTOk CT (lp_putE (β := β)) (loopsOf c_putE) := by
  have h : loopsOf c_putE = [(6, l_putE_6)] := by kernel_rfl
  rw [h]
  exact LpTOk.cons (fun s K z h => lpOne_ok r_putE_6 h) (LpTOk.nil)
noncomputable def F_putE (a1 : Ty.El tEntry) : Option (Els [.str, .bool]) := (F_64 a1).bind fun v2 => bif !v2.fst then Option.some ([], Bool.false, ()) else (F_102 (↑(List.length a1.fst) : Int) (1 : Int) ((), ()) []).bind fun v4 => (R_putE_6 (((), (), a1.fst, (↑(List.length a1.fst) : Int), (0 : Int), ()), (a1, ()), ((), ()), v4.snd.snd.fst, ())).bind fun v7 => Sum.elim (fun v8 => bif v8.snd.fst.fst.snd.fst then (F_102 (1 : Int) (1 : Int) ((), ()) v8.snd.snd.snd.fst).bind fun v10 => (F_103 v8.snd.fst.fst.snd.snd.fst ((), ()) v10.snd.snd.fst).bind fun v14 => (F_103 v8.snd.fst.fst.snd.snd.snd.fst ((), ()) v14.snd.snd.fst).bind fun v18 => (F_102 v8.snd.fst.fst.snd.snd.snd.snd.fst (4 : Int) ((), ()) v18.snd.snd.fst).bind fun v22 => (F_102 v8.snd.fst.fst.snd.snd.snd.snd.snd (4 : Int) ((), ()) v22.snd.snd.fst).bind fun v26 => Option.some (List.map (fun v27 => UInt8.ofNat (Int.toNat v27)) v26.snd.snd.fst, Bool.true, ()) else (F_102 (0 : Int) (1 : Int) ((), ()) v8.snd.snd.snd.fst).bind fun v31 => (F_102 v8.snd.fst.fst.snd.snd.snd.snd.fst (4 : Int) ((), ()) v31.snd.snd.fst).bind fun v35 => (F_102 v8.snd.fst.fst.snd.snd.snd.snd.snd (4 : Int) ((), ()) v35.snd.snd.fst).bind fun v39 => Option.some (List.map (fun v40 => UInt8.ofNat (Int.toNat v40)) v39.snd.snd.fst, Bool.true, ())) (fun v43 => Option.none) v7
theorem f_putE (x : Ps [.ty tEntry]) : funcT CT T_putE [.str, .bool] (drT CT T_putE) lp_putE Tryz.f16 c_putE (encPs [.ty tEntry] x) = F_putE x.1 := by kernel_rfl
noncomputable def E_putE : Ent := .fn 16 [] ⟨[.ty tEntry], [.str, .bool], fun x => F_putE x.1, false⟩
theorem e_putE : E_putE.Ok CT.P := Ent.ofFn CT_ok T_putE_ok hf_putE hb_putE lp_putE_ok f_putE
noncomputable def c_catE : Code := Tryz.f56.body.getD .skip
theorem hb_catE : Tryz.f56.body = some c_catE := by kernel_rfl
theorem hf_catE : CT.P.funcs[56]? = some Tryz.f56 := by kernel_rfl
noncomputable def T_catE : Tb := mkTb tyQ mpT [E_grE]
theorem T_catE_ok : T_catE.Ok CT.P := mkTb_ok (⟨e_grE, trivial⟩)
noncomputable def l_catE_11 : Code := atLoop c_catE 11
noncomputable def l_catE_3 : Code := atLoop c_catE 3
noncomputable abbrev LD_catE_3 : LayD := ⟨36, [(0, .data (.list (.list tEntry))), (3, .data I), (9, .data (.list (.list tEntry))), (10, .data I), (11, .data I)], [], fun _ => []⟩
noncomputable abbrev LA_catE_3 : LayD := ⟨36, [(0, .data (.list (.list tEntry))), (3, .data I)], [], fun _ => []⟩
noncomputable abbrev LB_catE_3 : LayD := ⟨36, [], [], fun _ => []⟩
noncomputable def EX_catE_3 : Exits 0 LA_catE_3.El LB_catE_3.El := ⟨.exit 0, LA_catE_3.lay [], .ret, LB_catE_3.lay []⟩
noncomputable def lpi_catE_3 {β : Type} : LpT β := fun _ _ _ => none
theorem lpi_catE_3_ok {β : Type} : LpTOk CT (lpi_catE_3 (β := β)) (loopsOf l_catE_3) := by
  have h : loopsOf l_catE_3 = [] := by kernel_rfl
  rw [h]
  exact LpTOk.nil
noncomputable def G_catE_3 (r0 : Ty.El (.list (.list tEntry))) (r3 : Ty.El I) (r9 : Ty.El (.list (.list tEntry))) (r10 : Ty.El I) (r11 : Ty.El I) : Option (LD_catE_3.El ⊕ (LA_catE_3.El ⊕ LB_catE_3.El)) := bif Decidable.decide (r11 < r10) then bif Decidable.decide ((0 : Int) ≤ r11 ∧ r11 < (↑(List.length r9) : Int)) then bif Decidable.decide (Go.IntKind.i64.wrap (r3 + (↑(List.length (List.getD r9 (Int.toNat r11) Go.DI.S.tEntry.list.dflt)) : Int)) < (0 : Int)) then Option.none else Option.some (Sum.inl ((r0, Go.IntKind.i64.wrap (r3 + (↑(List.length (List.getD r9 (Int.toNat r11) Go.DI.S.tEntry.list.dflt)) : Int)), r9, r10, Go.IntKind.i64.wrap (r11 + (1 : Int)), ()), ())) else Option.none else Option.some (Sum.inr (Sum.inl ((r0, r3, ()), ())))
theorem g_catE_3 (x : LD_catE_3.El) : codeT CT T_catE (drT CT T_catE) lpi_catE_3 l_catE_3 (LD_catE_3.enc x) (bodyK (LD_catE_3.lay []) EX_catE_3) = G_catE_3 x.1.1 x.1.2.1 x.1.2.2.1 x.1.2.2.2.1 x.1.2.2.2.2.1 := by kernel_rfl
noncomputable def R_catE_3 : LD_catE_3.El → Option (LA_catE_3.El ⊕ LB_catE_3.El) := roundsT (fun x => G_catE_3 x.1.1 x.1.2.1 x.1.2.2.1 x.1.2.2.2.1 x.1.2.2.2.2.1) fuel
theorem r_catE_3 : ∀ x y, R_catE_3 x = some y → CL CT l_catE_3 (LD_catE_3.enc x) (Sum.elim (fun _ => EX_catE_3.xa) (fun _ => EX_catE_3.xb) y) (Sum.elim EX_catE_3.la.enc EX_catE_3.lb.enc y) :=
  rounds_ok (L := LD_catE_3.lay []) (E := EX_catE_3) CT_ok T_catE_ok (drT_ok CT_ok T_catE_ok) lpi_catE_3_ok g_catE_3 rfl rfl (fun v h => by have hh : (.exit 0 : AX) = .pan v := h; cases hh) (fun v h => by have hh : (.ret : AX) = .pan v := h; cases hh) fuel
noncomputable abbrev LD_catE_11 : LayD := ⟨36, [(6, .own tEntry 0), (25, .data (.list (.list tEntry))), (26, .data I), (27, .data I)], [.row 56 tEntry], fun s => [slotR s 6]⟩
noncomputable abbrev LA_catE_11 : LayD := ⟨36, [(6, .own tEntry 0)], [.row 56 tEntry], fun s => [slotR s 6]⟩
noncomputable abbrev LB_catE_11 : LayD := ⟨36, [], [], fun _ => []⟩
noncomputable def EX_catE_11 : Exits 0 LA_catE_11.El LB_catE_11.El := ⟨.exit 2, LA_catE_11.lay [], .ret, LB_catE_11.lay []⟩
noncomputable def lpi_catE_11 {β : Type} : LpT β := fun _ _ _ => none
theorem lpi_catE_11_ok {β : Type} : LpTOk CT (lpi_catE_11 (β := β)) (loopsOf l_catE_11) := by
  have h : loopsOf l_catE_11 = [] := by kernel_rfl
  rw [h]
  exact LpTOk.nil
noncomputable def G_catE_11 (r25 : Ty.El (.list (.list tEntry))) (r26 : Ty.El I) (r27 : Ty.El I) (b0 : List (Ty.El tEntry)) : Option (LD_catE_11.El ⊕ (LA_catE_11.El ⊕ LB_catE_11.El)) := bif Decidable.decide (r27 < r26) then bif Decidable.decide ((0 : Int) ≤ r27 ∧ r27 < (↑(List.length r25) : Int)) then bif ((b0.length + List.length (List.getD r25 (Int.toNat r27) Go.DI.S.tEntry.list.dflt)) * (80 : Nat)).ble (70368744177664 : Nat) then Option.some (Sum.inl (((), r25, r26, Go.IntKind.i64.wrap (r27 + (1 : Int)), ()), b0 ++ List.getD r25 (Int.toNat r27) Go.DI.S.tEntry.list.dflt, ())) else Option.none else Option.none else Option.some (Sum.inr (Sum.inl (((), ()), b0, ())))
theorem g_catE_11 (x : LD_catE_11.El) : codeT CT T_catE (drT CT T_catE) lpi_catE_11 l_catE_11 (LD_catE_11.enc x) (bodyK (LD_catE_11.lay []) EX_catE_11) = G_catE_11 x.1.2.1 x.1.2.2.1 x.1.2.2.2.1 x.2.1 := by kernel_rfl
noncomputable def R_catE_11 : LD_catE_11.El → Option (LA_catE_11.El ⊕ LB_catE_11.El) := roundsT (fun x => G_catE_11 x.1.2.1 x.1.2.2.1 x.1.2.2.2.1 x.2.1) fuel
theorem r_catE_11 : ∀ x y, R_catE_11 x = some y → CL CT l_catE_11 (LD_catE_11.enc x) (Sum.elim (fun _ => EX_catE_11.xa) (fun _ => EX_catE_11.xb) y) (Sum.elim EX_catE_11.la.enc EX_catE_11.lb.enc y) :=
  rounds_ok (L := LD_catE_11.lay []) (E := EX_catE_11) CT_ok T_catE_ok (drT_ok CT_ok T_catE_ok) lpi_catE_11_ok g_catE_11 rfl rfl (fun v h => by have hh : (.exit 2 : AX) = .pan v := h; cases hh) (fun v h => by have hh : (.ret : AX) = .pan v := h; cases hh) fuel
noncomputable def lp_catE {β : Type} : LpT β := fun k s K => if Nat.beq k 3 then lpOne (LD_catE_3.lay []) EX_catE_3 R_catE_3 s K else if Nat.beq k 11 then lpOne (LD_catE_11.lay []) EX_catE_11 R_catE_11 s K else none
theorem lp_catE_ok {β : Type} : LpTOk CT (lp_catE (β := β)) (loopsOf c_catE) := by
  have h : loopsOf c_catE = [(3, l_catE_3), (11, l_catE_11)] := by kernel_rfl
  rw [h]
  exact LpTOk.cons (fun s K z h => lpOne_ok r_catE_3 h) (LpTOk.cons (fun s K z h => lpOne_ok r_catE_11 h) (LpTOk.nil))
noncomputable def F_catE (a1 : Ty.El (.list (.list tEntry))) : Option (Els [.list tEntry]) := (R_catE_3 ((a1, (0 : Int), a1, (↑(List.length a1) : Int), (0 : Int), ()), ())).bind fun v1 => Sum.elim (fun v2 => (F_grE () v2.fst.snd.fst).bind fun v4 => (R_catE_11 (((), v2.fst.fst, (↑(List.length v2.fst.fst) : Int), (0 : Int), ()), v4, ())).bind fun v5 => Sum.elim (fun v6 => Option.some (v6.snd.fst, ())) (fun v7 => Option.none) v5) (fun v8 => Option.none) v1
theorem f_catE (x : Ps [.ty (.list (.list tEntry))]) : funcT CT T_catE [.list tEntry] (drT CT T_catE) lp_catE Tryz.f56 c_catE (encPs [.ty (.list (.list tEntry))] x) = F_catE x.1 := by kernel_rfl
noncomputable def E_catE : Ent := .fn 56 [] ⟨[.ty (.list (.list tEntry))], [.list tEntry], fun x => F_catE x.1, false⟩
theorem e_catE : E_catE.Ok CT.P := Ent.ofFn CT_ok T_catE_ok hf_catE hb_catE lp_catE_ok f_catE
noncomputable def c_recs : Code := Tryz.f18.body.getD .skip
theorem hb_recs : Tryz.f18.body = some c_recs := by kernel_rfl
theorem hf_recs : CT.P.funcs[18]? = some Tryz.f18 := by kernel_rfl
noncomputable def T_recs : Tb := mkTb tyQ mpT [E_20, E_35, E_61, E_69, E_catE, E_putE]
theorem T_recs_ok : T_recs.Ok CT.P := mkTb_ok (⟨e_20, e_35, e_61, e_69, e_catE, e_putE, trivial⟩)
noncomputable def l_recs_13 : Code := atLoop c_recs 13
noncomputable def l_recs_6 : Code := atLoop c_recs 6
noncomputable def l_recs_16 : Code := atLoop l_recs_13 16
noncomputable abbrev LD_recs_16 : LayD := ⟨116, [(7, .own tRec 0), (12, .data I), (15, .data .str), (79, .data (.list tEntry)), (80, .data I), (81, .data I)], [.row 86 tRec], fun s => [slotR s 7]⟩
noncomputable abbrev LA_recs_16 : LayD := ⟨116, [(7, .own tRec 0), (12, .data I), (79, .data (.list tEntry)), (80, .data I), (81, .data I)], [.row 86 tRec], fun s => [slotR s 7]⟩
noncomputable abbrev LB_recs_16 : LayD := ⟨116, [], [], fun _ => []⟩
noncomputable def EX_recs_16 : Exits 0 LA_recs_16.El LB_recs_16.El := ⟨.exit 4, LA_recs_16.lay [.rowReg 7 86 tRec], .ret, LB_recs_16.lay []⟩
noncomputable def lpi_recs_16 {β : Type} : LpT β := fun _ _ _ => none
theorem lpi_recs_16_ok {β : Type} : LpTOk CT (lpi_recs_16 (β := β)) (loopsOf l_recs_16) := by
  have h : loopsOf l_recs_16 = [] := by kernel_rfl
  rw [h]
  exact LpTOk.nil
noncomputable def G_recs_16 (r12 : Ty.El I) (r15 : Ty.El .str) (r79 : Ty.El (.list tEntry)) (r80 : Ty.El I) (r81 : Ty.El I) (b0 : List (Ty.El tRec)) : Option (LD_recs_16.El ⊕ (LA_recs_16.El ⊕ LB_recs_16.El)) := bif !r15 == [] then bif (if (899 : Int) < (↑(List.length r15) : Int) then (899 : Int) else (↑(List.length r15) : Int)) == (↑(List.length r15) : Int) then bif Decidable.decide (((0 : Int) ≤ if (899 : Int) < (↑(List.length r15) : Int) then (899 : Int) else (↑(List.length r15) : Int)) ∧ (if (899 : Int) < (↑(List.length r15) : Int) then (899 : Int) else (↑(List.length r15) : Int)) ≤ (↑(List.length r15) : Int)) then bif Decidable.decide ((1 : Nat) + (List.take ((if (899 : Int) < (↑(List.length r15) : Int) then (899 : Int) else (↑(List.length r15) : Int)).toNat - (0 : Nat)) (List.drop (0 : Nat) r15)).length ≤ (4611686018427387904 : Nat)) then bif ((b0.length + [(r12, [(1 : UInt8)] ++ List.take ((if (899 : Int) < (↑(List.length r15) : Int) then (899 : Int) else (↑(List.length r15) : Int)).toNat - (0 : Nat)) (List.drop (0 : Nat) r15))].length) * (24 : Nat)).ble (70368744177664 : Nat) then bif Decidable.decide (((0 : Int) ≤ if (899 : Int) < (↑(List.length r15) : Int) then (899 : Int) else (↑(List.length r15) : Int)) ∧ (if (899 : Int) < (↑(List.length r15) : Int) then (899 : Int) else (↑(List.length r15) : Int)) ≤ (↑(List.length r15) : Int)) then Option.some (Sum.inl (((), Go.IntKind.i64.wrap (r12 + (1 : Int)), List.take (List.length r15 - (if (899 : Int) < (↑(List.length r15) : Int) then (899 : Int) else (↑(List.length r15) : Int)).toNat) (List.drop (if (899 : Int) < (↑(List.length r15) : Int) then (899 : Int) else (↑(List.length r15) : Int)).toNat r15), r79, r80, r81, ()), b0 ++ [(r12, [(1 : UInt8)] ++ List.take ((if (899 : Int) < (↑(List.length r15) : Int) then (899 : Int) else (↑(List.length r15) : Int)).toNat - (0 : Nat)) (List.drop (0 : Nat) r15))], ())) else Option.none else Option.none else Option.none else Option.none else bif Decidable.decide (((0 : Int) ≤ if (899 : Int) < (↑(List.length r15) : Int) then (899 : Int) else (↑(List.length r15) : Int)) ∧ (if (899 : Int) < (↑(List.length r15) : Int) then (899 : Int) else (↑(List.length r15) : Int)) ≤ (↑(List.length r15) : Int)) then bif Decidable.decide ((1 : Nat) + (List.take ((if (899 : Int) < (↑(List.length r15) : Int) then (899 : Int) else (↑(List.length r15) : Int)).toNat - (0 : Nat)) (List.drop (0 : Nat) r15)).length ≤ (4611686018427387904 : Nat)) then bif ((b0.length + [(r12, [(0 : UInt8)] ++ List.take ((if (899 : Int) < (↑(List.length r15) : Int) then (899 : Int) else (↑(List.length r15) : Int)).toNat - (0 : Nat)) (List.drop (0 : Nat) r15))].length) * (24 : Nat)).ble (70368744177664 : Nat) then bif Decidable.decide (((0 : Int) ≤ if (899 : Int) < (↑(List.length r15) : Int) then (899 : Int) else (↑(List.length r15) : Int)) ∧ (if (899 : Int) < (↑(List.length r15) : Int) then (899 : Int) else (↑(List.length r15) : Int)) ≤ (↑(List.length r15) : Int)) then Option.some (Sum.inl (((), Go.IntKind.i64.wrap (r12 + (1 : Int)), List.take (List.length r15 - (if (899 : Int) < (↑(List.length r15) : Int) then (899 : Int) else (↑(List.length r15) : Int)).toNat) (List.drop (if (899 : Int) < (↑(List.length r15) : Int) then (899 : Int) else (↑(List.length r15) : Int)).toNat r15), r79, r80, r81, ()), b0 ++ [(r12, [(0 : UInt8)] ++ List.take ((if (899 : Int) < (↑(List.length r15) : Int) then (899 : Int) else (↑(List.length r15) : Int)).toNat - (0 : Nat)) (List.drop (0 : Nat) r15))], ())) else Option.none else Option.none else Option.none else Option.none else Option.some (Sum.inr (Sum.inl (((), r12, r79, r80, r81, ()), b0, ())))
theorem g_recs_16 (x : LD_recs_16.El) : codeT CT T_recs (drT CT T_recs) lpi_recs_16 l_recs_16 (LD_recs_16.enc x) (bodyK (LD_recs_16.lay [.rowReg 7 86 tRec]) EX_recs_16) = G_recs_16 x.1.2.1 x.1.2.2.1 x.1.2.2.2.1 x.1.2.2.2.2.1 x.1.2.2.2.2.2.1 x.2.1 := by kernel_rfl
noncomputable def R_recs_16 : LD_recs_16.El → Option (LA_recs_16.El ⊕ LB_recs_16.El) := roundsT (fun x => G_recs_16 x.1.2.1 x.1.2.2.1 x.1.2.2.2.1 x.1.2.2.2.2.1 x.1.2.2.2.2.2.1 x.2.1) fuel
theorem r_recs_16 : ∀ x y, R_recs_16 x = some y → CL CT l_recs_16 (LD_recs_16.enc x) (Sum.elim (fun _ => EX_recs_16.xa) (fun _ => EX_recs_16.xb) y) (Sum.elim EX_recs_16.la.enc EX_recs_16.lb.enc y) :=
  rounds_ok (L := LD_recs_16.lay [.rowReg 7 86 tRec]) (E := EX_recs_16) CT_ok T_recs_ok (drT_ok CT_ok T_recs_ok) lpi_recs_16_ok g_recs_16 rfl rfl (fun v h => by have hh : (.exit 4 : AX) = .pan v := h; cases hh) (fun v h => by have hh : (.ret : AX) = .pan v := h; cases hh) fuel
noncomputable abbrev LD_recs_6 : LayD := ⟨116, [(3, .ptr 0), (7, .own tRec 1), (55, .data (.list tThing)), (56, .data I), (57, .data I)], [.var 33 [.data tPast], .row 86 tRec], fun s => [slotR s 3, slotR s 7]⟩
noncomputable abbrev LA_recs_6 : LayD := ⟨116, [(3, .ptr 0), (7, .own tRec 1)], [.var 33 [.data tPast], .row 86 tRec], fun s => [slotR s 3, slotR s 7]⟩
noncomputable abbrev LB_recs_6 : LayD := ⟨116, [], [], fun _ => []⟩
noncomputable def EX_recs_6 : Exits 0 LA_recs_6.El LB_recs_6.El := ⟨.exit 0, LA_recs_6.lay [.rowReg 7 86 tRec], .ret, LB_recs_6.lay []⟩
noncomputable def lpi_recs_6 {β : Type} : LpT β := fun _ _ _ => none
theorem lpi_recs_6_ok {β : Type} : LpTOk CT (lpi_recs_6 (β := β)) (loopsOf l_recs_6) := by
  have h : loopsOf l_recs_6 = [] := by kernel_rfl
  rw [h]
  exact LpTOk.nil
noncomputable def G_recs_6 (r55 : Ty.El (.list tThing)) (r56 : Ty.El I) (r57 : Ty.El I) (b0 : Ty.El tPast × Unit) (b1 : List (Ty.El tRec)) : Option (LD_recs_6.El ⊕ (LA_recs_6.El ⊕ LB_recs_6.El)) := bif Decidable.decide (r57 < r56) then bif Decidable.decide ((0 : Int) ≤ r57 ∧ r57 < (↑(List.length r55) : Int)) then (F_61 (List.getD r55 (Int.toNat r57) Go.DI.S.tThing.dflt)).bind fun v2 => bif ((b1.length + [((List.getD r55 (Int.toNat r57) Go.DI.S.tThing.dflt).fst, v2.fst)].length) * (24 : Nat)).ble (70368744177664 : Nat) then Option.some (Sum.inl (((), (), r55, r56, Go.IntKind.i64.wrap (r57 + (1 : Int)), ()), (b0.fst, ()), b1 ++ [((List.getD r55 (Int.toNat r57) Go.DI.S.tThing.dflt).fst, v2.fst)], ())) else Option.none else Option.none else Option.some (Sum.inr (Sum.inl (((), (), ()), (b0.fst, ()), b1, ())))
theorem g_recs_6 (x : LD_recs_6.El) : codeT CT T_recs (drT CT T_recs) lpi_recs_6 l_recs_6 (LD_recs_6.enc x) (bodyK (LD_recs_6.lay [.rowReg 7 86 tRec]) EX_recs_6) = G_recs_6 x.1.2.2.1 x.1.2.2.2.1 x.1.2.2.2.2.1 x.2.1 x.2.2.1 := by kernel_rfl
noncomputable def R_recs_6 : LD_recs_6.El → Option (LA_recs_6.El ⊕ LB_recs_6.El) := roundsT (fun x => G_recs_6 x.1.2.2.1 x.1.2.2.2.1 x.1.2.2.2.2.1 x.2.1 x.2.2.1) fuel
theorem r_recs_6 : ∀ x y, R_recs_6 x = some y → CL CT l_recs_6 (LD_recs_6.enc x) (Sum.elim (fun _ => EX_recs_6.xa) (fun _ => EX_recs_6.xb) y) (Sum.elim EX_recs_6.la.enc EX_recs_6.lb.enc y) :=
  rounds_ok (L := LD_recs_6.lay [.rowReg 7 86 tRec]) (E := EX_recs_6) CT_ok T_recs_ok (drT_ok CT_ok T_recs_ok) lpi_recs_6_ok g_recs_6 rfl rfl (fun v h => by have hh : (.exit 0 : AX) = .pan v := h; cases hh) (fun v h => by have hh : (.ret : AX) = .pan v := h; cases hh) fuel
noncomputable abbrev LD_recs_13 : LayD := ⟨116, [(7, .own tRec 0), (12, .data I), (79, .data (.list tEntry)), (80, .data I), (81, .data I)], [.row 86 tRec], fun s => [slotR s 7]⟩
noncomputable abbrev LA_recs_13 : LayD := ⟨116, [(7, .own tRec 0)], [.row 86 tRec], fun s => [slotR s 7]⟩
noncomputable abbrev LB_recs_13 : LayD := ⟨116, [], [], fun _ => []⟩
noncomputable def EX_recs_13 : Exits 0 LA_recs_13.El LB_recs_13.El := ⟨.exit 2, LA_recs_13.lay [.rowReg 7 86 tRec], .ret, LB_recs_13.lay []⟩
noncomputable def lpi_recs_13 {β : Type} : LpT β := fun k s K => if Nat.beq k 16 then lpOne (LD_recs_16.lay [.rowReg 7 86 tRec]) EX_recs_16 R_recs_16 s K else none
theorem lpi_recs_13_ok {β : Type} : LpTOk CT (lpi_recs_13 (β := β)) (loopsOf l_recs_13) := by
  have h : loopsOf l_recs_13 = [(16, l_recs_16)] := by kernel_rfl
  rw [h]
  exact LpTOk.cons (fun s K z h => lpOne_ok r_recs_16 h) (LpTOk.nil)
noncomputable def G_recs_13 (r12 : Ty.El I) (r79 : Ty.El (.list tEntry)) (r80 : Ty.El I) (r81 : Ty.El I) (b0 : List (Ty.El tRec)) : Option (LD_recs_13.El ⊕ (LA_recs_13.El ⊕ LB_recs_13.El)) := bif Decidable.decide (r81 < r80) then bif Decidable.decide ((0 : Int) ≤ r81 ∧ r81 < (↑(List.length r79) : Int)) then (F_putE (List.getD r79 (Int.toNat r81) Go.DI.S.tEntry.dflt)).bind fun v2 => (R_recs_16 (((), r12, v2.fst, r79, r80, r81, ()), b0, ())).bind fun v3 => Sum.elim (fun v4 => Option.some (Sum.inl (((), v4.fst.snd.fst, v4.fst.snd.snd.fst, v4.fst.snd.snd.snd.fst, Go.IntKind.i64.wrap (v4.fst.snd.snd.snd.snd.fst + (1 : Int)), ()), v4.snd.fst, ()))) (fun v5 => Option.some (Sum.inr (Sum.inr ((), ())))) v3 else Option.none else Option.some (Sum.inr (Sum.inl (((), ()), b0, ())))
theorem g_recs_13 (x : LD_recs_13.El) : codeT CT T_recs (drT CT T_recs) lpi_recs_13 l_recs_13 (LD_recs_13.enc x) (bodyK (LD_recs_13.lay [.rowReg 7 86 tRec]) EX_recs_13) = G_recs_13 x.1.2.1 x.1.2.2.1 x.1.2.2.2.1 x.1.2.2.2.2.1 x.2.1 := by kernel_rfl
noncomputable def R_recs_13 : LD_recs_13.El → Option (LA_recs_13.El ⊕ LB_recs_13.El) := roundsT (fun x => G_recs_13 x.1.2.1 x.1.2.2.1 x.1.2.2.2.1 x.1.2.2.2.2.1 x.2.1) fuel
theorem r_recs_13 : ∀ x y, R_recs_13 x = some y → CL CT l_recs_13 (LD_recs_13.enc x) (Sum.elim (fun _ => EX_recs_13.xa) (fun _ => EX_recs_13.xb) y) (Sum.elim EX_recs_13.la.enc EX_recs_13.lb.enc y) :=
  rounds_ok (L := LD_recs_13.lay [.rowReg 7 86 tRec]) (E := EX_recs_13) CT_ok T_recs_ok (drT_ok CT_ok T_recs_ok) lpi_recs_13_ok g_recs_13 rfl rfl (fun v h => by have hh : (.exit 2 : AX) = .pan v := h; cases hh) (fun v h => by have hh : (.ret : AX) = .pan v := h; cases hh) fuel
noncomputable def lp_recs {β : Type} : LpT β := fun k s K => if Nat.beq k 6 then lpOne (LD_recs_6.lay [.rowReg 7 86 tRec]) EX_recs_6 R_recs_6 s K else if Nat.beq k 13 then lpOne (LD_recs_13.lay [.rowReg 7 86 tRec]) EX_recs_13 R_recs_13 s K else none
theorem lp_recs_ok {β : Type} : LpTOk CT (lp_recs (β := β)) (loopsOf c_recs) := by
  have h : loopsOf c_recs = [(6, l_recs_6), (13, l_recs_13)] := by kernel_rfl
  rw [h]
  exact LpTOk.cons (fun s K z h => lpOne_ok r_recs_6 h) (LpTOk.cons (fun s K z h => lpOne_ok r_recs_13 h) (LpTOk.nil))
noncomputable def F_recs (a1 : Ty.El tScene) (a2 : Ty.El tPast) : Option (Els [.list tRec, I]) := (F_20 a1).bind fun v2 => bif !v2.fst then Option.some ([], (9 : Int), ()) else (F_35 a2).bind fun v4 => bif !v4.fst then Option.some ([], (9 : Int), ()) else (F_69 a1.fst.fst (8 : Int)).bind fun v6 => (F_69 a1.fst.snd (8 : Int)).bind fun v8 => bif Decidable.decide (List.length v6.fst + List.length v8.fst ≤ (4611686018427387904 : Nat)) then (F_69 a1.snd.fst (4 : Int)).bind fun v10 => bif Decidable.decide ((v6.fst ++ v8.fst).length + List.length v10.fst ≤ (4611686018427387904 : Nat)) then bif Decidable.decide ((v6.fst ++ v8.fst ++ v10.fst).length + (List.map (fun v11 => UInt8.ofNat v11.toNat) [Go.IntKind.u8.wrap (↑(List.length a2.fst) : Int), Go.IntKind.u8.wrap (↑(List.length a2.snd) : Int)]).length ≤ (4611686018427387904 : Nat)) then (R_recs_6 (((), (), a1.snd.snd, (↑(List.length a1.snd.snd) : Int), (0 : Int), ()), (a2, ()), [((0 : Int), v6.fst ++ v8.fst ++ v10.fst ++ List.map (fun v13 => UInt8.ofNat v13.toNat) [Go.IntKind.u8.wrap (↑(List.length a2.fst) : Int), Go.IntKind.u8.wrap (↑(List.length a2.snd) : Int)])], ())).bind fun v14 => Sum.elim (fun v15 => (F_catE [v15.snd.fst.fst.fst, v15.snd.fst.fst.snd]).bind fun v17 => (R_recs_13 (((), (2000000 : Int), v17.fst, (↑(List.length v17.fst) : Int), (0 : Int), ()), v15.snd.snd.fst, ())).bind fun v18 => Sum.elim (fun v19 => Option.some (v19.snd.fst, (0 : Int), ())) (fun v20 => Option.none) v18) (fun v21 => Option.none) v14 else Option.none else Option.none else Option.none
theorem f_recs (x : Ps [.ty tScene, .ty tPast]) : funcT CT T_recs [.list tRec, I] (drT CT T_recs) lp_recs Tryz.f18 c_recs (encPs [.ty tScene, .ty tPast] x) = F_recs x.1 x.2.1 := by kernel_rfl
noncomputable def E_recs : Ent := .fn 18 [] ⟨[.ty tScene, .ty tPast], [.list tRec, I], fun x => F_recs x.1 x.2.1, false⟩
theorem e_recs : E_recs.Ok CT.P := Ent.ofFn CT_ok T_recs_ok hf_recs hb_recs lp_recs_ok f_recs
end Go.DI.S
