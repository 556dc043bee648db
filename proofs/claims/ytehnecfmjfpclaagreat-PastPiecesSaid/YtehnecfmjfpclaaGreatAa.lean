import Derived.Test.YtehnecfmjfpclaaGreatXa
import Derived.Test.YtehnecfmjfpclaaGreatDie
import Derived.Shelf.Spec.SlicesGrow
import Derived.Laws.AppendOwn
import Derived.Shelf.SlSortCmp.WholeK
import Derived.WalkKit
import Derived.Sort.OwnSortedInts
import Derived.Shelf.SlSortCmp.NoneTotal
/- slices.Grow, slices.SortFunc at things. No conditions. -/
set_option linter.unusedVariables false
set_option maxRecDepth 100000
namespace Go.DI.S
open Go.Proofs
def distB : List Int → Bool
  | [] => true
  | n :: l => decide (1 ≤ n) && decide (n ≤ 1000000) && !l.contains n && distB l
def ordT (a : Thing) : List Thing → List Thing
  | [] => [a]
  | b :: l => bif decide (nid a ≤ nid b) then a :: b :: l else b :: ordT a l
def sortT : List Thing → List Thing
  | [] => []
  | a :: l => ordT a (sortT l)
abbrev IN_111 : LayD := ⟨2, [(0, .own tThing 0), (1, .clo 183 [])], [.row 52 tThing], fun s => [slotR s 0]⟩
abbrev OUT_111 : LayD := ⟨0, [], [.row 52 tThing], fun _ => [0]⟩
def F_111 (a1 : Els []) (b0 : List (Ty.El tThing)) : Option OUT_111.El := bif distB (b0.map nid) && Nat.ble b0.length 1000000 then some ((), sortT b0, ()) else none
def G_111 : GenE := ⟨1, [.nilReg 0 52 tThing, .rowReg 0 52 tThing], IN_111, OUT_111, fun x => F_111 x.1.2.1 x.2.1⟩
noncomputable def E_111 : Ent := .mkGen 182 [183] ⟨1, [.nilReg 0 52 tThing, .rowReg 0 52 tThing], IN_111, OUT_111, fun x => F_111 x.1.2.1 x.2.1⟩
end Go.DI.S
set_option linter.unusedVariables false
set_option maxRecDepth 100000
set_option maxHeartbeats 0
namespace Go.DI.S
open Go.Proofs
noncomputable def c_253z : Code := Tryz.f94.body.getD .skip
theorem hb_253z : Tryz.f94.body = some c_253z := by kernel_rfl
theorem hf_253z : CT.P.funcs[94]? = some Tryz.f94 := by kernel_rfl
noncomputable def T_253z : Tb := mkTb tyP mpP []
theorem T_253z_ok : T_253z.Ok CT.P := mkTb_ok (trivial)
noncomputable def lp_253z {β : Type} : LpT β := fun _ _ _ => none
theorem lp_253z_ok {β : Type} : LpTOk CT (lp_253z (β := β)) (loopsOf c_253z) := by
  have h : loopsOf c_253z = [] := by kernel_rfl
  rw [h]
  exact LpTOk.nil
noncomputable def F_253z (a1 : Unit) (a2 : Ty.El I) : Option (List (Ty.El tThing)) :=
  bif Decidable.decide (a2 < (0 : Int)) then Option.none else bif Decidable.decide (Go.IntKind.i64.wrap (a2 - (0 : Int)) > (0 : Int)) then Option.none else Option.some []
theorem f_253z (x : Ps [.nil, .ty I]) : funcO CT T_253z 52 tThing (drT CT T_253z) lp_253z Tryz.f94 c_253z (encPs [.nil, .ty I] x) = F_253z x.1 x.2.1 := by kernel_rfl
noncomputable def E_253z : Ent := .own 94 [] ⟨[.nil, .ty I], 52, tThing, fun x => F_253z x.1 x.2.1⟩
theorem e_253z : E_253z.Ok CT.P := Ent.ofOwn CT_ok T_253z_ok hf_253z hb_253z lp_253z_ok f_253z
end Go.DI.S
set_option linter.unusedVariables false
set_option linter.unusedSimpArgs false
set_option maxRecDepth 100000
namespace Go.DI.S
open Go.Proofs
def growRen : Go.Shelf.Ren := ⟨fun | 4 => 94 | n => n, fun | 22 => 28 | 25 => 52 | n => n, fun n => n⟩
theorem laysGrow : Lays8.n4 Tryz.prog growRen := {
  mixed := by kernel_rfl,
  f4 := ⟨ "slices.Grow[[]maquette/api.Thing,maquette/api.Thing]", by kernel_rfl, Tryz.func94.trans (congrArg some (by kernel_rfl))⟩,
  t0 := Tryz.underlying0, a0 := Tryz.isAgg0, z0 := Tryz.sizeOf0, v0 := Tryz.zeroValue0,
  t3 := Tryz.underlying3, a3 := Tryz.isAgg3, z3 := Tryz.sizeOf3, v3 := Tryz.zeroValue3,
  t4 := Tryz.underlying4, a4 := Tryz.isAgg4, z4 := Tryz.sizeOf4, v4 := Tryz.zeroValue4,
  t9 := Tryz.underlying9, a9 := Tryz.isAgg9, z9 := Tryz.sizeOf9, v9 := Tryz.zeroValue9,
  t20 := Tryz.underlying20, a20 := Tryz.isAgg20, z20 := Tryz.sizeOf20, v20 := Tryz.zeroValue20,
  t22 := Tryz.underlying28, a22 := Tryz.isAgg28, z22 := Tryz.sizeOf28, v22 := Tryz.zeroValue28 }
theorem ok_253 (n : Nat) (h0 : 0 < n) (hn : n ≤ 1000000) : AC CT.P 94 [.nils, .int .i64 n] [] (.ret (.orow tThing 0)) [some (.row 52 tThing [])] := by
  intro R ρ w vs hr hvs
  obtain ⟨u0, us, hu, k1, k2⟩ := hvs.cons_inv
  obtain ⟨u1, us1, rfl, k3, k4⟩ := k2.cons_inv
  obtain rfl := k4.nil_inv
  have hv : vs = #[u0, u1] := Array.toList_inj.1 (by simpa using hu)
  subst hv
  cases k1
  cases k3
  obtain ⟨i0, z, hi0, hz0, hs0, hb0, hzs⟩ : ∃ i0 z, Tryz.prog.info? 52 = some i0 ∧ i0.zero = some z ∧ i0.size = 14 ∧ i0.bytes = 128 ∧ z.cells.size = 14 := by
    have h : (Tryz.prog.info? 52).bind (fun i => i.zero.map fun z => (i.size, i.bytes, z.cells.size)) = some (14, 128, 14) := by kernel_rfl
    obtain ⟨i0, hi, h⟩ := Option.bind_eq_some_iff.1 h
    obtain ⟨z, hz, h⟩ := Option.map_eq_some_iff.1 h
    simp only [Prod.mk.injEq] at h
    exact ⟨i0, z, hi, hz, h.1, h.2.1, h.2.2⟩
  have hs := Any8.slices_Grow_grow laysGrow i0 z hi0 hz0 (by omega) none 0 0 n [] w (Nat.le_refl _) (by omega) (by rw [hb0]; omega) (by omega) (by simp) (fun _ => rfl) (fun a h => by cases h)
  refine hs.mono ?_
  rintro e w' ⟨rfl, rfl⟩
  have hge := grownCap_ge w (0 + n) 0 52
  generalize hA : ([] : List Value).toArray ++ Builtin.zeroCells z.cells (0 + n - 0) ++ Builtin.zeroCells z.cells (grownCap w (0 + n) 0 (growRen.t 25) - (0 + n)) = A
  have hsz : A.size = grownCap w (0 + n) 0 52 * 14 := by
    rw [← hA]
    simp only [Array.size_append, size_zeroCells, hzs, List.size_toArray, List.length_nil]
    show 0 + (0 + n - 0) * 14 + (grownCap w (0 + n) 0 52 - (0 + n)) * 14 = _
    omega
  have hh : (w.drew.alloc (.cells A (growRen.t 25))).heap = w.heap.push (.cells A 52) := rfl
  obtain ⟨R', ρ', q1, q2, q3⟩ := row_back (l := []) (v := []) (l2 := []) (h0 := []) (nb := w.heap.size) (cap := grownCap w (0 + n) 0 52)
    (w' := w.drew.alloc (.cells A (growRen.t 25))) (N := ⟨0, 0, false⟩)
    (arr2 := A) hr rfl rfl rfl (by rw [hh, Array.size_push]; omega) (Nat.le_succ _) (fun k hk hne => by
      rw [hh, Array.getElem?_push, if_neg (Nat.ne_of_lt hk)]) (.inr (Nat.le_refl _)) (by rw [hh, Array.getElem?_push, if_pos rfl]) (Nat.zero_le _) (by
      show VReps w R ρ [] (A.toList.take 0)
      rw [List.take_zero]
      exact .nil) (Nat.zero_le _) (by rw [hsz]; exact Nat.le_refl _)
  exact ⟨R', ρ', _, ⟨rfl, q1⟩, q2, frm_of hr q3⟩
noncomputable def F_253 (a1 : Unit) (a2 : Ty.El I) : Option (List (Ty.El tThing)) := bif decide ((0 : Int) < a2) && decide (a2 ≤ (1000000 : Int)) then some [] else F_253z a1 a2
noncomputable def E_253 : Ent := .own 94 [] ⟨[.nil, .ty I], 52, tThing, fun x => F_253 x.1 x.2.1⟩
theorem e_253 : E_253.Ok CT.P := by
  intro x y hxy
  obtain ⟨u, (n : Int), x2⟩ := x
  have hxy : F_253 u n = some y := hxy
  unfold F_253 at hxy
  cases hb : decide ((0 : Int) < n) && decide (n ≤ (1000000 : Int)) with
  | false =>
    rw [hb] at hxy
    exact e_253z (u, n, x2) y hxy
  | true =>
    rw [hb] at hxy
    have hy : y = [] := (Option.some.inj hxy).symm
    subst hy
    simp only [Bool.and_eq_true, decide_eq_true_eq] at hb
    obtain ⟨m, rfl⟩ := Int.eq_ofNat_of_zero_le (Int.le_of_lt hb.1)
    exact ok_253 m (by omega) (by omega)
end Go.DI.S
set_option linter.unusedVariables false
set_option linter.unusedSimpArgs false
set_option maxRecDepth 100000
namespace Go.DI.S
open Go.Proofs Go.Shelf Go.RowKit Go.Lib Go.Sort
def sortTRen : Go.Shelf.Ren := ⟨fun | 6 => 182 | 14 => 207 | 15 => 96 | 20 => 226 | 21 => 227 | 22 => 228 | 23 => 229 | 24 => 230 | 25 => 231 | 26 => 232 | 27 => 233 | 28 => 145 | 29 => 146 | 46 => 243 | 47 => 185 | 48 => 186 | 49 => 244 | 50 => 245 | 57 => 249 | n => n, fun | 0 => 0 | 3 => 3 | 4 => 4 | 5 => 5 | 9 => 9 | 22 => 28 | 24 => 52 | 25 => 233 | 39 => 137 | 45 => 196 | 46 => 197 | 50 => 162 | 53 => 204 | 55 => 136 | 66 => 234 | 70 => 238 | 76 => 254 | 77 => 255 | n => n, fun n => n⟩
theorem laysSortT : SlLaysF0.n6 Tryz.prog sortTRen := {
  mixed := by kernel_rfl,
  f6 := ⟨ "slices.SortFunc[[]maquette/api.Thing,maquette/api.Thing]", by kernel_rfl, Tryz.func182.trans (congrArg some (by kernel_rfl))⟩,
  f14 := ⟨ "slices.pdqsortCmpFunc[maquette/api.Thing]", by kernel_rfl, Tryz.func207.trans (congrArg some (by kernel_rfl))⟩,
  f15 := Tryz.func96.trans (congrArg some (by kernel_rfl)),
  f20 := ⟨ "slices.insertionSortCmpFunc[maquette/api.Thing]", by kernel_rfl, Tryz.func226.trans (congrArg some (by kernel_rfl))⟩,
  f21 := ⟨ "slices.heapSortCmpFunc[maquette/api.Thing]", by kernel_rfl, Tryz.func227.trans (congrArg some (by kernel_rfl))⟩,
  f22 := ⟨ "slices.breakPatternsCmpFunc[maquette/api.Thing]", by kernel_rfl, Tryz.func228.trans (congrArg some (by kernel_rfl))⟩,
  f23 := ⟨ "slices.choosePivotCmpFunc[maquette/api.Thing]", by kernel_rfl, Tryz.func229.trans (congrArg some (by kernel_rfl))⟩,
  f24 := ⟨ "slices.reverseRangeCmpFunc[maquette/api.Thing]", by kernel_rfl, Tryz.func230.trans (congrArg some (by kernel_rfl))⟩,
  f25 := ⟨ "slices.partialInsertionSortCmpFunc[maquette/api.Thing]", by kernel_rfl, Tryz.func231.trans (congrArg some (by kernel_rfl))⟩,
  f26 := ⟨ "slices.partitionEqualCmpFunc[maquette/api.Thing]", by kernel_rfl, Tryz.func232.trans (congrArg some (by kernel_rfl))⟩,
  f27 := ⟨ "slices.partitionCmpFunc[maquette/api.Thing]", by kernel_rfl, Tryz.func233.trans (congrArg some (by kernel_rfl))⟩,
  f28 := Tryz.func145.trans (congrArg some (by kernel_rfl)),
  f29 := Tryz.func146.trans (congrArg some (by kernel_rfl)),
  f46 := ⟨ "slices.siftDownCmpFunc[maquette/api.Thing]", by kernel_rfl, Tryz.func243.trans (congrArg some (by kernel_rfl))⟩,
  f47 := Tryz.func185.trans (congrArg some (by kernel_rfl)),
  f48 := Tryz.func186.trans (congrArg some (by kernel_rfl)),
  f49 := ⟨ "slices.medianAdjacentCmpFunc[maquette/api.Thing]", by kernel_rfl, Tryz.func244.trans (congrArg some (by kernel_rfl))⟩,
  f50 := ⟨ "slices.medianCmpFunc[maquette/api.Thing]", by kernel_rfl, Tryz.func245.trans (congrArg some (by kernel_rfl))⟩,
  f57 := ⟨ "slices.order2CmpFunc[maquette/api.Thing]", by kernel_rfl, Tryz.func249.trans (congrArg some (by kernel_rfl))⟩,
  t0 := Tryz.underlying0, a0 := Tryz.isAgg0, z0 := Tryz.sizeOf0, v0 := Tryz.zeroValue0,
  t3 := Tryz.underlying3, a3 := Tryz.isAgg3, z3 := Tryz.sizeOf3, v3 := Tryz.zeroValue3,
  t4 := Tryz.underlying4, a4 := Tryz.isAgg4, z4 := Tryz.sizeOf4, v4 := Tryz.zeroValue4,
  t5 := Tryz.underlying5, a5 := Tryz.isAgg5, z5 := Tryz.sizeOf5, v5 := Tryz.zeroValue5,
  t9 := Tryz.underlying9, a9 := Tryz.isAgg9, z9 := Tryz.sizeOf9, v9 := Tryz.zeroValue9,
  t22 := Tryz.underlying28, a22 := Tryz.isAgg28, z22 := Tryz.sizeOf28, v22 := Tryz.zeroValue28,
  t25 := Tryz.underlying233, a25 := Tryz.isAgg233, z25 := Tryz.sizeOf233, v25 := Tryz.zeroValue233,
  t39 := Tryz.underlying137, a39 := Tryz.isAgg137, z39 := Tryz.sizeOf137, v39 := Tryz.zeroValue137,
  t45 := Tryz.underlying196, a45 := Tryz.isAgg196, z45 := Tryz.sizeOf196, v45 := Tryz.zeroValue196,
  t46 := Tryz.underlying197, a46 := Tryz.isAgg197, z46 := Tryz.sizeOf197, v46 := Tryz.zeroValue197,
  t50 := Tryz.underlying162, a50 := Tryz.isAgg162, z50 := Tryz.sizeOf162, v50 := Tryz.zeroValue162,
  t53 := Tryz.underlying204, a53 := Tryz.isAgg204, z53 := Tryz.sizeOf204, v53 := Tryz.zeroValue204,
  t55 := Tryz.underlying136, a55 := Tryz.isAgg136, z55 := Tryz.sizeOf136, v55 := Tryz.zeroValue136,
  t66 := Tryz.underlying234, a66 := Tryz.isAgg234, z66 := Tryz.sizeOf234, v66 := Tryz.zeroValue234,
  t70 := Tryz.underlying238, a70 := Tryz.isAgg238, z70 := Tryz.sizeOf238, v70 := Tryz.zeroValue238,
  t76 := Tryz.underlying254, a76 := Tryz.isAgg254, z76 := Tryz.sizeOf254, v76 := Tryz.zeroValue254,
  t77 := Tryz.underlying255, a77 := Tryz.isAgg255, z77 := Tryz.sizeOf255, v77 := Tryz.zeroValue255 }
set_option maxHeartbeats 4000000 in
theorem closure29 (a b : Int) (c1 c2 c3 c4 c5 c6 c7 c8 c9 c10 c11 c12 c13 d1 d2 d3 d4 d5 d6 d7 d8 d9 d10 d11 d12 d13 : Value) (ha : 0 ≤ a ∧ a ≤ 1000000) (hb : 0 ≤ b ∧ b ≤ 1000000) (W : World) :
    Calls Tryz.prog 183 #[.agg #[.int .i64 a, c1, c2, c3, c4, c5, c6, c7, c8, c9, c10, c11, c12, c13], .agg #[.int .i64 b, d1, d2, d3, d4, d5, d6, d7, d8, d9, d10, d11, d12, d13]] W fun e w' => e = .returned (.int .i64 (a - b)) ∧ ∃ q os', w' = grow (W.drewN q) os' := by
  have hw : Go.RowKit.wrap64 (a - b) = a - b := by unfold Go.RowKit.wrap64; omega
  clear ha hb
  go_enter Tryz.func183, Tryz.ntmps183
  go_wp2
  go_ret
  exact ⟨congrArg (fun x => Ending.returned (.int .i64 x)) hw, 0, _, by rw [alloc_eq_grow, alloc_eq_grow, grow_grow]; rfl⟩
end Go.DI.S
set_option linter.unusedVariables false
set_option linter.unusedSimpArgs false
set_option maxRecDepth 100000
namespace Go.DI.S
open Go.Proofs Go.Shelf Go.RowKit Go.Lib Go.Sort
theorem distB_iff : ∀ {l : List Int}, distB l = true → (∀ n ∈ l, 1 ≤ n ∧ n ≤ 1000000) ∧ l.Nodup
  | [], _ => ⟨fun n h => by simp at h, .nil⟩
  | a :: l, h => by
    unfold distB at h
    simp only [Bool.and_eq_true, decide_eq_true_eq, Bool.not_eq_true'] at h
    obtain ⟨⟨⟨h1, h2⟩, h3⟩, h4⟩ := h
    obtain ⟨k1, k2⟩ := distB_iff h4
    refine ⟨fun n hn => ?_, List.nodup_cons.2 ⟨fun hm => ?_, k2⟩⟩
    · rcases List.mem_cons.1 hn with rfl | hn
      · exact ⟨h1, h2⟩
      · exact k1 n hn
    · have : l.contains a = true := by simpa using hm
      rw [this] at h3; cases h3
theorem ordT_perm (a : Thing) : ∀ l, (ordT a l).Perm (a :: l)
  | [] => .refl _
  | b :: l => by
    simp only [ordT]
    cases decide (nid a ≤ nid b) with
    | true => exact .refl _
    | false => exact ((ordT_perm a l).cons b).trans (.swap a b l)
theorem sortT_perm : ∀ l, (sortT l).Perm l
  | [] => .refl _
  | a :: l => (ordT_perm a _).trans ((sortT_perm l).cons a)
theorem ordT_sorted (a : Thing) : ∀ l, l.Pairwise (fun x y => nid x ≤ nid y) → (ordT a l).Pairwise (fun x y => nid x ≤ nid y)
  | [], _ => by simp [ordT]
  | b :: l, h => by
    have hb := List.pairwise_cons.1 h
    simp only [ordT]
    cases hd : decide (nid a ≤ nid b) with
    | true =>
      have hab : nid a ≤ nid b := of_decide_eq_true hd
      refine List.pairwise_cons.2 ⟨fun x hx => ?_, h⟩
      rcases List.mem_cons.1 hx with rfl | hx
      · exact hab
      · exact Int.le_trans hab (hb.1 x hx)
    | false =>
      have hab : ¬ nid a ≤ nid b := of_decide_eq_false hd
      refine List.pairwise_cons.2 ⟨fun x hx => ?_, ordT_sorted a l hb.2⟩
      rcases List.mem_cons.1 ((ordT_perm a l).mem_iff.1 hx) with rfl | hx
      · omega
      · exact hb.1 x hx
theorem sortT_sorted : ∀ l, (sortT l).Pairwise (fun x y => nid x ≤ nid y)
  | [] => .nil
  | a :: l => ordT_sorted a _ (sortT_sorted l)
theorem sortT_len (l : List Thing) : (sortT l).length = l.length := (sortT_perm l).length_eq
theorem nid_inj {l : List Thing} (h : (l.map nid).Nodup) {a b : Thing} (ha : a ∈ l) (hb : b ∈ l) (e : nid a = nid b) : a = b := by
  obtain ⟨i, hi, rfl⟩ := List.getElem_of_mem ha
  obtain ⟨j, hj, rfl⟩ := List.getElem_of_mem hb
  have : i = j := (List.getElem?_inj (by simpa using hi : i < (l.map nid).length) h).1 (by
    rw [List.getElem?_map, List.getElem?_map, List.getElem?_eq_getElem hi, List.getElem?_eq_getElem hj]
    exact congrArg some e)
  subst this; rfl
theorem sortT_of {l m : List Thing} (hd : (l.map nid).Nodup) (hp : m.Perm l) (hs : m.Pairwise (fun x y => nid x ≤ nid y)) : m = sortT l :=
  List.Perm.eq_of_pairwise (le := fun x y => nid x ≤ nid y) (fun a b ha hb h k => nid_inj hd (hp.mem_iff.1 ha) ((sortT_perm l).mem_iff.1 hb) (Int.le_antisymm h k)) hs (sortT_sorted l) (hp.trans (sortT_perm l).symm)
def keyT (l : List Thing) (i : Nat) : Int := if i < l.length then nid (l.getD i noThing) else 0
def encT (l : List Thing) (arr : Array Value) (i : Nat) : List Value := if i < l.length then (arr.toList.drop (i * 14)).take 14 else .int .i64 0 :: List.replicate 13 (.int .i64 0)
theorem ex14 {cs : List Value} {v : Value} (hl : cs.length = 14) (h0 : cs[0]? = some v) : ∃ c1 c2 c3 c4 c5 c6 c7 c8 c9 c10 c11 c12 c13, cs = [v, c1, c2, c3, c4, c5, c6, c7, c8, c9, c10, c11, c12, c13] := by
  match cs, hl, h0 with
  | [c0, c1, c2, c3, c4, c5, c6, c7, c8, c9, c10, c11, c12, c13], _, h0 =>
    simp only [List.getElem?_cons_zero, Option.some.injEq] at h0
    subst h0
    exact ⟨c1, c2, c3, c4, c5, c6, c7, c8, c9, c10, c11, c12, c13, rfl⟩
section
variable {l : List Thing} {arr : Array Value} {w : World} {R : Nat → Prop} {ρ : Nm}
theorem encT_len (h : l.length * 14 ≤ arr.size) (i : Nat) : (encT l arr i).length = 14 := by
  unfold encT
  split
  · simp only [List.length_take, List.length_drop, Array.length_toList]; omega
  · rfl
theorem encT_get (h : l.length * 14 ≤ arr.size) {i o : Nat} (hi : i < l.length) (ho : o < 14) : (encT l arr i)[o]? = arr[i * 14 + o]? := by
  unfold encT
  rw [if_pos hi, List.getElem?_take_of_lt ho, List.getElem?_drop, Array.getElem?_toList]
theorem cell_vrep (h : l.length * 14 ≤ arr.size) (hv : VReps w R ρ (tThing.flat l) (arr.toList.take (l.length * 14))) {t : Nat} (ht : t < l.length * 14) : ∃ c u, (tThing.flat l)[t]? = some c ∧ arr[t]? = some u ∧ VRep w R ρ c u ∧ c.one = true := by
  have hta : t < arr.size := by omega
  have hf : t < (tThing.flat l).length := by rw [tThing.flat_len]; exact ht
  exact ⟨_, arr[t], List.getElem?_eq_getElem hf, Array.getElem?_eq_getElem hta, hv.2 t _ _ (List.getElem?_eq_getElem hf) (by rw [List.getElem?_take_of_lt ht, Array.getElem?_toList, Array.getElem?_eq_getElem hta]), List.all_eq_true.1 (tThing.flat_one l) _ (List.getElem_mem hf)⟩
theorem encT_one (h : l.length * 14 ≤ arr.size) (hv : VReps w R ρ (tThing.flat l) (arr.toList.take (l.length * 14))) (i : Nat) : ∀ v ∈ encT l arr i, v.oneCell' = true := by
  intro v hm
  obtain ⟨o, ho, e⟩ := List.getElem_of_mem hm
  rw [encT_len h] at ho
  by_cases hi : i < l.length
  · obtain ⟨c, u, k1, k2, k3, k4⟩ := cell_vrep h hv (t := i * 14 + o) (by omega)
    have : (encT l arr i)[o]? = some v := by rw [List.getElem?_eq_getElem (by rw [encT_len h]; exact ho), e]
    rw [encT_get h hi ho, k2] at this
    injection this with this
    subst this
    exact k3.notAgg k4
  · unfold encT at hm
    rw [if_neg hi] at hm
    rcases List.mem_cons.1 hm with rfl | hm
    · rfl
    · obtain ⟨_, rfl⟩ := List.mem_replicate.1 hm; rfl
theorem encT_key (h : l.length * 14 ≤ arr.size) (hv : VReps w R ρ (tThing.flat l) (arr.toList.take (l.length * 14))) (i : Nat) : (encT l arr i)[0]? = some (.int .i64 (keyT l i)) := by
  by_cases hi : i < l.length
  · rw [encT_get h hi (by omega)]
    obtain ⟨c, u, k1, k2, k3, k4⟩ := cell_vrep h hv (t := i * 14 + 0) (by omega)
    rw [k2]
    have e : (tThing.flat l)[i * tThing.sz + 0]? = (tThing.at l i).cells[0]? := tThing.flat_get l hi (by show 0 < 14; omega)
    have e : (tThing.flat l)[i * 14 + 0]? = (tThing.at l i).cells[0]? := e
    rw [e] at k1
    have e2 : (tThing.at l i).cells[0]? = some (.int .i64 (nid (l.getD i noThing))) := by
      have e3 : l.getD i noThing = l[i] := by rw [List.getD_eq_getElem?_getD, List.getElem?_eq_getElem hi]; rfl
      rw [e3]
      unfold Ty.at
      rw [List.getD_eq_getElem?_getD, List.getElem?_eq_getElem hi]
      rfl
    rw [e2] at k1
    injection k1 with k1
    subst k1
    cases k3
    unfold keyT
    rw [if_pos hi]
  · unfold encT keyT
    rw [if_neg hi, if_neg hi]; rfl
theorem keyT_range (hd : ∀ n ∈ l.map nid, 1 ≤ n ∧ n ≤ 1000000) (i : Nat) : 0 ≤ keyT l i ∧ keyT l i ≤ 1000000 := by
  unfold keyT
  split
  · rename_i hi
    have := hd (nid (l.getD i noThing)) (List.mem_map.2 ⟨l[i], List.getElem_mem hi, by rw [List.getD_eq_getElem?_getD, List.getElem?_eq_getElem hi]; rfl⟩)
    omega
  · omega
theorem cmpT (h : l.length * 14 ≤ arr.size) (hv : VReps w R ρ (tThing.flat l) (arr.toList.take (l.length * 14))) (hd : ∀ n ∈ l.map nid, 1 ≤ n ∧ n ≤ 1000000) (x y : Nat) (W : World) :
    Calls Tryz.prog 183 #[.agg (encT l arr x).toArray, .agg (encT l arr y).toArray] W fun e w' => e = .returned (.int .i64 (keyT l x - keyT l y)) ∧ ∃ q os', w' = grow (W.drewN q) os' := by
  obtain ⟨c1, c2, c3, c4, c5, c6, c7, c8, c9, c10, c11, c12, c13, hc⟩ := ex14 (encT_len h x) (encT_key h hv x)
  obtain ⟨d1, d2, d3, d4, d5, d6, d7, d8, d9, d10, d11, d12, d13, hd'⟩ := ex14 (encT_len h y) (encT_key h hv y)
  rw [hc, hd']
  exact closure29 _ _ c1 c2 c3 c4 c5 c6 c7 c8 c9 c10 c11 c12 c13 d1 d2 d3 d4 d5 d6 d7 d8 d9 d10 d11 d12 d13 (keyT_range hd x) (keyT_range hd y) W
theorem swoT (l : List Thing) : SWO (ltOf fun x y : Nat => keyT l x - keyT l y) := by
  have e : ∀ x y, ltOf (fun x y : Nat => keyT l x - keyT l y) x y = decide (keyT l x < keyT l y) := by
    intro x y
    show decide (keyT l x - keyT l y < 0) = _
    by_cases h : keyT l x < keyT l y
    · rw [decide_eq_true h, decide_eq_true (by omega)]
    · rw [decide_eq_false h, decide_eq_false (by omega)]
  exact ⟨fun x => by rw [e]; simp, fun x y z h1 h2 => by rw [e] at *; simp at *; omega, fun x y z h1 h2 => by rw [e] at *; simp at *; omega⟩
theorem flat_get! (h : l.length * 14 ≤ arr.size) {d : Array Nat} (hs : d.size = l.length) (hb : ∀ j, j < l.length → d[j]! < l.length) {j o : Nat} (hj : j < l.length) (ho : o < 14) : (flatK (encT l arr) 14 d)[j * 14 + o]? = arr[d[j]! * 14 + o]? := by
  have hlt : j * 14 + o < (flatK (encT l arr) 14 d).size := by rw [size_flatK, hs]; omega
  have h1 := get_flatK (encT l arr) 14 d (j * 14 + o) (by rw [hs]; omega)
  rw [getElem!_pos (flatK (encT l arr) 14 d) (j * 14 + o) hlt] at h1
  rw [Array.getElem?_eq_getElem hlt, h1, show (j * 14 + o) / 14 = j by omega, show (j * 14 + o) % 14 = o by omega]
  have h2 : o < (encT l arr d[j]!).length := by rw [encT_len h]; exact ho
  rw [getElem!_pos (encT l arr d[j]!) o h2, ← List.getElem?_eq_getElem h2]
  exact encT_get h (hb j hj) ho
theorem holdsT (h : l.length * 14 ≤ arr.size) {b : Nat} (hb : w.heap[b]? = some (.cells arr 52 (0, 0))) : HoldsK (encT l arr) 14 w b 0 (Array.range l.length) := by
  intro t ht
  rw [size_flatK, Array.size_range] at ht
  have hr : ∀ j, j < l.length → (Array.range l.length)[j]! = j := fun j hj => by
    rw [getElem!_pos _ _ (by rw [Array.size_range]; exact hj), Array.getElem_range]
  have hf := flat_get! h (d := Array.range l.length) Array.size_range (fun j hj => by rw [hr j hj]; exact hj) (j := t / 14) (o := t % 14) (by omega) (by omega)
  rw [hr _ (by omega), show t / 14 * 14 + t % 14 = t by omega] at hf
  have hlt : t < (flatK (encT l arr) 14 (Array.range l.length)).size := by rw [size_flatK, Array.size_range]; exact ht
  refine ⟨?_, by simp [World.frozen?, hb]⟩
  rw [getElem!_pos (flatK (encT l arr) 14 (Array.range l.length)) t hlt, id, ← Array.getElem?_eq_getElem hlt, hf]
  simp [World.cell?, hb]
end
end Go.DI.S
set_option linter.unusedVariables false
set_option linter.unusedSimpArgs false
set_option maxRecDepth 100000
namespace Go.DI.S
open Go.Proofs Go.Shelf Go.RowKit Go.Lib Go.Sort
theorem putCells_get {d cur : Array Value} (h : d.size ≤ cur.size) {t : Nat} (ht : t < d.size) : (putCells (id : Value → Value) 0 d cur)[t]? = d[t]? := by
  have h2 : t < cur.size := by omega
  rw [Array.getElem?_eq_getElem ht]
  simp [putCells, ht, h2]
theorem range_map (l : List Thing) : (List.range l.length).map (fun i => l.getD i noThing) = l := by
  apply List.ext_getElem?
  intro j
  rw [List.getElem?_map]
  by_cases hj : j < l.length
  · rw [List.getElem?_range hj, Option.map_some, List.getD_eq_getElem?_getD, List.getElem?_eq_getElem hj]; rfl
  · rw [List.getElem?_eq_none (by simpa using hj), List.getElem?_eq_none (by omega)]; rfl
theorem sort_from {l : List Thing} (hd : (l.map nid).Nodup) {d : Array Nat} (hp : PermIn 0 l.length (Array.range l.length) d) (hs : SortedIn (ltOf fun x y : Nat => keyT l x - keyT l y) 0 l.length d) :
    d.size = l.length ∧ (∀ j, j < l.length → d[j]! < l.length) ∧ sortT l = d.toList.map (fun i => l.getD i noThing) := by
  obtain ⟨h1, _, h3⟩ := hp
  rw [Array.size_range] at h1
  have e1 : (Array.range l.length).extract 0 l.length = Array.range l.length := by
    rw [Array.extract_eq_self_of_le (by rw [Array.size_range]; exact Nat.le_refl _)]
  have e2 : d.extract 0 l.length = d := by rw [Array.extract_eq_self_of_le (by omega)]
  rw [e1, e2, Array.toList_range] at h3
  have hb : ∀ j, j < l.length → d[j]! < l.length := by
    intro j hj
    have hj' : j < d.size := by omega
    rw [getElem!_pos d j hj']
    have : d[j] ∈ d.toList := by simp
    have := h3.mem_iff.1 this
    simpa using this
  refine ⟨h1, hb, (sortT_of hd ?_ ?_).symm⟩
  · have := h3.map (fun i => l.getD i noThing)
    rw [range_map] at this
    exact this
  · rw [List.pairwise_map, List.pairwise_iff_getElem]
    intro i j hi hj hij
    rw [Array.length_toList] at hi hj
    have h4 := hs i j (Nat.zero_le _) hij (by omega)
    rw [getElem!_pos d i hi, getElem!_pos d j hj] at h4
    have b1 := hb i (by omega)
    have b2 := hb j (by omega)
    rw [getElem!_pos d i hi] at b1
    rw [getElem!_pos d j hj] at b2
    have h5 : ¬ (keyT l d[j] - keyT l d[i] < 0) := of_decide_eq_false h4
    unfold keyT at h5
    rw [if_pos b1, if_pos b2] at h5
    show nid (l.getD d.toList[i] noThing) ≤ nid (l.getD d.toList[j] noThing)
    rw [Array.getElem_toList, Array.getElem_toList]
    omega
theorem ok_111 : G_111.Ok CT.P 182 := by
  intro x y hxy R ρ w vs hr hvs
  have hxy : F_111 x.1.2.1 x.2.1 = some y := hxy
  unfold F_111 at hxy
  generalize hl : x.2.1 = l at hxy
  cases hb : distB (l.map nid) && Nat.ble l.length 1000000 with
  | false => rw [hb] at hxy; cases hxy
  | true =>
  rw [hb] at hxy
  rw [Bool.and_eq_true] at hb
  have hlen := Nat.le_of_ble_eq_true hb.2
  obtain ⟨hd1, hd2⟩ := distB_iff hb.1
  have hy : y = ((), sortT l, ()) := (Option.some.inj hxy).symm
  subst hy
  have hr : Rel R ρ [some (.row 52 tThing x.2.1)] w := hr
  have hvs : VReps w R ρ [.orow tThing 0, .func 183 [] []] vs.toList := hvs
  rw [hl] at hr
  obtain ⟨u0, us, hu, h1, h2⟩ := hvs.cons_inv
  obtain ⟨u1, us1, rfl, h3, h4⟩ := h2.cons_inv
  obtain rfl := h4.nil_inv
  have hv : vs = #[u0, u1] := Array.toList_inj.1 (by simpa using hu)
  subst hv
  have hone : ∀ (m : List Thing) (k : Nat) (blk : ABlk), ([some (ABlk.row 52 tThing m)] : AH)[k]? = some (some blk) → k = 0 ∧ blk = .row 52 tThing m := by
    intro m k blk hk
    cases k with
    | zero => simp at hk; exact ⟨rfl, hk.symm⟩
    | succ k => simp at hk
  show Calls CT.P 182 #[u0, u1] w fun q w' => ∃ R' ρ' u, q = .returned u ∧ VRep w' R' ρ' (.tup []) u ∧ Rel R' ρ' [some (.row 52 tThing (sortT l))] w' ∧ FrmW 1 R ρ [some (.row 52 tThing x.2.1)] w R' ρ' [some (.row 52 tThing (sortT l))] w'
  rw [hl]
  have hfn : u1 = .func (.func 183) #[] #[] := by
    cases h3 with
    | func vf vc e1 e2 _ _ =>
      have e1 : vf.size = 0 := e1
      have e2 : vc.size = 0 := e2
      rw [Array.eq_empty_of_size_eq_zero e1, Array.eq_empty_of_size_eq_zero e2]
  subst hfn
  cases h1 with
  | @orow _ _ b N cap hn hg hlc hc =>
    obtain ⟨b', N', hn', hB, hre⟩ := hr.live 0 _ rfl
    rw [hn] at hn'
    simp only [Option.some.injEq, Prod.mk.injEq] at hn'
    obtain ⟨rfl, rfl⟩ := hn'
    have q1 : N.len = l.length := hB.1
    obtain ⟨arr, q3, q4, q5, q6⟩ := row_cells hB hg
    rw [tThing.flat_len] at q5 q6
    have hs14 : tThing.sz = 14 := rfl
    rw [hs14] at q5 q6 hc
    have hsz : l.length * 14 ≤ arr.size := by rw [q4]; exact q5
    have hblk : b < w.heap.size := (Array.getElem?_eq_some_iff.1 q3).1
    have hcmp : CmpLays Tryz.prog 183 #[] (encT l arr) 14 (fun x y => keyT l x - keyT l y) b 0 (Array.range l.length).size w := fun m os dk _ x y => cmpT hsz q6 hd1 x y _
    have eg : ∀ args w, (callFunc 183 args).run Tryz.prog w = .ok (.enter 183 args) w := enters_of Tryz.func183 (by kernel_rfl) rfl
    have hs := AnyQ.slices_SortFunc laysSortT 14 Tryz.isAgg52 Tryz.sizeOf52 (encT l arr) (encT_len hsz) (encT_one hsz q6) (fun x y => keyT l x - keyT l y) (swoT l) 183 #[] b 0 cap (Array.range l.length) w eg hcmp (holdsT hsz q3) hblk (by rw [Array.size_range]; omega)
    rw [Array.size_range] at hs
    rw [q1]
    refine Calls.mono (P := Tryz.prog) (f := 182) hs ?_
    rintro e w' ⟨rfl, d', n, os, hp, hso, rfl⟩
    obtain ⟨f1, f2, f3⟩ := sort_from hd2 hp hso
    have hfk : (flatK (encT l arr) 14 d').size = l.length * 14 := by rw [size_flatK, f1]
    have hput : sortWorldK (encT l arr) 14 w b 0 n d' os = grow (putRow id (Sort.ahead w n) b 0 (flatK (encT l arr) 14 d')) os := rfl
    rw [hput]
    generalize hrow : flatK (encT l arr) 14 d' = row at *
    have hheap : (grow (putRow id (Sort.ahead w n) b 0 row) os).heap[b]? = some (.cells (putCells id 0 row arr) 52 (0, 0)) := by
      rw [heap_grow_old _ _ (by simpa [putRow, mapBlock, Sort.ahead] using hblk)]
      simp [putRow, mapBlock, Sort.ahead, Array.getElem?_modify, q3, onCells]
    have hsz2 : (grow (putRow id (Sort.ahead w n) b 0 row) os).heap.size = w.heap.size + os.size := by
      rw [size_grow]; simp [putRow, mapBlock, Sort.ahead]
    have hkeep : ∀ k, k < w.heap.size → k ≠ b → (grow (putRow id (Sort.ahead w n) b 0 row) os).heap[k]? = w.heap[k]? := by
      intro k hk hne
      rw [heap_grow_old _ _ (by simpa [putRow, mapBlock, Sort.ahead] using hk)]
      have : b ≠ k := fun e => hne e.symm
      simp [putRow, mapBlock, Sort.ahead, Array.getElem?_modify, this]
    have hnR : ¬ R b := hre.notR hg
    have hlv : ∀ c, Lv ρ [some (.row 52 tThing l)] c → c = b := by
      rintro c ⟨k, blk, M, hk, hn', hg'⟩
      obtain ⟨rfl, rfl⟩ := hone l k blk hk
      rw [hn] at hn'
      simp only [Option.some.injEq, Prod.mk.injEq] at hn'
      exact hn'.1.symm
    have hlv' : ∀ c, Lv ρ [some (.row 52 tThing (sortT l))] c → Lv ρ [some (.row 52 tThing l)] c := by
      rintro c ⟨k, blk, M, hk, hn', hg'⟩
      obtain ⟨rfl, rfl⟩ := hone _ k blk hk
      exact ⟨0, _, M, rfl, hn', hg'⟩
    have hcells : VReps (grow (putRow id (Sort.ahead w n) b 0 row) os) R ρ (tThing.flat (sortT l)) ((putCells id 0 row arr).toList.take (tThing.flat (sortT l)).length) := by
      rw [tThing.flat_len, sortT_len, hs14]
      refine ⟨by rw [List.length_take, tThing.flat_len, sortT_len, hs14]; simp [putCells]; omega, fun k c u hc' hu => ?_⟩
      have hk : k < l.length * 14 := by
        have := (List.getElem?_eq_some_iff.1 hc').1
        rw [tThing.flat_len, sortT_len, hs14] at this; exact this
      rw [List.getElem?_take_of_lt hk, Array.getElem?_toList, putCells_get (by omega) (by omega)] at hu
      have hj : k / 14 < l.length := by omega
      have ho : k % 14 < 14 := by omega
      have hki : k = k / 14 * 14 + k % 14 := by omega
      have hi := f2 _ hj
      rw [hki, ← hrow, flat_get! hsz f1 f2 hj ho] at hu
      have g1 : (tThing.flat (sortT l))[k / 14 * tThing.sz + k % 14]? = (tThing.at (sortT l) (k / 14)).cells[k % 14]? := tThing.flat_get (sortT l) (by rw [sortT_len]; exact hj) ho
      have g2 : (tThing.flat l)[d'[k / 14]! * tThing.sz + k % 14]? = (tThing.at l d'[k / 14]!).cells[k % 14]? := tThing.flat_get l hi ho
      have g3 : tThing.at (sortT l) (k / 14) = tThing.at l d'[k / 14]! := by
        unfold Ty.at
        congr 1
        have hj' : k / 14 < d'.size := by omega
        rw [f3, List.getD_eq_getElem?_getD, List.getElem?_map, Array.getElem?_toList, Array.getElem?_eq_getElem hj', Option.map_some, Option.getD_some, getElem!_pos d' _ hj']
        rw [getElem!_pos d' _ hj'] at hi
        rw [List.getD_eq_getElem?_getD, List.getD_eq_getElem?_getD, List.getElem?_eq_getElem hi]; rfl
      rw [hki] at hc'
      have hc' : (tThing.flat (sortT l))[k / 14 * tThing.sz + k % 14]? = some c := hc'
      rw [g1, g3, ← g2] at hc'
      have hc' : (tThing.flat l)[d'[k / 14]! * 14 + k % 14]? = some c := hc'
      have := q6.2 _ c u hc' (by rw [List.getElem?_take_of_lt (by omega), Array.getElem?_toList]; exact hu)
      exact this.mono (fun k' hk' => hkeep k' (hr.ro k' hk') fun e => hnR (e ▸ hk')) (fun _ h => h) (Nm.le_refl _)
    have hsp : (putCells id 0 row arr).size = N.n := by simp [putCells, q4]
    refine ⟨R, ρ, _, rfl, .tup' .nil, ⟨fun k blk hk => ?_, fun k k' bk bk' c Nk Nk' hk hk' _ _ _ _ => ?_, fun k hk => hr.dom k hk, fun c hc' => by rw [hsz2]; exact Nat.lt_of_lt_of_le (hr.ro c hc') (Nat.le_add_right _ _)⟩,
      ⟨rfl, rfl, rfl, by rw [hsz2]; exact Nat.le_add_right _ _, fun _ h => h, fun c hc' hnl => hkeep c hc' fun e => hnl (e ▸ ⟨0, _, N, rfl, hn, hg⟩), fun c hl' => .inl (hlv' c hl'), fun _ h => .inl h, Nat.le_add_right _ _, fun _ _ _ h => h⟩⟩
    · obtain ⟨rfl, rfl⟩ := hone _ k blk hk
      refine ⟨b, N, hn, cells_row ⟨_, hheap, hsp, by rw [tThing.flat_len, sortT_len, hs14]; exact q5, hcells⟩ (by rw [q1, sortT_len]), ?_⟩
      rcases hre with ⟨h5, h6⟩ | ⟨h5, _⟩
      · exact .inl ⟨h5, h6⟩
      · rw [hg] at h5; cases h5
    · rw [(hone _ k _ hk).1, (hone _ k' _ hk').1]
  | @onil _ _ b N hn hg =>
    obtain ⟨b', N', hn', hB, hre⟩ := hr.live 0 _ rfl
    rw [hn] at hn'
    simp only [Option.some.injEq, Prod.mk.injEq] at hn'
    obtain ⟨rfl, rfl⟩ := hn'
    have hl0 : l = [] := by
      rcases hre with ⟨h5, _⟩ | ⟨_, t, ty, h5⟩
      · rw [hg] at h5; cases h5
      · injection h5 with _ h6 h7
        subst h6
        exact eq_of_heq h7
    subst hl0
    have hs := AnyF.slices_SortFunc_none laysSortT none 0 (.func (.func 183) #[] #[]) w
    refine Calls.mono (P := Tryz.prog) (f := 182) hs ?_
    rintro e w' ⟨rfl, rfl⟩
    exact ⟨R, ρ, _, rfl, .tup' .nil, hr, FrmW.refl _ _ _ _⟩
theorem e_111 : E_111.Ok CT.P := Ent.mkGen_ok ok_111
noncomputable def F_132o (a1 : Ty.El (.list tDelta)) : Option (List (Ty.El tDelta)) := O_132 a1
noncomputable def E_132o : Ent := .own 81 [] ⟨[.ty (.list tDelta)], 108, tDelta, fun x => F_132o x.1⟩
theorem e_132o : E_132o.Ok CT.P := by
  intro x y h
  have h : O_132 x.1 = some y := h
  exact clone_own (e := 108) (bt := 108) CT_ok T_P_ok hf_132 hb_132 k_132 und_67 lo_132 (l := x.1) (y := y) ((f_132 x.1).trans h) (fun h0 => by
    rw [h0] at h
    exact (Option.some.inj h).symm)
end Go.DI.S
