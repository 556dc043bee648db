import Derived.Test.YtmleimalginhhaaSb
import Derived.Test.YtmleimalginhhaaDie
import Derived.Shelf.Sort.Plain
import Derived.Shelf.Slices.In.SortNone
import Derived.Sort.OwnSortedInts
import Derived.Shelf.Slices.CompactI
/- slices.Sort at whole numbers; the functions of groups, each told by a function on data; KinDrops. No conditions. -/
/-! slices.Sort at whole numbers: a row of the caller's is put in order. -/
set_option linter.unusedVariables false
set_option maxRecDepth 100000
namespace Go.DI.S
open Go.Proofs Go.Sort Go.ChangeShapes Go.WideShapes
/-- The library's numbers, and this program's. -/
def sortRen : Go.Shelf.Ren := ⟨fun | 189 => 74 | 125 => 118 | 257 => 117 | 128 => 144 | 129 => 145 | 294 => 135 | 295 => 136 | 296 => 137 | 297 => 138 | 298 => 139 | 299 => 140 | 216 => 141 | 300 => 142 | 301 => 143 | 328 => 156 | 329 => 157 | 330 => 158 | 331 => 159 | 332 => 160 | 215 => 128 | 343 => 166 | n => n, fun | 28 => 30 | 3 => 3 | 46 => 140 | 0 => 0 | 51 => 181 | 53 => 139 | 4 => 4 | 183 => 175 | 182 => 174 | 131 => 90 | 5 => 5 | 9 => 9 | 218 => 191 | 222 => 195 | 228 => 202 | 229 => 203 | n => n, fun n => n⟩
theorem laysSort : Lays.n189 Try.prog sortRen := {
  mixed := by kernel_rfl,
  f125 := Try.func118.trans (congrArg some (by kernel_rfl)),
  f128 := Try.func144.trans (congrArg some (by kernel_rfl)),
  f129 := Try.func145.trans (congrArg some (by kernel_rfl)),
  f189 := Try.func74.trans (congrArg some (by kernel_rfl)),
  f215 := Try.func128.trans (congrArg some (by kernel_rfl)),
  f216 := Try.func141.trans (congrArg some (by kernel_rfl)),
  f257 := Try.func117.trans (congrArg some (by kernel_rfl)),
  f294 := Try.func135.trans (congrArg some (by kernel_rfl)),
  f295 := Try.func136.trans (congrArg some (by kernel_rfl)),
  f296 := Try.func137.trans (congrArg some (by kernel_rfl)),
  f297 := Try.func138.trans (congrArg some (by kernel_rfl)),
  f298 := Try.func139.trans (congrArg some (by kernel_rfl)),
  f299 := Try.func140.trans (congrArg some (by kernel_rfl)),
  f300 := Try.func142.trans (congrArg some (by kernel_rfl)),
  f301 := Try.func143.trans (congrArg some (by kernel_rfl)),
  f328 := Try.func156.trans (congrArg some (by kernel_rfl)),
  f329 := Try.func157.trans (congrArg some (by kernel_rfl)),
  f330 := Try.func158.trans (congrArg some (by kernel_rfl)),
  f331 := Try.func159.trans (congrArg some (by kernel_rfl)),
  f332 := Try.func160.trans (congrArg some (by kernel_rfl)),
  f343 := Try.func166.trans (congrArg some (by kernel_rfl)),
  t0 := Try.underlying0,
  a0 := Try.isAgg0,
  z0 := Try.sizeOf0,
  v0 := Try.zeroValue0,
  t3 := Try.underlying3,
  a3 := Try.isAgg3,
  z3 := Try.sizeOf3,
  v3 := Try.zeroValue3,
  t4 := Try.underlying4,
  a4 := Try.isAgg4,
  z4 := Try.sizeOf4,
  v4 := Try.zeroValue4,
  t5 := Try.underlying5,
  a5 := Try.isAgg5,
  z5 := Try.sizeOf5,
  v5 := Try.zeroValue5,
  t9 := Try.underlying9,
  a9 := Try.isAgg9,
  z9 := Try.sizeOf9,
  v9 := Try.zeroValue9,
  t28 := Try.underlying30,
  a28 := Try.isAgg30,
  z28 := Try.sizeOf30,
  v28 := Try.zeroValue30,
  t46 := Try.underlying140,
  a46 := Try.isAgg140,
  z46 := Try.sizeOf140,
  v46 := Try.zeroValue140,
  t51 := Try.underlying181,
  a51 := Try.isAgg181,
  z51 := Try.sizeOf181,
  v51 := Try.zeroValue181,
  t53 := Try.underlying139,
  a53 := Try.isAgg139,
  z53 := Try.sizeOf139,
  v53 := Try.zeroValue139,
  t131 := Try.underlying90,
  a131 := Try.isAgg90,
  z131 := Try.sizeOf90,
  v131 := Try.zeroValue90,
  t182 := Try.underlying174,
  a182 := Try.isAgg174,
  z182 := Try.sizeOf174,
  v182 := Try.zeroValue174,
  t183 := Try.underlying175,
  a183 := Try.isAgg175,
  z183 := Try.sizeOf175,
  v183 := Try.zeroValue175,
  t218 := Try.underlying191,
  a218 := Try.isAgg191,
  z218 := Try.sizeOf191,
  v218 := Try.zeroValue191,
  t222 := Try.underlying195,
  a222 := Try.isAgg195,
  z222 := Try.sizeOf195,
  v222 := Try.zeroValue195,
  t228 := Try.underlying202,
  a228 := Try.isAgg202,
  z228 := Try.sizeOf202,
  v228 := Try.zeroValue202,
  t229 := Try.underlying203,
  a229 := Try.isAgg203,
  z229 := Try.sizeOf203,
  v229 := Try.zeroValue203 }
/-- Put in order. -/
def ordI (a : Int) : List Int → List Int
  | [] => [a]
  | b :: l => bif decide (a ≤ b) then a :: b :: l else b :: ordI a l
def sortI : List Int → List Int
  | [] => []
  | a :: l => ordI a (sortI l)
theorem ordI_perm (a : Int) : ∀ l, (ordI a l).Perm (a :: l)
  | [] => .refl _
  | b :: l => by
    simp only [ordI]
    cases decide (a ≤ b) with
    | true => exact .refl _
    | false => exact ((ordI_perm a l).cons b).trans (.swap a b l)
theorem sortI_perm : ∀ l, (sortI l).Perm l
  | [] => .refl _
  | a :: l => (ordI_perm a _).trans ((sortI_perm l).cons a)
theorem ordI_sorted (a : Int) : ∀ l, l.Pairwise (fun x y => x ≤ y) → (ordI a l).Pairwise (fun x y => x ≤ y)
  | [], _ => by simp [ordI]
  | b :: l, h => by
    have hb := List.pairwise_cons.1 h
    simp only [ordI]
    cases hd : decide (a ≤ b) with
    | true =>
      have hab : a ≤ b := of_decide_eq_true hd
      refine List.pairwise_cons.2 ⟨fun x hx => ?_, h⟩
      rcases List.mem_cons.1 hx with rfl | hx
      · exact hab
      · exact Int.le_trans hab (hb.1 x hx)
    | false =>
      have hab : ¬ a ≤ b := of_decide_eq_false hd
      refine List.pairwise_cons.2 ⟨fun x hx => ?_, ordI_sorted a l hb.2⟩
      rcases List.mem_cons.1 ((ordI_perm a l).mem_iff.1 hx) with rfl | hx
      · omega
      · exact hb.1 x hx
theorem sortI_sorted : ∀ l, (sortI l).Pairwise (fun x y => x ≤ y)
  | [] => .nil
  | a :: l => ordI_sorted a _ (sortI_sorted l)
theorem sortI_eq (l : List Int) : l.mergeSort (fun x y => decide (x ≤ y)) = sortI l := by
  refine List.Perm.eq_of_pairwise (le := fun x y => x ≤ y) (fun a b _ _ h k => by omega) ?_ (sortI_sorted l) ((List.mergeSort_perm l _).trans (sortI_perm l).symm)
  exact (List.pairwise_mergeSort (le := fun x y => decide (x ≤ y)) (fun a b c h k => by
    have h := of_decide_eq_true h
    have k := of_decide_eq_true k
    exact decide_eq_true (by omega)) (fun a b => by
    by_cases h : a ≤ b
    · simp [h]
    · have : b ≤ a := by omega
      simp [this]) l).imp (fun h => of_decide_eq_true h)
theorem sortI_len (l : List Int) : (sortI l).length = l.length := (sortI_perm l).length_eq

abbrev IN_74 : LayD := ⟨1, [(0, .own I 0)], [.row 3 I], fun s => [slotR s 0]⟩
abbrev OUT_74 : LayD := ⟨0, [], [.row 3 I], fun _ => [0]⟩
def F_74 (b0 : List (Ty.El I)) : Option OUT_74.El := bif Nat.ble b0.length 1000000 then some ((), sortI b0, ()) else none
def G_74 : GenE := ⟨1, [.nilReg 0 3 I, .rowReg 0 3 I], IN_74, OUT_74, fun x => F_74 x.2.1⟩
theorem ok_74 : G_74.Ok CT.P 74 := by
  intro x y hxy R ρ w vs hr hvs
  have hxy : F_74 x.2.1 = some y := hxy
  unfold F_74 at hxy
  generalize hl : x.2.1 = l at hxy
  cases hb : Nat.ble l.length 1000000 with
  | false => rw [hb] at hxy; cases hxy
  | true =>
  rw [hb] at hxy
  have hlen := Nat.le_of_ble_eq_true hb
  have hy : y = ((), sortI l, ()) := (Option.some.inj hxy).symm
  subst hy
  have hr : Rel R ρ [some (.row 3 I x.2.1)] w := hr
  have hvs : VReps w R ρ [.orow I 0] vs.toList := hvs
  rw [hl] at hr
  obtain ⟨u0, us, hu, h1, h2⟩ := hvs.cons_inv
  obtain rfl := h2.nil_inv
  have hv : vs = #[u0] := Array.toList_inj.1 (by simpa using hu)
  subst hv
  have hone : ∀ (m : List Int) (k : Nat) (blk : ABlk), ([some (ABlk.row 3 I m)] : AH)[k]? = some (some blk) → k = 0 ∧ blk = .row 3 I m := by
    intro m k blk hk
    cases k with
    | zero => simp at hk; exact ⟨rfl, hk.symm⟩
    | succ k => simp at hk
  show Calls CT.P 74 #[u0] w fun q w' => ∃ R' ρ' u, q = .returned u ∧ VRep w' R' ρ' (.tup []) u ∧ Rel R' ρ' [some (.row 3 I (sortI l))] w' ∧ FrmW 1 R ρ [some (.row 3 I x.2.1)] w R' ρ' [some (.row 3 I (sortI l))] w'
  rw [hl]
  cases h1 with
  | @orow _ _ b N cap hn hg hlc hc =>
    obtain ⟨b', N', hn', hB, hre⟩ := hr.live 0 _ rfl
    rw [hn] at hn'
    simp only [Option.some.injEq, Prod.mk.injEq] at hn'
    obtain ⟨rfl, rfl⟩ := hn'
    obtain ⟨q1, q2⟩ := hB
    obtain ⟨arr, q3, q4, q5, q6⟩ := q2 hg
    have hcell : ∀ j, j < l.length → arr[j]? = some (Value.int .i64 (l.getD j 0)) := by
      intro j hj
      obtain ⟨u, hu1, hu2⟩ := q6 j 0 (.int .i64 (l.getD j 0)) hj rfl
      have e : j * I.sz + 0 = j := by show j * 1 + 0 = j; omega
      rw [e] at hu1
      cases hu2
      exact hu1
    have htake : arr.toList.take l.length = l.map (Value.int .i64) := by
      apply List.ext_getElem?
      intro j
      by_cases hj : j < l.length
      · rw [List.getElem?_take_of_lt hj, Array.getElem?_toList, hcell j hj, List.getElem?_map, List.getElem?_eq_getElem hj, List.getD_eq_getElem?_getD, List.getElem?_eq_getElem hj]; rfl
      · rw [List.getElem?_take_eq_none (by omega), List.getElem?_eq_none (by simp; omega)]
    have hblk : b < w.heap.size := (Array.getElem?_eq_some_iff.1 q3).1
    have hH := holds_of_blockI (ss := l) q3 htake
    rw [q1]
    have hs := Any.slices_Sort_int laysSort b 0 cap l w hH hblk (by omega)
    refine hs.mono ?_
    rintro e w' ⟨rfl, n, os, rfl⟩
    rw [sortI_eq]
    have hsz : (grow (putRow (Value.int .i64) (Sort.ahead w n) b 0 (sortI l).toArray) os).heap.size = w.heap.size + os.size := by
      rw [size_grow]; simp [putRow, mapBlock, Sort.ahead]
    have hkeep : ∀ k, k < w.heap.size → k ≠ b → (grow (putRow (Value.int .i64) (Sort.ahead w n) b 0 (sortI l).toArray) os).heap[k]? = w.heap[k]? := by
      intro k hk hne
      rw [heap_grow_old _ _ (by simpa [putRow, mapBlock, Sort.ahead] using hk)]
      have : b ≠ k := fun e => hne e.symm
      simp [putRow, mapBlock, Sort.ahead, Array.getElem?_modify, this]
    have hlv : ∀ c, Lv ρ [some (.row 3 I l)] c → c = b := by
      rintro c ⟨k, blk, M, hk, hn', hg'⟩
      obtain ⟨rfl, rfl⟩ := hone l k blk hk
      rw [hn] at hn'
      simp only [Option.some.injEq, Prod.mk.injEq] at hn'
      exact hn'.1.symm
    have hlv' : ∀ c, Lv ρ [some (.row 3 I (sortI l))] c → Lv ρ [some (.row 3 I l)] c := by
      rintro c ⟨k, blk, M, hk, hn', hg'⟩
      obtain ⟨rfl, rfl⟩ := hone _ k blk hk
      exact ⟨0, _, M, rfl, hn', hg'⟩
    refine ⟨R, ρ, _, rfl, .tup' .nil, ⟨fun k blk hk => ?_, fun k k' bk bk' c Nk Nk' hk hk' _ _ _ _ => ?_, fun k hk => hr.dom k hk, fun c hc' => by rw [hsz]; exact Nat.lt_of_lt_of_le (hr.ro c hc') (Nat.le_add_right _ _)⟩,
      ⟨rfl, rfl, rfl, by rw [hsz]; exact Nat.le_add_right _ _, fun _ h => h, fun c hc' hnl => hkeep c hc' fun e => hnl (e ▸ ⟨0, _, N, rfl, hn, hg⟩), fun c hl' => .inl (hlv' c hl'), fun _ h => .inl h, fun a ha => ?_, fun _ _ _ h => h⟩⟩
    · obtain ⟨rfl, rfl⟩ := hone _ k blk hk
      refine ⟨b, N, hn, ⟨by rw [q1, sortI_len], fun _ => ⟨_, heap_sortedI _ q3, by simp [putCells, q4], by rw [sortI_len]; exact q5, fun j o c hj hc' => ?_⟩⟩, ?_⟩
      · have ho : o = 0 := by
          cases o with
          | zero => rfl
          | succ o => simp [Ty.at, Ty.enc, AV.cells] at hc'
        subst ho
        have hcc : c = .int .i64 ((sortI l).getD j 0) := by
          simp [Ty.at, Ty.enc, AV.cells] at hc'
          rw [← hc']; simp [List.getD_eq_getElem?_getD, Ty.dflt]
        subst hcc
        refine ⟨Value.int .i64 ((sortI l).getD j 0), ?_, .int _ _⟩
        have e : j * I.sz + 0 = j := by show j * 1 + 0 = j; omega
        rw [e]
        have h5 := take_putCellsI arr (sortI l) (by rw [sortI_len, q4]; have : l.length * 1 ≤ N.n := q5; omega)
        have h6 : ((putCells (Value.int .i64) 0 (sortI l).toArray arr).toList.take (sortI l).length)[j]? = ((sortI l).map (Value.int .i64))[j]? := by rw [h5]
        rw [List.getElem?_take_of_lt hj, Array.getElem?_toList, List.getElem?_map, List.getElem?_eq_getElem hj] at h6
        rw [h6, List.getD_eq_getElem?_getD, List.getElem?_eq_getElem hj]; rfl
      · rcases hre with ⟨h5, h6⟩ | ⟨h5, _⟩
        · exact .inl ⟨h5, h6⟩
        · rw [hg] at h5; cases h5
    · rw [(hone _ k _ hk).1, (hone _ k' _ hk').1]
    · rw [frozen?_grow _ _ _ (by simpa [putRow, mapBlock, Sort.ahead] using ha), frozen?_putRow]; rfl
  | @onil _ _ b N hn hg =>
    obtain ⟨b', N', hn', hB, hre⟩ := hr.live 0 _ rfl
    rw [hn] at hn'
    simp only [Option.some.injEq, Prod.mk.injEq] at hn'
    obtain ⟨rfl, rfl⟩ := hn'
    have hl0 : l = [] := by
      rcases hre with ⟨h5, _⟩ | ⟨_, t, ty, h5⟩
      · rw [hg] at h5; cases h5
      · injection h5 with _ h6 h7
        subst h6
        exact eq_of_heq h7
    subst hl0
    have hs := Any.slices_Sort_int_none laysSort none 0 w
    refine hs.mono ?_
    rintro e w' ⟨rfl, rfl⟩
    exact ⟨R, ρ, _, rfl, .tup' .nil, hr, FrmW.refl _ _ _ _⟩
noncomputable def F_46o (a1 : Ty.El (.list I)) : Option (List (Ty.El I)) := O_46 a1
noncomputable def E_46o : Ent := .own 46 [] ⟨[.ty (.list I)], 3, I, fun x => F_46o x.1⟩
theorem e_46o : E_46o.Ok CT.P := by
  intro x y h
  have hl : O_46 x.1 = some y := h
  exact clone_own (e := 3) (bt := 3) CT_ok T_0_ok hf_46 hb_46 k_46 und_30 lo_46 (l := x.1) (y := y) ((f_46 x.1).trans hl) (fun h0 => by
    rw [h0] at hl
    exact (Option.some.inj hl).symm)
def E_74 : Ent := .mkGen 74 [] G_74
theorem e_74 : E_74.Ok CT.P := Ent.mkGen_ok ok_74
end Go.DI.S

/-! slices.Compact at whole numbers: of a row of the caller's the front. -/
set_option linter.unusedVariables false
set_option maxRecDepth 100000
namespace Go.DI.S
open Go.Proofs Go.Sort Go.ChangeShapes Go.WideShapes
/-- The library's numbers, and this program's. -/
def compRen : Go.Shelf.Ren := ⟨fun | 20 => 78 | n => n, fun | 22 => 30 | n => n, fun n => n⟩
theorem laysCompact : Lays2.n20 Try.prog compRen := {
  mixed := by kernel_rfl,
  f20 := Try.func78.trans (congrArg some (by kernel_rfl)),
  t0 := Try.underlying0,
  a0 := Try.isAgg0,
  z0 := Try.sizeOf0,
  v0 := Try.zeroValue0,
  t3 := Try.underlying3,
  a3 := Try.isAgg3,
  z3 := Try.sizeOf3,
  v3 := Try.zeroValue3,
  t4 := Try.underlying4,
  a4 := Try.isAgg4,
  z4 := Try.sizeOf4,
  v4 := Try.zeroValue4,
  t22 := Try.underlying30,
  a22 := Try.isAgg30,
  z22 := Try.sizeOf30,
  v22 := Try.zeroValue30,
  i3 := by kernel_rfl }
def compI (l : List Int) : List Int := Go.Lib.compact l
theorem compI_len (l : List Int) : (compI l).length ≤ l.length := by
  unfold compI Go.Lib.compact Go.Lib.compactUpTo
  rw [List.length_map]
  exact Nat.le_trans (List.length_filter_le _ _) (by simp)
def F_78 (l : List (Ty.El I)) : Option (List (Ty.El I)) := bif Nat.ble l.length 1000000 then some (compI l) else none
def E_78 : Ent := .mov 78 [] ⟨[], 3, I, 3, I, fun l x => F_78 l⟩
theorem e_78 : E_78.Ok CT.P := by
  intro l x y hxy R ρ w vs hr hvs
  have hxy : F_78 l = some y := hxy
  unfold F_78 at hxy
  cases hb : Nat.ble l.length 1000000 with
  | false => rw [hb] at hxy; cases hxy
  | true =>
  rw [hb] at hxy
  have hlen := Nat.le_of_ble_eq_true hb
  have hy : y = compI l := (Option.some.inj hxy).symm
  subst hy
  have hr : Rel R ρ [some (.row 3 I l)] w := hr
  have hvs : VReps w R ρ [.orow I 0] vs.toList := hvs
  obtain ⟨u0, us, hu, h1, h2⟩ := hvs.cons_inv
  obtain rfl := h2.nil_inv
  have hv : vs = #[u0] := Array.toList_inj.1 (by simpa using hu)
  subst hv
  show Calls CT.P 78 #[u0] w fun q w' => ∃ R' ρ' u, (q = .returned u ∧ VRep w' R' ρ' (.orow I 1) u) ∧ Rel R' ρ' [none, some (.row 3 I (compI l))] w' ∧ Frm R ρ [some (.row 3 I l)] w R' ρ' [none, some (.row 3 I (compI l))] w'
  cases h1 with
  | @orow _ _ b N cap hn hg hlc hc =>
    obtain ⟨b', N', hn', hB, hre⟩ := hr.live 0 _ rfl
    rw [hn] at hn'
    simp only [Option.some.injEq, Prod.mk.injEq] at hn'
    obtain ⟨rfl, rfl⟩ := hn'
    obtain ⟨q1, q2⟩ := hB
    obtain ⟨arr, q3, q4, q5, q6⟩ := q2 hg
    have hcell : ∀ j, j < l.length → arr[j]? = some (Value.int .i64 (l.getD j 0)) := by
      intro j hj
      obtain ⟨u, hu1, hu2⟩ := q6 j 0 (.int .i64 (l.getD j 0)) hj rfl
      have e : j * I.sz + 0 = j := by show j * 1 + 0 = j; omega
      rw [e] at hu1
      cases hu2
      exact hu1
    have htake : arr.toList.take l.length = l.map (Value.int .i64) := by
      apply List.ext_getElem?
      intro j
      by_cases hj : j < l.length
      · rw [List.getElem?_take_of_lt hj, Array.getElem?_toList, hcell j hj, List.getElem?_map, List.getElem?_eq_getElem hj, List.getD_eq_getElem?_getD, List.getElem?_eq_getElem hj]; rfl
      · rw [List.getElem?_take_eq_none (by omega), List.getElem?_eq_none (by simp; omega)]
    have hH := holds_of_blockI (ss := l) q3 htake
    have hll : l.length ≤ cap := by omega
    rw [q1]
    have hs := Any.slices_Compact_int laysCompact b 0 cap l w hH (by omega) hll
    refine hs.mono ?_
    rintro e w' ⟨rfl, n, rfl⟩
    obtain ⟨z, hz⟩ : ∃ z, z = compI l ++ List.replicate (l.length - (compI l).length) (0 : Int) := ⟨_, rfl⟩
    have hzl : z.length = l.length := by rw [hz, List.length_append, List.length_replicate]; have := compI_len l; omega
    have hcl := compI_len l
    show ∃ R' ρ' u, (_ = _ ∧ _) ∧ _
    have hwd : putRow (Value.int .i64) (Sort.ahead w n) b 0 (Lib.compact l ++ List.replicate (l.length - (Lib.compact l).length) 0).toArray = putRow (Value.int .i64) (Sort.ahead w n) b 0 z.toArray := by rw [hz]; rfl
    rw [hwd]
    have hsz : (putRow (Value.int .i64) (Sort.ahead w n) b 0 z.toArray).heap.size = w.heap.size := by simp [putRow, mapBlock, Sort.ahead]
    have hkeep : ∀ k, k ≠ b → (putRow (Value.int .i64) (Sort.ahead w n) b 0 z.toArray).heap[k]? = w.heap[k]? := by
      intro k hne
      have : b ≠ k := fun e => hne e.symm
      simp [putRow, mapBlock, Sort.ahead, Array.getElem?_modify, this]
    have hheap : (putRow (Value.int .i64) (Sort.ahead w n) b 0 z.toArray).heap[b]? = some (.cells (putCells (Value.int .i64) 0 z.toArray arr) 3 (0, 0)) := by
      simp [putRow, mapBlock, Sort.ahead, Array.getElem?_modify, q3, onCells]
    have hput := take_putCellsI arr z (by rw [hzl, q4]; have : l.length * 1 ≤ N.n := q5; omega)
    have hasz : (putCells (Value.int .i64) 0 z.toArray arr).size = N.n := by simp [putCells, q4]
    have hB2 : BRep (putRow (Value.int .i64) (Sort.ahead w n) b 0 z.toArray) R ρ b ⟨N.n, (compI l).length, false⟩ (.row 3 I (compI l)) := by
      refine ⟨rfl, fun _ => ⟨_, hheap, hasz, by show (compI l).length * 1 ≤ N.n; have : l.length * 1 ≤ N.n := q5; omega, fun j o c hj hc' => ?_⟩⟩
      have ho : o = 0 := by
        cases o with
        | zero => rfl
        | succ o => simp [Ty.at, Ty.enc, AV.cells] at hc'
      subst ho
      have hcc : c = .int .i64 ((compI l).getD j 0) := by
        simp [Ty.at, Ty.enc, AV.cells] at hc'
        rw [← hc']; simp [List.getD_eq_getElem?_getD, Ty.dflt]
      subst hcc
      refine ⟨Value.int .i64 ((compI l).getD j 0), ?_, .int _ _⟩
      have e : j * I.sz + 0 = j := by show j * 1 + 0 = j; omega
      rw [e]
      have hjz : j < z.length := by omega
      have h6 : ((putCells (Value.int .i64) 0 z.toArray arr).toList.take z.length)[j]? = (z.map (Value.int .i64))[j]? := by rw [hput]
      rw [List.getElem?_take_of_lt hjz, Array.getElem?_toList, List.getElem?_map, hz, List.getElem?_append_left hj, List.getElem?_eq_getElem hj] at h6
      rw [← hz] at h6
      rw [h6, List.getD_eq_getElem?_getD, List.getElem?_eq_getElem hj]; rfl
    have hB1 : BRep (putRow (Value.int .i64) (Sort.ahead w n) b 0 z.toArray) R ρ b N (.cells 3 []) := ⟨_, hheap, hasz, Nat.zero_le _, by simpa using VReps.nil⟩
    obtain ⟨r1, f1⟩ := rel_move (w' := putRow (Value.int .i64) (Sort.ahead w n) b 0 z.toArray) (i := 0) (N' := ⟨N.n, (compI l).length, false⟩) hr rfl hn (.row 3 I (compI l)) rfl rfl rfl hsz hkeep (.cells 3 []) hB1 hB2 hg rfl
    refine ⟨R, _, _, ⟨rfl, ?_⟩, r1, f1⟩
    exact .orow (N := ⟨N.n, (compI l).length, false⟩) (Nm.upd_self _ _ _) rfl (by show (compI l).length ≤ cap; omega) hc
  | @onil _ _ b N hn hg =>
    obtain ⟨b', N', hn', hB, hre⟩ := hr.live 0 _ rfl
    rw [hn] at hn'
    simp only [Option.some.injEq, Prod.mk.injEq] at hn'
    obtain ⟨rfl, rfl⟩ := hn'
    have hl0 : l = [] := by
      rcases hre with ⟨h5, _⟩ | ⟨_, t, ty, h5⟩
      · rw [hg] at h5; cases h5
      · injection h5 with _ h6 h7
        subst h6
        exact eq_of_heq h7
    subst hl0
    have hs := Any.slices_Compact_int_empty laysCompact none 0 w
    refine hs.mono ?_
    rintro e w' ⟨rfl, rfl⟩
    obtain ⟨r1, f1⟩ := rel_kill hr 0
    obtain ⟨r2, f2, v2⟩ := rel_ghost r1 3 I
    exact ⟨R, _, _, ⟨rfl, v2⟩, r2, f1.trans f2⟩
end Go.DI.S

/-! The program's functions, told by functions on data. -/
set_option linter.unusedVariables false
set_option maxRecDepth 100000
set_option maxHeartbeats 0
namespace Go.DI.S
open Go.Proofs
/-! ### 101: slices.Indexint,int -/
noncomputable def c_101 : Code := Try.f101.body.getD .skip
theorem hb_101 : Try.f101.body = some c_101 := by kernel_rfl
theorem hf_101 : CT.P.funcs[101]? = some Try.f101 := by kernel_rfl
noncomputable def T_101 : Tb := mkTb tyT mpT []
theorem T_101_ok : T_101.Ok CT.P := mkTb_ok (trivial)
noncomputable def l_101_2 : Code := atLoop c_101 2
noncomputable abbrev LD_101_2 : LayD := ⟨19, [(0, .data (.list I)), (1, .data I), (7, .data I), (8, .data I)], [], fun _ => []⟩
noncomputable abbrev LA_101_2 : LayD := ⟨19, [], [], fun _ => []⟩
noncomputable abbrev LB_101_2 : LayD := ⟨19, [(4, .data I)], [], fun _ => []⟩
noncomputable def EX_101_2 : Exits 0 LA_101_2.El LB_101_2.El := ⟨.exit 0, LA_101_2.lay [], .ret, LB_101_2.lay []⟩

noncomputable def lpi_101_2 {β : Type} : LpT β := fun _ _ _ => none
theorem lpi_101_2_ok {β : Type} : LpTOk CT (lpi_101_2 (β := β)) (loopsOf l_101_2) := by
  have h : loopsOf l_101_2 = [] := by kernel_rfl
  rw [h]
  exact LpTOk.nil
noncomputable def G_101_2 (r0 : Ty.El (.list I)) (r1 : Ty.El I) (r7 : Ty.El I) (r8 : Ty.El I) : Option (LD_101_2.El ⊕ (LA_101_2.El ⊕ LB_101_2.El)) :=
  bif Decidable.decide (r8 < r7) then
    bif Decidable.decide ((0 : Int) ≤ r8 ∧ r8 < (↑(List.length r0) : Int)) then
      bif r1 == List.getD r0 (Int.toNat r8) (0 : Int) then Option.some (Sum.inr (Sum.inr ((r8, ()), ())))
      else Option.some (Sum.inl ((r0, r1, r7, Go.IntKind.i64.wrap (r8 + (1 : Int)), ()), ()))
    else Option.none
  else Option.some (Sum.inr (Sum.inl ((), ())))
theorem g_101_2 (x : LD_101_2.El) : codeT CT T_101 (drT CT T_101) lpi_101_2 l_101_2 (LD_101_2.enc x) (bodyK (LD_101_2.lay []) EX_101_2) = G_101_2 x.1.1 x.1.2.1 x.1.2.2.1 x.1.2.2.2.1 := by kernel_rfl
noncomputable def R_101_2 : LD_101_2.El → Option (LA_101_2.El ⊕ LB_101_2.El) := roundsT (fun x => G_101_2 x.1.1 x.1.2.1 x.1.2.2.1 x.1.2.2.2.1) fuel
theorem r_101_2 : ∀ x y, R_101_2 x = some y → CL CT l_101_2 (LD_101_2.enc x) (Sum.elim (fun _ => EX_101_2.xa) (fun _ => EX_101_2.xb) y) (Sum.elim EX_101_2.la.enc EX_101_2.lb.enc y) :=
  rounds_ok (L := LD_101_2.lay []) (E := EX_101_2) CT_ok T_101_ok (drT_ok CT_ok T_101_ok) lpi_101_2_ok g_101_2 rfl rfl (fun v h => by have hh : (.exit 0 : AX) = .pan v := h; cases hh) (fun v h => by have hh : (.ret : AX) = .pan v := h; cases hh) fuel
noncomputable def lp_101 {β : Type} : LpT β := fun k s K => if Nat.beq k 2 then lpOne (LD_101_2.lay []) EX_101_2 R_101_2 s K else none
theorem lp_101_ok {β : Type} : LpTOk CT (lp_101 (β := β)) (loopsOf c_101) := by
  have h : loopsOf c_101 = [(2, l_101_2)] := by kernel_rfl
  rw [h]
  exact LpTOk.cons (fun s K z h => lpOne_ok r_101_2 h) (LpTOk.nil)
noncomputable def F_101 (a1 : Ty.El (.list I)) (a2 : Ty.El I) : Option (Els [I]) :=
  (R_101_2 ((a1, a2, (↑(List.length a1) : Int), (0 : Int), ()), ())).bind fun v1 => Sum.elim (fun v2 => Option.some ((-1 : Int), ())) (fun v3 => Option.some (v3.fst.fst, ())) v1
theorem f_101 (x : Ps [.ty (.list I), .ty I]) : funcT CT T_101 [I] (drT CT T_101) lp_101 Try.f101 c_101 (encPs [.ty (.list I), .ty I] x) = F_101 x.1 x.2.1 := by kernel_rfl
noncomputable def E_101 : Ent := .fn 101 [] ⟨[.ty (.list I), .ty I], [I], fun x => F_101 x.1 x.2.1, false⟩
theorem e_101 : E_101.Ok CT.P := Ent.ofFn CT_ok T_101_ok hf_101 hb_101 lp_101_ok f_101
noncomputable def E_101h : Ent := .fn 101 [] ⟨[.ty (.list I), .ty I], [I], fun x => F_101 x.1 x.2.1, true⟩
/-! ### 59: slices.Containsint,int -/
noncomputable def c_59 : Code := Try.f59.body.getD .skip
theorem hb_59 : Try.f59.body = some c_59 := by kernel_rfl
theorem hf_59 : CT.P.funcs[59]? = some Try.f59 := by kernel_rfl
noncomputable def T_59 : Tb := mkTb tyT mpT [E_101]
theorem T_59_ok : T_59.Ok CT.P := mkTb_ok (⟨e_101, trivial⟩)
noncomputable def lp_59 {β : Type} : LpT β := fun _ _ _ => none
theorem lp_59_ok {β : Type} : LpTOk CT (lp_59 (β := β)) (loopsOf c_59) := by
  have h : loopsOf c_59 = [] := by kernel_rfl
  rw [h]
  exact LpTOk.nil
noncomputable def F_59 (a1 : Ty.El (.list I)) (a2 : Ty.El I) : Option (Els [.bool]) :=
  (F_101 a1 a2).bind fun v2 => Option.some (Decidable.decide (v2.fst ≥ (0 : Int)), ())
theorem f_59 (x : Ps [.ty (.list I), .ty I]) : funcT CT T_59 [.bool] (drT CT T_59) lp_59 Try.f59 c_59 (encPs [.ty (.list I), .ty I] x) = F_59 x.1 x.2.1 := by kernel_rfl
noncomputable def E_59 : Ent := .fn 59 [] ⟨[.ty (.list I), .ty I], [.bool], fun x => F_59 x.1 x.2.1, false⟩
theorem e_59 : E_59.Ok CT.P := Ent.ofFn CT_ok T_59_ok hf_59 hb_59 lp_59_ok f_59
noncomputable def E_59h : Ent := .fn 59 [] ⟨[.ty (.list I), .ty I], [.bool], fun x => F_59 x.1 x.2.1, true⟩
/-! ### 73: maquette/kin.inside -/
noncomputable def c_73 : Code := Try.f73.body.getD .skip
theorem hb_73 : Try.f73.body = some c_73 := by kernel_rfl
theorem hf_73 : CT.P.funcs[73]? = some Try.f73 := by kernel_rfl
abbrev FT_73 := (Ty.El tScene) → (Ty.El I) → Option (List (Ty.El I))
noncomputable def E_73x (f : FT_73) : Ent := .own 73 [] ⟨[.ty tScene, .ty I], 3, I, fun x => f x.1 x.2.1⟩
noncomputable def T_73 (f : FT_73) : Tb := mkTb tyT mpT [E_23, (E_73x f)]
theorem T_73_ok {f : FT_73} (hf : (E_73x f).Ok CT.P) : (T_73 f).Ok CT.P := mkTb_ok (⟨e_23, hf, trivial⟩)
noncomputable def l_73_6 : Code := atLoop c_73 6
noncomputable abbrev LD_73_6 : LayD := ⟨34, [(2, .ptr 0), (7, .own I 1), (21, .data (.list I)), (22, .data I), (23, .data I)], [.var 36 [.data tScene], .row 3 I], fun s => [slotR s 2, slotR s 7]⟩
noncomputable abbrev LA_73_6 : LayD := ⟨34, [(7, .own I 0)], [.row 3 I], fun s => [slotR s 7]⟩
noncomputable abbrev LB_73_6 : LayD := ⟨34, [], [], fun _ => []⟩
noncomputable def EX_73_6 : Exits 0 LA_73_6.El LB_73_6.El := ⟨.exit 0, LA_73_6.lay [.rowReg 7 3 I], .ret, LB_73_6.lay []⟩

noncomputable def lpi_73_6 {β : Type} : LpT β := fun _ _ _ => none
theorem lpi_73_6_ok {β : Type} : LpTOk CT (lpi_73_6 (β := β)) (loopsOf l_73_6) := by
  have h : loopsOf l_73_6 = [] := by kernel_rfl
  rw [h]
  exact LpTOk.nil
noncomputable def G_73_6 (f : FT_73) (r21 : Ty.El (.list I)) (r22 : Ty.El I) (r23 : Ty.El I) (b0 : Ty.El tScene × Unit) (b1 : List (Ty.El I)) : Option (LD_73_6.El ⊕ (LA_73_6.El ⊕ LB_73_6.El)) :=
  bif Decidable.decide (r23 < r22) then
    bif Decidable.decide ((0 : Int) ≤ r23 ∧ r23 < (↑(List.length r21) : Int)) then
      (f b0.fst (List.getD r21 (Int.toNat r23) (0 : Int))).bind fun v2 =>
        bif ((b1.length + v2.length) * (8 : Nat)).ble (70368744177664 : Nat) then
          Option.some (Sum.inl (((), (), r21, r22, Go.IntKind.i64.wrap (r23 + (1 : Int)), ()), (b0.fst, ()), b1 ++ v2, ()))
        else Option.none
    else Option.none
  else Option.some (Sum.inr (Sum.inl (((), ()), b1, ())))
theorem g_73_6 (f : FT_73) (x : LD_73_6.El) : codeT CT (T_73 f) (drT CT (T_73 f)) lpi_73_6 l_73_6 (LD_73_6.enc x) (bodyK (LD_73_6.lay [.rowReg 7 3 I]) EX_73_6) = (G_73_6 f) x.1.2.2.1 x.1.2.2.2.1 x.1.2.2.2.2.1 x.2.1 x.2.2.1 := by kernel_rfl
noncomputable def R_73_6 (f : FT_73) : LD_73_6.El → Option (LA_73_6.El ⊕ LB_73_6.El) := roundsT (fun x => (G_73_6 f) x.1.2.2.1 x.1.2.2.2.1 x.1.2.2.2.2.1 x.2.1 x.2.2.1) fuel
theorem r_73_6 {f : FT_73} (hf : (E_73x f).Ok CT.P) : ∀ x y, (R_73_6 f) x = some y → CL CT l_73_6 (LD_73_6.enc x) (Sum.elim (fun _ => EX_73_6.xa) (fun _ => EX_73_6.xb) y) (Sum.elim EX_73_6.la.enc EX_73_6.lb.enc y) :=
  rounds_ok (L := LD_73_6.lay [.rowReg 7 3 I]) (E := EX_73_6) CT_ok (T_73_ok hf) (drT_ok CT_ok (T_73_ok hf)) lpi_73_6_ok (g_73_6 f) rfl rfl (fun v h => by have hh : (.exit 0 : AX) = .pan v := h; cases hh) (fun v h => by have hh : (.ret : AX) = .pan v := h; cases hh) fuel
noncomputable def lp_73 (f : FT_73) {β : Type} : LpT β := fun k s K => if Nat.beq k 6 then lpOne (LD_73_6.lay [.rowReg 7 3 I]) EX_73_6 (R_73_6 f) s K else none
theorem lp_73_ok {f : FT_73} (hf : (E_73x f).Ok CT.P) {β : Type} : LpTOk CT (lp_73 f (β := β)) (loopsOf c_73) := by
  have h : loopsOf c_73 = [(6, l_73_6)] := by kernel_rfl
  rw [h]
  exact LpTOk.cons (fun s K z h => lpOne_ok (r_73_6 hf) h) (LpTOk.nil)
noncomputable def F_73b (f : FT_73) (a1 : Ty.El tScene) (a2 : Ty.El I) : Option (List (Ty.El I)) :=
  (F_23 a1 a2).bind fun v2 =>
    bif !v2.snd.fst then Option.some []
    else
      ((R_73_6 f) (((), (), v2.fst.snd.snd.snd.snd, (↑(List.length v2.fst.snd.snd.snd.snd) : Int), (0 : Int), ()), (a1, ()), [a2], ())).bind fun v3 =>
        Sum.elim (fun v4 => Option.some v4.snd.fst) (fun v5 => Option.none) v3
theorem f_73 (f : FT_73) (x : Ps [.ty tScene, .ty I]) : funcO CT (T_73 f) 3 I (drT CT (T_73 f)) (lp_73 f) Try.f73 c_73 (encPs [.ty tScene, .ty I] x) = F_73b f x.1 x.2.1 := by kernel_rfl
noncomputable def F_73n : Nat → FT_73
  | 0, _, _ => none
  | n + 1, a1, a2 => F_73b (F_73n n) a1 a2
noncomputable def F_73 : FT_73 := F_73n 100
theorem e_73n : ∀ n, (E_73x (F_73n n)).Ok CT.P
  | 0 => fun x y h => by cases h
  | n + 1 => Ent.ofOwn CT_ok (T_73_ok (e_73n n)) hf_73 hb_73 (lp_73_ok (e_73n n)) (f_73 (F_73n n))
noncomputable def E_73 : Ent := E_73x F_73
theorem e_73 : E_73.Ok CT.P := e_73n 100

/-! ### 37: maquette/kin.Inside -/
noncomputable def c_37 : Code := Try.f37.body.getD .skip
theorem hb_37 : Try.f37.body = some c_37 := by kernel_rfl
theorem hf_37 : CT.P.funcs[37]? = some Try.f37 := by kernel_rfl
noncomputable def T_37 : Tb := mkTb tyT mpT [E_20, E_73, E_74]
theorem T_37_ok : T_37.Ok CT.P := mkTb_ok (⟨e_20, e_73, e_74, trivial⟩)
noncomputable def lp_37 {β : Type} : LpT β := fun _ _ _ => none
theorem lp_37_ok {β : Type} : LpTOk CT (lp_37 (β := β)) (loopsOf c_37) := by
  have h : loopsOf c_37 = [] := by kernel_rfl
  rw [h]
  exact LpTOk.nil
noncomputable def F_37 (a1 : Ty.El tScene) (a2 : Ty.El I) : Option (Els [.list I]) :=
  (F_20 a1).bind fun v2 => bif !v2.fst then Option.some ([], ()) else (F_73 a1 a2).bind fun v4 => (F_74 v4).bind fun v6 => Option.some (v6.snd.fst, ())
theorem f_37 (x : Ps [.ty tScene, .ty I]) : funcT CT T_37 [.list I] (drT CT T_37) lp_37 Try.f37 c_37 (encPs [.ty tScene, .ty I] x) = F_37 x.1 x.2.1 := by kernel_rfl
noncomputable def E_37 : Ent := .fn 37 [] ⟨[.ty tScene, .ty I], [.list I], fun x => F_37 x.1 x.2.1, false⟩
theorem e_37 : E_37.Ok CT.P := Ent.ofFn CT_ok T_37_ok hf_37 hb_37 lp_37_ok f_37
noncomputable def E_37h : Ent := .fn 37 [] ⟨[.ty tScene, .ty I], [.list I], fun x => F_37 x.1 x.2.1, true⟩
/-! ### 38: maquette/kin.Group -/
noncomputable def c_38 : Code := Try.f38.body.getD .skip
theorem hb_38 : Try.f38.body = some c_38 := by kernel_rfl
theorem hf_38 : CT.P.funcs[38]? = some Try.f38 := by kernel_rfl
noncomputable def T_38 : Tb := mkTb tyT mpT [E_20, E_59]
theorem T_38_ok : T_38.Ok CT.P := mkTb_ok (⟨e_20, e_59, trivial⟩)
noncomputable def l_38_4 : Code := atLoop c_38 4
noncomputable abbrev LD_38_4 : LayD := ⟨24, [(1, .data I), (11, .data (.list tThing)), (12, .data I), (13, .data I)], [], fun _ => []⟩
noncomputable abbrev LA_38_4 : LayD := ⟨24, [], [], fun _ => []⟩
noncomputable abbrev LB_38_4 : LayD := ⟨24, [(4, .data I)], [], fun _ => []⟩
noncomputable def EX_38_4 : Exits 0 LA_38_4.El LB_38_4.El := ⟨.exit 0, LA_38_4.lay [], .ret, LB_38_4.lay []⟩

noncomputable def lpi_38_4 {β : Type} : LpT β := fun _ _ _ => none
theorem lpi_38_4_ok {β : Type} : LpTOk CT (lpi_38_4 (β := β)) (loopsOf l_38_4) := by
  have h : loopsOf l_38_4 = [] := by kernel_rfl
  rw [h]
  exact LpTOk.nil
noncomputable def G_38_4 (r1 : Ty.El I) (r11 : Ty.El (.list tThing)) (r12 : Ty.El I) (r13 : Ty.El I) : Option (LD_38_4.El ⊕ (LA_38_4.El ⊕ LB_38_4.El)) :=
  bif Decidable.decide (r13 < r12) then
    bif Decidable.decide ((0 : Int) ≤ r13 ∧ r13 < (↑(List.length r11) : Int)) then
      (F_59 (List.getD r11 (Int.toNat r13) Go.DI.S.tThing.dflt).snd.snd.snd.snd r1).bind fun v2 =>
        bif v2.fst then Option.some (Sum.inr (Sum.inr (((List.getD r11 (Int.toNat r13) Go.DI.S.tThing.dflt).fst, ()), ())))
        else Option.some (Sum.inl ((r1, r11, r12, Go.IntKind.i64.wrap (r13 + (1 : Int)), ()), ()))
    else Option.none
  else Option.some (Sum.inr (Sum.inl ((), ())))
theorem g_38_4 (x : LD_38_4.El) : codeT CT T_38 (drT CT T_38) lpi_38_4 l_38_4 (LD_38_4.enc x) (bodyK (LD_38_4.lay []) EX_38_4) = G_38_4 x.1.1 x.1.2.1 x.1.2.2.1 x.1.2.2.2.1 := by kernel_rfl
noncomputable def R_38_4 : LD_38_4.El → Option (LA_38_4.El ⊕ LB_38_4.El) := roundsT (fun x => G_38_4 x.1.1 x.1.2.1 x.1.2.2.1 x.1.2.2.2.1) fuel
theorem r_38_4 : ∀ x y, R_38_4 x = some y → CL CT l_38_4 (LD_38_4.enc x) (Sum.elim (fun _ => EX_38_4.xa) (fun _ => EX_38_4.xb) y) (Sum.elim EX_38_4.la.enc EX_38_4.lb.enc y) :=
  rounds_ok (L := LD_38_4.lay []) (E := EX_38_4) CT_ok T_38_ok (drT_ok CT_ok T_38_ok) lpi_38_4_ok g_38_4 rfl rfl (fun v h => by have hh : (.exit 0 : AX) = .pan v := h; cases hh) (fun v h => by have hh : (.ret : AX) = .pan v := h; cases hh) fuel
noncomputable def lp_38 {β : Type} : LpT β := fun k s K => if Nat.beq k 4 then lpOne (LD_38_4.lay []) EX_38_4 R_38_4 s K else none
theorem lp_38_ok {β : Type} : LpTOk CT (lp_38 (β := β)) (loopsOf c_38) := by
  have h : loopsOf c_38 = [(4, l_38_4)] := by kernel_rfl
  rw [h]
  exact LpTOk.cons (fun s K z h => lpOne_ok r_38_4 h) (LpTOk.nil)
noncomputable def F_38 (a1 : Ty.El tScene) (a2 : Ty.El I) : Option (Els [I]) :=
  (F_20 a1).bind fun v2 =>
    bif !v2.fst then Option.some ((0 : Int), ())
    else
      (R_38_4 ((a2, a1.snd.snd, (↑(List.length a1.snd.snd) : Int), (0 : Int), ()), ())).bind fun v3 =>
        Sum.elim (fun v4 => Option.some ((0 : Int), ())) (fun v5 => Option.some (v5.fst.fst, ())) v3
theorem f_38 (x : Ps [.ty tScene, .ty I]) : funcT CT T_38 [I] (drT CT T_38) lp_38 Try.f38 c_38 (encPs [.ty tScene, .ty I] x) = F_38 x.1 x.2.1 := by kernel_rfl
noncomputable def E_38 : Ent := .fn 38 [] ⟨[.ty tScene, .ty I], [I], fun x => F_38 x.1 x.2.1, false⟩
theorem e_38 : E_38.Ok CT.P := Ent.ofFn CT_ok T_38_ok hf_38 hb_38 lp_38_ok f_38
noncomputable def E_38h : Ent := .fn 38 [] ⟨[.ty tScene, .ty I], [I], fun x => F_38 x.1 x.2.1, true⟩
/-! ### 44: maquette/maquettebook.SameInts -/
noncomputable def c_44 : Code := Try.f44.body.getD .skip
theorem hb_44 : Try.f44.body = some c_44 := by kernel_rfl
theorem hf_44 : CT.P.funcs[44]? = some Try.f44 := by kernel_rfl
noncomputable def T_44 : Tb := mkTb tyT mpT []
theorem T_44_ok : T_44.Ok CT.P := mkTb_ok (trivial)
noncomputable def l_44_4 : Code := atLoop c_44 4
noncomputable abbrev LD_44_4 : LayD := ⟨27, [(0, .data (.list I)), (1, .data (.list I)), (5, .data I)], [], fun _ => []⟩
noncomputable abbrev LA_44_4 : LayD := ⟨27, [], [], fun _ => []⟩
noncomputable abbrev LB_44_4 : LayD := ⟨27, [(4, .data .bool)], [], fun _ => []⟩
noncomputable def EX_44_4 : Exits 0 LA_44_4.El LB_44_4.El := ⟨.exit 0, LA_44_4.lay [], .ret, LB_44_4.lay []⟩

noncomputable def lpi_44_4 {β : Type} : LpT β := fun _ _ _ => none
theorem lpi_44_4_ok {β : Type} : LpTOk CT (lpi_44_4 (β := β)) (loopsOf l_44_4) := by
  have h : loopsOf l_44_4 = [] := by kernel_rfl
  rw [h]
  exact LpTOk.nil
noncomputable def G_44_4 (r0 : Ty.El (.list I)) (r1 : Ty.El (.list I)) (r5 : Ty.El I) : Option (LD_44_4.El ⊕ (LA_44_4.El ⊕ LB_44_4.El)) :=
  bif Decidable.decide (r5 < (↑(List.length r0) : Int)) then
    bif Decidable.decide ((0 : Int) ≤ r5 ∧ r5 < (↑(List.length r0) : Int)) then
      bif Decidable.decide ((0 : Int) ≤ r5 ∧ r5 < (↑(List.length r1) : Int)) then
        bif !List.getD r0 (Int.toNat r5) (0 : Int) == List.getD r1 (Int.toNat r5) (0 : Int) then Option.some (Sum.inr (Sum.inr ((Bool.false, ()), ())))
        else Option.some (Sum.inl ((r0, r1, Go.IntKind.i64.wrap (r5 + (1 : Int)), ()), ()))
      else Option.none
    else Option.none
  else Option.some (Sum.inr (Sum.inl ((), ())))
theorem g_44_4 (x : LD_44_4.El) : codeT CT T_44 (drT CT T_44) lpi_44_4 l_44_4 (LD_44_4.enc x) (bodyK (LD_44_4.lay []) EX_44_4) = G_44_4 x.1.1 x.1.2.1 x.1.2.2.1 := by kernel_rfl
noncomputable def R_44_4 : LD_44_4.El → Option (LA_44_4.El ⊕ LB_44_4.El) := roundsT (fun x => G_44_4 x.1.1 x.1.2.1 x.1.2.2.1) fuel
theorem r_44_4 : ∀ x y, R_44_4 x = some y → CL CT l_44_4 (LD_44_4.enc x) (Sum.elim (fun _ => EX_44_4.xa) (fun _ => EX_44_4.xb) y) (Sum.elim EX_44_4.la.enc EX_44_4.lb.enc y) :=
  rounds_ok (L := LD_44_4.lay []) (E := EX_44_4) CT_ok T_44_ok (drT_ok CT_ok T_44_ok) lpi_44_4_ok g_44_4 rfl rfl (fun v h => by have hh : (.exit 0 : AX) = .pan v := h; cases hh) (fun v h => by have hh : (.ret : AX) = .pan v := h; cases hh) fuel
noncomputable def lp_44 {β : Type} : LpT β := fun k s K => if Nat.beq k 4 then lpOne (LD_44_4.lay []) EX_44_4 R_44_4 s K else none
theorem lp_44_ok {β : Type} : LpTOk CT (lp_44 (β := β)) (loopsOf c_44) := by
  have h : loopsOf c_44 = [(4, l_44_4)] := by kernel_rfl
  rw [h]
  exact LpTOk.cons (fun s K z h => lpOne_ok r_44_4 h) (LpTOk.nil)
noncomputable def F_44 (a1 : Ty.El (.list I)) (a2 : Ty.El (.list I)) : Option (Els [.bool]) :=
  bif (↑(List.length a1) : Int) != (↑(List.length a2) : Int) then Option.some (Bool.false, ())
  else (R_44_4 ((a1, a2, (0 : Int), ()), ())).bind fun v1 => Sum.elim (fun v2 => Option.some (Bool.true, ())) (fun v3 => Option.some (v3.fst.fst, ())) v1
theorem f_44 (x : Ps [.ty (.list I), .ty (.list I)]) : funcT CT T_44 [.bool] (drT CT T_44) lp_44 Try.f44 c_44 (encPs [.ty (.list I), .ty (.list I)] x) = F_44 x.1 x.2.1 := by kernel_rfl
noncomputable def E_44 : Ent := .fn 44 [] ⟨[.ty (.list I), .ty (.list I)], [.bool], fun x => F_44 x.1 x.2.1, false⟩
theorem e_44 : E_44.Ok CT.P := Ent.ofFn CT_ok T_44_ok hf_44 hb_44 lp_44_ok f_44
noncomputable def E_44h : Ent := .fn 44 [] ⟨[.ty (.list I), .ty (.list I)], [.bool], fun x => F_44 x.1 x.2.1, true⟩
/-! ### 40: maquette/maquettebook.SameThing -/
noncomputable def c_40 : Code := Try.f40.body.getD .skip
theorem hb_40 : Try.f40.body = some c_40 := by kernel_rfl
theorem hf_40 : CT.P.funcs[40]? = some Try.f40 := by kernel_rfl
noncomputable def T_40 : Tb := mkTb tyT mpT [E_44]
theorem T_40_ok : T_40.Ok CT.P := mkTb_ok (⟨e_44, trivial⟩)
noncomputable def lp_40 {β : Type} : LpT β := fun _ _ _ => none
theorem lp_40_ok {β : Type} : LpTOk CT (lp_40 (β := β)) (loopsOf c_40) := by
  have h : loopsOf c_40 = [] := by kernel_rfl
  rw [h]
  exact LpTOk.nil
noncomputable def F_40 (a1 : Ty.El tThing) (a2 : Ty.El tThing) : Option (Els [.bool]) :=
  bif a1.fst == a2.fst then
    bif a1.snd.fst == a2.snd.fst then
      bif
          a1.snd.snd.fst.fst == a2.snd.snd.fst.fst &&
            (a1.snd.snd.fst.snd.fst.fst == a2.snd.snd.fst.snd.fst.fst && (a1.snd.snd.fst.snd.fst.snd == a2.snd.snd.fst.snd.fst.snd && Bool.true) &&
              (a1.snd.snd.fst.snd.snd.fst == a2.snd.snd.fst.snd.snd.fst &&
                (a1.snd.snd.fst.snd.snd.snd.fst.fst == a2.snd.snd.fst.snd.snd.snd.fst.fst &&
                    (a1.snd.snd.fst.snd.snd.snd.fst.snd == a2.snd.snd.fst.snd.snd.snd.fst.snd && Bool.true) &&
                  (a1.snd.snd.fst.snd.snd.snd.snd.fst == a2.snd.snd.fst.snd.snd.snd.snd.fst &&
                      (a1.snd.snd.fst.snd.snd.snd.snd.snd == a2.snd.snd.fst.snd.snd.snd.snd.snd && Bool.true) &&
                    Bool.true)))) then
        bif
            a1.snd.snd.snd.fst.fst == a2.snd.snd.snd.fst.fst &&
              (a1.snd.snd.snd.fst.snd.fst == a2.snd.snd.snd.fst.snd.fst && (a1.snd.snd.snd.fst.snd.snd == a2.snd.snd.snd.fst.snd.snd && Bool.true)) then
          (F_44 a1.snd.snd.snd.snd a2.snd.snd.snd.snd).bind fun v2 => Option.some (v2.fst, ())
        else Option.some (Bool.false, ())
      else Option.some (Bool.false, ())
    else Option.some (Bool.false, ())
  else Option.some (Bool.false, ())
theorem f_40 (x : Ps [.ty tThing, .ty tThing]) : funcT CT T_40 [.bool] (drT CT T_40) lp_40 Try.f40 c_40 (encPs [.ty tThing, .ty tThing] x) = F_40 x.1 x.2.1 := by kernel_rfl
noncomputable def E_40 : Ent := .fn 40 [] ⟨[.ty tThing, .ty tThing], [.bool], fun x => F_40 x.1 x.2.1, false⟩
theorem e_40 : E_40.Ok CT.P := Ent.ofFn CT_ok T_40_ok hf_40 hb_40 lp_40_ok f_40
noncomputable def E_40h : Ent := .fn 40 [] ⟨[.ty tThing, .ty tThing], [.bool], fun x => F_40 x.1 x.2.1, true⟩
/-! ### 43: maquette/kin.Bodies -/
noncomputable def c_43 : Code := Try.f43.body.getD .skip
theorem hb_43 : Try.f43.body = some c_43 := by kernel_rfl
theorem hf_43 : CT.P.funcs[43]? = some Try.f43 := by kernel_rfl
noncomputable def T_43 : Tb := mkTb tyT mpT [E_20, E_23h, E_37]
theorem T_43_ok : T_43.Ok CT.P := mkTb_ok (⟨e_20, e_23, e_37, trivial⟩)
noncomputable def l_43_10 : Code := atLoop c_43 10
noncomputable abbrev LD_43_10 : LayD := ⟨65, [(2, .ptr 0), (8, .own I 1), (44, .data (.list I)), (45, .data I), (46, .data I)], [.var 36 [.data tScene], .row 3 I], fun s => [slotR s 2, slotR s 8]⟩
noncomputable abbrev LA_43_10 : LayD := ⟨65, [(8, .own I 0)], [.row 3 I], fun s => [slotR s 8]⟩
noncomputable abbrev LB_43_10 : LayD := ⟨65, [], [], fun _ => []⟩
noncomputable def EX_43_10 : Exits 0 LA_43_10.El LB_43_10.El := ⟨.exit 0, LA_43_10.lay [.nilReg 8 3 I], .ret, LB_43_10.lay []⟩

noncomputable def lpi_43_10 {β : Type} : LpT β := fun _ _ _ => none
theorem lpi_43_10_ok {β : Type} : LpTOk CT (lpi_43_10 (β := β)) (loopsOf l_43_10) := by
  have h : loopsOf l_43_10 = [] := by kernel_rfl
  rw [h]
  exact LpTOk.nil
noncomputable def G_43_10 (r44 : Ty.El (.list I)) (r45 : Ty.El I) (r46 : Ty.El I) (b0 : Ty.El tScene × Unit) (b1 : List (Ty.El I)) : Option (LD_43_10.El ⊕ (LA_43_10.El ⊕ LB_43_10.El)) :=
  bif Decidable.decide (r46 < r45) then
    bif Decidable.decide ((0 : Int) ≤ r46 ∧ r46 < (↑(List.length r44) : Int)) then
      (F_23 b0.fst (List.getD r44 (Int.toNat r46) (0 : Int))).bind fun v2 =>
        bif v2.fst.snd.fst == (1 : Int) then
          bif ((b1.length + [List.getD r44 (Int.toNat r46) (0 : Int)].length) * (8 : Nat)).ble (70368744177664 : Nat) then
            Option.some (Sum.inl (((), (), r44, r45, Go.IntKind.i64.wrap (r46 + (1 : Int)), ()), (b0.fst, ()), b1 ++ [List.getD r44 (Int.toNat r46) (0 : Int)], ()))
          else Option.none
        else Option.some (Sum.inl (((), (), r44, r45, Go.IntKind.i64.wrap (r46 + (1 : Int)), ()), (b0.fst, ()), b1, ()))
    else Option.none
  else Option.some (Sum.inr (Sum.inl (((), ()), b1, ())))
theorem g_43_10 (x : LD_43_10.El) : codeT CT T_43 (drT CT T_43) lpi_43_10 l_43_10 (LD_43_10.enc x) (bodyK (LD_43_10.lay [.nilReg 8 3 I]) EX_43_10) = G_43_10 x.1.2.2.1 x.1.2.2.2.1 x.1.2.2.2.2.1 x.2.1 x.2.2.1 := by kernel_rfl
noncomputable def R_43_10 : LD_43_10.El → Option (LA_43_10.El ⊕ LB_43_10.El) := roundsT (fun x => G_43_10 x.1.2.2.1 x.1.2.2.2.1 x.1.2.2.2.2.1 x.2.1 x.2.2.1) fuel
theorem r_43_10 : ∀ x y, R_43_10 x = some y → CL CT l_43_10 (LD_43_10.enc x) (Sum.elim (fun _ => EX_43_10.xa) (fun _ => EX_43_10.xb) y) (Sum.elim EX_43_10.la.enc EX_43_10.lb.enc y) :=
  rounds_ok (L := LD_43_10.lay [.nilReg 8 3 I]) (E := EX_43_10) CT_ok T_43_ok (drT_ok CT_ok T_43_ok) lpi_43_10_ok g_43_10 rfl rfl (fun v h => by have hh : (.exit 0 : AX) = .pan v := h; cases hh) (fun v h => by have hh : (.ret : AX) = .pan v := h; cases hh) fuel
noncomputable def lp_43 {β : Type} : LpT β := fun k s K => if Nat.beq k 10 then lpOne (LD_43_10.lay [.nilReg 8 3 I]) EX_43_10 R_43_10 s K else none
theorem lp_43_ok {β : Type} : LpTOk CT (lp_43 (β := β)) (loopsOf c_43) := by
  have h : loopsOf c_43 = [(10, l_43_10)] := by kernel_rfl
  rw [h]
  exact LpTOk.cons (fun s K z h => lpOne_ok r_43_10 h) (LpTOk.nil)
noncomputable def F_43 (a1 : Ty.El tScene) (a2 : Ty.El I) : Option (Els [.list I, I]) :=
  (F_20 a1).bind fun v2 =>
    bif !v2.fst then Option.some ([], (9 : Int), ())
    else
      (F_23 a1 a2).bind fun v4 =>
        bif !v4.snd.fst then Option.some ([], (10 : Int), ())
        else
          bif v4.fst.snd.fst == (2 : Int) then
            Option.some
              ([if v4.fst.snd.snd.snd.fst.snd.fst < v4.fst.snd.snd.snd.fst.fst then v4.fst.snd.snd.snd.fst.snd.fst else v4.fst.snd.snd.snd.fst.fst,
                  if v4.fst.snd.snd.snd.fst.snd.fst > v4.fst.snd.snd.snd.fst.fst then v4.fst.snd.snd.snd.fst.snd.fst else v4.fst.snd.snd.snd.fst.fst],
                (0 : Int), ())
          else
            (F_37 a1 a2).bind fun v6 =>
              (R_43_10 (((), (), v6.fst, (↑(List.length v6.fst) : Int), (0 : Int), ()), (a1, ()), [], ())).bind fun v7 =>
                Sum.elim (fun v8 => Option.some (v8.snd.fst, (0 : Int), ())) (fun v9 => Option.none) v7
theorem f_43 (x : Ps [.ty tScene, .ty I]) : funcT CT T_43 [.list I, I] (drT CT T_43) lp_43 Try.f43 c_43 (encPs [.ty tScene, .ty I] x) = F_43 x.1 x.2.1 := by kernel_rfl
noncomputable def E_43 : Ent := .fn 43 [] ⟨[.ty tScene, .ty I], [.list I, I], fun x => F_43 x.1 x.2.1, false⟩
theorem e_43 : E_43.Ok CT.P := Ent.ofFn CT_ok T_43_ok hf_43 hb_43 lp_43_ok f_43
noncomputable def E_43h : Ent := .fn 43 [] ⟨[.ty tScene, .ty I], [.list I, I], fun x => F_43 x.1 x.2.1, true⟩
/-! ### 119: maquette/kin.goes$1 -/
noncomputable def c_119 : Code := Try.f119.body.getD .skip
theorem hb_119 : Try.f119.body = some c_119 := by kernel_rfl
theorem hf_119 : CT.P.funcs[119]? = some Try.f119 := by kernel_rfl
noncomputable abbrev IN_119 : LayD := ⟨2, [(0, .data I), (1, .ptr 0)], [.var 116 [.map 1], .tmap I .bool], fun s => [slotR s 1, slotC s 1 0]⟩
noncomputable abbrev OUT_119 : LayD := ⟨1, [(0, .data .bool)], [.var 116 [.map 1], .tmap I .bool], fun _ => [0, 1]⟩
noncomputable def T_119 : Tb := mkTb tyT mpT []
theorem T_119_ok : T_119.Ok CT.P := mkTb_ok (trivial)
noncomputable def lp_119 {β : Type} : LpT β := fun _ _ _ => none
theorem lp_119_ok {β : Type} : LpTOk (CTp 2) (lp_119 (β := β)) (loopsOf c_119) := by
  have h : loopsOf c_119 = [] := by kernel_rfl
  rw [h]
  exact LpTOk.nil
noncomputable def F_119 (a0 : Ty.El I) (b0 : Unit × Unit) (b1 : List (Ty.El I × Ty.El (.bool))) : Option OUT_119.El :=
  Option.some ((!(Go.DI.tget Go.DI.S.I Go.DI.Ty.bool a0 b1).getD Bool.false, ()), ((), ()), b1, ())
theorem f_119 (x : IN_119.El) : funcX (CTp 2) T_119 IN_119 OUT_119 [] (drT (CTp 2) T_119) lp_119 Try.f119 c_119 x = F_119 x.1.1 x.2.1 x.2.2.1 := by kernel_rfl
noncomputable def E_119 : Ent := .mkGen 119 [] ⟨2, [], IN_119, OUT_119, fun x => F_119 x.1.1 x.2.1 x.2.2.1⟩
theorem e_119 : E_119.Ok CT.P := Ent.ofGen (C := (CTp 2)) (steps := []) (osteps := []) (CTp_ok 2) T_119_ok hf_119 hb_119 lp_119_ok f_119
/-! ### 77: maquette/kin.Drop$1 -/
noncomputable def c_77 : Code := Try.f77.body.getD .skip
theorem hb_77 : Try.f77.body = some c_77 := by kernel_rfl
theorem hf_77 : CT.P.funcs[77]? = some Try.f77 := by kernel_rfl
noncomputable abbrev IN_77 : LayD := ⟨2, [(0, .data I), (1, .ptr 0)], [.var 116 [.map 1], .tmap I .bool], fun s => [slotR s 1, slotC s 1 0]⟩
noncomputable abbrev OUT_77 : LayD := ⟨1, [(0, .data .bool)], [.var 116 [.map 1], .tmap I .bool], fun _ => [0, 1]⟩
noncomputable def T_77 : Tb := mkTb tyT mpT []
theorem T_77_ok : T_77.Ok CT.P := mkTb_ok (trivial)
noncomputable def lp_77 {β : Type} : LpT β := fun _ _ _ => none
theorem lp_77_ok {β : Type} : LpTOk (CTp 2) (lp_77 (β := β)) (loopsOf c_77) := by
  have h : loopsOf c_77 = [] := by kernel_rfl
  rw [h]
  exact LpTOk.nil
noncomputable def F_77 (a0 : Ty.El I) (b0 : Unit × Unit) (b1 : List (Ty.El I × Ty.El (.bool))) : Option OUT_77.El :=
  Option.some (((Go.DI.tget Go.DI.S.I Go.DI.Ty.bool a0 b1).getD Bool.false, ()), ((), ()), b1, ())
theorem f_77 (x : IN_77.El) : funcX (CTp 2) T_77 IN_77 OUT_77 [] (drT (CTp 2) T_77) lp_77 Try.f77 c_77 x = F_77 x.1.1 x.2.1 x.2.2.1 := by kernel_rfl
noncomputable def E_77 : Ent := .mkGen 77 [] ⟨2, [], IN_77, OUT_77, fun x => F_77 x.1.1 x.2.1 x.2.2.1⟩
theorem e_77 : E_77.Ok CT.P := Ent.ofGen (C := (CTp 2)) (steps := []) (osteps := []) (CTp_ok 2) T_77_ok hf_77 hb_77 lp_77_ok f_77
/-! ### 120: slices.IndexFuncint,int -/
noncomputable def c_120_119 : Code := Try.f120.body.getD .skip
theorem hb_120_119 : Try.f120.body = some c_120_119 := by kernel_rfl
theorem hf_120_119 : CT.P.funcs[120]? = some Try.f120 := by kernel_rfl
noncomputable abbrev IN_120_119 : LayD := ⟨2, [(0, .data (.list I)), (1, .cloP 119 [0])], [.var 116 [.map 1], .tmap I .bool], fun s => [slotF s 1, slotG s 1]⟩
noncomputable abbrev OUT_120_119 : LayD := ⟨1, [(0, .data I)], [.var 116 [.map 1], .tmap I .bool], fun _ => [0, 1]⟩
noncomputable def T_120_119 : Tb := mkTb tyT mpT [E_119]
theorem T_120_119_ok : T_120_119.Ok CT.P := mkTb_ok (⟨e_119, trivial⟩)
noncomputable def l_120_119_2 : Code := atLoop c_120_119 2
noncomputable abbrev LD_120_119_2 : LayD := ⟨19, [(0, .data (.list I)), (1, .cloP 119 [0]), (7, .data I), (8, .data I)], [.var 116 [.map 1], .tmap I .bool], fun s => [0, 1]⟩
noncomputable abbrev LA_120_119_2 : LayD := ⟨19, [], [.var 116 [.map 1], .tmap I .bool], fun s => [0, 1]⟩
noncomputable abbrev LB_120_119_2 : LayD := ⟨19, [(4, .data I)], [.var 116 [.map 1], .tmap I .bool], fun s => [0, 1]⟩
noncomputable def EX_120_119_2 : Exits 2 LA_120_119_2.El LB_120_119_2.El := ⟨.exit 0, LA_120_119_2.lay [], .ret, LB_120_119_2.lay []⟩

noncomputable def lpi_120_119_2 {β : Type} : LpT β := fun _ _ _ => none
theorem lpi_120_119_2_ok {β : Type} : LpTOk (CTp 2) (lpi_120_119_2 (β := β)) (loopsOf l_120_119_2) := by
  have h : loopsOf l_120_119_2 = [] := by kernel_rfl
  rw [h]
  exact LpTOk.nil
noncomputable def G_120_119_2 (r0 : Ty.El (.list I)) (r7 : Ty.El I) (r8 : Ty.El I) (b0 : Unit × Unit) (b1 : List (Ty.El I × Ty.El (.bool))) : Option (LD_120_119_2.El ⊕ (LA_120_119_2.El ⊕ LB_120_119_2.El)) :=
  bif Decidable.decide (r8 < r7) then
    bif Decidable.decide ((0 : Int) ≤ r8 ∧ r8 < (↑(List.length r0) : Int)) then
      (F_119 (List.getD r0 (Int.toNat r8) (0 : Int)) ((), ()) b1).bind fun v2 =>
        bif v2.fst.fst then Option.some (Sum.inr (Sum.inr ((r8, ()), ((), ()), v2.snd.snd.fst, ())))
        else Option.some (Sum.inl ((r0, (), r7, Go.IntKind.i64.wrap (r8 + (1 : Int)), ()), ((), ()), v2.snd.snd.fst, ()))
    else Option.none
  else Option.some (Sum.inr (Sum.inl ((), ((), ()), b1, ())))
theorem g_120_119_2 (x : LD_120_119_2.El) : codeT (CTp 2) T_120_119 (drT (CTp 2) T_120_119) lpi_120_119_2 l_120_119_2 (LD_120_119_2.enc x) (bodyK (LD_120_119_2.lay []) EX_120_119_2) = G_120_119_2 x.1.1 x.1.2.2.1 x.1.2.2.2.1 x.2.1 x.2.2.1 := by kernel_rfl
noncomputable def R_120_119_2 : LD_120_119_2.El → Option (LA_120_119_2.El ⊕ LB_120_119_2.El) := roundsT (fun x => G_120_119_2 x.1.1 x.1.2.2.1 x.1.2.2.2.1 x.2.1 x.2.2.1) fuel
theorem r_120_119_2 : ∀ x y, R_120_119_2 x = some y → CL (CTp 2) l_120_119_2 (LD_120_119_2.enc x) (Sum.elim (fun _ => EX_120_119_2.xa) (fun _ => EX_120_119_2.xb) y) (Sum.elim EX_120_119_2.la.enc EX_120_119_2.lb.enc y) :=
  rounds_ok (L := LD_120_119_2.lay []) (E := EX_120_119_2) (CTp_ok 2) T_120_119_ok (drT_ok (CTp_ok 2) T_120_119_ok) lpi_120_119_2_ok g_120_119_2 rfl rfl (fun v h => by have hh : (.exit 0 : AX) = .pan v := h; cases hh) (fun v h => by have hh : (.ret : AX) = .pan v := h; cases hh) fuel
noncomputable def lp_120_119 {β : Type} : LpT β := fun k s K => if Nat.beq k 2 then lpOne (LD_120_119_2.lay []) EX_120_119_2 R_120_119_2 s K else none
theorem lp_120_119_ok {β : Type} : LpTOk (CTp 2) (lp_120_119 (β := β)) (loopsOf c_120_119) := by
  have h : loopsOf c_120_119 = [(2, l_120_119_2)] := by kernel_rfl
  rw [h]
  exact LpTOk.cons (fun s K z h => lpOne_ok r_120_119_2 h) (LpTOk.nil)
noncomputable def F_120_119 (a0 : Ty.El (.list I)) (b0 : Unit × Unit) (b1 : List (Ty.El I × Ty.El (.bool))) : Option OUT_120_119.El :=
  (R_120_119_2 ((a0, (), (↑(List.length a0) : Int), (0 : Int), ()), ((), ()), b1, ())).bind fun v1 =>
    Sum.elim (fun v2 => Option.some (((-1 : Int), ()), ((), ()), v2.snd.snd.fst, ())) (fun v3 => Option.some ((v3.fst.fst, ()), ((), ()), v3.snd.snd.fst, ())) v1
theorem f_120_119 (x : IN_120_119.El) : funcX (CTp 2) T_120_119 IN_120_119 OUT_120_119 [] (drT (CTp 2) T_120_119) lp_120_119 Try.f120 c_120_119 x = F_120_119 x.1.1 x.2.1 x.2.2.1 := by kernel_rfl
noncomputable def E_120_119 : Ent := .mkGen 120 [119] ⟨2, [], IN_120_119, OUT_120_119, fun x => F_120_119 x.1.1 x.2.1 x.2.2.1⟩
theorem e_120_119 : E_120_119.Ok CT.P := Ent.ofGen (C := (CTp 2)) (steps := []) (osteps := []) (CTp_ok 2) T_120_119_ok hf_120_119 hb_120_119 lp_120_119_ok f_120_119
/-! ### 120: slices.IndexFuncint,int -/
noncomputable def c_120_77 : Code := Try.f120.body.getD .skip
theorem hb_120_77 : Try.f120.body = some c_120_77 := by kernel_rfl
theorem hf_120_77 : CT.P.funcs[120]? = some Try.f120 := by kernel_rfl
noncomputable abbrev IN_120_77 : LayD := ⟨2, [(0, .data (.list I)), (1, .cloP 77 [0])], [.var 116 [.map 1], .tmap I .bool], fun s => [slotF s 1, slotG s 1]⟩
noncomputable abbrev OUT_120_77 : LayD := ⟨1, [(0, .data I)], [.var 116 [.map 1], .tmap I .bool], fun _ => [0, 1]⟩
noncomputable def T_120_77 : Tb := mkTb tyT mpT [E_77]
theorem T_120_77_ok : T_120_77.Ok CT.P := mkTb_ok (⟨e_77, trivial⟩)
noncomputable def l_120_77_2 : Code := atLoop c_120_77 2
noncomputable abbrev LD_120_77_2 : LayD := ⟨19, [(0, .data (.list I)), (1, .cloP 77 [0]), (7, .data I), (8, .data I)], [.var 116 [.map 1], .tmap I .bool], fun s => [0, 1]⟩
noncomputable abbrev LA_120_77_2 : LayD := ⟨19, [], [.var 116 [.map 1], .tmap I .bool], fun s => [0, 1]⟩
noncomputable abbrev LB_120_77_2 : LayD := ⟨19, [(4, .data I)], [.var 116 [.map 1], .tmap I .bool], fun s => [0, 1]⟩
noncomputable def EX_120_77_2 : Exits 2 LA_120_77_2.El LB_120_77_2.El := ⟨.exit 0, LA_120_77_2.lay [], .ret, LB_120_77_2.lay []⟩

noncomputable def lpi_120_77_2 {β : Type} : LpT β := fun _ _ _ => none
theorem lpi_120_77_2_ok {β : Type} : LpTOk (CTp 2) (lpi_120_77_2 (β := β)) (loopsOf l_120_77_2) := by
  have h : loopsOf l_120_77_2 = [] := by kernel_rfl
  rw [h]
  exact LpTOk.nil
noncomputable def G_120_77_2 (r0 : Ty.El (.list I)) (r7 : Ty.El I) (r8 : Ty.El I) (b0 : Unit × Unit) (b1 : List (Ty.El I × Ty.El (.bool))) : Option (LD_120_77_2.El ⊕ (LA_120_77_2.El ⊕ LB_120_77_2.El)) :=
  bif Decidable.decide (r8 < r7) then
    bif Decidable.decide ((0 : Int) ≤ r8 ∧ r8 < (↑(List.length r0) : Int)) then
      (F_77 (List.getD r0 (Int.toNat r8) (0 : Int)) ((), ()) b1).bind fun v2 =>
        bif v2.fst.fst then Option.some (Sum.inr (Sum.inr ((r8, ()), ((), ()), v2.snd.snd.fst, ())))
        else Option.some (Sum.inl ((r0, (), r7, Go.IntKind.i64.wrap (r8 + (1 : Int)), ()), ((), ()), v2.snd.snd.fst, ()))
    else Option.none
  else Option.some (Sum.inr (Sum.inl ((), ((), ()), b1, ())))
theorem g_120_77_2 (x : LD_120_77_2.El) : codeT (CTp 2) T_120_77 (drT (CTp 2) T_120_77) lpi_120_77_2 l_120_77_2 (LD_120_77_2.enc x) (bodyK (LD_120_77_2.lay []) EX_120_77_2) = G_120_77_2 x.1.1 x.1.2.2.1 x.1.2.2.2.1 x.2.1 x.2.2.1 := by kernel_rfl
noncomputable def R_120_77_2 : LD_120_77_2.El → Option (LA_120_77_2.El ⊕ LB_120_77_2.El) := roundsT (fun x => G_120_77_2 x.1.1 x.1.2.2.1 x.1.2.2.2.1 x.2.1 x.2.2.1) fuel
theorem r_120_77_2 : ∀ x y, R_120_77_2 x = some y → CL (CTp 2) l_120_77_2 (LD_120_77_2.enc x) (Sum.elim (fun _ => EX_120_77_2.xa) (fun _ => EX_120_77_2.xb) y) (Sum.elim EX_120_77_2.la.enc EX_120_77_2.lb.enc y) :=
  rounds_ok (L := LD_120_77_2.lay []) (E := EX_120_77_2) (CTp_ok 2) T_120_77_ok (drT_ok (CTp_ok 2) T_120_77_ok) lpi_120_77_2_ok g_120_77_2 rfl rfl (fun v h => by have hh : (.exit 0 : AX) = .pan v := h; cases hh) (fun v h => by have hh : (.ret : AX) = .pan v := h; cases hh) fuel
noncomputable def lp_120_77 {β : Type} : LpT β := fun k s K => if Nat.beq k 2 then lpOne (LD_120_77_2.lay []) EX_120_77_2 R_120_77_2 s K else none
theorem lp_120_77_ok {β : Type} : LpTOk (CTp 2) (lp_120_77 (β := β)) (loopsOf c_120_77) := by
  have h : loopsOf c_120_77 = [(2, l_120_77_2)] := by kernel_rfl
  rw [h]
  exact LpTOk.cons (fun s K z h => lpOne_ok r_120_77_2 h) (LpTOk.nil)
noncomputable def F_120_77 (a0 : Ty.El (.list I)) (b0 : Unit × Unit) (b1 : List (Ty.El I × Ty.El (.bool))) : Option OUT_120_77.El :=
  (R_120_77_2 ((a0, (), (↑(List.length a0) : Int), (0 : Int), ()), ((), ()), b1, ())).bind fun v1 =>
    Sum.elim (fun v2 => Option.some (((-1 : Int), ()), ((), ()), v2.snd.snd.fst, ())) (fun v3 => Option.some ((v3.fst.fst, ()), ((), ()), v3.snd.snd.fst, ())) v1
theorem f_120_77 (x : IN_120_77.El) : funcX (CTp 2) T_120_77 IN_120_77 OUT_120_77 [] (drT (CTp 2) T_120_77) lp_120_77 Try.f120 c_120_77 x = F_120_77 x.1.1 x.2.1 x.2.2.1 := by kernel_rfl
noncomputable def E_120_77 : Ent := .mkGen 120 [77] ⟨2, [], IN_120_77, OUT_120_77, fun x => F_120_77 x.1.1 x.2.1 x.2.2.1⟩
theorem e_120_77 : E_120_77.Ok CT.P := Ent.ofGen (C := (CTp 2)) (steps := []) (osteps := []) (CTp_ok 2) T_120_77_ok hf_120_77 hb_120_77 lp_120_77_ok f_120_77
/-! ### 79: slices.ContainsFuncint,int -/
noncomputable def c_79_119 : Code := Try.f79.body.getD .skip
theorem hb_79_119 : Try.f79.body = some c_79_119 := by kernel_rfl
theorem hf_79_119 : CT.P.funcs[79]? = some Try.f79 := by kernel_rfl
noncomputable abbrev IN_79_119 : LayD := ⟨2, [(0, .data (.list I)), (1, .cloP 119 [0])], [.var 116 [.map 1], .tmap I .bool], fun s => [slotF s 1, slotG s 1]⟩
noncomputable abbrev OUT_79_119 : LayD := ⟨1, [(0, .data .bool)], [.var 116 [.map 1], .tmap I .bool], fun _ => [0, 1]⟩
noncomputable def T_79_119 : Tb := mkTb tyT mpT [E_120_119]
theorem T_79_119_ok : T_79_119.Ok CT.P := mkTb_ok (⟨e_120_119, trivial⟩)
noncomputable def lp_79_119 {β : Type} : LpT β := fun _ _ _ => none
theorem lp_79_119_ok {β : Type} : LpTOk (CTp 2) (lp_79_119 (β := β)) (loopsOf c_79_119) := by
  have h : loopsOf c_79_119 = [] := by kernel_rfl
  rw [h]
  exact LpTOk.nil
noncomputable def F_79_119 (a0 : Ty.El (.list I)) (b0 : Unit × Unit) (b1 : List (Ty.El I × Ty.El (.bool))) : Option OUT_79_119.El :=
  (F_120_119 a0 ((), ()) b1).bind fun v2 => Option.some ((Decidable.decide (v2.fst.fst ≥ (0 : Int)), ()), ((), ()), v2.snd.snd.fst, ())
theorem f_79_119 (x : IN_79_119.El) : funcX (CTp 2) T_79_119 IN_79_119 OUT_79_119 [] (drT (CTp 2) T_79_119) lp_79_119 Try.f79 c_79_119 x = F_79_119 x.1.1 x.2.1 x.2.2.1 := by kernel_rfl
noncomputable def E_79_119 : Ent := .mkGen 79 [119] ⟨2, [], IN_79_119, OUT_79_119, fun x => F_79_119 x.1.1 x.2.1 x.2.2.1⟩
theorem e_79_119 : E_79_119.Ok CT.P := Ent.ofGen (C := (CTp 2)) (steps := []) (osteps := []) (CTp_ok 2) T_79_119_ok hf_79_119 hb_79_119 lp_79_119_ok f_79_119
/-! ### 76: slices.DeleteFuncint,int -/
noncomputable def c_76 : Code := Try.f76.body.getD .skip
theorem hb_76 : Try.f76.body = some c_76 := by kernel_rfl
theorem hf_76 : CT.P.funcs[76]? = some Try.f76 := by kernel_rfl
noncomputable abbrev IN_76 : LayD := ⟨2, [(0, .data (.list I)), (1, .cloP 77 [0])], [.var 116 [.map 1], .tmap I .bool], fun s => [slotF s 1, slotG s 1]⟩
noncomputable abbrev OUT_76 : LayD := ⟨1, [(0, .data (.list I))], [.var 116 [.map 1], .tmap I .bool], fun _ => [0, 1]⟩
noncomputable def T_76 : Tb := mkTb tyT mpT [E_120_77]
theorem T_76_ok : T_76.Ok CT.P := mkTb_ok (⟨e_120_77, trivial⟩)
noncomputable def l_76_5 : Code := atLoop c_76 5
noncomputable abbrev LD_76_5 : LayD := ⟨42, [(0, .data (.list I)), (1, .cloP 77 [0]), (5, .data I), (6, .data I)], [.var 116 [.map 1], .tmap I .bool], fun s => [0, 1]⟩
noncomputable abbrev LA_76_5 : LayD := ⟨42, [(0, .data (.list I)), (5, .data I)], [.var 116 [.map 1], .tmap I .bool], fun s => [0, 1]⟩
noncomputable abbrev LB_76_5 : LayD := ⟨42, [], [], fun _ => []⟩
noncomputable def EX_76_5 : Exits 2 LA_76_5.El LB_76_5.El := ⟨.exit 0, LA_76_5.lay [], .ret, LB_76_5.lay []⟩

noncomputable def lpi_76_5 {β : Type} : LpT β := fun _ _ _ => none
theorem lpi_76_5_ok {β : Type} : LpTOk (CTp 2) (lpi_76_5 (β := β)) (loopsOf l_76_5) := by
  have h : loopsOf l_76_5 = [] := by kernel_rfl
  rw [h]
  exact LpTOk.nil
noncomputable def G_76_5 (r0 : Ty.El (.list I)) (r5 : Ty.El I) (r6 : Ty.El I) (b0 : Unit × Unit) (b1 : List (Ty.El I × Ty.El (.bool))) : Option (LD_76_5.El ⊕ (LA_76_5.El ⊕ LB_76_5.El)) :=
  bif Decidable.decide (r6 < (↑(List.length r0) : Int)) then bif Decidable.decide ((0 : Int) ≤ r6 ∧ r6 < (↑(List.length r0) : Int)) then Option.none else Option.none
  else Option.some (Sum.inr (Sum.inl ((r0, r5, ()), ((), ()), b1, ())))
theorem g_76_5 (x : LD_76_5.El) : codeT (CTp 2) T_76 (drT (CTp 2) T_76) lpi_76_5 l_76_5 (LD_76_5.enc x) (bodyK (LD_76_5.lay []) EX_76_5) = G_76_5 x.1.1 x.1.2.2.1 x.1.2.2.2.1 x.2.1 x.2.2.1 := by kernel_rfl
noncomputable def R_76_5 : LD_76_5.El → Option (LA_76_5.El ⊕ LB_76_5.El) := roundsT (fun x => G_76_5 x.1.1 x.1.2.2.1 x.1.2.2.2.1 x.2.1 x.2.2.1) fuel
theorem r_76_5 : ∀ x y, R_76_5 x = some y → CL (CTp 2) l_76_5 (LD_76_5.enc x) (Sum.elim (fun _ => EX_76_5.xa) (fun _ => EX_76_5.xb) y) (Sum.elim EX_76_5.la.enc EX_76_5.lb.enc y) :=
  rounds_ok (L := LD_76_5.lay []) (E := EX_76_5) (CTp_ok 2) T_76_ok (drT_ok (CTp_ok 2) T_76_ok) lpi_76_5_ok g_76_5 rfl rfl (fun v h => by have hh : (.exit 0 : AX) = .pan v := h; cases hh) (fun v h => by have hh : (.ret : AX) = .pan v := h; cases hh) fuel
noncomputable def lp_76 {β : Type} : LpT β := fun k s K => if Nat.beq k 5 then lpOne (LD_76_5.lay []) EX_76_5 R_76_5 s K else none
theorem lp_76_ok {β : Type} : LpTOk (CTp 2) (lp_76 (β := β)) (loopsOf c_76) := by
  have h : loopsOf c_76 = [(5, l_76_5)] := by kernel_rfl
  rw [h]
  exact LpTOk.cons (fun s K z h => lpOne_ok r_76_5 h) (LpTOk.nil)
noncomputable def F_76 (a0 : Ty.El (.list I)) (b0 : Unit × Unit) (b1 : List (Ty.El I × Ty.El (.bool))) : Option OUT_76.El :=
  (F_120_77 a0 ((), ()) b1).bind fun v2 =>
    bif v2.fst.fst == (-1 : Int) then Option.some ((a0, ()), ((), ()), v2.snd.snd.fst, ())
    else
      (R_76_5 ((a0, (), v2.fst.fst, Go.IntKind.i64.wrap (v2.fst.fst + (1 : Int)), ()), ((), ()), v2.snd.snd.fst, ())).bind fun v13 =>
        Sum.elim (fun v14 => bif Decidable.decide ((0 : Int) ≤ v14.fst.snd.fst ∧ v14.fst.snd.fst ≤ (↑(List.length v14.fst.fst) : Int)) then Option.none else Option.none)
          (fun v15 => Option.none) v13
theorem f_76 (x : IN_76.El) : funcX (CTp 2) T_76 IN_76 OUT_76 [] (drT (CTp 2) T_76) lp_76 Try.f76 c_76 x = F_76 x.1.1 x.2.1 x.2.2.1 := by kernel_rfl
noncomputable def E_76 : Ent := .mkGen 76 [77] ⟨2, [], IN_76, OUT_76, fun x => F_76 x.1.1 x.2.1 x.2.2.1⟩
theorem e_76 : E_76.Ok CT.P := Ent.ofGen (C := (CTp 2)) (steps := []) (osteps := []) (CTp_ok 2) T_76_ok hf_76 hb_76 lp_76_ok f_76
/-! ### 75: maquette/kin.goes -/
noncomputable def c_75 : Code := Try.f75.body.getD .skip
theorem hb_75 : Try.f75.body = some c_75 := by kernel_rfl
theorem hf_75 : CT.P.funcs[75]? = some Try.f75 := by kernel_rfl
noncomputable abbrev IN_75 : LayD := ⟨2, [(0, .data tThing), (1, .map 0)], [.tmap I .bool], fun s => [slotR s 1]⟩
noncomputable abbrev OUT_75 : LayD := ⟨1, [(0, .data .bool)], [.tmap I .bool], fun _ => [0]⟩
noncomputable def T_75 : Tb := mkTb tyT mpT [E_79_119]
theorem T_75_ok : T_75.Ok CT.P := mkTb_ok (⟨e_79_119, trivial⟩)
noncomputable def lp_75 {β : Type} : LpT β := fun _ _ _ => none
theorem lp_75_ok {β : Type} : LpTOk (CTp 1) (lp_75 (β := β)) (loopsOf c_75) := by
  have h : loopsOf c_75 = [] := by kernel_rfl
  rw [h]
  exact LpTOk.nil
noncomputable def F_75 (a0 : Ty.El tThing) (b0 : List (Ty.El I × Ty.El (.bool))) : Option OUT_75.El :=
  bif a0.snd.fst == (2 : Int) then
    bif (Go.DI.tget Go.DI.S.I Go.DI.Ty.bool a0.snd.snd.snd.fst.fst b0).getD Bool.false then Option.some ((Bool.true, ()), b0, ())
    else Option.some (((Go.DI.tget Go.DI.S.I Go.DI.Ty.bool a0.snd.snd.snd.fst.snd.fst b0).getD Bool.false, ()), b0, ())
  else
    bif a0.snd.fst == (3 : Int) then (F_79_119 a0.snd.snd.snd.snd ((), ()) b0).bind fun v2 => Option.some ((!v2.fst.fst, ()), v2.snd.snd.fst, ())
    else Option.some ((Bool.false, ()), b0, ())
theorem f_75 (x : IN_75.El) : funcX (CTp 1) T_75 IN_75 OUT_75 [] (drT (CTp 1) T_75) lp_75 Try.f75 c_75 x = F_75 x.1.1 x.2.1 := by kernel_rfl
noncomputable def E_75 : Ent := .mkGen 75 [] ⟨1, [], IN_75, OUT_75, fun x => F_75 x.1.1 x.2.1⟩
theorem e_75 : E_75.Ok CT.P := Ent.ofGen (C := (CTp 1)) (steps := []) (osteps := []) (CTp_ok 1) T_75_ok hf_75 hb_75 lp_75_ok f_75
/-! ### 120: slices.IndexFuncint,int -/
noncomputable def c_120_77o : Code := Try.f120.body.getD .skip
theorem hb_120_77o : Try.f120.body = some c_120_77o := by kernel_rfl
theorem hf_120_77o : CT.P.funcs[120]? = some Try.f120 := by kernel_rfl
noncomputable abbrev IN_120_77o : LayD := ⟨2, [(0, .own I 2), (1, .cloP 77 [0])], [.var 116 [.map 1], .tmap I .bool, .row 3 I], fun s => [slotF s 1, slotG s 1, slotR s 0]⟩
noncomputable abbrev OUT_120_77o : LayD := ⟨1, [(0, .data I)], [.var 116 [.map 1], .tmap I .bool, .row 3 I], fun _ => [0, 1, 2]⟩
noncomputable def T_120_77o : Tb := mkTb tyT mpT [E_77]
theorem T_120_77o_ok : T_120_77o.Ok CT.P := mkTb_ok (⟨e_77, trivial⟩)
noncomputable def l_120_77o_2 : Code := atLoop c_120_77o 2
noncomputable abbrev LD_120_77o_2 : LayD := ⟨19, [(0, .own I 2), (1, .cloP 77 [0]), (7, .data I), (8, .data I)], [.var 116 [.map 1], .tmap I .bool, .row 3 I], fun s => [0, 1, 2]⟩
noncomputable abbrev LA_120_77o_2 : LayD := ⟨19, [], [.var 116 [.map 1], .tmap I .bool, .row 3 I], fun s => [0, 1, 2]⟩
noncomputable abbrev LB_120_77o_2 : LayD := ⟨19, [(4, .data I)], [.var 116 [.map 1], .tmap I .bool, .row 3 I], fun s => [0, 1, 2]⟩
noncomputable def EX_120_77o_2 : Exits 3 LA_120_77o_2.El LB_120_77o_2.El := ⟨.exit 0, LA_120_77o_2.lay [], .ret, LB_120_77o_2.lay []⟩

noncomputable def lpi_120_77o_2 {β : Type} : LpT β := fun _ _ _ => none
theorem lpi_120_77o_2_ok {β : Type} : LpTOk (CTp 3) (lpi_120_77o_2 (β := β)) (loopsOf l_120_77o_2) := by
  have h : loopsOf l_120_77o_2 = [] := by kernel_rfl
  rw [h]
  exact LpTOk.nil
noncomputable def G_120_77o_2 (r7 : Ty.El I) (r8 : Ty.El I) (b0 : Unit × Unit) (b1 : List (Ty.El I × Ty.El (.bool))) (b2 : List (Ty.El I)) : Option (LD_120_77o_2.El ⊕ (LA_120_77o_2.El ⊕ LB_120_77o_2.El)) :=
  bif Decidable.decide (r8 < r7) then
    bif Decidable.decide ((0 : Int) ≤ r8 ∧ r8 < (↑b2.length : Int)) then
      (F_77 (b2.getD (Int.toNat r8) (0 : Int)) ((), ()) b1).bind fun v2 =>
        bif v2.fst.fst then Option.some (Sum.inr (Sum.inr ((r8, ()), ((), ()), v2.snd.snd.fst, b2, ())))
        else Option.some (Sum.inl (((), (), r7, Go.IntKind.i64.wrap (r8 + (1 : Int)), ()), ((), ()), v2.snd.snd.fst, b2, ()))
    else Option.none
  else Option.some (Sum.inr (Sum.inl ((), ((), ()), b1, b2, ())))
theorem g_120_77o_2 (x : LD_120_77o_2.El) : codeT (CTp 3) T_120_77o (drT (CTp 3) T_120_77o) lpi_120_77o_2 l_120_77o_2 (LD_120_77o_2.enc x) (bodyK (LD_120_77o_2.lay []) EX_120_77o_2) = G_120_77o_2 x.1.2.2.1 x.1.2.2.2.1 x.2.1 x.2.2.1 x.2.2.2.1 := by kernel_rfl
noncomputable def R_120_77o_2 : LD_120_77o_2.El → Option (LA_120_77o_2.El ⊕ LB_120_77o_2.El) := roundsT (fun x => G_120_77o_2 x.1.2.2.1 x.1.2.2.2.1 x.2.1 x.2.2.1 x.2.2.2.1) fuel
theorem r_120_77o_2 : ∀ x y, R_120_77o_2 x = some y → CL (CTp 3) l_120_77o_2 (LD_120_77o_2.enc x) (Sum.elim (fun _ => EX_120_77o_2.xa) (fun _ => EX_120_77o_2.xb) y) (Sum.elim EX_120_77o_2.la.enc EX_120_77o_2.lb.enc y) :=
  rounds_ok (L := LD_120_77o_2.lay []) (E := EX_120_77o_2) (CTp_ok 3) T_120_77o_ok (drT_ok (CTp_ok 3) T_120_77o_ok) lpi_120_77o_2_ok g_120_77o_2 rfl rfl (fun v h => by have hh : (.exit 0 : AX) = .pan v := h; cases hh) (fun v h => by have hh : (.ret : AX) = .pan v := h; cases hh) fuel
noncomputable def lp_120_77o {β : Type} : LpT β := fun k s K => if Nat.beq k 2 then lpOne (LD_120_77o_2.lay []) EX_120_77o_2 R_120_77o_2 s K else none
theorem lp_120_77o_ok {β : Type} : LpTOk (CTp 3) (lp_120_77o (β := β)) (loopsOf c_120_77o) := by
  have h : loopsOf c_120_77o = [(2, l_120_77o_2)] := by kernel_rfl
  rw [h]
  exact LpTOk.cons (fun s K z h => lpOne_ok r_120_77o_2 h) (LpTOk.nil)
noncomputable def F_120_77o (b0 : Unit × Unit) (b1 : List (Ty.El I × Ty.El (.bool))) (b2 : List (Ty.El I)) : Option OUT_120_77o.El :=
  (R_120_77o_2 (((), (), (↑b2.length : Int), (0 : Int), ()), ((), ()), b1, b2, ())).bind fun v1 =>
    Sum.elim (fun v2 => Option.some (((-1 : Int), ()), ((), ()), v2.snd.snd.fst, v2.snd.snd.snd.fst, ()))
      (fun v3 => Option.some ((v3.fst.fst, ()), ((), ()), v3.snd.snd.fst, v3.snd.snd.snd.fst, ())) v1
theorem f_120_77o (x : IN_120_77o.El) : funcX (CTp 3) T_120_77o IN_120_77o OUT_120_77o [] (drT (CTp 3) T_120_77o) lp_120_77o Try.f120 c_120_77o x = F_120_77o x.2.1 x.2.2.1 x.2.2.2.1 := by kernel_rfl
noncomputable def E_120_77o : Ent := .mkGen 120 [77] ⟨3, [.nilReg 0 3 I, .rowReg 0 3 I], IN_120_77o, OUT_120_77o, fun x => F_120_77o x.2.1 x.2.2.1 x.2.2.2.1⟩
theorem e_120_77o : E_120_77o.Ok CT.P := Ent.ofGen (C := (CTp 3)) (steps := [.nilReg 0 3 I, .rowReg 0 3 I]) (osteps := []) (CTp_ok 3) T_120_77o_ok hf_120_77o hb_120_77o lp_120_77o_ok f_120_77o
/-! ### 76: slices.DeleteFuncint,int -/
noncomputable def c_76o : Code := Try.f76.body.getD .skip
theorem hb_76o : Try.f76.body = some c_76o := by kernel_rfl
theorem hf_76o : CT.P.funcs[76]? = some Try.f76 := by kernel_rfl
noncomputable abbrev IN_76o : LayD := ⟨2, [(0, .own I 2), (1, .cloP 77 [0])], [.var 116 [.map 1], .tmap I .bool, .row 3 I], fun s => [slotF s 1, slotG s 1, slotR s 0]⟩
noncomputable abbrev OUT_76o : LayD := ⟨1, [(0, .data (.list I))], [.var 116 [.map 1], .tmap I .bool], fun _ => [0, 1]⟩
noncomputable def T_76o : Tb := mkTb tyT mpT [E_120_77o, E_77]
theorem T_76o_ok : T_76o.Ok CT.P := mkTb_ok (⟨e_120_77o, e_77, trivial⟩)
noncomputable def l_76o_5 : Code := atLoop c_76o 5
noncomputable abbrev LD_76o_5 : LayD := ⟨42, [(0, .own I 2), (1, .cloP 77 [0]), (5, .data I), (6, .data I)], [.var 116 [.map 1], .tmap I .bool, .row 3 I], fun s => [0, 1, 2]⟩
noncomputable abbrev LA_76o_5 : LayD := ⟨42, [(0, .own I 2), (5, .data I)], [.var 116 [.map 1], .tmap I .bool, .row 3 I], fun s => [0, 1, 2]⟩
noncomputable abbrev LB_76o_5 : LayD := ⟨42, [], [], fun _ => []⟩
noncomputable def EX_76o_5 : Exits 2 LA_76o_5.El LB_76o_5.El := ⟨.exit 0, LA_76o_5.lay [], .ret, LB_76o_5.lay []⟩

noncomputable def lpi_76o_5 {β : Type} : LpT β := fun _ _ _ => none
theorem lpi_76o_5_ok {β : Type} : LpTOk (CTp 2) (lpi_76o_5 (β := β)) (loopsOf l_76o_5) := by
  have h : loopsOf l_76o_5 = [] := by kernel_rfl
  rw [h]
  exact LpTOk.nil
noncomputable def G_76o_5 (r5 : Ty.El I) (r6 : Ty.El I) (b0 : Unit × Unit) (b1 : List (Ty.El I × Ty.El (.bool))) (b2 : List (Ty.El I)) : Option (LD_76o_5.El ⊕ (LA_76o_5.El ⊕ LB_76o_5.El)) :=
  bif Decidable.decide (r6 < (↑b2.length : Int)) then
    bif Decidable.decide ((0 : Int) ≤ r6 ∧ r6 < (↑b2.length : Int)) then
      (F_77 (b2.getD (Int.toNat r6) (0 : Int)) ((), ()) b1).bind fun v2 =>
        bif !v2.fst.fst then
          bif Decidable.decide ((0 : Int) ≤ r5 ∧ r5 < (↑b2.length : Int)) then
            Option.some
              (Sum.inl
                (((), (), Go.IntKind.i64.wrap (r5 + (1 : Int)), Go.IntKind.i64.wrap (r6 + (1 : Int)), ()), ((), ()), v2.snd.snd.fst,
                  b2.set (Int.toNat r5) (b2.getD (Int.toNat r6) (0 : Int)), ()))
          else Option.none
        else Option.some (Sum.inl (((), (), r5, Go.IntKind.i64.wrap (r6 + (1 : Int)), ()), ((), ()), v2.snd.snd.fst, b2, ()))
    else Option.none
  else Option.some (Sum.inr (Sum.inl (((), r5, ()), ((), ()), b1, b2, ())))
theorem g_76o_5 (x : LD_76o_5.El) : codeT (CTp 2) T_76o (drT (CTp 2) T_76o) lpi_76o_5 l_76o_5 (LD_76o_5.enc x) (bodyK (LD_76o_5.lay []) EX_76o_5) = G_76o_5 x.1.2.2.1 x.1.2.2.2.1 x.2.1 x.2.2.1 x.2.2.2.1 := by kernel_rfl
noncomputable def R_76o_5 : LD_76o_5.El → Option (LA_76o_5.El ⊕ LB_76o_5.El) := roundsT (fun x => G_76o_5 x.1.2.2.1 x.1.2.2.2.1 x.2.1 x.2.2.1 x.2.2.2.1) fuel
theorem r_76o_5 : ∀ x y, R_76o_5 x = some y → CL (CTp 2) l_76o_5 (LD_76o_5.enc x) (Sum.elim (fun _ => EX_76o_5.xa) (fun _ => EX_76o_5.xb) y) (Sum.elim EX_76o_5.la.enc EX_76o_5.lb.enc y) :=
  rounds_ok (L := LD_76o_5.lay []) (E := EX_76o_5) (CTp_ok 2) T_76o_ok (drT_ok (CTp_ok 2) T_76o_ok) lpi_76o_5_ok g_76o_5 rfl rfl (fun v h => by have hh : (.exit 0 : AX) = .pan v := h; cases hh) (fun v h => by have hh : (.ret : AX) = .pan v := h; cases hh) fuel
noncomputable def lp_76o {β : Type} : LpT β := fun k s K => if Nat.beq k 5 then lpOne (LD_76o_5.lay []) EX_76o_5 R_76o_5 s K else none
theorem lp_76o_ok {β : Type} : LpTOk (CTp 2) (lp_76o (β := β)) (loopsOf c_76o) := by
  have h : loopsOf c_76o = [(5, l_76o_5)] := by kernel_rfl
  rw [h]
  exact LpTOk.cons (fun s K z h => lpOne_ok r_76o_5 h) (LpTOk.nil)
noncomputable def F_76o (b0 : Unit × Unit) (b1 : List (Ty.El I × Ty.El (.bool))) (b2 : List (Ty.El I)) : Option OUT_76o.El :=
  (F_120_77o ((), ()) b1 b2).bind fun v2 =>
    bif v2.fst.fst == (-1 : Int) then Option.some ((v2.snd.snd.snd.fst, ()), ((), ()), v2.snd.snd.fst, ())
    else
      (R_76o_5 (((), (), v2.fst.fst, Go.IntKind.i64.wrap (v2.fst.fst + (1 : Int)), ()), ((), ()), v2.snd.snd.fst, v2.snd.snd.snd.fst, ())).bind fun v17 =>
        Sum.elim
          (fun v18 =>
            bif Decidable.decide ((0 : Int) ≤ v18.fst.snd.fst ∧ v18.fst.snd.fst ≤ (↑(List.length v18.snd.snd.snd.fst) : Int)) then
              bif (Int.toNat v18.fst.snd.fst).blt (List.length v18.snd.snd.snd.fst) then
                bif
                    Bool.true &&
                      ((Int.toNat v18.fst.snd.fst * (1 : Nat) + (List.length v18.snd.snd.snd.fst - Int.toNat v18.fst.snd.fst)).beq (List.length v18.snd.snd.snd.fst) &&
                        (Nat.blt (0 : Nat) (List.length v18.snd.snd.snd.fst) && Bool.true)) then
                  bif
                      Decidable.decide
                        ((0 : Int) ≤ v18.fst.snd.fst ∧
                          v18.fst.snd.fst ≤
                            (↑(List.take (Int.toNat v18.fst.snd.fst * (1 : Nat)) v18.snd.snd.snd.fst ++
                                    List.replicate (List.length v18.snd.snd.snd.fst - Int.toNat v18.fst.snd.fst) (0 : Int)).length :
                              Int)) then
                    bif
                        Nat.blt (0 : Nat)
                          (List.take (Int.toNat v18.fst.snd.fst * (1 : Nat)) v18.snd.snd.snd.fst ++
                              List.replicate (List.length v18.snd.snd.snd.fst - Int.toNat v18.fst.snd.fst) (0 : Int)).length then
                      Option.some
                        ((List.take (Int.toNat v18.fst.snd.fst)
                              (List.take (Int.toNat v18.fst.snd.fst * (1 : Nat)) v18.snd.snd.snd.fst ++
                                List.replicate (List.length v18.snd.snd.snd.fst - Int.toNat v18.fst.snd.fst) (0 : Int)),
                            ()),
                          ((), ()), v18.snd.snd.fst, ())
                    else Option.none
                  else Option.none
                else Option.none
              else Option.none
            else Option.none)
          (fun v24 => Option.none) v17
theorem f_76o (x : IN_76o.El) : funcX (CTp 2) T_76o IN_76o OUT_76o [.frzReg 0 (.list I)] (drT (CTp 2) T_76o) lp_76o Try.f76 c_76o x = F_76o x.2.1 x.2.2.1 x.2.2.2.1 := by kernel_rfl
noncomputable def E_76o : Ent := .mkGen 76 [77] ⟨2, [.nilReg 0 3 I, .rowReg 0 3 I], IN_76o, OUT_76o, fun x => F_76o x.2.1 x.2.2.1 x.2.2.2.1⟩
theorem e_76o : E_76o.Ok CT.P := Ent.ofGen (C := (CTp 2)) (steps := [.nilReg 0 3 I, .rowReg 0 3 I]) (osteps := [.frzReg 0 (.list I)]) (CTp_ok 2) T_76o_ok hf_76o hb_76o lp_76o_ok f_76o
/-! ### 39: maquette/kin.Drop -/
noncomputable def c_39 : Code := Try.f39.body.getD .skip
theorem hb_39 : Try.f39.body = some c_39 := by kernel_rfl
theorem hf_39 : CT.P.funcs[39]? = some Try.f39 := by kernel_rfl
noncomputable def T_39 : Tb := mkTb tyT mpT [E_20, E_23h, E_37, E_46o, E_75, E_76o]
theorem T_39_ok : T_39.Ok CT.P := mkTb_ok (⟨e_20, e_23, e_37, e_46o, e_75, e_76o, trivial⟩)
noncomputable def l_39_22 : Code := atLoop c_39 22
noncomputable def l_39_13 : Code := atLoop c_39 13
noncomputable def l_39_8 : Code := atLoop c_39 8
noncomputable def l_39_15 : Code := atLoop l_39_13 15
noncomputable abbrev LD_39_15 : LayD := ⟨93, [(2, .ptr 0), (4, .ptr 1), (8, .ptr 2), (43, .data I), (44, .data I), (47, .data (.list tThing)), (48, .data I), (49, .data I)], [.var 36 [.data tScene], .var 36 [.data tScene], .var 116 [.map 3], .tmap I .bool], fun s => [slotR s 2, slotR s 4, slotR s 8, slotC s 8 0]⟩
noncomputable abbrev LA_39_15 : LayD := ⟨93, [(2, .ptr 0), (4, .ptr 1), (8, .ptr 2), (43, .data I), (44, .data I)], [.var 36 [.data tScene], .var 36 [.data tScene], .var 116 [.map 3], .tmap I .bool], fun s => [slotR s 2, slotR s 4, slotR s 8, slotC s 8 0]⟩
noncomputable abbrev LB_39_15 : LayD := ⟨93, [], [], fun _ => []⟩
noncomputable def EX_39_15 : Exits 0 LA_39_15.El LB_39_15.El := ⟨.exit 4, LA_39_15.lay [], .ret, LB_39_15.lay []⟩

noncomputable def lpi_39_15 {β : Type} : LpT β := fun _ _ _ => none
theorem lpi_39_15_ok {β : Type} : LpTOk CT (lpi_39_15 (β := β)) (loopsOf l_39_15) := by
  have h : loopsOf l_39_15 = [] := by kernel_rfl
  rw [h]
  exact LpTOk.nil
noncomputable def G_39_15 (r43 : Ty.El I) (r44 : Ty.El I) (r47 : Ty.El (.list tThing)) (r48 : Ty.El I) (r49 : Ty.El I) (b0 : Ty.El tScene × Unit) (b1 : Ty.El tScene × Unit) (b2 : Unit × Unit) (b3 : List (Ty.El I × Ty.El (.bool))) : Option (LD_39_15.El ⊕ (LA_39_15.El ⊕ LB_39_15.El)) :=
  bif Decidable.decide (r49 < r48) then
    bif Decidable.decide ((0 : Int) ≤ r49 ∧ r49 < (↑(List.length r47) : Int)) then
      bif (Go.DI.tget Go.DI.S.I Go.DI.Ty.bool (List.getD r47 (Int.toNat r49) Go.DI.S.tThing.dflt).fst b3).getD Bool.false then
        Option.some
          (Sum.inl
            (((), (), (), r43, r44, r47, r48, Go.IntKind.i64.wrap (r49 + (1 : Int)), ()), (b0.fst, ()), (b1.fst, ()), ((), ()),
              Go.DI.tput Go.DI.S.I Go.DI.Ty.bool (List.getD r47 (Int.toNat r49) Go.DI.S.tThing.dflt).fst Bool.true b3, ()))
      else
        (F_75 (List.getD r47 (Int.toNat r49) Go.DI.S.tThing.dflt) b3).bind fun v2 =>
          Option.some
            (Sum.inl
              (((), (), (), r43, r44, r47, r48, Go.IntKind.i64.wrap (r49 + (1 : Int)), ()), (b0.fst, ()), (b1.fst, ()), ((), ()),
                Go.DI.tput Go.DI.S.I Go.DI.Ty.bool (List.getD r47 (Int.toNat r49) Go.DI.S.tThing.dflt).fst v2.fst.fst v2.snd.fst, ()))
    else Option.none
  else Option.some (Sum.inr (Sum.inl (((), (), (), r43, r44, ()), (b0.fst, ()), (b1.fst, ()), ((), ()), b3, ())))
theorem g_39_15 (x : LD_39_15.El) : codeT CT T_39 (drT CT T_39) lpi_39_15 l_39_15 (LD_39_15.enc x) (bodyK (LD_39_15.lay []) EX_39_15) = G_39_15 x.1.2.2.2.1 x.1.2.2.2.2.1 x.1.2.2.2.2.2.1 x.1.2.2.2.2.2.2.1 x.1.2.2.2.2.2.2.2.1 x.2.1 x.2.2.1 x.2.2.2.1 x.2.2.2.2.1 := by kernel_rfl
noncomputable def R_39_15 : LD_39_15.El → Option (LA_39_15.El ⊕ LB_39_15.El) := roundsT (fun x => G_39_15 x.1.2.2.2.1 x.1.2.2.2.2.1 x.1.2.2.2.2.2.1 x.1.2.2.2.2.2.2.1 x.1.2.2.2.2.2.2.2.1 x.2.1 x.2.2.1 x.2.2.2.1 x.2.2.2.2.1) fuel
theorem r_39_15 : ∀ x y, R_39_15 x = some y → CL CT l_39_15 (LD_39_15.enc x) (Sum.elim (fun _ => EX_39_15.xa) (fun _ => EX_39_15.xb) y) (Sum.elim EX_39_15.la.enc EX_39_15.lb.enc y) :=
  rounds_ok (L := LD_39_15.lay []) (E := EX_39_15) CT_ok T_39_ok (drT_ok CT_ok T_39_ok) lpi_39_15_ok g_39_15 rfl rfl (fun v h => by have hh : (.exit 4 : AX) = .pan v := h; cases hh) (fun v h => by have hh : (.ret : AX) = .pan v := h; cases hh) fuel
noncomputable abbrev LD_39_8 : LayD := ⟨93, [(2, .ptr 0), (4, .ptr 1), (8, .ptr 2), (32, .data (.list I)), (33, .data I), (34, .data I)], [.var 36 [.data tScene], .var 36 [.data tScene], .var 116 [.map 3], .tmap I .bool], fun s => [slotR s 2, slotR s 4, slotR s 8, slotC s 8 0]⟩
noncomputable abbrev LA_39_8 : LayD := ⟨93, [(2, .ptr 0), (4, .ptr 1), (8, .ptr 2)], [.var 36 [.data tScene], .var 36 [.data tScene], .var 116 [.map 3], .tmap I .bool], fun s => [slotR s 2, slotR s 4, slotR s 8, slotC s 8 0]⟩
noncomputable abbrev LB_39_8 : LayD := ⟨93, [], [], fun _ => []⟩
noncomputable def EX_39_8 : Exits 0 LA_39_8.El LB_39_8.El := ⟨.exit 0, LA_39_8.lay [], .ret, LB_39_8.lay []⟩

noncomputable def lpi_39_8 {β : Type} : LpT β := fun _ _ _ => none
theorem lpi_39_8_ok {β : Type} : LpTOk CT (lpi_39_8 (β := β)) (loopsOf l_39_8) := by
  have h : loopsOf l_39_8 = [] := by kernel_rfl
  rw [h]
  exact LpTOk.nil
noncomputable def G_39_8 (r32 : Ty.El (.list I)) (r33 : Ty.El I) (r34 : Ty.El I) (b0 : Ty.El tScene × Unit) (b1 : Ty.El tScene × Unit) (b2 : Unit × Unit) (b3 : List (Ty.El I × Ty.El (.bool))) : Option (LD_39_8.El ⊕ (LA_39_8.El ⊕ LB_39_8.El)) :=
  bif Decidable.decide (r34 < r33) then
    bif Decidable.decide ((0 : Int) ≤ r34 ∧ r34 < (↑(List.length r32) : Int)) then
      Option.some
        (Sum.inl
          (((), (), (), r32, r33, Go.IntKind.i64.wrap (r34 + (1 : Int)), ()), (b0.fst, ()), (b1.fst, ()), ((), ()),
            Go.DI.tput Go.DI.S.I Go.DI.Ty.bool (List.getD r32 (Int.toNat r34) (0 : Int)) Bool.true b3, ()))
    else Option.none
  else Option.some (Sum.inr (Sum.inl (((), (), (), ()), (b0.fst, ()), (b1.fst, ()), ((), ()), b3, ())))
theorem g_39_8 (x : LD_39_8.El) : codeT CT T_39 (drT CT T_39) lpi_39_8 l_39_8 (LD_39_8.enc x) (bodyK (LD_39_8.lay []) EX_39_8) = G_39_8 x.1.2.2.2.1 x.1.2.2.2.2.1 x.1.2.2.2.2.2.1 x.2.1 x.2.2.1 x.2.2.2.1 x.2.2.2.2.1 := by kernel_rfl
noncomputable def R_39_8 : LD_39_8.El → Option (LA_39_8.El ⊕ LB_39_8.El) := roundsT (fun x => G_39_8 x.1.2.2.2.1 x.1.2.2.2.2.1 x.1.2.2.2.2.2.1 x.2.1 x.2.2.1 x.2.2.2.1 x.2.2.2.2.1) fuel
theorem r_39_8 : ∀ x y, R_39_8 x = some y → CL CT l_39_8 (LD_39_8.enc x) (Sum.elim (fun _ => EX_39_8.xa) (fun _ => EX_39_8.xb) y) (Sum.elim EX_39_8.la.enc EX_39_8.lb.enc y) :=
  rounds_ok (L := LD_39_8.lay []) (E := EX_39_8) CT_ok T_39_ok (drT_ok CT_ok T_39_ok) lpi_39_8_ok g_39_8 rfl rfl (fun v h => by have hh : (.exit 0 : AX) = .pan v := h; cases hh) (fun v h => by have hh : (.ret : AX) = .pan v := h; cases hh) fuel
noncomputable abbrev LD_39_13 : LayD := ⟨93, [(2, .ptr 0), (4, .ptr 1), (8, .ptr 2), (43, .data I), (44, .data I)], [.var 36 [.data tScene], .var 36 [.data tScene], .var 116 [.map 3], .tmap I .bool], fun s => [slotR s 2, slotR s 4, slotR s 8, slotC s 8 0]⟩
noncomputable abbrev LA_39_13 : LayD := ⟨93, [(2, .ptr 0), (4, .ptr 1), (8, .ptr 2)], [.var 36 [.data tScene], .var 36 [.data tScene], .var 116 [.map 3], .tmap I .bool], fun s => [slotR s 2, slotR s 4, slotR s 8, slotC s 8 0]⟩
noncomputable abbrev LB_39_13 : LayD := ⟨93, [], [], fun _ => []⟩
noncomputable def EX_39_13 : Exits 0 LA_39_13.El LB_39_13.El := ⟨.exit 2, LA_39_13.lay [], .ret, LB_39_13.lay []⟩

noncomputable def lpi_39_13 {β : Type} : LpT β := fun k s K => if Nat.beq k 15 then lpOne (LD_39_15.lay []) EX_39_15 R_39_15 s K else none
theorem lpi_39_13_ok {β : Type} : LpTOk CT (lpi_39_13 (β := β)) (loopsOf l_39_13) := by
  have h : loopsOf l_39_13 = [(15, l_39_15)] := by kernel_rfl
  rw [h]
  exact LpTOk.cons (fun s K z h => lpOne_ok r_39_15 h) (LpTOk.nil)
noncomputable def G_39_13 (r43 : Ty.El I) (r44 : Ty.El I) (b0 : Ty.El tScene × Unit) (b1 : Ty.El tScene × Unit) (b2 : Unit × Unit) (b3 : List (Ty.El I × Ty.El (.bool))) : Option (LD_39_13.El ⊕ (LA_39_13.El ⊕ LB_39_13.El)) :=
  bif Decidable.decide (r44 < r43) then
    (R_39_15 (((), (), (), r43, r44, b0.fst.snd.snd, (↑(List.length b0.fst.snd.snd) : Int), (0 : Int), ()), (b0.fst, ()), (b1.fst, ()), ((), ()), b3, ())).bind fun v1 =>
      Sum.elim
        (fun v2 =>
          Option.some
            (Sum.inl
              (((), (), (), v2.fst.snd.snd.snd.fst, Go.IntKind.i64.wrap (v2.fst.snd.snd.snd.snd.fst + (1 : Int)), ()), (v2.snd.fst.fst, ()), (v2.snd.snd.fst.fst, ()), ((), ()),
                v2.snd.snd.snd.snd.fst, ())))
        (fun v3 => Option.some (Sum.inr (Sum.inr ((), ())))) v1
  else Option.some (Sum.inr (Sum.inl (((), (), (), ()), (b0.fst, ()), (b1.fst, ()), ((), ()), b3, ())))
theorem g_39_13 (x : LD_39_13.El) : codeT CT T_39 (drT CT T_39) lpi_39_13 l_39_13 (LD_39_13.enc x) (bodyK (LD_39_13.lay []) EX_39_13) = G_39_13 x.1.2.2.2.1 x.1.2.2.2.2.1 x.2.1 x.2.2.1 x.2.2.2.1 x.2.2.2.2.1 := by kernel_rfl
noncomputable def R_39_13 : LD_39_13.El → Option (LA_39_13.El ⊕ LB_39_13.El) := roundsT (fun x => G_39_13 x.1.2.2.2.1 x.1.2.2.2.2.1 x.2.1 x.2.2.1 x.2.2.2.1 x.2.2.2.2.1) fuel
theorem r_39_13 : ∀ x y, R_39_13 x = some y → CL CT l_39_13 (LD_39_13.enc x) (Sum.elim (fun _ => EX_39_13.xa) (fun _ => EX_39_13.xb) y) (Sum.elim EX_39_13.la.enc EX_39_13.lb.enc y) :=
  rounds_ok (L := LD_39_13.lay []) (E := EX_39_13) CT_ok T_39_ok (drT_ok CT_ok T_39_ok) lpi_39_13_ok g_39_13 rfl rfl (fun v h => by have hh : (.exit 2 : AX) = .pan v := h; cases hh) (fun v h => by have hh : (.ret : AX) = .pan v := h; cases hh) fuel
noncomputable abbrev LD_39_22 : LayD := ⟨93, [(2, .ptr 0), (4, .ptr 1), (8, .ptr 2), (13, .own tThing 4), (68, .data (.list tThing)), (69, .data I), (70, .data I)], [.var 36 [.data tScene], .var 36 [.data tScene], .var 116 [.map 3], .tmap I .bool, .row 32 tThing], fun s => [slotR s 2, slotR s 4, slotR s 8, slotC s 8 0, slotR s 13]⟩
noncomputable abbrev LA_39_22 : LayD := ⟨93, [(2, .ptr 0), (4, .ptr 1), (13, .own tThing 2)], [.var 36 [.data tScene], .var 36 [.data tScene], .row 32 tThing], fun s => [slotR s 2, slotR s 4, slotR s 13]⟩
noncomputable abbrev LB_39_22 : LayD := ⟨93, [], [], fun _ => []⟩
noncomputable def EX_39_22 : Exits 0 LA_39_22.El LB_39_22.El := ⟨.exit 6, LA_39_22.lay [.nilReg 13 32 tThing], .ret, LB_39_22.lay []⟩

noncomputable def lpi_39_22 {β : Type} : LpT β := fun _ _ _ => none
theorem lpi_39_22_ok {β : Type} : LpTOk CT (lpi_39_22 (β := β)) (loopsOf l_39_22) := by
  have h : loopsOf l_39_22 = [] := by kernel_rfl
  rw [h]
  exact LpTOk.nil
noncomputable def G_39_22 (r68 : Ty.El (.list tThing)) (r69 : Ty.El I) (r70 : Ty.El I) (b0 : Ty.El tScene × Unit) (b1 : Ty.El tScene × Unit) (b2 : Unit × Unit) (b3 : List (Ty.El I × Ty.El (.bool))) (b4 : List (Ty.El tThing)) : Option (LD_39_22.El ⊕ (LA_39_22.El ⊕ LB_39_22.El)) :=
  bif Decidable.decide (r70 < r69) then
    bif Decidable.decide ((0 : Int) ≤ r70 ∧ r70 < (↑(List.length r68) : Int)) then
      bif !(Go.DI.tget Go.DI.S.I Go.DI.Ty.bool (List.getD r68 (Int.toNat r70) Go.DI.S.tThing.dflt).fst b3).getD Bool.false then
        (F_46o (List.getD r68 (Int.toNat r70) Go.DI.S.tThing.dflt).snd.snd.snd.snd).bind fun v2 =>
          (F_76o ((), ()) b3 v2).bind fun v4 =>
            bif
                ((b4.length +
                        [((List.getD r68 (Int.toNat r70) Go.DI.S.tThing.dflt).fst, (List.getD r68 (Int.toNat r70) Go.DI.S.tThing.dflt).snd.fst,
                              (List.getD r68 (Int.toNat r70) Go.DI.S.tThing.dflt).snd.snd.fst, (List.getD r68 (Int.toNat r70) Go.DI.S.tThing.dflt).snd.snd.snd.fst,
                              v4.fst.fst)].length) *
                      (128 : Nat)).ble
                  (70368744177664 : Nat) then
              Option.some
                (Sum.inl
                  (((), (), (), (), r68, r69, Go.IntKind.i64.wrap (r70 + (1 : Int)), ()), (b0.fst, ()), (b1.fst, ()), ((), ()), v4.snd.snd.fst,
                    b4 ++
                      [((List.getD r68 (Int.toNat r70) Go.DI.S.tThing.dflt).fst, (List.getD r68 (Int.toNat r70) Go.DI.S.tThing.dflt).snd.fst,
                          (List.getD r68 (Int.toNat r70) Go.DI.S.tThing.dflt).snd.snd.fst, (List.getD r68 (Int.toNat r70) Go.DI.S.tThing.dflt).snd.snd.snd.fst, v4.fst.fst)],
                    ()))
            else Option.none
      else Option.some (Sum.inl (((), (), (), (), r68, r69, Go.IntKind.i64.wrap (r70 + (1 : Int)), ()), (b0.fst, ()), (b1.fst, ()), ((), ()), b3, b4, ()))
    else Option.none
  else Option.some (Sum.inr (Sum.inl (((), (), (), ()), (b0.fst, ()), (b1.fst, ()), b4, ())))
theorem g_39_22 (x : LD_39_22.El) : codeT CT T_39 (drT CT T_39) lpi_39_22 l_39_22 (LD_39_22.enc x) (bodyK (LD_39_22.lay [.nilReg 13 32 tThing]) EX_39_22) = G_39_22 x.1.2.2.2.2.1 x.1.2.2.2.2.2.1 x.1.2.2.2.2.2.2.1 x.2.1 x.2.2.1 x.2.2.2.1 x.2.2.2.2.1 x.2.2.2.2.2.1 := by kernel_rfl
noncomputable def R_39_22 : LD_39_22.El → Option (LA_39_22.El ⊕ LB_39_22.El) := roundsT (fun x => G_39_22 x.1.2.2.2.2.1 x.1.2.2.2.2.2.1 x.1.2.2.2.2.2.2.1 x.2.1 x.2.2.1 x.2.2.2.1 x.2.2.2.2.1 x.2.2.2.2.2.1) fuel
theorem r_39_22 : ∀ x y, R_39_22 x = some y → CL CT l_39_22 (LD_39_22.enc x) (Sum.elim (fun _ => EX_39_22.xa) (fun _ => EX_39_22.xb) y) (Sum.elim EX_39_22.la.enc EX_39_22.lb.enc y) :=
  rounds_ok (L := LD_39_22.lay [.nilReg 13 32 tThing]) (E := EX_39_22) CT_ok T_39_ok (drT_ok CT_ok T_39_ok) lpi_39_22_ok g_39_22 rfl rfl (fun v h => by have hh : (.exit 6 : AX) = .pan v := h; cases hh) (fun v h => by have hh : (.ret : AX) = .pan v := h; cases hh) fuel
noncomputable def lp_39 {β : Type} : LpT β := fun k s K => if Nat.beq k 8 then lpOne (LD_39_8.lay []) EX_39_8 R_39_8 s K else if Nat.beq k 13 then lpOne (LD_39_13.lay []) EX_39_13 R_39_13 s K else if Nat.beq k 22 then lpOne (LD_39_22.lay [.nilReg 13 32 tThing]) EX_39_22 R_39_22 s K else none
theorem lp_39_ok {β : Type} : LpTOk CT (lp_39 (β := β)) (loopsOf c_39) := by
  have h : loopsOf c_39 = [(8, l_39_8), (13, l_39_13), (22, l_39_22)] := by kernel_rfl
  rw [h]
  exact LpTOk.cons (fun s K z h => lpOne_ok r_39_8 h) (LpTOk.cons (fun s K z h => lpOne_ok r_39_13 h) (LpTOk.cons (fun s K z h => lpOne_ok r_39_22 h) (LpTOk.nil)))
noncomputable def F_39 (a1 : Ty.El tScene) (a2 : Ty.El I) : Option (Els [tScene, I]) :=
  (F_20 a1).bind fun v2 =>
    bif !v2.fst then Option.some ((((0 : Int), (0 : Int)), (0 : Int), []), (9 : Int), ())
    else
      (F_23 a1 a2).bind fun v4 =>
        bif !v4.snd.fst then Option.some ((((0 : Int), (0 : Int)), (0 : Int), []), (10 : Int), ())
        else
          (F_37 a1 a2).bind fun v6 =>
            (R_39_8 (((), (), (), v6.fst, (↑(List.length v6.fst) : Int), (0 : Int), ()), (a1, ()), ((((0 : Int), (0 : Int)), (0 : Int), []), ()), ((), ()), [], ())).bind fun v7 =>
              Sum.elim
                (fun v8 =>
                  (R_39_13
                        (((), (), (), (↑(List.length v8.snd.fst.fst.snd.snd) : Int), (0 : Int), ()), (v8.snd.fst.fst, ()), (v8.snd.snd.fst.fst, ()), ((), ()), v8.snd.snd.snd.snd.fst,
                          ())).bind
                    fun v9 =>
                    Sum.elim
                      (fun v10 =>
                        (R_39_22
                              (((), (), (), (), v10.snd.fst.fst.snd.snd, (↑(List.length v10.snd.fst.fst.snd.snd) : Int), (0 : Int), ()), (v10.snd.fst.fst, ()),
                                (v10.snd.snd.fst.fst, ()), ((), ()), v10.snd.snd.snd.snd.fst, [], ())).bind
                          fun v11 =>
                          Sum.elim (fun v12 => Option.some ((v12.snd.fst.fst.fst, v12.snd.fst.fst.snd.fst, v12.snd.snd.snd.fst), (0 : Int), ())) (fun v13 => Option.none) v11)
                      (fun v14 => Option.none) v9)
                (fun v15 => Option.none) v7
theorem f_39 (x : Ps [.ty tScene, .ty I]) : funcT CT T_39 [tScene, I] (drT CT T_39) lp_39 Try.f39 c_39 (encPs [.ty tScene, .ty I] x) = F_39 x.1 x.2.1 := by kernel_rfl
noncomputable def E_39 : Ent := .fn 39 [] ⟨[.ty tScene, .ty I], [tScene, I], fun x => F_39 x.1 x.2.1, false⟩
theorem e_39 : E_39.Ok CT.P := Ent.ofFn CT_ok T_39_ok hf_39 hb_39 lp_39_ok f_39
noncomputable def E_39h : Ent := .fn 39 [] ⟨[.ty tScene, .ty I], [tScene, I], fun x => F_39 x.1 x.2.1, true⟩
/-! ### 80: maquette/kin.Hold$1 -/
noncomputable def c_80 : Code := Try.f80.body.getD .skip
theorem hb_80 : Try.f80.body = some c_80 := by kernel_rfl
theorem hf_80 : CT.P.funcs[80]? = some Try.f80 := by kernel_rfl
noncomputable def T_80 : Tb := mkTb tyT mpT []
theorem T_80_ok : T_80.Ok CT.P := mkTb_ok (trivial)
noncomputable def lp_80 {β : Type} : LpT β := fun _ _ _ => none
theorem lp_80_ok {β : Type} : LpTOk CT (lp_80 (β := β)) (loopsOf c_80) := by
  have h : loopsOf c_80 = [] := by kernel_rfl
  rw [h]
  exact LpTOk.nil
noncomputable def F_80 (a1 : Ty.El I) (a2 : Ty.El tScene) : Option (Els [.bool]) :=
  bif Decidable.decide (a1 < (1 : Int)) then Option.some (Bool.true, ())
  else bif Decidable.decide (a1 > (1000000 : Int)) then Option.some (Bool.true, ()) else Option.some (a1 == a2.snd.fst, ())
theorem f_80 (x : Ps [.ty I, .roa tScene]) : funcT CT T_80 [.bool] (drT CT T_80) lp_80 Try.f80 c_80 (encPs [.ty I, .roa tScene] x) = F_80 x.1 x.2.1 := by kernel_rfl
noncomputable def E_80 : Ent := .fn 80 [] ⟨[.ty I, .roa tScene], [.bool], fun x => F_80 x.1 x.2.1, false⟩
theorem e_80 : E_80.Ok CT.P := Ent.ofFn CT_ok T_80_ok hf_80 hb_80 lp_80_ok f_80
noncomputable def E_80h : Ent := .fn 80 [] ⟨[.ty I, .roa tScene], [.bool], fun x => F_80 x.1 x.2.1, true⟩
/-! ### 120: slices.IndexFuncint,int -/
noncomputable def c_120_80 : Code := Try.f120.body.getD .skip
theorem hb_120_80 : Try.f120.body = some c_120_80 := by kernel_rfl
theorem hf_120_80 : CT.P.funcs[120]? = some Try.f120 := by kernel_rfl
noncomputable def T_120_80 : Tb := mkTb tyT mpT [E_80]
theorem T_120_80_ok : T_120_80.Ok CT.P := mkTb_ok (⟨e_80, trivial⟩)
noncomputable def l_120_80_2 : Code := atLoop c_120_80 2
noncomputable abbrev LD_120_80_2 : LayD := ⟨19, [(0, .data (.list I)), (1, .clo 80 [tScene]), (7, .data I), (8, .data I)], [], fun _ => []⟩
noncomputable abbrev LA_120_80_2 : LayD := ⟨19, [], [], fun _ => []⟩
noncomputable abbrev LB_120_80_2 : LayD := ⟨19, [(4, .data I)], [], fun _ => []⟩
noncomputable def EX_120_80_2 : Exits 0 LA_120_80_2.El LB_120_80_2.El := ⟨.exit 0, LA_120_80_2.lay [], .ret, LB_120_80_2.lay []⟩

noncomputable def lpi_120_80_2 {β : Type} : LpT β := fun _ _ _ => none
theorem lpi_120_80_2_ok {β : Type} : LpTOk CT (lpi_120_80_2 (β := β)) (loopsOf l_120_80_2) := by
  have h : loopsOf l_120_80_2 = [] := by kernel_rfl
  rw [h]
  exact LpTOk.nil
noncomputable def G_120_80_2 (r0 : Ty.El (.list I)) (r1 : Els [tScene]) (r7 : Ty.El I) (r8 : Ty.El I) : Option (LD_120_80_2.El ⊕ (LA_120_80_2.El ⊕ LB_120_80_2.El)) :=
  bif Decidable.decide (r8 < r7) then
    bif Decidable.decide ((0 : Int) ≤ r8 ∧ r8 < (↑(List.length r0) : Int)) then
      (F_80 (List.getD r0 (Int.toNat r8) (0 : Int)) r1.fst).bind fun v2 =>
        bif v2.fst then Option.some (Sum.inr (Sum.inr ((r8, ()), ()))) else Option.some (Sum.inl ((r0, (r1.fst, ()), r7, Go.IntKind.i64.wrap (r8 + (1 : Int)), ()), ()))
    else Option.none
  else Option.some (Sum.inr (Sum.inl ((), ())))
theorem g_120_80_2 (x : LD_120_80_2.El) : codeT CT T_120_80 (drT CT T_120_80) lpi_120_80_2 l_120_80_2 (LD_120_80_2.enc x) (bodyK (LD_120_80_2.lay []) EX_120_80_2) = G_120_80_2 x.1.1 x.1.2.1 x.1.2.2.1 x.1.2.2.2.1 := by kernel_rfl
noncomputable def R_120_80_2 : LD_120_80_2.El → Option (LA_120_80_2.El ⊕ LB_120_80_2.El) := roundsT (fun x => G_120_80_2 x.1.1 x.1.2.1 x.1.2.2.1 x.1.2.2.2.1) fuel
theorem r_120_80_2 : ∀ x y, R_120_80_2 x = some y → CL CT l_120_80_2 (LD_120_80_2.enc x) (Sum.elim (fun _ => EX_120_80_2.xa) (fun _ => EX_120_80_2.xb) y) (Sum.elim EX_120_80_2.la.enc EX_120_80_2.lb.enc y) :=
  rounds_ok (L := LD_120_80_2.lay []) (E := EX_120_80_2) CT_ok T_120_80_ok (drT_ok CT_ok T_120_80_ok) lpi_120_80_2_ok g_120_80_2 rfl rfl (fun v h => by have hh : (.exit 0 : AX) = .pan v := h; cases hh) (fun v h => by have hh : (.ret : AX) = .pan v := h; cases hh) fuel
noncomputable def lp_120_80 {β : Type} : LpT β := fun k s K => if Nat.beq k 2 then lpOne (LD_120_80_2.lay []) EX_120_80_2 R_120_80_2 s K else none
theorem lp_120_80_ok {β : Type} : LpTOk CT (lp_120_80 (β := β)) (loopsOf c_120_80) := by
  have h : loopsOf c_120_80 = [(2, l_120_80_2)] := by kernel_rfl
  rw [h]
  exact LpTOk.cons (fun s K z h => lpOne_ok r_120_80_2 h) (LpTOk.nil)
noncomputable def F_120_80 (a1 : Ty.El (.list I)) (a2 : Els [tScene]) : Option (Els [I]) :=
  (R_120_80_2 ((a1, (a2.fst, ()), (↑(List.length a1) : Int), (0 : Int), ()), ())).bind fun v1 =>
    Sum.elim (fun v2 => Option.some ((-1 : Int), ())) (fun v3 => Option.some (v3.fst.fst, ())) v1
theorem f_120_80 (x : Ps [.ty (.list I), .clo 80 [tScene]]) : funcT CT T_120_80 [I] (drT CT T_120_80) lp_120_80 Try.f120 c_120_80 (encPs [.ty (.list I), .clo 80 [tScene]] x) = F_120_80 x.1 x.2.1 := by kernel_rfl
noncomputable def E_120_80 : Ent := .fn 120 [80] ⟨[.ty (.list I), .clo 80 [tScene]], [I], fun x => F_120_80 x.1 x.2.1, false⟩
theorem e_120_80 : E_120_80.Ok CT.P := Ent.ofFn CT_ok T_120_80_ok hf_120_80 hb_120_80 lp_120_80_ok f_120_80
noncomputable def E_120_80h : Ent := .fn 120 [80] ⟨[.ty (.list I), .clo 80 [tScene]], [I], fun x => F_120_80 x.1 x.2.1, true⟩
/-! ### 79: slices.ContainsFuncint,int -/
noncomputable def c_79_80 : Code := Try.f79.body.getD .skip
theorem hb_79_80 : Try.f79.body = some c_79_80 := by kernel_rfl
theorem hf_79_80 : CT.P.funcs[79]? = some Try.f79 := by kernel_rfl
noncomputable def T_79_80 : Tb := mkTb tyT mpT [E_120_80]
theorem T_79_80_ok : T_79_80.Ok CT.P := mkTb_ok (⟨e_120_80, trivial⟩)
noncomputable def lp_79_80 {β : Type} : LpT β := fun _ _ _ => none
theorem lp_79_80_ok {β : Type} : LpTOk CT (lp_79_80 (β := β)) (loopsOf c_79_80) := by
  have h : loopsOf c_79_80 = [] := by kernel_rfl
  rw [h]
  exact LpTOk.nil
noncomputable def F_79_80 (a1 : Ty.El (.list I)) (a2 : Els [tScene]) : Option (Els [.bool]) :=
  (F_120_80 a1 (a2.fst, ())).bind fun v2 => Option.some (Decidable.decide (v2.fst ≥ (0 : Int)), ())
theorem f_79_80 (x : Ps [.ty (.list I), .clo 80 [tScene]]) : funcT CT T_79_80 [.bool] (drT CT T_79_80) lp_79_80 Try.f79 c_79_80 (encPs [.ty (.list I), .clo 80 [tScene]] x) = F_79_80 x.1 x.2.1 := by kernel_rfl
noncomputable def E_79_80 : Ent := .fn 79 [80] ⟨[.ty (.list I), .clo 80 [tScene]], [.bool], fun x => F_79_80 x.1 x.2.1, false⟩
theorem e_79_80 : E_79_80.Ok CT.P := Ent.ofFn CT_ok T_79_80_ok hf_79_80 hb_79_80 lp_79_80_ok f_79_80
noncomputable def E_79_80h : Ent := .fn 79 [80] ⟨[.ty (.list I), .clo 80 [tScene]], [.bool], fun x => F_79_80 x.1 x.2.1, true⟩
/-! ### 41: maquette/kin.Hold -/
noncomputable def c_41 : Code := Try.f41.body.getD .skip
theorem hb_41 : Try.f41.body = some c_41 := by kernel_rfl
theorem hf_41 : CT.P.funcs[41]? = some Try.f41 := by kernel_rfl
noncomputable def T_41 : Tb := mkTb tyT mpT [E_18, E_20, E_46o, E_74, E_78, E_79_80]
theorem T_41_ok : T_41.Ok CT.P := mkTb_ok (⟨e_18, e_20, e_46o, e_74, e_78, e_79_80, trivial⟩)
noncomputable def lp_41 {β : Type} : LpT β := fun _ _ _ => none
theorem lp_41_ok {β : Type} : LpTOk CT (lp_41 (β := β)) (loopsOf c_41) := by
  have h : loopsOf c_41 = [] := by kernel_rfl
  rw [h]
  exact LpTOk.nil
noncomputable def F_41 (a1 : Ty.El tScene) (a2 : Ty.El (.list I)) : Option (Els [tScene, I, I]) :=
  (F_46o a2).bind fun v2 =>
    (F_74 v2).bind fun v4 =>
      (F_20 a1).bind fun v6 =>
        bif !v6.fst then Option.some ((((0 : Int), (0 : Int)), (0 : Int), []), (0 : Int), (9 : Int), ())
        else
          bif Decidable.decide ((↑(List.length v4.snd.fst) : Int) < (1 : Int)) then Option.some ((((0 : Int), (0 : Int)), (0 : Int), []), (0 : Int), (9 : Int), ())
          else
            bif Decidable.decide ((↑(List.length v4.snd.fst) : Int) > (8 : Int)) then Option.some ((((0 : Int), (0 : Int)), (0 : Int), []), (0 : Int), (9 : Int), ())
            else
              (F_46o v4.snd.fst).bind fun v18 =>
                (F_78 v18).bind fun v21 =>
                  bif Decidable.decide ((↑v21.length : Int) < (↑(List.length v4.snd.fst) : Int)) then Option.some ((((0 : Int), (0 : Int)), (0 : Int), []), (0 : Int), (9 : Int), ())
                  else
                    (F_79_80 v4.snd.fst (a1, ())).bind fun v33 =>
                      bif v33.fst then Option.some ((((0 : Int), (0 : Int)), (0 : Int), []), (0 : Int), (9 : Int), ())
                      else
                        bif Decidable.decide (a1.snd.fst > (1000000 : Int)) then Option.some ((((0 : Int), (0 : Int)), (0 : Int), []), (0 : Int), (12 : Int), ())
                        else
                          (F_18 (a1.fst, Go.IntKind.i64.wrap (a1.snd.fst + (1 : Int)), a1.snd.snd)
                                (a1.snd.fst, (3 : Int), ((0 : Int), ((0 : Int), (0 : Int)), (0 : Int), ((0 : Int), (0 : Int)), (0 : Int), (0 : Int)),
                                  ((0 : Int), (0 : Int), (0 : Int)), v4.snd.fst)).bind
                            fun v37 =>
                            bif v37.snd.fst != (0 : Int) then Option.some ((((0 : Int), (0 : Int)), (0 : Int), []), (0 : Int), v37.snd.fst, ())
                            else Option.some (v37.fst, a1.snd.fst, (0 : Int), ())
theorem f_41 (x : Ps [.ty tScene, .ty (.list I)]) : funcT CT T_41 [tScene, I, I] (drT CT T_41) lp_41 Try.f41 c_41 (encPs [.ty tScene, .ty (.list I)] x) = F_41 x.1 x.2.1 := by kernel_rfl
noncomputable def E_41 : Ent := .fn 41 [] ⟨[.ty tScene, .ty (.list I)], [tScene, I, I], fun x => F_41 x.1 x.2.1, false⟩
theorem e_41 : E_41.Ok CT.P := Ent.ofFn CT_ok T_41_ok hf_41 hb_41 lp_41_ok f_41
noncomputable def E_41h : Ent := .fn 41 [] ⟨[.ty tScene, .ty (.list I)], [tScene, I, I], fun x => F_41 x.1 x.2.1, true⟩
/-! ### 36: maquette/maquettelaw20.alive -/
noncomputable def c_36 : Code := Try.f36.body.getD .skip
theorem hb_36 : Try.f36.body = some c_36 := by kernel_rfl
theorem hf_36 : CT.P.funcs[36]? = some Try.f36 := by kernel_rfl
noncomputable def T_36 : Tb := mkTb tyT mpT [E_17, E_38, E_39, E_41, E_43, E_44]
theorem T_36_ok : T_36.Ok CT.P := mkTb_ok (⟨e_17, e_38, e_39, e_41, e_43, e_44, trivial⟩)
noncomputable def lp_36 {β : Type} : LpT β := fun _ _ _ => none
theorem lp_36_ok {β : Type} : LpTOk CT (lp_36 (β := β)) (loopsOf c_36) := by
  have h : loopsOf c_36 = [] := by kernel_rfl
  rw [h]
  exact LpTOk.nil
noncomputable def F_36  : Option (Els [.bool]) :=
  (F_17 (1 : Int) (0 : Int) (0 : Int) (0 : Int)).bind fun v2 =>
    (F_17 (2 : Int) (4294967296 : Int) (0 : Int) (0 : Int)).bind fun v4 =>
      (F_41 (((0 : Int), (0 : Int)), (3 : Int), [v2.fst, v4.fst]) [(2 : Int), (1 : Int)]).bind fun v6 =>
        (F_43 v6.fst (3 : Int)).bind fun v8 =>
          (F_39 v6.fst (3 : Int)).bind fun v10 =>
            bif v6.snd.fst == (3 : Int) then
              bif v6.snd.snd.fst == (0 : Int) then
                bif v8.snd.fst == (0 : Int) then
                  (F_44 v8.fst [(1 : Int), (2 : Int)]).bind fun v12 =>
                    bif v12.fst then
                      (F_38 v6.fst (1 : Int)).bind fun v14 =>
                        bif v14.fst == (3 : Int) then
                          bif v10.snd.fst == (0 : Int) then Option.some ((↑(List.length v10.fst.snd.snd) : Int) == (0 : Int), ()) else Option.some (Bool.false, ())
                        else Option.some (Bool.false, ())
                    else Option.some (Bool.false, ())
                else Option.some (Bool.false, ())
              else Option.some (Bool.false, ())
            else Option.some (Bool.false, ())
theorem f_36g (F_17 : Ty.El I → Ty.El I → Ty.El I → Ty.El I → Option (Els [tThing])) (F_38 : Ty.El tScene → Ty.El I → Option (Els [I])) (F_39 : Ty.El tScene → Ty.El I → Option (Els [tScene, I])) (F_41 : Ty.El tScene → Ty.El (.list I) → Option (Els [tScene, I, I])) (F_43 : Ty.El tScene → Ty.El I → Option (Els [.list I, I])) (F_44 : Ty.El (.list I) → Ty.El (.list I) → Option (Els [.bool])) (x : Ps []) : funcT CT (mkTb tyT mpT [.fn 17 [] ⟨[.ty I, .ty I, .ty I, .ty I], [tThing], fun x => F_17 x.1 x.2.1 x.2.2.1 x.2.2.2.1, false⟩, .fn 38 [] ⟨[.ty tScene, .ty I], [I], fun x => F_38 x.1 x.2.1, false⟩, .fn 39 [] ⟨[.ty tScene, .ty I], [tScene, I], fun x => F_39 x.1 x.2.1, false⟩, .fn 41 [] ⟨[.ty tScene, .ty (.list I)], [tScene, I, I], fun x => F_41 x.1 x.2.1, false⟩, .fn 43 [] ⟨[.ty tScene, .ty I], [.list I, I], fun x => F_43 x.1 x.2.1, false⟩, .fn 44 [] ⟨[.ty (.list I), .ty (.list I)], [.bool], fun x => F_44 x.1 x.2.1, false⟩]) [.bool] (drT CT (mkTb tyT mpT [.fn 17 [] ⟨[.ty I, .ty I, .ty I, .ty I], [tThing], fun x => F_17 x.1 x.2.1 x.2.2.1 x.2.2.2.1, false⟩, .fn 38 [] ⟨[.ty tScene, .ty I], [I], fun x => F_38 x.1 x.2.1, false⟩, .fn 39 [] ⟨[.ty tScene, .ty I], [tScene, I], fun x => F_39 x.1 x.2.1, false⟩, .fn 41 [] ⟨[.ty tScene, .ty (.list I)], [tScene, I, I], fun x => F_41 x.1 x.2.1, false⟩, .fn 43 [] ⟨[.ty tScene, .ty I], [.list I, I], fun x => F_43 x.1 x.2.1, false⟩, .fn 44 [] ⟨[.ty (.list I), .ty (.list I)], [.bool], fun x => F_44 x.1 x.2.1, false⟩])) lp_36 Try.f36 c_36 (encPs [] x) = (fun (_ : Unit) => (F_17 (1 : Int) (0 : Int) (0 : Int) (0 : Int)).bind fun v2 =>
    (F_17 (2 : Int) (4294967296 : Int) (0 : Int) (0 : Int)).bind fun v4 =>
      (F_41 (((0 : Int), (0 : Int)), (3 : Int), [v2.fst, v4.fst]) [(2 : Int), (1 : Int)]).bind fun v6 =>
        (F_43 v6.fst (3 : Int)).bind fun v8 =>
          (F_39 v6.fst (3 : Int)).bind fun v10 =>
            bif v6.snd.fst == (3 : Int) then
              bif v6.snd.snd.fst == (0 : Int) then
                bif v8.snd.fst == (0 : Int) then
                  (F_44 v8.fst [(1 : Int), (2 : Int)]).bind fun v12 =>
                    bif v12.fst then
                      (F_38 v6.fst (1 : Int)).bind fun v14 =>
                        bif v14.fst == (3 : Int) then
                          bif v10.snd.fst == (0 : Int) then Option.some ((↑(List.length v10.fst.snd.snd) : Int) == (0 : Int), ()) else Option.some (Bool.false, ())
                        else Option.some (Bool.false, ())
                    else Option.some (Bool.false, ())
                else Option.some (Bool.false, ())
              else Option.some (Bool.false, ())
            else Option.some (Bool.false, ())) () := by kernel_rfl
theorem f_36 (x : Ps []) : funcT CT T_36 [.bool] (drT CT T_36) lp_36 Try.f36 c_36 (encPs [] x) = F_36 := f_36g F_17 F_38 F_39 F_41 F_43 F_44 x
noncomputable def E_36 : Ent := .fn 36 [] ⟨[], [.bool], fun x => F_36, false⟩
theorem e_36 : E_36.Ok CT.P := Ent.ofFn CT_ok T_36_ok hf_36 hb_36 lp_36_ok f_36
noncomputable def E_36h : Ent := .fn 36 [] ⟨[], [.bool], fun x => F_36, true⟩
/-! ### 12: maquette/maquettelaw20.KinDrops -/
noncomputable def c_12 : Code := Try.f12.body.getD .skip
theorem hb_12 : Try.f12.body = some c_12 := by kernel_rfl
theorem hf_12 : CT.P.funcs[12]? = some Try.f12 := by kernel_rfl
noncomputable def T_12 : Tb := mkTb tyT mpT [E_17, E_20, E_23, E_36, E_39, E_40]
theorem T_12_ok : T_12.Ok CT.P := mkTb_ok (⟨e_17, e_20, e_23, e_36, e_39, e_40, trivial⟩)
noncomputable def l_12_20 : Code := atLoop c_12 20
noncomputable def l_12_9 : Code := atLoop c_12 9
noncomputable def l_12_5 : Code := atLoop c_12 5
noncomputable abbrev LD_12_5 : LayD := ⟨142, [(0, .data I), (1, .data I), (5, .ptr 0), (6, .data I)], [.var 36 [.data tVec, .data I, .own tThing 1], .row 32 tThing], fun s => [slotR s 5, slotC s 5 3]⟩
noncomputable abbrev LA_12_5 : LayD := ⟨142, [(0, .data I), (1, .data I), (5, .ptr 0)], [.var 36 [.data tVec, .data I, .own tThing 1], .row 32 tThing], fun s => [slotR s 5, slotC s 5 3]⟩
noncomputable abbrev LB_12_5 : LayD := ⟨142, [], [], fun _ => []⟩
noncomputable def EX_12_5 : Exits 0 LA_12_5.El LB_12_5.El := ⟨.exit 0, LA_12_5.lay [.nilCell 5 3 32 tThing], .ret, LB_12_5.lay []⟩

noncomputable def lpi_12_5 {β : Type} : LpT β := fun _ _ _ => none
theorem lpi_12_5_ok {β : Type} : LpTOk CT (lpi_12_5 (β := β)) (loopsOf l_12_5) := by
  have h : loopsOf l_12_5 = [] := by kernel_rfl
  rw [h]
  exact LpTOk.nil
noncomputable def G_12_5 (r0 : Ty.El I) (r1 : Ty.El I) (r6 : Ty.El I) (b0 : Ty.El tVec × Ty.El I × Unit × Unit) (b1 : List (Ty.El tThing)) : Option (LD_12_5.El ⊕ (LA_12_5.El ⊕ LB_12_5.El)) :=
  bif Decidable.decide (r6 ≤ r0) then
    (F_17 r6 (Go.IntKind.i64.wrap (r6 * (4294967296 : Int))) (0 : Int) (4294967296 : Int)).bind fun v2 =>
      bif ((b1.length + [v2.fst].length) * (128 : Nat)).ble (70368744177664 : Nat) then
        Option.some (Sum.inl ((r0, r1, (), Go.IntKind.i64.wrap (r6 + (1 : Int)), ()), (b0.fst, b0.snd.fst, (), ()), b1 ++ [v2.fst], ()))
      else Option.none
  else Option.some (Sum.inr (Sum.inl ((r0, r1, (), ()), (b0.fst, b0.snd.fst, (), ()), b1, ())))
theorem g_12_5 (x : LD_12_5.El) : codeT CT T_12 (drT CT T_12) lpi_12_5 l_12_5 (LD_12_5.enc x) (bodyK (LD_12_5.lay [.nilCell 5 3 32 tThing]) EX_12_5) = G_12_5 x.1.1 x.1.2.1 x.1.2.2.2.1 x.2.1 x.2.2.1 := by kernel_rfl
noncomputable def R_12_5 : LD_12_5.El → Option (LA_12_5.El ⊕ LB_12_5.El) := roundsT (fun x => G_12_5 x.1.1 x.1.2.1 x.1.2.2.2.1 x.2.1 x.2.2.1) fuel
theorem r_12_5 : ∀ x y, R_12_5 x = some y → CL CT l_12_5 (LD_12_5.enc x) (Sum.elim (fun _ => EX_12_5.xa) (fun _ => EX_12_5.xb) y) (Sum.elim EX_12_5.la.enc EX_12_5.lb.enc y) :=
  rounds_ok (L := LD_12_5.lay [.nilCell 5 3 32 tThing]) (E := EX_12_5) CT_ok T_12_ok (drT_ok CT_ok T_12_ok) lpi_12_5_ok g_12_5 rfl rfl (fun v h => by have hh : (.exit 0 : AX) = .pan v := h; cases hh) (fun v h => by have hh : (.ret : AX) = .pan v := h; cases hh) fuel
noncomputable abbrev LD_12_9 : LayD := ⟨142, [(0, .data I), (1, .data I), (5, .ptr 0), (7, .data I)], [.var 36 [.data tVec, .data I, .own tThing 1], .row 32 tThing], fun s => [slotR s 5, slotC s 5 3]⟩
noncomputable abbrev LA_12_9 : LayD := ⟨142, [(0, .data I), (1, .data I), (5, .ptr 0)], [.var 36 [.data tScene]], fun s => [slotR s 5]⟩
noncomputable abbrev LB_12_9 : LayD := ⟨142, [], [], fun _ => []⟩
noncomputable def EX_12_9 : Exits 0 LA_12_9.El LB_12_9.El := ⟨.exit 2, LA_12_9.lay [.nilCell 5 3 32 tThing, .frzCell 5 3 (.list tThing)], .ret, LB_12_9.lay []⟩

noncomputable def lpi_12_9 {β : Type} : LpT β := fun _ _ _ => none
theorem lpi_12_9_ok {β : Type} : LpTOk CT (lpi_12_9 (β := β)) (loopsOf l_12_9) := by
  have h : loopsOf l_12_9 = [] := by kernel_rfl
  rw [h]
  exact LpTOk.nil
noncomputable def G_12_9 (r0 : Ty.El I) (r1 : Ty.El I) (r7 : Ty.El I) (b0 : Ty.El tVec × Ty.El I × Unit × Unit) (b1 : List (Ty.El tThing)) : Option (LD_12_9.El ⊕ (LA_12_9.El ⊕ LB_12_9.El)) :=
  bif Decidable.decide (r7 < r0) then
    bif
        ((b1.length +
                [(Go.IntKind.i64.wrap ((50 : Int) + r7), (2 : Int), ((0 : Int), ((0 : Int), (0 : Int)), (0 : Int), ((0 : Int), (0 : Int)), (0 : Int), (0 : Int)),
                      (r7, Go.IntKind.i64.wrap (r7 + (1 : Int)), (4294967296 : Int)), ([] : List Int))].length) *
              (128 : Nat)).ble
          (70368744177664 : Nat) then
      Option.some
        (Sum.inl
          ((r0, r1, (), Go.IntKind.i64.wrap (r7 + (1 : Int)), ()), (b0.fst, b0.snd.fst, (), ()),
            b1 ++
              [(Go.IntKind.i64.wrap ((50 : Int) + r7), (2 : Int), ((0 : Int), ((0 : Int), (0 : Int)), (0 : Int), ((0 : Int), (0 : Int)), (0 : Int), (0 : Int)),
                  (r7, Go.IntKind.i64.wrap (r7 + (1 : Int)), (4294967296 : Int)), [])],
            ()))
    else Option.none
  else Option.some (Sum.inr (Sum.inl ((r0, r1, (), ()), ((b0.fst, b0.snd.fst, b1), ()), ())))
theorem g_12_9 (x : LD_12_9.El) : codeT CT T_12 (drT CT T_12) lpi_12_9 l_12_9 (LD_12_9.enc x) (bodyK (LD_12_9.lay [.nilCell 5 3 32 tThing]) EX_12_9) = G_12_9 x.1.1 x.1.2.1 x.1.2.2.2.1 x.2.1 x.2.2.1 := by kernel_rfl
noncomputable def R_12_9 : LD_12_9.El → Option (LA_12_9.El ⊕ LB_12_9.El) := roundsT (fun x => G_12_9 x.1.1 x.1.2.1 x.1.2.2.2.1 x.2.1 x.2.2.1) fuel
theorem r_12_9 : ∀ x y, R_12_9 x = some y → CL CT l_12_9 (LD_12_9.enc x) (Sum.elim (fun _ => EX_12_9.xa) (fun _ => EX_12_9.xb) y) (Sum.elim EX_12_9.la.enc EX_12_9.lb.enc y) :=
  rounds_ok (L := LD_12_9.lay [.nilCell 5 3 32 tThing]) (E := EX_12_9) CT_ok T_12_ok (drT_ok CT_ok T_12_ok) lpi_12_9_ok g_12_9 rfl rfl (fun v h => by have hh : (.exit 2 : AX) = .pan v := h; cases hh) (fun v h => by have hh : (.ret : AX) = .pan v := h; cases hh) fuel
noncomputable abbrev LD_12_20 : LayD := ⟨142, [(5, .ptr 0), (8, .data I), (9, .ptr 1), (106, .data (.list tThing)), (107, .data I), (108, .data I)], [.var 36 [.data tScene], .var 36 [.data tScene]], fun s => [slotR s 5, slotR s 9]⟩
noncomputable abbrev LA_12_20 : LayD := ⟨142, [(8, .data I), (9, .ptr 0)], [.var 36 [.data tScene]], fun s => [slotR s 9]⟩
noncomputable abbrev LB_12_20 : LayD := ⟨142, [(4, .data .bool)], [], fun _ => []⟩
noncomputable def EX_12_20 : Exits 0 LA_12_20.El LB_12_20.El := ⟨.exit 4, LA_12_20.lay [], .ret, LB_12_20.lay []⟩

noncomputable def lpi_12_20 {β : Type} : LpT β := fun _ _ _ => none
theorem lpi_12_20_ok {β : Type} : LpTOk CT (lpi_12_20 (β := β)) (loopsOf l_12_20) := by
  have h : loopsOf l_12_20 = [] := by kernel_rfl
  rw [h]
  exact LpTOk.nil
noncomputable def G_12_20 (r8 : Ty.El I) (r106 : Ty.El (.list tThing)) (r107 : Ty.El I) (r108 : Ty.El I) (b0 : Ty.El tScene × Unit) (b1 : Ty.El tScene × Unit) : Option (LD_12_20.El ⊕ (LA_12_20.El ⊕ LB_12_20.El)) :=
  bif Decidable.decide (r108 < r107) then
    bif Decidable.decide ((0 : Int) ≤ r108 ∧ r108 < (↑(List.length r106) : Int)) then
      (F_23 b0.fst (List.getD r106 (Int.toNat r108) Go.DI.S.tThing.dflt).fst).bind fun v2 =>
        bif !v2.snd.fst then Option.some (Sum.inr (Sum.inr ((Bool.false, ()), ())))
        else
          (F_40 (List.getD r106 (Int.toNat r108) Go.DI.S.tThing.dflt) v2.fst).bind fun v4 =>
            bif !v4.fst then Option.some (Sum.inr (Sum.inr ((Bool.false, ()), ())))
            else
              bif (List.getD r106 (Int.toNat r108) Go.DI.S.tThing.dflt).fst == r8 then Option.some (Sum.inr (Sum.inr ((Bool.false, ()), ())))
              else Option.some (Sum.inl (((), r8, (), r106, r107, Go.IntKind.i64.wrap (r108 + (1 : Int)), ()), (b0.fst, ()), (b1.fst, ()), ()))
    else Option.none
  else Option.some (Sum.inr (Sum.inl ((r8, (), ()), (b1.fst, ()), ())))
theorem g_12_20 (x : LD_12_20.El) : codeT CT T_12 (drT CT T_12) lpi_12_20 l_12_20 (LD_12_20.enc x) (bodyK (LD_12_20.lay []) EX_12_20) = G_12_20 x.1.2.1 x.1.2.2.2.1 x.1.2.2.2.2.1 x.1.2.2.2.2.2.1 x.2.1 x.2.2.1 := by kernel_rfl
noncomputable def R_12_20 : LD_12_20.El → Option (LA_12_20.El ⊕ LB_12_20.El) := roundsT (fun x => G_12_20 x.1.2.1 x.1.2.2.2.1 x.1.2.2.2.2.1 x.1.2.2.2.2.2.1 x.2.1 x.2.2.1) fuel
theorem r_12_20 : ∀ x y, R_12_20 x = some y → CL CT l_12_20 (LD_12_20.enc x) (Sum.elim (fun _ => EX_12_20.xa) (fun _ => EX_12_20.xb) y) (Sum.elim EX_12_20.la.enc EX_12_20.lb.enc y) :=
  rounds_ok (L := LD_12_20.lay []) (E := EX_12_20) CT_ok T_12_ok (drT_ok CT_ok T_12_ok) lpi_12_20_ok g_12_20 rfl rfl (fun v h => by have hh : (.exit 4 : AX) = .pan v := h; cases hh) (fun v h => by have hh : (.ret : AX) = .pan v := h; cases hh) fuel
noncomputable def lp_12 {β : Type} : LpT β := fun k s K => if Nat.beq k 5 then lpOne (LD_12_5.lay [.nilCell 5 3 32 tThing]) EX_12_5 R_12_5 s K else if Nat.beq k 9 then lpOne (LD_12_9.lay [.nilCell 5 3 32 tThing]) EX_12_9 R_12_9 s K else if Nat.beq k 20 then lpOne (LD_12_20.lay []) EX_12_20 R_12_20 s K else none
theorem lp_12_ok {β : Type} : LpTOk CT (lp_12 (β := β)) (loopsOf c_12) := by
  have h : loopsOf c_12 = [(5, l_12_5), (9, l_12_9), (20, l_12_20)] := by kernel_rfl
  rw [h]
  exact LpTOk.cons (fun s K z h => lpOne_ok r_12_5 h) (LpTOk.cons (fun s K z h => lpOne_ok r_12_9 h) (LpTOk.cons (fun s K z h => lpOne_ok r_12_20 h) (LpTOk.nil)))
noncomputable def F_12 (a1 : Ty.El I) (a2 : Ty.El I) : Option (Els [.bool]) :=
  bif Decidable.decide (a1 < (2 : Int)) then F_36.bind fun v2 => Option.some (v2.fst, ())
  else
    bif Decidable.decide (a1 > (15 : Int)) then F_36.bind fun v4 => Option.some (v4.fst, ())
    else
      F_36.bind fun v6 =>
        bif !v6.fst then F_36.bind fun v8 => Option.some (v8.fst, ())
        else
          (R_12_5 ((a1, a2, (), (1 : Int), ()), (((0 : Int), (0 : Int)), (100 : Int), (), ()), [], ())).bind fun v9 =>
            Sum.elim
              (fun v10 =>
                (R_12_9 ((v10.fst.fst, v10.fst.snd.fst, (), (1 : Int), ()), (v10.snd.fst.fst, v10.snd.fst.snd.fst, (), ()), v10.snd.snd.fst, ())).bind fun v11 =>
                  Sum.elim
                    (fun v12 =>
                      bif Decidable.decide (v12.fst.fst = (0 : Int)) then Option.none
                      else
                        bif Decidable.decide (v12.fst.fst = (0 : Int)) then Option.none
                        else
                          (F_39 v12.snd.fst.fst (Go.IntKind.i64.wrap ((1 : Int) + (Go.IntKind.i64.wrap (Int.tmod v12.fst.snd.fst v12.fst.fst + v12.fst.fst)).tmod v12.fst.fst))).bind
                            fun v14 =>
                            bif Go.IntKind.i64.wrap ((1 : Int) + (Go.IntKind.i64.wrap (Int.tmod v12.fst.snd.fst v12.fst.fst + v12.fst.fst)).tmod v12.fst.fst) == (1 : Int) then
                              bif v14.snd.fst != (0 : Int) then Option.some (Bool.false, ())
                              else
                                bif (↑(List.length v14.fst.snd.snd) : Int) != Go.IntKind.i64.wrap ((↑(List.length v12.snd.fst.fst.snd.snd) : Int) - (2 : Int)) then
                                  Option.some (Bool.false, ())
                                else
                                  bif v14.fst.snd.fst != (100 : Int) then Option.some (Bool.false, ())
                                  else
                                    (F_20 v14.fst).bind fun v16 =>
                                      bif !v16.fst then Option.some (Bool.false, ())
                                      else
                                        (R_12_20
                                              (((), Go.IntKind.i64.wrap ((1 : Int) + (Go.IntKind.i64.wrap (Int.tmod v12.fst.snd.fst v12.fst.fst + v12.fst.fst)).tmod v12.fst.fst), (),
                                                  v14.fst.snd.snd, (↑(List.length v14.fst.snd.snd) : Int), (0 : Int), ()),
                                                (v12.snd.fst.fst, ()), (v14.fst, ()), ())).bind
                                          fun v17 =>
                                          Sum.elim (fun v18 => (F_39 v18.snd.fst.fst v18.fst.fst).bind fun v20 => Option.some (v20.snd.fst == (10 : Int), ()))
                                            (fun v21 => Option.some (v21.fst.fst, ())) v17
                            else
                              bif Go.IntKind.i64.wrap ((1 : Int) + (Go.IntKind.i64.wrap (Int.tmod v12.fst.snd.fst v12.fst.fst + v12.fst.fst)).tmod v12.fst.fst) == v12.fst.fst then
                                bif v14.snd.fst != (0 : Int) then Option.some (Bool.false, ())
                                else
                                  bif (↑(List.length v14.fst.snd.snd) : Int) != Go.IntKind.i64.wrap ((↑(List.length v12.snd.fst.fst.snd.snd) : Int) - (2 : Int)) then
                                    Option.some (Bool.false, ())
                                  else
                                    bif v14.fst.snd.fst != (100 : Int) then Option.some (Bool.false, ())
                                    else
                                      (F_20 v14.fst).bind fun v23 =>
                                        bif !v23.fst then Option.some (Bool.false, ())
                                        else
                                          (R_12_20
                                                (((), Go.IntKind.i64.wrap ((1 : Int) + (Go.IntKind.i64.wrap (Int.tmod v12.fst.snd.fst v12.fst.fst + v12.fst.fst)).tmod v12.fst.fst),
                                                    (), v14.fst.snd.snd, (↑(List.length v14.fst.snd.snd) : Int), (0 : Int), ()),
                                                  (v12.snd.fst.fst, ()), (v14.fst, ()), ())).bind
                                            fun v24 =>
                                            Sum.elim (fun v25 => (F_39 v25.snd.fst.fst v25.fst.fst).bind fun v27 => Option.some (v27.snd.fst == (10 : Int), ()))
                                              (fun v28 => Option.some (v28.fst.fst, ())) v24
                              else
                                bif v14.snd.fst != (0 : Int) then Option.some (Bool.false, ())
                                else
                                  bif (↑(List.length v14.fst.snd.snd) : Int) != Go.IntKind.i64.wrap ((↑(List.length v12.snd.fst.fst.snd.snd) : Int) - (3 : Int)) then
                                    Option.some (Bool.false, ())
                                  else
                                    bif v14.fst.snd.fst != (100 : Int) then Option.some (Bool.false, ())
                                    else
                                      (F_20 v14.fst).bind fun v30 =>
                                        bif !v30.fst then Option.some (Bool.false, ())
                                        else
                                          (R_12_20
                                                (((), Go.IntKind.i64.wrap ((1 : Int) + (Go.IntKind.i64.wrap (Int.tmod v12.fst.snd.fst v12.fst.fst + v12.fst.fst)).tmod v12.fst.fst),
                                                    (), v14.fst.snd.snd, (↑(List.length v14.fst.snd.snd) : Int), (0 : Int), ()),
                                                  (v12.snd.fst.fst, ()), (v14.fst, ()), ())).bind
                                            fun v31 =>
                                            Sum.elim (fun v32 => (F_39 v32.snd.fst.fst v32.fst.fst).bind fun v34 => Option.some (v34.snd.fst == (10 : Int), ()))
                                              (fun v35 => Option.some (v35.fst.fst, ())) v31)
                    (fun v36 => Option.none) v11)
              (fun v37 => Option.none) v9
theorem f_12 (x : Ps [.ty I, .ty I]) : funcT CT T_12 [.bool] (drT CT T_12) lp_12 Try.f12 c_12 (encPs [.ty I, .ty I] x) = F_12 x.1 x.2.1 := by kernel_rfl
noncomputable def E_12 : Ent := .fn 12 [] ⟨[.ty I, .ty I], [.bool], fun x => F_12 x.1 x.2.1, false⟩
theorem e_12 : E_12.Ok CT.P := Ent.ofFn CT_ok T_12_ok hf_12 hb_12 lp_12_ok f_12
noncomputable def E_12h : Ent := .fn 12 [] ⟨[.ty I, .ty I], [.bool], fun x => F_12 x.1 x.2.1, true⟩
end Go.DI.S

/-! KinDrops: what is dropped, at each place. -/
set_option linter.unusedVariables false
set_option maxRecDepth 100000
set_option maxHeartbeats 0
namespace Go.DI.S
open Go.Proofs
theorem alive36 : F_36 = some (true, ()) := by kernel_rfl
/-- What follows on the scene, at the k-th thing. -/
noncomputable def B12 (n : Int) (S : Scene) (k : Int) : Option (Els [.bool]) :=
  (F_39 S k).bind
    fun v14 =>
    bif k == (1 : Int) then
      bif v14.snd.fst != (0 : Int) then Option.some (Bool.false, ())
      else
        bif (↑(List.length v14.fst.snd.snd) : Int) != Go.IntKind.i64.wrap ((↑(List.length S.snd.snd) : Int) - (2 : Int)) then
          Option.some (Bool.false, ())
        else
          bif v14.fst.snd.fst != (100 : Int) then Option.some (Bool.false, ())
          else
            (F_20 v14.fst).bind fun v16 =>
              bif !v16.fst then Option.some (Bool.false, ())
              else
                (R_12_20
                      (((), k, (),
                          v14.fst.snd.snd, (↑(List.length v14.fst.snd.snd) : Int), (0 : Int), ()),
                        (S, ()), (v14.fst, ()), ())).bind
                  fun v17 =>
                  Sum.elim (fun v18 => (F_39 v18.snd.fst.fst v18.fst.fst).bind fun v20 => Option.some (v20.snd.fst == (10 : Int), ()))
                    (fun v21 => Option.some (v21.fst.fst, ())) v17
    else
      bif k == n then
        bif v14.snd.fst != (0 : Int) then Option.some (Bool.false, ())
        else
          bif (↑(List.length v14.fst.snd.snd) : Int) != Go.IntKind.i64.wrap ((↑(List.length S.snd.snd) : Int) - (2 : Int)) then
            Option.some (Bool.false, ())
          else
            bif v14.fst.snd.fst != (100 : Int) then Option.some (Bool.false, ())
            else
              (F_20 v14.fst).bind fun v23 =>
                bif !v23.fst then Option.some (Bool.false, ())
                else
                  (R_12_20
                        (((), k,
                            (), v14.fst.snd.snd, (↑(List.length v14.fst.snd.snd) : Int), (0 : Int), ()),
                          (S, ()), (v14.fst, ()), ())).bind
                    fun v24 =>
                    Sum.elim (fun v25 => (F_39 v25.snd.fst.fst v25.fst.fst).bind fun v27 => Option.some (v27.snd.fst == (10 : Int), ()))
                      (fun v28 => Option.some (v28.fst.fst, ())) v24
      else
        bif v14.snd.fst != (0 : Int) then Option.some (Bool.false, ())
        else
          bif (↑(List.length v14.fst.snd.snd) : Int) != Go.IntKind.i64.wrap ((↑(List.length S.snd.snd) : Int) - (3 : Int)) then
            Option.some (Bool.false, ())
          else
            bif v14.fst.snd.fst != (100 : Int) then Option.some (Bool.false, ())
            else
              (F_20 v14.fst).bind fun v30 =>
                bif !v30.fst then Option.some (Bool.false, ())
                else
                  (R_12_20
                        (((), k,
                            (), v14.fst.snd.snd, (↑(List.length v14.fst.snd.snd) : Int), (0 : Int), ()),
                          (S, ()), (v14.fst, ()), ())).bind
                    fun v31 =>
                    Sum.elim (fun v32 => (F_39 v32.snd.fst.fst v32.fst.fst).bind fun v34 => Option.some (v34.snd.fst == (10 : Int), ()))
                      (fun v35 => Option.some (v35.fst.fst, ())) v31
/-- The thing that is dropped. -/
def at12 (n a : Int) : Int := IntKind.i64.wrap ((1 : Int) + (IntKind.i64.wrap (Int.tmod a n + n)).tmod n)
noncomputable def S5 (n : Int) : List Thing := match R_12_5 ((n, 0, (), (1 : Int), ()), (((0 : Int), (0 : Int)), (100 : Int), (), ()), [], ()) with
  | some (.inl y) => y.2.2.1
  | _ => []
noncomputable def S9 (n : Int) : Scene := match R_12_9 ((n, 0, (), (1 : Int), ()), (((0 : Int), (0 : Int)), (100 : Int), (), ()), S5 n, ()) with
  | some (.inl y) => y.2.1.1
  | _ => ((0, 0), 0, [])
theorem at12_in (n a : Int) (h1 : 2 ≤ n) (h2 : n ≤ 15) (ha : -9223372036854775808 ≤ a) (hb : a ≤ 9223372036854775807) : ∃ k : Nat, at12 n a = (k : Int) ∧ 1 ≤ k ∧ (k : Int) ≤ n := by
  have t1 : Int.tmod a n < n := Int.tmod_lt_of_pos a (by omega)
  have t2 : -n < Int.tmod a n := by
    have := Int.tmod_lt_of_pos (-a) (by omega : 0 < n)
    rw [Int.neg_tmod] at this
    omega
  unfold at12
  rw [wrap64 (x := Int.tmod a n + n) (by omega) (by omega)]
  have t3 : 0 ≤ (Int.tmod a n + n).tmod n := Int.tmod_nonneg n (by omega)
  have t4 : (Int.tmod a n + n).tmod n < n := Int.tmod_lt_of_pos _ (by omega)
  rw [wrap64 (by omega) (by omega)]
  exact ⟨(1 + (Int.tmod a n + n).tmod n).toNat, by omega, by omega, by omega⟩
end Go.DI.S

