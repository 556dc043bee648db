import Derived.Test.YtehnecfmjfpclaaGreatSb
import Derived.Test.YtehnecfmjfpclaaGreatDie
import Derived.Shelf.Sort.Plain
import Derived.Shelf.Slices.In.SortNone
import Derived.Sort.OwnSortedInts
import Derived.Shelf.Slices.CompactI
/- slices.Sort and slices.Compact at whole numbers; scenes alike. No conditions. -/
set_option linter.unusedVariables false
set_option maxRecDepth 100000
namespace Go.DI.S
open Go.Proofs Go.Sort Go.ChangeShapes Go.WideShapes
def sortRen : Go.Shelf.Ren := ⟨fun | 189 => 45 | 125 => 96 | 257 => 95 | 128 => 145 | 129 => 146 | 294 => 136 | 295 => 137 | 296 => 138 | 297 => 139 | 298 => 140 | 299 => 141 | 216 => 142 | 300 => 143 | 301 => 144 | 328 => 184 | 329 => 185 | 330 => 186 | 331 => 187 | 332 => 188 | 215 => 189 | 343 => 208 | n => n, fun | 28 => 50 | 3 => 3 | 46 => 137 | 0 => 0 | 51 => 204 | 53 => 136 | 4 => 4 | 183 => 197 | 182 => 196 | 131 => 162 | 5 => 5 | 9 => 9 | 218 => 234 | 222 => 238 | 228 => 254 | 229 => 255 | n => n, fun n => n⟩
theorem laysSort : Lays.n189 Tryz.prog sortRen := {
  mixed := by kernel_rfl,
  f125 := Tryz.func96.trans (congrArg some (by kernel_rfl)),
  f128 := Tryz.func145.trans (congrArg some (by kernel_rfl)),
  f129 := Tryz.func146.trans (congrArg some (by kernel_rfl)),
  f189 := Tryz.func45.trans (congrArg some (by kernel_rfl)),
  f215 := Tryz.func189.trans (congrArg some (by kernel_rfl)),
  f216 := Tryz.func142.trans (congrArg some (by kernel_rfl)),
  f257 := Tryz.func95.trans (congrArg some (by kernel_rfl)),
  f294 := Tryz.func136.trans (congrArg some (by kernel_rfl)),
  f295 := Tryz.func137.trans (congrArg some (by kernel_rfl)),
  f296 := Tryz.func138.trans (congrArg some (by kernel_rfl)),
  f297 := Tryz.func139.trans (congrArg some (by kernel_rfl)),
  f298 := Tryz.func140.trans (congrArg some (by kernel_rfl)),
  f299 := Tryz.func141.trans (congrArg some (by kernel_rfl)),
  f300 := Tryz.func143.trans (congrArg some (by kernel_rfl)),
  f301 := Tryz.func144.trans (congrArg some (by kernel_rfl)),
  f328 := Tryz.func184.trans (congrArg some (by kernel_rfl)),
  f329 := Tryz.func185.trans (congrArg some (by kernel_rfl)),
  f330 := Tryz.func186.trans (congrArg some (by kernel_rfl)),
  f331 := Tryz.func187.trans (congrArg some (by kernel_rfl)),
  f332 := Tryz.func188.trans (congrArg some (by kernel_rfl)),
  f343 := Tryz.func208.trans (congrArg some (by kernel_rfl)),
  t0 := Tryz.underlying0,
  a0 := Tryz.isAgg0,
  z0 := Tryz.sizeOf0,
  v0 := Tryz.zeroValue0,
  t3 := Tryz.underlying3,
  a3 := Tryz.isAgg3,
  z3 := Tryz.sizeOf3,
  v3 := Tryz.zeroValue3,
  t4 := Tryz.underlying4,
  a4 := Tryz.isAgg4,
  z4 := Tryz.sizeOf4,
  v4 := Tryz.zeroValue4,
  t5 := Tryz.underlying5,
  a5 := Tryz.isAgg5,
  z5 := Tryz.sizeOf5,
  v5 := Tryz.zeroValue5,
  t9 := Tryz.underlying9,
  a9 := Tryz.isAgg9,
  z9 := Tryz.sizeOf9,
  v9 := Tryz.zeroValue9,
  t28 := Tryz.underlying50,
  a28 := Tryz.isAgg50,
  z28 := Tryz.sizeOf50,
  v28 := Tryz.zeroValue50,
  t46 := Tryz.underlying137,
  a46 := Tryz.isAgg137,
  z46 := Tryz.sizeOf137,
  v46 := Tryz.zeroValue137,
  t51 := Tryz.underlying204,
  a51 := Tryz.isAgg204,
  z51 := Tryz.sizeOf204,
  v51 := Tryz.zeroValue204,
  t53 := Tryz.underlying136,
  a53 := Tryz.isAgg136,
  z53 := Tryz.sizeOf136,
  v53 := Tryz.zeroValue136,
  t131 := Tryz.underlying162,
  a131 := Tryz.isAgg162,
  z131 := Tryz.sizeOf162,
  v131 := Tryz.zeroValue162,
  t182 := Tryz.underlying196,
  a182 := Tryz.isAgg196,
  z182 := Tryz.sizeOf196,
  v182 := Tryz.zeroValue196,
  t183 := Tryz.underlying197,
  a183 := Tryz.isAgg197,
  z183 := Tryz.sizeOf197,
  v183 := Tryz.zeroValue197,
  t218 := Tryz.underlying234,
  a218 := Tryz.isAgg234,
  z218 := Tryz.sizeOf234,
  v218 := Tryz.zeroValue234,
  t222 := Tryz.underlying238,
  a222 := Tryz.isAgg238,
  z222 := Tryz.sizeOf238,
  v222 := Tryz.zeroValue238,
  t228 := Tryz.underlying254,
  a228 := Tryz.isAgg254,
  z228 := Tryz.sizeOf254,
  v228 := Tryz.zeroValue254,
  t229 := Tryz.underlying255,
  a229 := Tryz.isAgg255,
  z229 := Tryz.sizeOf255,
  v229 := Tryz.zeroValue255 }
def ordI (a : Int) : List Int → List Int
  | [] => [a]
  | b :: l => bif decide (a ≤ b) then a :: b :: l else b :: ordI a l
def sortI : List Int → List Int
  | [] => []
  | a :: l => ordI a (sortI l)
theorem ordI_perm (a : Int) : ∀ l, (ordI a l).Perm (a :: l)
  | [] => .refl _
  | b :: l => by
    simp only [ordI]
    cases decide (a ≤ b) with
    | true => exact .refl _
    | false => exact ((ordI_perm a l).cons b).trans (.swap a b l)
theorem sortI_perm : ∀ l, (sortI l).Perm l
  | [] => .refl _
  | a :: l => (ordI_perm a _).trans ((sortI_perm l).cons a)
theorem ordI_sorted (a : Int) : ∀ l, l.Pairwise (fun x y => x ≤ y) → (ordI a l).Pairwise (fun x y => x ≤ y)
  | [], _ => by simp [ordI]
  | b :: l, h => by
    have hb := List.pairwise_cons.1 h
    simp only [ordI]
    cases hd : decide (a ≤ b) with
    | true =>
      have hab : a ≤ b := of_decide_eq_true hd
      refine List.pairwise_cons.2 ⟨fun x hx => ?_, h⟩
      rcases List.mem_cons.1 hx with rfl | hx
      · exact hab
      · exact Int.le_trans hab (hb.1 x hx)
    | false =>
      have hab : ¬ a ≤ b := of_decide_eq_false hd
      refine List.pairwise_cons.2 ⟨fun x hx => ?_, ordI_sorted a l hb.2⟩
      rcases List.mem_cons.1 ((ordI_perm a l).mem_iff.1 hx) with rfl | hx
      · omega
      · exact hb.1 x hx
theorem sortI_sorted : ∀ l, (sortI l).Pairwise (fun x y => x ≤ y)
  | [] => .nil
  | a :: l => ordI_sorted a _ (sortI_sorted l)
theorem sortI_eq (l : List Int) : l.mergeSort (fun x y => decide (x ≤ y)) = sortI l := by
  refine List.Perm.eq_of_pairwise (le := fun x y => x ≤ y) (fun a b _ _ h k => by omega) ?_ (sortI_sorted l) ((List.mergeSort_perm l _).trans (sortI_perm l).symm)
  exact (List.pairwise_mergeSort (le := fun x y => decide (x ≤ y)) (fun a b c h k => by
    have h := of_decide_eq_true h
    have k := of_decide_eq_true k
    exact decide_eq_true (by omega)) (fun a b => by
    by_cases h : a ≤ b
    · simp [h]
    · have : b ≤ a := by omega
      simp [this]) l).imp (fun h => of_decide_eq_true h)
theorem sortI_len (l : List Int) : (sortI l).length = l.length := (sortI_perm l).length_eq
abbrev IN_74 : LayD := ⟨1, [(0, .own I 0)], [.row 3 I], fun s => [slotR s 0]⟩
abbrev OUT_74 : LayD := ⟨0, [], [.row 3 I], fun _ => [0]⟩
def F_74 (b0 : List (Ty.El I)) : Option OUT_74.El := bif Nat.ble b0.length 1000000 then some ((), sortI b0, ()) else none
def G_74 : GenE := ⟨1, [.nilReg 0 3 I, .rowReg 0 3 I], IN_74, OUT_74, fun x => F_74 x.2.1⟩
theorem ok_74 : G_74.Ok CT.P 45 := by
  intro x y hxy R ρ w vs hr hvs
  have hxy : F_74 x.2.1 = some y := hxy
  unfold F_74 at hxy
  generalize hl : x.2.1 = l at hxy
  cases hb : Nat.ble l.length 1000000 with
  | false => rw [hb] at hxy; cases hxy
  | true =>
  rw [hb] at hxy
  have hlen := Nat.le_of_ble_eq_true hb
  have hy : y = ((), sortI l, ()) := (Option.some.inj hxy).symm
  subst hy
  have hr : Rel R ρ [some (.row 3 I x.2.1)] w := hr
  have hvs : VReps w R ρ [.orow I 0] vs.toList := hvs
  rw [hl] at hr
  obtain ⟨u0, us, hu, h1, h2⟩ := hvs.cons_inv
  obtain rfl := h2.nil_inv
  have hv : vs = #[u0] := Array.toList_inj.1 (by simpa using hu)
  subst hv
  have hone : ∀ (m : List Int) (k : Nat) (blk : ABlk), ([some (ABlk.row 3 I m)] : AH)[k]? = some (some blk) → k = 0 ∧ blk = .row 3 I m := by
    intro m k blk hk
    cases k with
    | zero => simp at hk; exact ⟨rfl, hk.symm⟩
    | succ k => simp at hk
  show Calls CT.P 45 #[u0] w fun q w' => ∃ R' ρ' u, q = .returned u ∧ VRep w' R' ρ' (.tup []) u ∧ Rel R' ρ' [some (.row 3 I (sortI l))] w' ∧ FrmW 1 R ρ [some (.row 3 I x.2.1)] w R' ρ' [some (.row 3 I (sortI l))] w'
  rw [hl]
  cases h1 with
  | @orow _ _ b N cap hn hg hlc hc =>
    obtain ⟨b', N', hn', hB, hre⟩ := hr.live 0 _ rfl
    rw [hn] at hn'
    simp only [Option.some.injEq, Prod.mk.injEq] at hn'
    obtain ⟨rfl, rfl⟩ := hn'
    obtain ⟨q1, q2⟩ := hB
    obtain ⟨arr, q3, q4, q5, q6⟩ := q2 hg
    have hcell : ∀ j, j < l.length → arr[j]? = some (Value.int .i64 (l.getD j 0)) := by
      intro j hj
      obtain ⟨u, hu1, hu2⟩ := q6 j 0 (.int .i64 (l.getD j 0)) hj rfl
      have e : j * I.sz + 0 = j := by show j * 1 + 0 = j; omega
      rw [e] at hu1
      cases hu2
      exact hu1
    have htake : arr.toList.take l.length = l.map (Value.int .i64) := by
      apply List.ext_getElem?
      intro j
      by_cases hj : j < l.length
      · rw [List.getElem?_take_of_lt hj, Array.getElem?_toList, hcell j hj, List.getElem?_map, List.getElem?_eq_getElem hj, List.getD_eq_getElem?_getD, List.getElem?_eq_getElem hj]; rfl
      · rw [List.getElem?_take_eq_none (by omega), List.getElem?_eq_none (by simp; omega)]
    have hblk : b < w.heap.size := (Array.getElem?_eq_some_iff.1 q3).1
    have hH := holds_of_blockI (ss := l) q3 htake
    rw [q1]
    have hs := Any.slices_Sort_int laysSort b 0 cap l w hH hblk (by omega)
    refine hs.mono ?_
    rintro e w' ⟨rfl, n, os, rfl⟩
    rw [sortI_eq]
    have hsz : (grow (putRow (Value.int .i64) (Sort.ahead w n) b 0 (sortI l).toArray) os).heap.size = w.heap.size + os.size := by
      rw [size_grow]; simp [putRow, mapBlock, Sort.ahead]
    have hkeep : ∀ k, k < w.heap.size → k ≠ b → (grow (putRow (Value.int .i64) (Sort.ahead w n) b 0 (sortI l).toArray) os).heap[k]? = w.heap[k]? := by
      intro k hk hne
      rw [heap_grow_old _ _ (by simpa [putRow, mapBlock, Sort.ahead] using hk)]
      have : b ≠ k := fun e => hne e.symm
      simp [putRow, mapBlock, Sort.ahead, Array.getElem?_modify, this]
    have hlv : ∀ c, Lv ρ [some (.row 3 I l)] c → c = b := by
      rintro c ⟨k, blk, M, hk, hn', hg'⟩
      obtain ⟨rfl, rfl⟩ := hone l k blk hk
      rw [hn] at hn'
      simp only [Option.some.injEq, Prod.mk.injEq] at hn'
      exact hn'.1.symm
    have hlv' : ∀ c, Lv ρ [some (.row 3 I (sortI l))] c → Lv ρ [some (.row 3 I l)] c := by
      rintro c ⟨k, blk, M, hk, hn', hg'⟩
      obtain ⟨rfl, rfl⟩ := hone _ k blk hk
      exact ⟨0, _, M, rfl, hn', hg'⟩
    refine ⟨R, ρ, _, rfl, .tup' .nil, ⟨fun k blk hk => ?_, fun k k' bk bk' c Nk Nk' hk hk' _ _ _ _ => ?_, fun k hk => hr.dom k hk, fun c hc' => by rw [hsz]; exact Nat.lt_of_lt_of_le (hr.ro c hc') (Nat.le_add_right _ _)⟩,
      ⟨rfl, rfl, rfl, by rw [hsz]; exact Nat.le_add_right _ _, fun _ h => h, fun c hc' hnl => hkeep c hc' fun e => hnl (e ▸ ⟨0, _, N, rfl, hn, hg⟩), fun c hl' => .inl (hlv' c hl'), fun _ h => .inl h, Nat.le_add_right _ _, fun _ _ _ h => h⟩⟩
    · obtain ⟨rfl, rfl⟩ := hone _ k blk hk
      refine ⟨b, N, hn, ⟨by rw [q1, sortI_len], fun _ => ⟨_, heap_sortedI _ q3, by simp [putCells, q4], by rw [sortI_len]; exact q5, fun j o c hj hc' => ?_⟩⟩, ?_⟩
      · have ho : o = 0 := by
          cases o with
          | zero => rfl
          | succ o => simp [Ty.at, Ty.enc, AV.cells] at hc'
        subst ho
        have hcc : c = .int .i64 ((sortI l).getD j 0) := by
          simp [Ty.at, Ty.enc, AV.cells] at hc'
          rw [← hc']; simp [List.getD_eq_getElem?_getD, Ty.dflt]
        subst hcc
        refine ⟨Value.int .i64 ((sortI l).getD j 0), ?_, .int _ _⟩
        have e : j * I.sz + 0 = j := by show j * 1 + 0 = j; omega
        rw [e]
        have h5 := take_putCellsI arr (sortI l) (by rw [sortI_len, q4]; have : l.length * 1 ≤ N.n := q5; omega)
        have h6 : ((putCells (Value.int .i64) 0 (sortI l).toArray arr).toList.take (sortI l).length)[j]? = ((sortI l).map (Value.int .i64))[j]? := by rw [h5]
        rw [List.getElem?_take_of_lt hj, Array.getElem?_toList, List.getElem?_map, List.getElem?_eq_getElem hj] at h6
        rw [h6, List.getD_eq_getElem?_getD, List.getElem?_eq_getElem hj]; rfl
      · rcases hre with ⟨h5, h6⟩ | ⟨h5, _⟩
        · exact .inl ⟨h5, h6⟩
        · rw [hg] at h5; cases h5
    · rw [(hone _ k _ hk).1, (hone _ k' _ hk').1]
  | @onil _ _ b N hn hg =>
    obtain ⟨b', N', hn', hB, hre⟩ := hr.live 0 _ rfl
    rw [hn] at hn'
    simp only [Option.some.injEq, Prod.mk.injEq] at hn'
    obtain ⟨rfl, rfl⟩ := hn'
    have hl0 : l = [] := by
      rcases hre with ⟨h5, _⟩ | ⟨_, t, ty, h5⟩
      · rw [hg] at h5; cases h5
      · injection h5 with _ h6 h7
        subst h6
        exact eq_of_heq h7
    subst hl0
    have hs := Any.slices_Sort_int_none laysSort none 0 w
    refine hs.mono ?_
    rintro e w' ⟨rfl, rfl⟩
    exact ⟨R, ρ, _, rfl, .tup' .nil, hr, FrmW.refl _ _ _ _⟩
def E_74 : Ent := .mkGen 45 [] G_74
theorem e_74 : E_74.Ok CT.P := Ent.mkGen_ok ok_74
end Go.DI.S
set_option linter.unusedVariables false
set_option maxRecDepth 100000
namespace Go.DI.S
open Go.Proofs Go.Sort Go.ChangeShapes Go.WideShapes
def compRen : Go.Shelf.Ren := ⟨fun | 20 => 46 | n => n, fun | 22 => 50 | n => n, fun n => n⟩
theorem laysCompact : Lays2.n20 Tryz.prog compRen := {
  mixed := by kernel_rfl,
  f20 := Tryz.func46.trans (congrArg some (by kernel_rfl)),
  t0 := Tryz.underlying0,
  a0 := Tryz.isAgg0,
  z0 := Tryz.sizeOf0,
  v0 := Tryz.zeroValue0,
  t3 := Tryz.underlying3,
  a3 := Tryz.isAgg3,
  z3 := Tryz.sizeOf3,
  v3 := Tryz.zeroValue3,
  t4 := Tryz.underlying4,
  a4 := Tryz.isAgg4,
  z4 := Tryz.sizeOf4,
  v4 := Tryz.zeroValue4,
  t22 := Tryz.underlying50,
  a22 := Tryz.isAgg50,
  z22 := Tryz.sizeOf50,
  v22 := Tryz.zeroValue50,
  i3 := by kernel_rfl }
def compI (l : List Int) : List Int := Go.Lib.compact l
theorem compI_len (l : List Int) : (compI l).length ≤ l.length := by
  unfold compI Go.Lib.compact Go.Lib.compactUpTo
  rw [List.length_map]
  exact Nat.le_trans (List.length_filter_le _ _) (by simp)
def F_78 (l : List (Ty.El I)) : Option (List (Ty.El I)) := bif Nat.ble l.length 1000000 then some (compI l) else none
def E_78 : Ent := .mov 46 [] ⟨[], 3, I, 3, I, fun l x => F_78 l⟩
theorem e_78 : E_78.Ok CT.P := by
  intro l x y hxy R ρ w vs hr hvs
  have hxy : F_78 l = some y := hxy
  unfold F_78 at hxy
  cases hb : Nat.ble l.length 1000000 with
  | false => rw [hb] at hxy; cases hxy
  | true =>
  rw [hb] at hxy
  have hlen := Nat.le_of_ble_eq_true hb
  have hy : y = compI l := (Option.some.inj hxy).symm
  subst hy
  have hr : Rel R ρ [some (.row 3 I l)] w := hr
  have hvs : VReps w R ρ [.orow I 0] vs.toList := hvs
  obtain ⟨u0, us, hu, h1, h2⟩ := hvs.cons_inv
  obtain rfl := h2.nil_inv
  have hv : vs = #[u0] := Array.toList_inj.1 (by simpa using hu)
  subst hv
  show Calls CT.P 46 #[u0] w fun q w' => ∃ R' ρ' u, (q = .returned u ∧ VRep w' R' ρ' (.orow I 1) u) ∧ Rel R' ρ' [none, some (.row 3 I (compI l))] w' ∧ Frm R ρ [some (.row 3 I l)] w R' ρ' [none, some (.row 3 I (compI l))] w'
  cases h1 with
  | @orow _ _ b N cap hn hg hlc hc =>
    obtain ⟨b', N', hn', hB, hre⟩ := hr.live 0 _ rfl
    rw [hn] at hn'
    simp only [Option.some.injEq, Prod.mk.injEq] at hn'
    obtain ⟨rfl, rfl⟩ := hn'
    obtain ⟨q1, q2⟩ := hB
    obtain ⟨arr, q3, q4, q5, q6⟩ := q2 hg
    have hcell : ∀ j, j < l.length → arr[j]? = some (Value.int .i64 (l.getD j 0)) := by
      intro j hj
      obtain ⟨u, hu1, hu2⟩ := q6 j 0 (.int .i64 (l.getD j 0)) hj rfl
      have e : j * I.sz + 0 = j := by show j * 1 + 0 = j; omega
      rw [e] at hu1
      cases hu2
      exact hu1
    have htake : arr.toList.take l.length = l.map (Value.int .i64) := by
      apply List.ext_getElem?
      intro j
      by_cases hj : j < l.length
      · rw [List.getElem?_take_of_lt hj, Array.getElem?_toList, hcell j hj, List.getElem?_map, List.getElem?_eq_getElem hj, List.getD_eq_getElem?_getD, List.getElem?_eq_getElem hj]; rfl
      · rw [List.getElem?_take_eq_none (by omega), List.getElem?_eq_none (by simp; omega)]
    have hH := holds_of_blockI (ss := l) q3 htake
    have hll : l.length ≤ cap := by omega
    rw [q1]
    have hs := Any.slices_Compact_int laysCompact b 0 cap l w hH (by omega) hll
    refine hs.mono ?_
    rintro e w' ⟨rfl, n, rfl⟩
    obtain ⟨z, hz⟩ : ∃ z, z = compI l ++ List.replicate (l.length - (compI l).length) (0 : Int) := ⟨_, rfl⟩
    have hzl : z.length = l.length := by rw [hz, List.length_append, List.length_replicate]; have := compI_len l; omega
    have hcl := compI_len l
    show ∃ R' ρ' u, (_ = _ ∧ _) ∧ _
    have hwd : putRow (Value.int .i64) (Sort.ahead w n) b 0 (Lib.compact l ++ List.replicate (l.length - (Lib.compact l).length) 0).toArray = putRow (Value.int .i64) (Sort.ahead w n) b 0 z.toArray := by rw [hz]; rfl
    rw [hwd]
    have hsz : (putRow (Value.int .i64) (Sort.ahead w n) b 0 z.toArray).heap.size = w.heap.size := by simp [putRow, mapBlock, Sort.ahead]
    have hkeep : ∀ k, k ≠ b → (putRow (Value.int .i64) (Sort.ahead w n) b 0 z.toArray).heap[k]? = w.heap[k]? := by
      intro k hne
      have : b ≠ k := fun e => hne e.symm
      simp [putRow, mapBlock, Sort.ahead, Array.getElem?_modify, this]
    have hheap : (putRow (Value.int .i64) (Sort.ahead w n) b 0 z.toArray).heap[b]? = some (.cells (putCells (Value.int .i64) 0 z.toArray arr) 3 (0, 0)) := by
      simp [putRow, mapBlock, Sort.ahead, Array.getElem?_modify, q3, onCells]
    have hput := take_putCellsI arr z (by rw [hzl, q4]; have : l.length * 1 ≤ N.n := q5; omega)
    have hasz : (putCells (Value.int .i64) 0 z.toArray arr).size = N.n := by simp [putCells, q4]
    have hB2 : BRep (putRow (Value.int .i64) (Sort.ahead w n) b 0 z.toArray) R ρ b ⟨N.n, (compI l).length, false⟩ (.row 3 I (compI l)) := by
      refine ⟨rfl, fun _ => ⟨_, hheap, hasz, by show (compI l).length * 1 ≤ N.n; have : l.length * 1 ≤ N.n := q5; omega, fun j o c hj hc' => ?_⟩⟩
      have ho : o = 0 := by
        cases o with
        | zero => rfl
        | succ o => simp [Ty.at, Ty.enc, AV.cells] at hc'
      subst ho
      have hcc : c = .int .i64 ((compI l).getD j 0) := by
        simp [Ty.at, Ty.enc, AV.cells] at hc'
        rw [← hc']; simp [List.getD_eq_getElem?_getD, Ty.dflt]
      subst hcc
      refine ⟨Value.int .i64 ((compI l).getD j 0), ?_, .int _ _⟩
      have e : j * I.sz + 0 = j := by show j * 1 + 0 = j; omega
      rw [e]
      have hjz : j < z.length := by omega
      have h6 : ((putCells (Value.int .i64) 0 z.toArray arr).toList.take z.length)[j]? = (z.map (Value.int .i64))[j]? := by rw [hput]
      rw [List.getElem?_take_of_lt hjz, Array.getElem?_toList, List.getElem?_map, hz, List.getElem?_append_left hj, List.getElem?_eq_getElem hj] at h6
      rw [← hz] at h6
      rw [h6, List.getD_eq_getElem?_getD, List.getElem?_eq_getElem hj]; rfl
    have hB1 : BRep (putRow (Value.int .i64) (Sort.ahead w n) b 0 z.toArray) R ρ b N (.cells 3 []) := ⟨_, hheap, hasz, Nat.zero_le _, by simpa using VReps.nil⟩
    obtain ⟨r1, f1⟩ := rel_move (w' := putRow (Value.int .i64) (Sort.ahead w n) b 0 z.toArray) (i := 0) (N' := ⟨N.n, (compI l).length, false⟩) hr rfl hn (.row 3 I (compI l)) rfl rfl rfl hsz hkeep (.cells 3 []) hB1 hB2 hg rfl (Nat.le_add_right _ _)
    refine ⟨R, _, _, ⟨rfl, ?_⟩, r1, f1⟩
    exact .orow (N := ⟨N.n, (compI l).length, false⟩) (Nm.upd_self _ _ _) rfl (by show (compI l).length ≤ cap; omega) hc
  | @onil _ _ b N hn hg =>
    obtain ⟨b', N', hn', hB, hre⟩ := hr.live 0 _ rfl
    rw [hn] at hn'
    simp only [Option.some.injEq, Prod.mk.injEq] at hn'
    obtain ⟨rfl, rfl⟩ := hn'
    have hl0 : l = [] := by
      rcases hre with ⟨h5, _⟩ | ⟨_, t, ty, h5⟩
      · rw [hg] at h5; cases h5
      · injection h5 with _ h6 h7
        subst h6
        exact eq_of_heq h7
    subst hl0
    have hs := Any.slices_Compact_int_empty laysCompact none 0 w
    refine hs.mono ?_
    rintro e w' ⟨rfl, rfl⟩
    obtain ⟨r1, f1⟩ := rel_kill hr 0
    obtain ⟨r2, f2, v2⟩ := rel_ghost r1 3 I
    exact ⟨R, _, _, ⟨rfl, v2⟩, r2, f1.trans f2⟩
end Go.DI.S
set_option linter.unusedVariables false
set_option maxRecDepth 100000
set_option maxHeartbeats 0
namespace Go.DI.S
open Go.Proofs
noncomputable def c_25 : Code := Tryz.f19.body.getD .skip
theorem hb_25 : Tryz.f19.body = some c_25 := by kernel_rfl
theorem hf_25 : CT.P.funcs[19]? = some Tryz.f19 := by kernel_rfl
noncomputable def T_25 : Tb := mkTb tyT mpT []
theorem T_25_ok : T_25.Ok CT.P := mkTb_ok (trivial)
noncomputable def lp_25 {β : Type} : LpT β := fun _ _ _ => none
theorem lp_25_ok {β : Type} : LpTOk CT (lp_25 (β := β)) (loopsOf c_25) := by
  have h : loopsOf c_25 = [] := by kernel_rfl
  rw [h]
  exact LpTOk.nil
noncomputable def F_25 (a1 : Ty.El tScene) : Option (Els [tScene]) := Option.some (a1, ())
theorem f_25 (x : Ps [.ty tScene]) : funcT CT T_25 [tScene] (drT CT T_25) lp_25 Tryz.f19 c_25 (encPs [.ty tScene] x) = F_25 x.1 := by kernel_rfl
noncomputable def E_25 : Ent := .fn 19 [] ⟨[.ty tScene], [tScene], fun x => F_25 x.1, false⟩
theorem e_25 : E_25.Ok CT.P := Ent.ofFn CT_ok T_25_ok hf_25 hb_25 lp_25_ok f_25
noncomputable def c_100 : Code := Tryz.f93.body.getD .skip
theorem hb_100 : Tryz.f93.body = some c_100 := by kernel_rfl
theorem hf_100 : CT.P.funcs[93]? = some Tryz.f93 := by kernel_rfl
noncomputable def T_100 : Tb := mkTb tyT mpT []
theorem T_100_ok : T_100.Ok CT.P := mkTb_ok (trivial)
noncomputable def l_100_4 : Code := atLoop c_100 4
noncomputable abbrev LD_100_4 : LayD := ⟨59, [(2, .ptr 0), (3, .ptr 1), (5, .data I)], [.var 52 [.data tThing], .var 52 [.data tThing]], fun s => [slotR s 2, slotR s 3]⟩
noncomputable abbrev LA_100_4 : LayD := ⟨59, [], [], fun _ => []⟩
noncomputable abbrev LB_100_4 : LayD := ⟨59, [(4, .data .bool)], [], fun _ => []⟩
noncomputable def EX_100_4 : Exits 0 LA_100_4.El LB_100_4.El := ⟨.exit 0, LA_100_4.lay [], .ret, LB_100_4.lay []⟩
noncomputable def lpi_100_4 {β : Type} : LpT β := fun _ _ _ => none
theorem lpi_100_4_ok {β : Type} : LpTOk CT (lpi_100_4 (β := β)) (loopsOf l_100_4) := by
  have h : loopsOf l_100_4 = [] := by kernel_rfl
  rw [h]
  exact LpTOk.nil
noncomputable def G_100_4 (r5 : Ty.El I) (b0 : Ty.El tThing × Unit) (b1 : Ty.El tThing × Unit) : Option (LD_100_4.El ⊕ (LA_100_4.El ⊕ LB_100_4.El)) := bif Decidable.decide (r5 < (↑(List.length b0.fst.snd.snd.snd.snd) : Int)) then bif Decidable.decide ((0 : Int) ≤ r5 ∧ r5 < (↑(List.length b0.fst.snd.snd.snd.snd) : Int)) then bif Decidable.decide ((0 : Int) ≤ r5 ∧ r5 < (↑(List.length b1.fst.snd.snd.snd.snd) : Int)) then bif List.getD b0.fst.snd.snd.snd.snd (Int.toNat r5) (0 : Int) != List.getD b1.fst.snd.snd.snd.snd (Int.toNat r5) (0 : Int) then Option.some (Sum.inr (Sum.inr ((Bool.false, ()), ()))) else Option.some (Sum.inl (((), (), Go.IntKind.i64.wrap (r5 + (1 : Int)), ()), (b0.fst, ()), (b1.fst, ()), ())) else Option.none else Option.none else Option.some (Sum.inr (Sum.inl ((), ())))
theorem g_100_4 (x : LD_100_4.El) : codeT CT T_100 (drT CT T_100) lpi_100_4 l_100_4 (LD_100_4.enc x) (bodyK (LD_100_4.lay []) EX_100_4) = G_100_4 x.1.2.2.1 x.2.1 x.2.2.1 := by kernel_rfl
noncomputable def R_100_4 : LD_100_4.El → Option (LA_100_4.El ⊕ LB_100_4.El) := roundsT (fun x => G_100_4 x.1.2.2.1 x.2.1 x.2.2.1) fuel
theorem r_100_4 : ∀ x y, R_100_4 x = some y → CL CT l_100_4 (LD_100_4.enc x) (Sum.elim (fun _ => EX_100_4.xa) (fun _ => EX_100_4.xb) y) (Sum.elim EX_100_4.la.enc EX_100_4.lb.enc y) :=
  rounds_ok (L := LD_100_4.lay []) (E := EX_100_4) CT_ok T_100_ok (drT_ok CT_ok T_100_ok) lpi_100_4_ok g_100_4 rfl rfl (fun v h => by have hh : (.exit 0 : AX) = .pan v := h; cases hh) (fun v h => by have hh : (.ret : AX) = .pan v := h; cases hh) fuel
noncomputable def lp_100 {β : Type} : LpT β := fun k s K => if Nat.beq k 4 then lpOne (LD_100_4.lay []) EX_100_4 R_100_4 s K else none
theorem lp_100_ok {β : Type} : LpTOk CT (lp_100 (β := β)) (loopsOf c_100) := by
  have h : loopsOf c_100 = [(4, l_100_4)] := by kernel_rfl
  rw [h]
  exact LpTOk.cons (fun s K z h => lpOne_ok r_100_4 h) (LpTOk.nil)
noncomputable def F_100 (a1 : Ty.El tThing) (a2 : Ty.El tThing) : Option (Els [.bool]) := bif a1.fst != a2.fst then Option.some (Bool.false, ()) else bif a1.snd.fst != a2.snd.fst then Option.some (Bool.false, ()) else bif !(a1.snd.snd.fst.fst == a2.snd.snd.fst.fst && (a1.snd.snd.fst.snd.fst.fst == a2.snd.snd.fst.snd.fst.fst && (a1.snd.snd.fst.snd.fst.snd == a2.snd.snd.fst.snd.fst.snd && Bool.true) && (a1.snd.snd.fst.snd.snd.fst == a2.snd.snd.fst.snd.snd.fst && (a1.snd.snd.fst.snd.snd.snd.fst.fst == a2.snd.snd.fst.snd.snd.snd.fst.fst && (a1.snd.snd.fst.snd.snd.snd.fst.snd == a2.snd.snd.fst.snd.snd.snd.fst.snd && Bool.true) && (a1.snd.snd.fst.snd.snd.snd.snd.fst == a2.snd.snd.fst.snd.snd.snd.snd.fst && (a1.snd.snd.fst.snd.snd.snd.snd.snd == a2.snd.snd.fst.snd.snd.snd.snd.snd && Bool.true) && Bool.true))))) then Option.some (Bool.false, ()) else bif !(a1.snd.snd.snd.fst.fst == a2.snd.snd.snd.fst.fst && (a1.snd.snd.snd.fst.snd.fst == a2.snd.snd.snd.fst.snd.fst && (a1.snd.snd.snd.fst.snd.snd == a2.snd.snd.snd.fst.snd.snd && Bool.true))) then Option.some (Bool.false, ()) else bif (↑(List.length a1.snd.snd.snd.snd) : Int) != (↑(List.length a2.snd.snd.snd.snd) : Int) then Option.some (Bool.false, ()) else (R_100_4 (((), (), (0 : Int), ()), (a1, ()), (a2, ()), ())).bind fun v1 => Sum.elim (fun v2 => Option.some (Bool.true, ())) (fun v3 => Option.some (v3.fst.fst, ())) v1
theorem f_100 (x : Ps [.ty tThing, .ty tThing]) : funcT CT T_100 [.bool] (drT CT T_100) lp_100 Tryz.f93 c_100 (encPs [.ty tThing, .ty tThing] x) = F_100 x.1 x.2.1 := by kernel_rfl
noncomputable def E_100 : Ent := .fn 93 [] ⟨[.ty tThing, .ty tThing], [.bool], fun x => F_100 x.1 x.2.1, false⟩
theorem e_100 : E_100.Ok CT.P := Ent.ofFn CT_ok T_100_ok hf_100 hb_100 lp_100_ok f_100
noncomputable def c_57 : Code := Tryz.f42.body.getD .skip
theorem hb_57 : Tryz.f42.body = some c_57 := by kernel_rfl
theorem hf_57 : CT.P.funcs[42]? = some Tryz.f42 := by kernel_rfl
noncomputable def T_57 : Tb := mkTb tyT mpT [E_100]
theorem T_57_ok : T_57.Ok CT.P := mkTb_ok (⟨e_100, trivial⟩)
noncomputable def l_57_4 : Code := atLoop c_57 4
noncomputable abbrev LD_57_4 : LayD := ⟨46, [(2, .ptr 0), (3, .ptr 1), (5, .data I)], [.var 37 [.data tScene], .var 37 [.data tScene]], fun s => [slotR s 2, slotR s 3]⟩
noncomputable abbrev LA_57_4 : LayD := ⟨46, [], [], fun _ => []⟩
noncomputable abbrev LB_57_4 : LayD := ⟨46, [(4, .data .bool)], [], fun _ => []⟩
noncomputable def EX_57_4 : Exits 0 LA_57_4.El LB_57_4.El := ⟨.exit 0, LA_57_4.lay [], .ret, LB_57_4.lay []⟩
noncomputable def lpi_57_4 {β : Type} : LpT β := fun _ _ _ => none
theorem lpi_57_4_ok {β : Type} : LpTOk CT (lpi_57_4 (β := β)) (loopsOf l_57_4) := by
  have h : loopsOf l_57_4 = [] := by kernel_rfl
  rw [h]
  exact LpTOk.nil
noncomputable def G_57_4 (r5 : Ty.El I) (b0 : Ty.El tScene × Unit) (b1 : Ty.El tScene × Unit) : Option (LD_57_4.El ⊕ (LA_57_4.El ⊕ LB_57_4.El)) := bif Decidable.decide (r5 < (↑(List.length b0.fst.snd.snd) : Int)) then bif Decidable.decide ((0 : Int) ≤ r5 ∧ r5 < (↑(List.length b0.fst.snd.snd) : Int)) then bif Decidable.decide ((0 : Int) ≤ r5 ∧ r5 < (↑(List.length b1.fst.snd.snd) : Int)) then (F_100 (List.getD b0.fst.snd.snd (Int.toNat r5) Go.DI.S.tThing.dflt) (List.getD b1.fst.snd.snd (Int.toNat r5) Go.DI.S.tThing.dflt)).bind fun v2 => bif !v2.fst then Option.some (Sum.inr (Sum.inr ((Bool.false, ()), ()))) else Option.some (Sum.inl (((), (), Go.IntKind.i64.wrap (r5 + (1 : Int)), ()), (b0.fst, ()), (b1.fst, ()), ())) else Option.none else Option.none else Option.some (Sum.inr (Sum.inl ((), ())))
theorem g_57_4 (x : LD_57_4.El) : codeT CT T_57 (drT CT T_57) lpi_57_4 l_57_4 (LD_57_4.enc x) (bodyK (LD_57_4.lay []) EX_57_4) = G_57_4 x.1.2.2.1 x.2.1 x.2.2.1 := by kernel_rfl
noncomputable def R_57_4 : LD_57_4.El → Option (LA_57_4.El ⊕ LB_57_4.El) := roundsT (fun x => G_57_4 x.1.2.2.1 x.2.1 x.2.2.1) fuel
theorem r_57_4 : ∀ x y, R_57_4 x = some y → CL CT l_57_4 (LD_57_4.enc x) (Sum.elim (fun _ => EX_57_4.xa) (fun _ => EX_57_4.xb) y) (Sum.elim EX_57_4.la.enc EX_57_4.lb.enc y) :=
  rounds_ok (L := LD_57_4.lay []) (E := EX_57_4) CT_ok T_57_ok (drT_ok CT_ok T_57_ok) lpi_57_4_ok g_57_4 rfl rfl (fun v h => by have hh : (.exit 0 : AX) = .pan v := h; cases hh) (fun v h => by have hh : (.ret : AX) = .pan v := h; cases hh) fuel
noncomputable def lp_57 {β : Type} : LpT β := fun k s K => if Nat.beq k 4 then lpOne (LD_57_4.lay []) EX_57_4 R_57_4 s K else none
theorem lp_57_ok {β : Type} : LpTOk CT (lp_57 (β := β)) (loopsOf c_57) := by
  have h : loopsOf c_57 = [(4, l_57_4)] := by kernel_rfl
  rw [h]
  exact LpTOk.cons (fun s K z h => lpOne_ok r_57_4 h) (LpTOk.nil)
noncomputable def F_57 (a1 : Ty.El tScene) (a2 : Ty.El tScene) : Option (Els [.bool]) := bif !(a1.fst.fst == a2.fst.fst && (a1.fst.snd == a2.fst.snd && Bool.true)) then Option.some (Bool.false, ()) else bif a1.snd.fst != a2.snd.fst then Option.some (Bool.false, ()) else bif (↑(List.length a1.snd.snd) : Int) != (↑(List.length a2.snd.snd) : Int) then Option.some (Bool.false, ()) else (R_57_4 (((), (), (0 : Int), ()), (a1, ()), (a2, ()), ())).bind fun v1 => Sum.elim (fun v2 => Option.some (Bool.true, ())) (fun v3 => Option.some (v3.fst.fst, ())) v1
theorem f_57 (x : Ps [.ty tScene, .ty tScene]) : funcT CT T_57 [.bool] (drT CT T_57) lp_57 Tryz.f42 c_57 (encPs [.ty tScene, .ty tScene] x) = F_57 x.1 x.2.1 := by kernel_rfl
noncomputable def E_57 : Ent := .fn 42 [] ⟨[.ty tScene, .ty tScene], [.bool], fun x => F_57 x.1 x.2.1, false⟩
theorem e_57 : E_57.Ok CT.P := Ent.ofFn CT_ok T_57_ok hf_57 hb_57 lp_57_ok f_57
noncomputable def c_24 : Code := Tryz.f11.body.getD .skip
theorem hb_24 : Tryz.f11.body = some c_24 := by kernel_rfl
theorem hf_24 : CT.P.funcs[11]? = some Tryz.f11 := by kernel_rfl
noncomputable def T_24 : Tb := mkTb tyT mpT [E_25, E_57]
theorem T_24_ok : T_24.Ok CT.P := mkTb_ok (⟨e_25, e_57, trivial⟩)
noncomputable def lp_24 {β : Type} : LpT β := fun _ _ _ => none
theorem lp_24_ok {β : Type} : LpTOk CT (lp_24 (β := β)) (loopsOf c_24) := by
  have h : loopsOf c_24 = [] := by kernel_rfl
  rw [h]
  exact LpTOk.nil
noncomputable def F_24 (a1 : Ty.El tScene) (a2 : Ty.El tScene) : Option (Els [.bool]) := (F_25 a1).bind fun v2 => (F_57 v2.fst a2).bind fun v4 => Option.some (v4.fst, ())
theorem f_24 (x : Ps [.ty tScene, .ty tScene]) : funcT CT T_24 [.bool] (drT CT T_24) lp_24 Tryz.f11 c_24 (encPs [.ty tScene, .ty tScene] x) = F_24 x.1 x.2.1 := by kernel_rfl
noncomputable def E_24 : Ent := .fn 11 [] ⟨[.ty tScene, .ty tScene], [.bool], fun x => F_24 x.1 x.2.1, false⟩
theorem e_24 : E_24.Ok CT.P := Ent.ofFn CT_ok T_24_ok hf_24 hb_24 lp_24_ok f_24
end Go.DI.S
