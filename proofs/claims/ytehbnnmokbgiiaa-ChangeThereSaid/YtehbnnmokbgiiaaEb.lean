import Derived.Test.YtehbnnmokbgiiaaEa
/- Reading is writing backwards; rising lists. No conditions. -/
/-! What reading numbers, things and scenes comes to. -/
set_option linter.unusedVariables false
set_option linter.unusedSimpArgs false
set_option maxRecDepth 100000
namespace Go.DI.S
open Go.Proofs

theorem u64w (n : Int) : IntKind.u64.wrap n = n % 18446744073709551616 := by simp [IntKind.wrap, IntKind.bits, IntKind.signed]
theorem u8w (n : Int) : IntKind.u8.wrap n = n % 256 := by simp [IntKind.wrap, IntKind.bits, IntKind.signed]
/-- One byte more, in numbers. -/
theorem byteIn_eq (n : Int) (b : UInt8) : byteIn n b = (n * 256 + b.toNat) % 18446744073709551616 := by
  unfold byteIn
  have e1 : (2 : Int) ^ min (Int.toNat 8) IntKind.u64.bits = 256 := by decide
  have e2 : IntKind.u64.bits = 64 := rfl
  rw [e1, e2, u64w, u64w, u64w, BitVec.toNat_or, BitVec.toNat_ofInt, BitVec.toNat_ofInt]
  have hb : b.toNat < 256 := b.toNat_lt
  have e3 : ((2 ^ 64 : Nat) : Int) = 18446744073709551616 := by decide
  rw [e3]
  have e4 : (((b.toNat : Int) % 18446744073709551616) % 18446744073709551616).toNat = b.toNat := by omega
  have e5 : ∃ m : Nat, (((n * 256) % 18446744073709551616) % 18446744073709551616).toNat = 2 ^ 8 * m ∧ (m : Int) = n % 72057594037927936 := ⟨(n % 72057594037927936).toNat, by omega, by omega⟩
  obtain ⟨m, h1, h2⟩ := e5
  rw [e4, h1, ← Nat.two_pow_add_eq_or_of_lt (by omega : b.toNat < 2 ^ 8)]
  omega
theorem emod_step (v m : Int) (hm : 0 < m) : v % (m * 256) = v % m + m * (v / m % 256) := by
  have h1 : v = m * (v / m) + v % m := (Int.mul_ediv_add_emod v m).symm
  have h2 : v / m = 256 * (v / m / 256) + v / m % 256 := (Int.mul_ediv_add_emod (v / m) 256).symm
  have h3 : 0 ≤ v % m := Int.emod_nonneg _ (by omega)
  have h4 : v % m < m := Int.emod_lt_of_pos _ hm
  generalize hr : v % m = r at *
  generalize hq : v / m = q at *
  generalize ha : q / 256 = a at *
  have h5 : 0 ≤ q % 256 := Int.emod_nonneg _ (by omega)
  have h6 : q % 256 < 256 := Int.emod_lt_of_pos _ (by omega)
  generalize hb : q % 256 = b at *
  have h7 : v = (r + m * b) + (m * 256) * a := by
    rw [h1, h2]
    rw [Int.mul_add, Int.mul_assoc, ← Int.mul_assoc m 256 a]
    omega
  have h8 : m * b ≤ m * 255 := Int.mul_le_mul_of_nonneg_left (by omega) (by omega)
  have h9 : 0 ≤ m * b := Int.mul_nonneg (by omega) h5
  rw [h7, Int.add_mul_emod_self_left]
  exact Int.emod_eq_of_lt (by omega) (by omega)
theorem byteI_eq (v : Int) {n : Nat} (hn : n ≤ 7) : byteI v n = v / (256 : Int) ^ n % 256 := by
  unfold byteI
  rw [wrap8 (by omega), u8w]
  have e1 : min (8 * (n : Int)).toNat 64 = 8 * n := by omega
  rw [e1, Int.pow_mul, show (2 : Int) ^ 8 = 256 from rfl, Int.fdiv_eq_ediv_of_nonneg _ (Int.le_of_lt (Int.pow_pos (by decide)))]
theorem val_num (v : Int) : ∀ (n : Nat), n ≤ 8 → ∀ acc : Int, 0 ≤ acc → acc < 18446744073709551616 → (toS (numI v n)).foldl byteIn acc = (acc * (256 : Int) ^ n + v % (256 : Int) ^ n) % 18446744073709551616
  | 0, hn, acc, h1, h2 => by
    simp only [numI, toS, List.map_nil, List.foldl_nil, Int.pow_zero, Int.mul_one, Int.emod_one, Int.add_zero]
    omega
  | n + 1, hn, acc, h1, h2 => by
    have hb0 : 0 ≤ byteI v n := by rw [byteI_eq v (by omega)]; omega
    have hb1 : byteI v n < 256 := by rw [byteI_eq v (by omega)]; omega
    have hbt : ((UInt8.ofNat (byteI v n).toNat).toNat : Int) = byteI v n := by
      rw [UInt8.toNat_ofNat']
      omega
    show (toS (numI v n)).foldl byteIn (byteIn acc (UInt8.ofNat (byteI v n).toNat)) = _
    rw [val_num v n (by omega) _ (by rw [byteIn_eq]; omega) (by rw [byteIn_eq]; omega), byteIn_eq, hbt, Int.pow_succ, emod_step v _ (Int.pow_pos (by decide)), byteI_eq v (by omega)]
    generalize v / (256 : Int) ^ n % 256 = b
    generalize v % (256 : Int) ^ n = r
    generalize (256 : Int) ^ n = m
    rw [Int.add_emod, Int.mul_emod, Int.emod_emod, ← Int.mul_emod, ← Int.add_emod]
    congr 1
    rw [Int.add_mul, Int.mul_comm m 256, ← Int.mul_assoc, Int.mul_comm b m]
    omega

/-- A number that so many bytes hold. -/
def Fits (v : Int) (n : Nat) : Prop := (n = 8 ∧ -9223372036854775808 ≤ v ∧ v ≤ 9223372036854775807) ∨ (n ≤ 7 ∧ 0 ≤ v ∧ v < (256 : Int) ^ n)
theorem val_of {v : Int} {n : Nat} (h : Fits v n) : IntKind.i64.wrap ((toS (numI v n)).foldl byteIn 0) = v := by
  have hn : n ≤ 8 := by rcases h with ⟨h, _⟩ | ⟨h, _⟩ <;> omega
  rw [val_num v n hn 0 (by omega) (by omega), Int.zero_mul, Int.zero_add]
  rcases h with ⟨rfl, h1, h2⟩ | ⟨h1, h2, h3⟩
  · rw [show (256 : Int) ^ 8 = 18446744073709551616 from rfl, IntKind.wrap_i64]
    omega
  · rw [Int.emod_eq_of_lt h2 h3]
    have h4 : (256 : Int) ^ n ≤ 72057594037927936 := by
      have : n = 0 ∨ n = 1 ∨ n = 2 ∨ n = 3 ∨ n = 4 ∨ n = 5 ∨ n = 6 ∨ n = 7 := by omega
      rcases this with rfl | rfl | rfl | rfl | rfl | rfl | rfl | rfl <;> decide
    rw [Int.emod_eq_of_lt h2 (by omega)]
    exact wrap64 (by omega) (by omega)
theorem toS_len (l : List Int) : (toS l).length = l.length := by simp [toS]
theorem toS_app (l m : List Int) : toS (l ++ m) = toS l ++ toS m := by simp [toS]
theorem v_62 (l : List UInt8) (hl : l.length ≤ 1000000000) : F_62 l = some ((IntKind.i64.wrap (l.foldl byteIn 0), ()) : Els [I]) := by
  have h := fold_all (G := fun x => G_62_3 x.1.1 x.1.2.1 x.1.2.2.1 x.1.2.2.2.1) (m := fuel) l byteIn (fun j a => ((l, a, (l.length : Int), (j : Int), ()), ())) (fun a => .inl ((a, ()), ())) (fun j b a ha => ?_) (fun a => ?_) (fuel_lt hl) 0
  · unfold F_62 R_62_3
    rw [show ((0 : Int)) = ((0 : Nat) : Int) from rfl]
    rw [show ((0 : Int)) = ((0 : Nat) : Int) from rfl] at h
    rw [h]
    rfl
  · have hk := len_of ha
    simp only [G_62_3, dec_lt hk, dec_in hk, cond_true, getD_of ha, wrap_up hk (by omega)]
  · simp only [G_62_3, dec_end, cond_false]
theorem r_104 (l : List UInt8) (hl : l.length ≤ 1000000000) (s : List UInt8) (b : Bool) : R_104_4 (((), (0 : Int), l, (l.length : Int), (0 : Int), ()), (s, b, ()), ()) = some (.inl (((), l.foldl byteIn 0, ()), (s, b, ()), ())) := by
  have h := fold_all (G := fun x => G_104_4 x.1.2.1 x.1.2.2.1 x.1.2.2.2.1 x.1.2.2.2.2.1 x.2.1) (m := fuel) l byteIn (fun j a => (((), a, l, (l.length : Int), (j : Int), ()), (s, b, ()), ())) (fun a => .inl (((), a, ()), (s, b, ()), ())) (fun j c a ha => ?_) (fun a => ?_) (fuel_lt hl) 0
  · exact h
  · have hk := len_of ha
    simp only [G_104_4, dec_lt hk, dec_in hk, cond_true, getD_of ha, wrap_up hk (by omega)]
  · simp only [G_104_4, dec_end, cond_false]
theorem v_131 (l r : List UInt8) {n : Nat} (hn : l.length = n) : F_131 (n : Int) (l ++ r, false, ()) = some ((l, ()), (r, false, ()), ()) := by
  subst hn
  unfold F_131
  have h1 : ¬ ((l.length : Int) > ((l ++ r).length : Int)) := by simp; omega
  have h2 : (0 : Int) ≤ (l.length : Int) ∧ (l.length : Int) ≤ ((l ++ r).length : Int) := by simp; omega
  simp only [cond_false, decide_eq_false h1, decide_eq_true h2, cond_true]
  simp only [Int.toNat_natCast, Nat.sub_zero, List.drop_zero, List.take_left, List.drop_left, List.length_append, Nat.add_sub_cancel_left, List.take_length]
/-- A number is read as it was written. -/
theorem v_104 {v : Int} {n : Nat} (h : Fits v n) (r : List UInt8) : F_104 (n : Int) (toS (numI v n) ++ r, false, ()) = some ((v, ()), (r, false, ()), ()) := by
  have hn : n ≤ 8 := by rcases h with ⟨h, _⟩ | ⟨h, _⟩ <;> omega
  have hlen : (toS (numI v n)).length = n := by rw [toS_len, numI_len]
  unfold F_104
  simp only [v_131 _ r hlen, Option.bind_some]
  rw [r_104 _ (by omega)]
  simp only [Option.bind_some, Sum.elim_inl, val_of h]
theorem v_105 (a : Vec) (h1 : Fits a.1 8) (h2 : Fits a.2 8) (r : List UInt8) : F_105 (toS (vecI a) ++ r, false, ()) = some ((a, ()), (r, false, ()), ()) := by
  unfold F_105 vecI
  simp only [toS_app, List.append_assoc]
  have e1 := v_104 h1 (toS (numI a.2 8) ++ r)
  have e2 := v_104 h2 r
  rw [show ((8 : Nat) : Int) = 8 from rfl] at e1 e2
  simp only [e1, Option.bind_some, e2]
theorem v_60r (v : Int) : ∀ (n : Nat) (row : List Int) (f : Nat), n ≤ 1000 → n < f → row.length + n ≤ 1000000000 →
    roundsT (fun x => G_60_3 x.1.1 x.1.2.1 x.2.1) f ((v, (n : Int) - 1, (), ()), row, ()) = some (.inl (((), ()), row ++ numI v n, ()))
  | 0, row, f, hn, hf, hr => by
    obtain ⟨f, rfl⟩ : ∃ k, f = k + 1 := ⟨f - 1, by omega⟩
    refine rounds_out ?_ f
    simp only [G_60_3]
    rw [decide_eq_false (by omega : ¬ (((0 : Nat) : Int) - 1 ≥ 0)), cond_false]
    simp [numI]
  | n + 1, row, f, hn, hf, hr => by
    obtain ⟨f, rfl⟩ : ∃ k, f = k + 1 := ⟨f - 1, by omega⟩
    have e : ((n + 1 : Nat) : Int) - 1 = (n : Int) := by omega
    rw [e, rounds_in (x' := ((v, (n : Int) - 1, (), ()), row ++ [byteI v n], ())) ?_ f]
    · rw [v_60r v n _ f (by omega) (by omega) (by simp; omega)]
      simp [numI]
    · simp only [G_60_3]
      rw [decide_eq_true (by omega : (n : Int) ≥ 0), cond_true, wrap8 (by omega), decide_eq_false (by omega), cond_false, show Nat.ble ((row.length + _) * 1) 70368744177664 = true from Nat.ble_eq_true_of_le (by simp; omega), cond_true,
        wrap64 (x := (n : Int) - 1) (by omega) (by omega)]
      unfold byteI
      rw [wrap8 (by omega)]
theorem v_60 (v : Int) (n : Nat) (hn : n ≤ 1000) : F_60 v (n : Int) = some ((toS (numI v n), ()) : Els [.str]) := by
  unfold F_60 R_60_3
  rw [wrap64 (x := (n : Int) - 1) (by omega) (by omega), v_60r v n [] fuel hn (fuel_lt (by omega)) (by simp; omega)]
  rfl
end Go.DI.S

/-! Reading a thing, and a scene. -/
set_option linter.unusedVariables false
set_option linter.unusedSimpArgs false
set_option maxRecDepth 100000
namespace Go.DI.S
open Go.Proofs

def noBody : Body := ((0 : Int), ((0 : Int), (0 : Int)), (0 : Int), ((0 : Int), (0 : Int)), (0 : Int), (0 : Int))
def noJoint : Joint := ((0 : Int), (0 : Int), (0 : Int))
theorem v_86 (a : Int) : F_86 a = some ((decide (a ≥ 1) && decide (a ≤ 1000000), ()) : Els [.bool]) := by
  unfold F_86
  cases decide (a ≥ (1 : Int)) <;> rfl
theorem shape_of {b : Body} (h : F_88 b = some ((true, ()) : Els [.bool])) : b.1 = 1 ∨ b.1 = 2 := by
  by_cases h1 : b.1 = 1
  · exact .inl h1
  · by_cases h2 : b.1 = 2
    · exact .inr h2
    · exfalso
      have e : F_125 b.1 = some (([], ()) : Els [.str]) := by
        unfold F_125
        rw [show (b.1 == (1 : Int)) = false from beq_eq_false_iff_ne.2 h1, show (b.1 == (2 : Int)) = false from beq_eq_false_iff_ne.2 h2]
        rfl
      unfold F_88 at h
      rw [e] at h
      simp only [Option.bind_some] at h
      rw [show ((([] : List UInt8)) == []) = true from rfl] at h
      simp at h
theorem and_of {c : Bool} {x : Option (Els [.bool])} (h : (bif c then x else some (false, ())) = some (true, ())) : c = true ∧ x = some (true, ()) := by
  cases c with
  | true => exact ⟨rfl, h⟩
  | false => cases h
theorem not_of {c : Bool} {x : Option (Els [.bool])} (h : (bif !c then some (false, ()) else x) = some (true, ())) : c = true ∧ x = some (true, ()) := by
  cases c with
  | true => exact ⟨rfl, h⟩
  | false => cases h
theorem bool_of {c : Bool} (h : some ((c, ()) : Els [.bool]) = some (true, ())) : c = true := by cases h; rfl
theorem pass_of {x : Option (Els [.bool])} (h : (x.bind fun v => some ((v.1, ()) : Els [.bool])) = some (true, ())) : x = some (true, ()) := by
  cases x with
  | none => cases h
  | some y => obtain ⟨b, u⟩ := y; cases h; rfl
/-- What a right thing is. -/
theorem rt_parts {t : Thing} (hl : t.2.2.2.2.length ≤ 1000000000) (h : rt t = true) : (1 ≤ t.1 ∧ t.1 ≤ 1000000) ∧
    ((t.2.1 = 1 ∧ t.2.2.2.1 = noJoint ∧ ins t = [] ∧ (t.2.2.1.1 = 1 ∨ t.2.2.1.1 = 2)) ∨
     (t.2.1 = 2 ∧ t.2.2.1 = noBody ∧ ins t = [] ∧ (1 ≤ t.2.2.2.1.1 ∧ t.2.2.2.1.1 ≤ 1000000) ∧ (1 ≤ t.2.2.2.1.2.1 ∧ t.2.2.2.1.2.1 ≤ 1000000) ∧ t.2.2.2.1.1 ≠ t.2.2.2.1.2.1 ∧ 0 ≤ t.2.2.2.1.2.2 ∧ t.2.2.2.1.2.2 ≤ 4294967296000) ∨
     (t.2.1 = 3 ∧ t.2.2.1 = noBody ∧ t.2.2.2.1 = noJoint ∧ F_89 t = some ((true, ()) : Els [.bool]))) := by
  have hv := v_45 t hl
  rw [h] at hv
  obtain ⟨id, kind, ⟨b1, ⟨b2, b3⟩, b4, ⟨b5, b6⟩, b7, b8⟩, ⟨j1, j2, j3⟩, l⟩ := t
  unfold F_45 at hv
  simp only [v_86, Option.bind_some] at hv
  obtain ⟨k1, hv⟩ := not_of hv
  simp only [Bool.and_eq_true, decide_eq_true_eq] at k1
  refine ⟨k1, ?_⟩
  unfold F_87 at hv
  have hlen : ∀ {l : List Int}, (((l.length : Nat) : Int) == 0) = true → l = [] := by
    intro l h
    have : ((l.length : Nat) : Int) = 0 := by simpa using h
    exact List.eq_nil_of_length_eq_zero (by omega)
  by_cases c1 : kind = 1
  · subst c1
    refine .inl ?_
    simp only [beq_self_eq_true, cond_true] at hv
    cases hj : (j1 == (0 : Int) && (j2 == (0 : Int) && (j3 == (0 : Int) && true))) with
    | false => rw [hj] at hv; cases hv
    | true =>
      rw [hj] at hv
      simp only [cond_true, Option.bind_some] at hv
      obtain ⟨k2, hv⟩ := not_of hv
      have k3 := pass_of hv
      simp only [Bool.and_eq_true, beq_iff_eq, Bool.and_true] at hj
      obtain ⟨rfl, rfl, rfl⟩ := hj
      exact ⟨rfl, rfl, hlen k2, shape_of k3⟩
  · by_cases c2 : kind = 2
    · subst c2
      refine .inr (.inl ?_)
      simp only [show ((2 : Int) == 1) = false from rfl, beq_self_eq_true, cond_true, cond_false] at hv
      cases hj : (b1 == (0 : Int) && (b2 == (0 : Int) && (b3 == (0 : Int) && true) && (b4 == (0 : Int) && (b5 == (0 : Int) && (b6 == (0 : Int) && true) && (b7 == (0 : Int) && (b8 == (0 : Int) && true) && true))))) with
      | false => rw [hj] at hv; cases hv
      | true =>
        rw [hj] at hv
        simp only [cond_true, Option.bind_some] at hv
        obtain ⟨k2, hv⟩ := not_of hv
        obtain ⟨k3, hv⟩ := and_of hv
        obtain ⟨k4, hv⟩ := and_of hv
        obtain ⟨k5, hv⟩ := and_of hv
        obtain ⟨k6, hv⟩ := and_of hv
        have k7 := bool_of hv
        simp only [Bool.and_eq_true, beq_iff_eq, Bool.and_true] at hj
        obtain ⟨rfl, ⟨rfl, rfl⟩, rfl, ⟨rfl, rfl⟩, rfl, rfl⟩ := hj
        simp only [Bool.and_eq_true, decide_eq_true_eq, bne_iff_ne, ne_eq] at k3 k4 k5 k6 k7
        exact ⟨rfl, rfl, hlen k2, k3, k4, k5, k6, k7⟩
    · refine .inr (.inr ?_)
      simp only [show (kind == (1 : Int)) = false from beq_eq_false_iff_ne.2 c1, show (kind == (2 : Int)) = false from beq_eq_false_iff_ne.2 c2, cond_false] at hv
      cases hj : (b1 == (0 : Int) && (b2 == (0 : Int) && (b3 == (0 : Int) && true) && (b4 == (0 : Int) && (b5 == (0 : Int) && (b6 == (0 : Int) && true) && (b7 == (0 : Int) && (b8 == (0 : Int) && true) && true))))) with
      | false => rw [hj] at hv; cases hv
      | true =>
        rw [hj] at hv
        simp only [cond_true, Option.bind_some] at hv
        obtain ⟨k2, hv⟩ := not_of hv
        obtain ⟨k3, hv⟩ := and_of hv
        have k4 := pass_of hv
        simp only [Bool.and_eq_true, beq_iff_eq, Bool.and_true] at hj k2 k3
        obtain ⟨rfl, ⟨rfl, rfl⟩, rfl, ⟨rfl, rfl⟩, rfl, rfl⟩ := hj
        obtain ⟨rfl, rfl, rfl⟩ := k2
        exact ⟨k3, rfl, rfl, k4⟩
/-- The members of a right group. -/
theorem mem_89 {t : Thing} (hl : t.2.2.2.2.length ≤ 1000000000) (h : F_89 t = some ((true, ()) : Els [.bool])) : (∀ n ∈ ins t, 1 ≤ n ∧ n ≤ 1000000) ∧ (ins t).length ≤ 8 := by
  have key : ∀ (l : List Int) (k : Nat) (prev : Int) (m : Nat), (ins t).drop k = l → l.length < m → ∀ y, roundsT (fun x => G_89_3 x.1.2.1 x.1.2.2.1 x.1.2.2.2.1 x.1.2.2.2.2.1 x.2.1) m (((), prev, ins t, ((ins t).length : Int), (k : Int), ()), (t, ()), ()) = some y →
      (y = .inl (((), ()), (t, ()), ()) ∧ ∀ n ∈ l, 1 ≤ n ∧ n ≤ 1000000) ∨ y = .inr ((false, ()), ()) := by
    intro l
    induction l with
    | nil =>
      intro k prev m hd hm y hy
      obtain ⟨m, rfl⟩ : ∃ j, m = j + 1 := ⟨m - 1, by simp at hm; omega⟩
      have hk : (ins t).length ≤ k := by simpa using hd
      rw [rounds_out (y := .inl (((), ()), (t, ()), ())) (by simp only [G_89_3]; rw [decide_eq_false (by omega : ¬ ((k : Int) < ((ins t).length : Int)))]; rfl)] at hy
      exact .inl ⟨(Option.some.inj hy).symm, by simp⟩
    | cons a l ih =>
      intro k prev m hd hm y hy
      obtain ⟨m, rfl⟩ : ∃ j, m = j + 1 := ⟨m - 1, by simp at hm; omega⟩
      have hk : k < (ins t).length := by
        rcases Nat.lt_or_ge k (ins t).length with h | h
        · exact h
        · rw [List.drop_eq_nil_of_le h] at hd; cases hd
      have ha : (ins t)[k]? = some a := by rw [← List.head?_drop, hd]; rfl
      have hd' : (ins t).drop (k + 1) = l := by rw [← List.tail_drop, hd]; rfl
      have hG : G_89_3 prev (ins t) ((ins t).length : Int) (k : Int) (t, ()) = (bif decide (a ≤ prev) then some (.inr (.inr ((false, ()), ()))) else bif !(decide (a ≥ 1) && decide (a ≤ 1000000)) then some (.inr (.inr ((false, ()), ()))) else bif a == t.1 then some (.inr (.inr ((false, ()), ()))) else some (.inl (((), a, ins t, ((ins t).length : Int), ((k + 1 : Nat) : Int), ()), (t, ()), ()))) := by
        simp only [G_89_3, dec_lt hk, dec_in hk, cond_true, getD_of ha, wrap_up hk (by have : (ins t).length ≤ 1000000000 := hl; omega), v_86, Option.bind_some]
      have out : ∀ z, G_89_3 prev (ins t) ((ins t).length : Int) (k : Int) (t, ()) = some (.inr z) → y = z := by
        intro z hz
        rw [rounds_out hz] at hy
        exact (Option.some.inj hy).symm
      cases c1 : decide (a ≤ prev) with
      | true => rw [c1] at hG; exact .inr (out _ hG)
      | false =>
        rw [c1] at hG
        cases c2 : (decide (a ≥ 1) && decide (a ≤ 1000000)) with
        | false => rw [c2] at hG; exact .inr (out _ hG)
        | true =>
          rw [c2] at hG
          cases c3 : (a == t.1) with
          | true => rw [c3] at hG; exact .inr (out _ hG)
          | false =>
            rw [c3] at hG
            rw [rounds_in (x' := (((), a, ins t, ((ins t).length : Int), ((k + 1 : Nat) : Int), ()), (t, ()), ())) hG] at hy
            rcases ih (k + 1) a m hd' (by simp at hm; omega) y hy with ⟨h1, h2⟩ | h1
            · refine .inl ⟨h1, fun n hn => ?_⟩
              rcases List.mem_cons.1 hn with rfl | hn
              · simpa using c2
              · exact h2 n hn
            · exact .inr h1
  unfold F_89 R_89_3 at h
  obtain ⟨y, hy, h⟩ := Option.bind_eq_some_iff.1 h
  rcases key (ins t) 0 0 fuel rfl (fuel_lt hl) y hy with ⟨rfl, h2⟩ | rfl
  · refine ⟨h2, ?_⟩
    simp only [Sum.elim_inl] at h
    obtain ⟨k1, h⟩ := and_of h
    have := of_decide_eq_true (bool_of h)
    show (t.2.2.2.2).length ≤ 8
    omega
  · cases h

/-- What a thing holds is in range. -/
theorem fits64 {v : Int} (h : I.wf v) : Fits v 8 := by
  have h : (Lit.int IntKind.i64 v).wf = true := h
  simp only [Lit.wf, Bool.and_eq_true, decide_eq_true_eq] at h
  have e1 : IntKind.i64.min = -9223372036854775808 := by decide
  have e2 : IntKind.i64.max = 9223372036854775807 := by decide
  rw [e1, e2] at h
  exact .inl ⟨rfl, h.1, h.2⟩
theorem fits {v : Int} {n : Nat} (hn : n ≤ 7) (h1 : 0 ≤ v) (h2 : v < (256 : Int) ^ n) : Fits v n := .inr ⟨hn, h1, h2⟩
theorem fit1 {v : Int} (h1 : 0 ≤ v) (h2 : v < 256) : Fits v 1 := fits (by decide) h1 (by rw [show (256 : Int) ^ 1 = 256 from rfl]; exact h2)
theorem fit2 {v : Int} (h1 : 0 ≤ v) (h2 : v < 65536) : Fits v 2 := fits (by decide) h1 (by rw [show (256 : Int) ^ 2 = 65536 from rfl]; exact h2)
theorem fit4 {v : Int} (h1 : 0 ≤ v) (h2 : v < 4294967296) : Fits v 4 := fits (by decide) h1 (by rw [show (256 : Int) ^ 4 = 4294967296 from rfl]; exact h2)
/-- The members are read one by one. -/
theorem r_63 (s : List UInt8) (id kind : Int) (b : Body) (j : Joint) (r : List UInt8) : ∀ (l : List Int), (∀ n ∈ l, 1 ≤ n ∧ n ≤ 1000000) → ∀ (row : List Int) (m : Nat), row.length + l.length ≤ 1000000 → l.length < m →
    roundsT (fun x => G_63_18 x.1.1 x.1.2.2.2.2.1 x.2.1 x.2.2.1 x.2.2.2.1 x.2.2.2.2.1) m ((s, (), (), (), (l.length : Int), ()), (noThing, ()), (toS (insI l) ++ r, false, ()), (id, kind, b, j, (), ()), row, ()) =
      some (.inl ((s, (), (), (), ()), (noThing, ()), (r, false, ()), (id, kind, b, j, (), ()), row ++ l, ()))
  | [], _, row, m, h1, hm => by
    obtain ⟨m, rfl⟩ : ∃ k, m = k + 1 := ⟨m - 1, by simp at hm; omega⟩
    refine rounds_out ?_ m
    simp only [G_63_18]
    rw [decide_eq_false (by simp : ¬ ((([] : List Int).length : Int) > 0)), cond_false, List.append_nil]
    rfl
  | a :: l, hl, row, m, h1, hm => by
    obtain ⟨m, rfl⟩ : ∃ k, m = k + 1 := ⟨m - 1, by simp at hm; omega⟩
    have ha := hl a (by simp)
    have e1 := v_104 (fit4 (by omega : 0 ≤ a) (by omega)) (toS (insI l) ++ r)
    rw [show ((4 : Nat) : Int) = 4 from rfl] at e1
    have e2 : toS (insI (a :: l)) = toS (numI a 4) ++ toS (insI l) := by rw [← toS_app]; rfl
    simp only [List.length_cons] at h1 hm
    rw [rounds_in (x' := ((s, (), (), (), (l.length : Int), ()), (noThing, ()), (toS (insI l) ++ r, false, ()), (id, kind, b, j, (), ()), row ++ [a], ())) ?_ m]
    · rw [r_63 s id kind b j r l (fun n hn => hl n (by simp [hn])) (row ++ [a]) m (by simp; omega) (by omega), List.append_assoc]
      rfl
    · simp only [G_63_18]
      rw [decide_eq_true (by simp : (((a :: l).length : Nat) : Int) > 0), cond_true, e2, List.append_assoc, e1]
      simp only [Option.bind_some]
      rw [show Nat.ble ((row.length + [a].length) * 8) 70368744177664 = true from Nat.ble_eq_true_of_le (by simp; omega), cond_true, wrap64 (x := ((a :: l).length : Int) - 1) (by simp only [List.length_cons]; omega) (by simp only [List.length_cons]; omega)]
      have e3 : ((a :: l).length : Int) - 1 = (l.length : Int) := by simp
      rw [e3]
/-- A right thing's bytes are read as the thing. -/
theorem v_63 (t : Thing) (hw : tThing.wf t) (hl : t.2.2.2.2.length ≤ 1000000) (h : rt t = true) : F_63 (toS (putI t)) = some ((t, true, ()) : Els [tThing, .bool]) := by
  obtain ⟨hid, hp⟩ := rt_parts (by omega) h
  have h61 := v_61 t hl
  rw [h, cond_true] at h61
  have f1 : ∀ (v : Int), Fits v 1 → ∀ r, F_104 1 (toS (numI v 1) ++ r, false, ()) = some ((v, ()), (r, false, ()), ()) := fun v hv r => v_104 hv r
  have f4 : ∀ (v : Int), Fits v 4 → ∀ r, F_104 4 (toS (numI v 4) ++ r, false, ()) = some ((v, ()), (r, false, ()), ()) := fun v hv r => v_104 hv r
  have f8 : ∀ (v : Int), Fits v 8 → ∀ r, F_104 8 (toS (numI v 8) ++ r, false, ()) = some ((v, ()), (r, false, ()), ()) := fun v hv r => v_104 hv r
  generalize hs : toS (putI t) = s at *
  obtain ⟨(id : Int), (kind : Int), b, j, (l : List Int)⟩ := t
  have hid : (1 : Int) ≤ id ∧ id ≤ 1000000 := hid
  have hl : l.length ≤ 1000000 := hl
  obtain ⟨w1, w2, w3, w4, w5⟩ := hw
  have hs0 : s = toS (numI kind 1) ++ (toS (numI id 4) ++ toS (bif kind == (1 : Int) then bodyI b else bif kind == (2 : Int) then jointI j else bif kind == (3 : Int) then numI (l.length : Int) 1 ++ insI l else [])) := by
    rw [← hs, ← toS_app, ← toS_app]; rfl
  have hid4 : Fits id 4 := fit4 (by have := hid.1; omega) (by have := hid.2; omega)
  rcases hp with ⟨rfl, rfl, hi, hsh⟩ | ⟨rfl, rfl, hi, hA, hB, _, _, _⟩ | ⟨rfl, rfl, rfl, h89⟩
  · have hl0 : l = [] := hi
    subst hl0
    obtain ⟨b1, b2, b3, b4, b5⟩ := b
    obtain ⟨x1, x2, x3, x4, x5⟩ := w3
    have hs1 : s = toS (numI 1 1) ++ (toS (numI id 4) ++ (toS (numI b1 1) ++ (toS (vecI b2) ++ (toS (numI b3 8) ++ (toS (vecI b4) ++ (toS (vecI b5) ++ [])))))) := by
      rw [hs0]; simp only [beq_self_eq_true, cond_true, bodyI, toS_app, List.append_nil]
    unfold F_63
    rw [hs1, f1 1 (fit1 (by decide) (by decide))]
    simp only [Option.bind_some]
    rw [f4 id hid4]
    simp only [Option.bind_some, beq_self_eq_true, cond_true]
    rw [f1 b1 (by rcases hsh with h | h <;> (have h : b1 = _ := h; rw [h]; exact fit1 (by decide) (by decide)))]
    simp only [Option.bind_some]
    rw [v_105 b2 (fits64 x2.1) (fits64 x2.2)]
    simp only [Option.bind_some]
    rw [f8 b3 (fits64 x3)]
    simp only [Option.bind_some]
    rw [v_105 b4 (fits64 x4.1) (fits64 x4.2)]
    simp only [Option.bind_some]
    rw [v_105 b5 (fits64 x5.1) (fits64 x5.2)]
    simp only [Option.bind_some]
    rw [← hs1]
    have h61' : F_61 (id, 1, (b1, b2, b3, b4, b5), ((0 : Int), (0 : Int), (0 : Int)), []) = _ := h61
    rw [h61']
    simp only [Option.bind_some, cond_false, Bool.not_true, beq_self_eq_true]
    rfl
  · have hl0 : l = [] := hi
    subst hl0
    obtain ⟨(j1 : Int), (j2 : Int), (j3 : Int)⟩ := j
    obtain ⟨x1, x2, x3⟩ := w4
    have hA : 1 ≤ j1 ∧ j1 ≤ 1000000 := hA
    have hB : 1 ≤ j2 ∧ j2 ≤ 1000000 := hB
    have hs1 : s = toS (numI 2 1) ++ (toS (numI id 4) ++ (toS (numI j1 4) ++ (toS (numI j2 4) ++ (toS (numI j3 8) ++ [])))) := by
      rw [hs0]; simp only [show ((2 : Int) == 1) = false from rfl, beq_self_eq_true, cond_true, cond_false, jointI, toS_app, List.append_nil]
    unfold F_63
    rw [hs1, f1 2 (fit1 (by decide) (by decide))]
    simp only [Option.bind_some]
    rw [f4 id hid4]
    simp only [Option.bind_some, show ((2 : Int) == 1) = false from rfl, beq_self_eq_true, cond_true, cond_false]
    rw [f4 j1 (fit4 (by omega) (by omega))]
    simp only [Option.bind_some]
    rw [f4 j2 (fit4 (by omega) (by omega))]
    simp only [Option.bind_some]
    rw [f8 j3 (fits64 x3)]
    simp only [Option.bind_some]
    rw [← hs1]
    have h61' : F_61 (id, 2, ((0 : Int), ((0 : Int), (0 : Int)), (0 : Int), ((0 : Int), (0 : Int)), (0 : Int), (0 : Int)), (j1, j2, j3), []) = _ := h61
    rw [h61']
    simp only [Option.bind_some, cond_false, Bool.not_true, beq_self_eq_true]
    rfl
  · obtain ⟨hm, hm8⟩ := mem_89 (t := (id, 3, noBody, noJoint, l)) (by show l.length ≤ 1000000000; omega) h89
    have hm : ∀ n ∈ l, 1 ≤ n ∧ n ≤ 1000000 := hm
    have hm8 : l.length ≤ 8 := hm8
    have hs1 : s = toS (numI 3 1) ++ (toS (numI id 4) ++ (toS (numI (l.length : Int) 1) ++ (toS (insI l) ++ []))) := by
      rw [hs0]; simp only [show ((3 : Int) == 1) = false from rfl, show ((3 : Int) == 2) = false from rfl, beq_self_eq_true, cond_true, cond_false, toS_app, List.append_nil]
    unfold F_63
    rw [hs1, f1 3 (fit1 (by decide) (by decide))]
    simp only [Option.bind_some]
    rw [f4 id hid4]
    simp only [Option.bind_some, show ((3 : Int) == 1) = false from rfl, show ((3 : Int) == 2) = false from rfl, beq_self_eq_true, cond_true, cond_false]
    rw [f1 (l.length : Int) (fit1 (by omega) (by omega))]
    simp only [Option.bind_some]
    rw [← hs1]
    have hr := r_63 s id 3 noBody noJoint [] l hm [] fuel (by simp; omega) (fuel_lt (by omega))
    have hr' : R_63_18 ((s, (), (), (), (l.length : Int), ()), (((0 : Int), (0 : Int), ((0 : Int), ((0 : Int), (0 : Int)), (0 : Int), ((0 : Int), (0 : Int)), (0 : Int), (0 : Int)), ((0 : Int), (0 : Int), (0 : Int)), []), ()), (toS (insI l) ++ [], false, ()), (id, 3, ((0 : Int), ((0 : Int), (0 : Int)), (0 : Int), ((0 : Int), (0 : Int)), (0 : Int), (0 : Int)), ((0 : Int), (0 : Int), (0 : Int)), (), ()), [], ()) = _ := hr
    rw [hr']
    simp only [Option.bind_some, Sum.elim_inl]
    have h61' : F_61 (id, 3, noBody, noJoint, [] ++ l) = _ := h61
    rw [h61']
    simp only [Option.bind_some, cond_false, Bool.not_true, beq_self_eq_true]
    rfl
end Go.DI.S

/-! What lies in a thing; KinUps, plain. -/
set_option linter.unusedVariables false
set_option linter.unusedSimpArgs false
set_option maxRecDepth 100000
namespace Go.DI.S
open Go.Proofs

/-! ### contains; the group of a thing -/
/-! ### what lies in a thing -/
def inT (l : List Thing) : Nat → Int → List Int
  | 0, _ => []
  | f + 1, id => match idx l id with
    | some k => id :: (ins ((l[k]?).getD noThing)).flatMap (inT l f)
    | none => []
section
variable {s : Scene}
theorem idx_is {l : List Thing} {n : Int} (hn : Is l n) : ∃ (k : Nat) (t : Thing), idx l n = some k ∧ l[k]? = some t ∧ nid t = n := by
  obtain ⟨t, ht, e⟩ := hn
  cases hx : idx l n with
  | none =>
    unfold idx at hx
    rw [List.findIdx?_eq_none_iff] at hx
    have := hx t ht
    rw [e] at this
    simp at this
  | some k =>
    obtain ⟨t, h1, h2⟩ := idx_lt hx
    exact ⟨k, t, rfl, h1, h2⟩
theorem inT_succ {l : List Thing} {n : Int} (hn : Is l n) : ∃ t ∈ l, nid t = n ∧ ∀ f, inT l (f + 1) n = n :: (ins t).flatMap (inT l f) := by
  obtain ⟨k, t, h1, h2, h3⟩ := idx_is hn
  refine ⟨t, List.mem_of_getElem? h2, h3, fun f => ?_⟩
  show (match idx l n with | some k => n :: (ins ((l[k]?).getD noThing)).flatMap (inT l f) | none => []) = _
  rw [h1]
  show n :: (ins ((l[k]?).getD noThing)).flatMap (inT l f) = _
  rw [h2]; rfl
/-- Things of one number are one. -/
theorem Rt.one (h : Rt s) {t u : Thing} (ht : t ∈ s.2.2) (hu : u ∈ s.2.2) (e : nid t = nid u) : t = u := by
  obtain ⟨i, hi, rfl⟩ := List.mem_iff_getElem.1 ht
  obtain ⟨j, hj, rfl⟩ := List.mem_iff_getElem.1 hu
  rcases Nat.lt_trichotomy i j with h1 | h1 | h1
  · have := h.asc i j _ _ h1 (List.getElem?_eq_getElem hi) (List.getElem?_eq_getElem hj); omega
  · subst h1; rfl
  · have := h.asc j i _ _ h1 (List.getElem?_eq_getElem hj) (List.getElem?_eq_getElem hi); omega
theorem Rt.below (h : Rt s) (hs : Small s.2.2) : ∀ (f : Nat) (n : Int), Is s.2.2 n → ∀ x ∈ inT s.2.2 f n, Is s.2.2 x ∧ ∃ e, upn s.2.2 e x = n
  | 0, n, _, x, hx => by simp [inT] at hx
  | f + 1, n, hn, x, hx => by
    obtain ⟨t, ht, e, hf⟩ := inT_succ hn
    rw [hf f] at hx
    rcases List.mem_cons.1 hx with rfl | hx
    · exact ⟨hn, 0, rfl⟩
    · obtain ⟨m, hm, hx⟩ := List.mem_flatMap.1 hx
      obtain ⟨h1, e1, h2⟩ := h.below hs f m (h.member hs ht hm) x hx
      exact ⟨h1, e1 + 1, by rw [upn_succ, h2, grp_in h.apart ht hm, e]⟩
theorem nodup_flat {α : Type} (f : Int → List α) : ∀ (l : List Int), l.Nodup → (∀ a ∈ l, (f a).Nodup) → (∀ a ∈ l, ∀ b ∈ l, ∀ x, x ∈ f a → x ∈ f b → a = b) → (l.flatMap f).Nodup
  | [], _, _, _ => .nil
  | a :: l, hn, h1, h2 => by
    rw [List.flatMap_cons, List.nodup_append]
    obtain ⟨n1, n2⟩ := List.nodup_cons.1 hn
    refine ⟨h1 a List.mem_cons_self, nodup_flat f l n2 (fun b hb => h1 b (List.mem_cons_of_mem _ hb)) (fun b hb c hc => h2 b (List.mem_cons_of_mem _ hb) c (List.mem_cons_of_mem _ hc)), fun x hx y hy e => ?_⟩
    subst e
    obtain ⟨b, hb, hxb⟩ := List.mem_flatMap.1 hy
    exact n1 (h2 a List.mem_cons_self b (List.mem_cons_of_mem _ hb) x hx hxb ▸ hb)
theorem ins_nodup {l : List Thing} (h : Apart l) {t : Thing} (ht : t ∈ l) : (ins t).Nodup := by
  induction l with
  | nil => simp at ht
  | cons u l ih =>
    have h2 : (ins u ++ l.flatMap ins).Nodup := h
    rw [List.nodup_append] at h2
    rcases List.mem_cons.1 ht with rfl | ht
    · exact h2.1
    · exact ih h2.2.1 ht
theorem Rt.differ (h : Rt s) (hs : Small s.2.2) {n a b x : Int} (hn : Is s.2.2 n) (ga : grp s.2.2 a = n) (gb : grp s.2.2 b = n) {i j : Nat} (hij : i < j) (ha : upn s.2.2 i x = a) (hb : upn s.2.2 j x = b) : False := by
  obtain ⟨d, rfl⟩ : ∃ d, j = (d + 1) + i := ⟨j - i - 1, by omega⟩
  rw [upn_add, ha] at hb
  have h1 : upn s.2.2 d n = b := by rw [← ga]; exact hb
  have h2 : upn s.2.2 (d + 1) n = n := by rw [upn_succ, h1, gb]
  exact h.acyclic hs hn (d + 1) (by omega) h2
theorem Rt.once (h : Rt s) (hs : Small s.2.2) : ∀ (f : Nat) (n : Int), Is s.2.2 n → (inT s.2.2 f n).Nodup
  | 0, n, _ => .nil
  | f + 1, n, hn => by
    obtain ⟨t, ht, e, hf⟩ := inT_succ hn
    rw [hf f, List.nodup_cons]
    refine ⟨fun hx => ?_, nodup_flat _ _ (ins_nodup h.apart ht) (fun a ha => h.once hs f a (h.member hs ht ha)) fun a ha b hb x hxa hxb => ?_⟩
    · obtain ⟨m, hm, hx⟩ := List.mem_flatMap.1 hx
      obtain ⟨_, e1, h2⟩ := h.below hs f m (h.member hs ht hm) n hx
      refine h.acyclic hs hn (e1 + 1) (by omega) ?_
      rw [upn_succ, h2, grp_in h.apart ht hm, e]
    · obtain ⟨_, i, hi⟩ := h.below hs f a (h.member hs ht ha) x hxa
      obtain ⟨_, j, hj⟩ := h.below hs f b (h.member hs ht hb) x hxb
      have ga := (grp_in h.apart ht ha).trans e
      have gb := (grp_in h.apart ht hb).trans e
      rcases Nat.lt_trichotomy i j with h1 | h1 | h1
      · exact (h.differ hs hn ga gb h1 hi hj).elim
      · subst h1; rw [← hi, ← hj]
      · exact (h.differ hs hn gb ga h1 hj hi).elim
theorem Rt.few (h : Rt s) (hs : Small s.2.2) (f : Nat) {n : Int} (hn : Is s.2.2 n) : (inT s.2.2 f n).length ≤ 40 := by
  have h1 := nodup_len (inT s.2.2 f n) (s.2.2.map nid) (h.once hs f n hn) fun x hx => by
    obtain ⟨t, ht, e⟩ := (h.below hs f n hn x hx).1
    exact List.mem_map.2 ⟨t, ht, e⟩
  have := h.len
  simp at h1
  omega
/-- A thing lies in whatever is above it. -/
theorem Rt.lies (h : Rt s) (hs : Small s.2.2) {x : Int} (hx : Is s.2.2 x) : ∀ (k f : Nat), k < f → upn s.2.2 k x ≠ 0 → x ∈ inT s.2.2 f (upn s.2.2 k x)
  | 0, f, hf, _ => by
    obtain ⟨f, rfl⟩ : ∃ j, f = j + 1 := ⟨f - 1, by omega⟩
    obtain ⟨t, _, _, e⟩ := inT_succ hx
    show x ∈ inT s.2.2 (f + 1) x
    rw [e]; exact List.mem_cons_self
  | k + 1, f, hf, h0 => by
    obtain ⟨f, rfl⟩ : ∃ j, f = j + 1 := ⟨f - 1, by omega⟩
    rw [upn_succ] at h0 ⊢
    obtain ⟨u, hu, hm, e⟩ := grp_of h0
    have h1 : upn s.2.2 k x ≠ 0 := fun h2 => by
      rw [h2, h.grp0 hs] at h0; exact h0 rfl
    obtain ⟨t, ht, e2, e3⟩ := inT_succ ⟨u, hu, e⟩
    rw [e3 f]
    have : t = u := h.one ht hu (e2.trans e.symm)
    subst this
    exact List.mem_cons_of_mem _ (List.mem_flatMap.2 ⟨_, hm, h.lies hs hx k f (by omega) h1⟩)
/-- The first step that comes to an end. -/
theorem first_zero (p : Nat → Prop) [DecidablePred p] : ∀ n, p n → ∃ k, k ≤ n ∧ p k ∧ ∀ j, j < k → ¬ p j
  | 0, h => ⟨0, Nat.le_refl _, h, fun j hj => by omega⟩
  | n + 1, h => by
    by_cases hc : ∃ j, j ≤ n ∧ p j
    · obtain ⟨j, hj, hp⟩ := hc
      obtain ⟨k, hk, h1, h2⟩ := first_zero p j hp
      exact ⟨k, by omega, h1, h2⟩
    · exact ⟨n + 1, Nat.le_refl _, h, fun j hj hp => hc ⟨j, by omega, hp⟩⟩

/-! ### KinUps -/
end
end Go.DI.S

/-! What hangs on a thing; a scene without a thing; SceneUses, plain. -/
set_option linter.unusedVariables false
set_option linter.unusedSimpArgs false
set_option maxRecDepth 100000
namespace Go.DI.S
open Go.Proofs

/-- Does a thing hang on number n? -/
def useB (n : Int) (t : Thing) : Bool := (t.2.1 == (2 : Int) && (t.2.2.2.1.1 == n || t.2.2.2.1.2.1 == n)) || (ins t).contains n
def uses (l : List Thing) (n : Int) : List Int := (l.filter (useB n)).map nid
theorem uses_snoc (l : List Thing) (n : Int) (a : Thing) : uses (l ++ [a]) n = if useB n a then uses l n ++ [nid a] else uses l n := by
  unfold uses
  rw [List.filter_append, List.map_append]
  cases h : useB n a <;> simp [h]
theorem uses_len (l : List Thing) (n : Int) : (uses l n).length ≤ l.length := by
  unfold uses
  rw [List.length_map]
  exact List.length_filter_le _ _
theorem take_snoc {α : Type} {l : List α} {k : Nat} {a : α} (h : l[k]? = some a) : l.take (k + 1) = l.take k ++ [a] := by
  rw [List.take_add_one, h]; rfl
theorem set_same {α : Type} {l : List α} {k : Nat} {a : α} (h : l[k]? = some a) : l.set k a = l := by
  apply List.ext_getElem?
  intro j
  rw [List.getElem?_set]
  split
  · subst_vars; split
    · exact h.symm
    · rename_i h2; exact absurd (len_of h) h2
  · rfl
theorem v_47 (l : List Thing) (hs : Small l) : F_47 l = some l := by
  have h := find_loop (G := fun x => G_47_3 x.1.2.2.1 x.1.2.2.2.1 x.2.1) (m := fuel) l (fun _ => false) (fun k => (((), (), (l.length : Int), (k : Int), ()), l, ())) (fun _ => .inr ((), ())) (.inl (((), ()), l, ()))
    (fun k t ha => ?_) ?_ (fuel_lt hs.1)
  · have hnone : l.findIdx? (fun _ => false) = none := by rw [List.findIdx?_eq_none_iff]; intro _ _; rfl
    rw [hnone] at h
    unfold F_47 F_90 R_47_3
    rw [Nat.ble_eq_true_of_le (by have := hs.1; omega)]
    rw [show (0 : Int) = ((0 : Nat) : Int) from rfl]
    simp only [cond_true, Option.bind_some]
    rw [h]; rfl
  · have hk := len_of ha
    have h1 := hs.1
    simp only [G_47_3, dec_lt hk, dec_in hk, cond_true, getD_of ha]
    rw [v_46 _ (hs.2 t (List.mem_of_getElem? ha))]
    simp only [Option.bind_some, wrap_up hk (by omega : l.length ≤ 4611686018427387904)]
    have e : ((k : Nat) : Int).toNat = k := rfl
    rw [e]
    have e2 : l.set k (t.1, t.2.1, t.2.2.1, t.2.2.2.1, t.2.2.2.2) = l := set_same ha
    rw [e2]
    rfl
  · simp only [G_47_3, dec_end, cond_false]
section
variable {s : Scene}
theorem Rt.getB (h : Rt s) {t : Thing} (ht : t ∈ s.2.2) : getB s.2.2 (nid t) = (t, true) := by
  obtain ⟨k, u, h1, h2, h3⟩ := idx_is (l := s.2.2) ⟨t, ht, rfl⟩
  have : u = t := h.one (List.mem_of_getElem? h2) ht h3
  subst this
  unfold S.getB
  rw [h1]
  simp [h2]
theorem or_any (b : Bool) (n : Int) : ∀ (l : List Int), l.foldl (fun b m => b || m == n) b = (b || l.contains n) := by
  intro l
  induction l generalizing b with
  | nil => simp
  | cons a l ih =>
    rw [List.foldl_cons, ih, List.contains_cons, Bool.or_assoc]
    congr 2
    rw [Bool.eq_iff_iff]
    simp only [beq_iff_eq]
    exact eq_comm
theorem uses_of {l : List Thing} {n : Int} : ∀ m ∈ uses l n, ∃ x ∈ l, nid x = m ∧ useB n x = true := by
  intro m hm
  unfold uses at hm
  obtain ⟨x, hx, rfl⟩ := List.mem_map.1 hm
  obtain ⟨h1, h2⟩ := List.mem_filter.1 hx
  exact ⟨x, h1, rfl, h2⟩
end
end Go.DI.S

/-! The program's functions, told by functions on data. -/
set_option linter.unusedVariables false
set_option maxRecDepth 100000
set_option maxHeartbeats 0
namespace Go.DI.S
open Go.Proofs
/-! ### 5: maquette/maquettelaw19.SceneWithout -/
noncomputable def lp_5 {β : Type} : LpT β := fun _ _ _ => none
end Go.DI.S

/-! A scene with a thing, plain; SceneWithout. -/
set_option linter.unusedVariables false
set_option linter.unusedSimpArgs false
set_option maxRecDepth 100000
namespace Go.DI.S
open Go.Proofs

theorem bind_ofV {α β : Type} {a : Option α} {f : α → Option β} {x : α} {y : Option β} (h : a = some x) (k : f x = y) : a.bind f = y := by subst h; exact k
theorem yesV {α : Type} {c : Bool} {a b y : α} (h : c = true) (k : a = y) : (bif c then a else b) = y := by subst h; exact k
theorem noV {α : Type} {c : Bool} {a b y : α} (h : c = false) (k : b = y) : (bif c then a else b) = y := by subst h; exact k
/-! ### rising lists -/
theorem plain_conv {next : Int} : ∀ (l : List Thing) (a : Int), (∀ t ∈ l, a < nid t ∧ nid t < next ∧ rt t = true) → Asc l → (foldO (plainStep next) l a).isSome = true
  | [], a, _, _ => rfl
  | t :: l, a, h, ha => by
    obtain ⟨h1, h2, h3⟩ := h t (by simp)
    have hst : plainStep next a t = some (nid t) := by
      unfold plainStep
      exact noV (by rw [h3]; rfl) (noV (decide_eq_false (by omega)) (noV (decide_eq_false (by omega)) rfl))
    simp only [foldO, hst]
    refine plain_conv l (nid t) (fun u hu => ?_) (fun i j x y hij hi hj => ha (i + 1) (j + 1) x y (by omega) hi hj)
    obtain ⟨j, hj, rfl⟩ := List.mem_iff_getElem.1 hu
    exact ⟨ha 0 (j + 1) t _ (by omega) rfl (List.getElem?_eq_getElem hj), (h _ (by simp [hu])).2⟩
theorem Asc.one {l : List Thing} (h : Asc l) {i j : Nat} {t u : Thing} (hi : l[i]? = some t) (hj : l[j]? = some u) (e : nid t = nid u) : i = j := by
  rcases Nat.lt_trichotomy i j with h1 | h1 | h1
  · have := h i j _ _ h1 hi hj; omega
  · exact h1
  · have := h j i _ _ h1 hj hi; omega
theorem Asc.getB {l : List Thing} (h : Asc l) {t : Thing} (ht : t ∈ l) : S.getB l (nid t) = (t, true) := by
  obtain ⟨k, u, h1, h2, h3⟩ := idx_is (l := l) ⟨t, ht, rfl⟩
  obtain ⟨j, hj, rfl⟩ := List.mem_iff_getElem.1 ht
  have : k = j := h.one h2 (List.getElem?_eq_getElem hj) h3
  subst this
  unfold S.getB
  rw [h1]
  simp [List.getElem?_eq_getElem hj]
theorem getB_none {l : List Thing} {n : Int} (h : ¬ Is l n) : S.getB l n = (noThing, false) := by
  unfold S.getB
  cases hx : idx l n with
  | none => rfl
  | some k =>
    obtain ⟨t, h1, h2⟩ := idx_lt hx
    exact absurd ⟨t, List.mem_of_getElem? h1, h2⟩ h
theorem place_is {l : List Thing} {n : Int} {i : Nat} (ha : Asc l) (hp : Place l n i) (hn : Is l n) : ∃ t, l[i]? = some t ∧ nid t = n := by
  obtain ⟨t, ht, e⟩ := hn
  obtain ⟨k, hk, rfl⟩ := List.mem_iff_getElem.1 ht
  refine ⟨l[k], ?_, e⟩
  obtain ⟨p1, p2⟩ := hp
  obtain ⟨p2, p3⟩ := p2 ha
  have hik : i = k := by
    rcases Nat.lt_trichotomy i k with c | c | c
    · have hi : i < l.length := by omega
      have q1 := p3 i _ (Nat.le_refl _) (List.getElem?_eq_getElem hi)
      have q2 := ha i k _ _ c (List.getElem?_eq_getElem hi) (List.getElem?_eq_getElem hk)
      omega
    · exact c
    · have q1 := p2 k _ c (List.getElem?_eq_getElem hk)
      omega
  rw [hik]
  exact List.getElem?_eq_getElem hk
theorem has_of {s : Scene} (hs : Small s.2.2) (ha : Asc s.2.2) {n : Int} (hn : Is s.2.2 n) : hasB s n = true := by
  obtain ⟨i, b, h1, h2, h3⟩ := v_48 s n hs.1
  unfold hasB
  rw [h1]
  exact h3.2 (place_is ha h2 hn)
theorem kind_of {l : List Thing} {n : Int} (h : kindB l n = 1) : ∃ u ∈ l, nid u = n ∧ u.2.1 = 1 := by
  unfold kindB S.getB at h
  cases hx : idx l n with
  | none => rw [hx] at h; cases h
  | some k =>
    rw [hx] at h
    obtain ⟨t, h1, h2⟩ := idx_lt hx
    simp only [h1, Option.getD_some] at h
    exact ⟨t, List.mem_of_getElem? h1, h2, h⟩
theorem Asc.kind {l : List Thing} (ha : Asc l) {u : Thing} (hu : u ∈ l) : kindB l (nid u) = u.2.1 := by
  unfold kindB
  rw [ha.getB hu]

/-! ### a thing more, or another one in its place -/
structure Has (l : List Thing) (t : Thing) (l' : List Thing) : Prop where
  asc : Asc l'
  old : ∀ u ∈ l', u = t ∨ (u ∈ l ∧ nid u ≠ nid t)
  new : t ∈ l'
  keep : ∀ v ∈ l, nid v ≠ nid t → v ∈ l'
theorem ins_get {l : List Thing} {t : Thing} {i : Nat} (hi : i ≤ l.length) (k : Nat) : (l.take i ++ [t] ++ l.drop i)[k]? = if k < i then l[k]? else if k = i then some t else l[k - 1]? := by
  have hl : (l.take i).length = i := by simp; omega
  by_cases h1 : k < i
  · rw [if_pos h1, List.append_assoc, List.getElem?_append_left (by omega), List.getElem?_take_of_lt h1]
  · rw [if_neg h1]
    by_cases h2 : k = i
    · subst h2
      rw [if_pos rfl, List.append_assoc, List.getElem?_append_right (by omega), hl, Nat.sub_self]
      rfl
    · rw [if_neg h2, List.getElem?_append_right (by simp; omega), List.getElem?_drop]
      congr 1
      simp; omega
theorem has_ins {l : List Thing} {t : Thing} {i : Nat} (ha : Asc l) (hp : Place l (nid t) i) (hn : ¬ Is l (nid t)) : Has l t (l.take i ++ [t] ++ l.drop i) := by
  have hi := hp.1
  obtain ⟨p2, p3⟩ := hp.2 ha
  have mem : ∀ u, u ∈ l.take i ++ [t] ++ l.drop i ↔ u = t ∨ u ∈ l := by
    intro u
    constructor
    · intro h
      rcases List.mem_append.1 h with h | h
      · rcases List.mem_append.1 h with h | h
        · exact .inr (List.mem_of_mem_take h)
        · exact .inl (by simpa using h)
      · exact .inr (List.mem_of_mem_drop h)
    · rintro (rfl | h)
      · simp
      · rw [← List.take_append_drop i l] at h
        rcases List.mem_append.1 h with h | h
        · exact List.mem_append.2 (.inl (List.mem_append.2 (.inl h)))
        · exact List.mem_append.2 (.inr h)
  have hne : ∀ u ∈ l, nid u ≠ nid t := fun u hu e => hn ⟨u, hu, e⟩
  refine ⟨fun a b x y hab hx hy => ?_, fun u hu => ?_, (mem t).2 (.inl rfl), fun v hv _ => (mem v).2 (.inr hv)⟩
  · rw [ins_get hi] at hx hy
    by_cases a1 : a < i
    · rw [if_pos a1] at hx
      by_cases b1 : b < i
      · rw [if_pos b1] at hy
        exact ha a b x y hab hx hy
      · rw [if_neg b1] at hy
        by_cases b2 : b = i
        · rw [if_pos b2] at hy
          cases hy
          exact p2 a x a1 hx
        · rw [if_neg b2] at hy
          exact ha a (b - 1) x y (by omega) hx hy
    · rw [if_neg a1] at hx
      have b1 : ¬ b < i := by omega
      rw [if_neg b1, if_neg (by omega)] at hy
      by_cases a2 : a = i
      · rw [if_pos a2] at hx
        cases hx
        have h1 := p3 (b - 1) y (by omega) hy
        have h2 := hne y (List.mem_of_getElem? hy)
        omega
      · rw [if_neg a2] at hx
        exact ha (a - 1) (b - 1) x y (by omega) hx hy
  · rcases (mem u).1 hu with rfl | h
    · exact .inl rfl
    · exact .inr ⟨h, hne u h⟩
theorem has_set {l : List Thing} {t u : Thing} {i : Nat} (ha : Asc l) (hi : l[i]? = some u) (e : nid u = nid t) : Has l t (l.set i t) := by
  have hil := len_of hi
  have get : ∀ k, (l.set i t)[k]? = if k = i then some t else l[k]? := by
    intro k
    rw [List.getElem?_set]
    by_cases h : i = k
    · rw [if_pos h, if_pos h.symm, if_pos hil]
    · rw [if_neg h, if_neg (fun e => h e.symm)]
  refine ⟨fun a b x y hab hx hy => ?_, fun v hv => ?_, List.mem_of_getElem? (i := i) (by rw [get, if_pos rfl]), fun v hv hne => ?_⟩
  · rw [get] at hx hy
    by_cases a1 : a = i
    · rw [if_pos a1] at hx
      cases hx
      rw [if_neg (by omega)] at hy
      subst a1
      have := ha a b u y hab hi hy
      omega
    · rw [if_neg a1] at hx
      by_cases b1 : b = i
      · rw [if_pos b1] at hy
        cases hy
        subst b1
        have := ha a b x u hab hx hi
        omega
      · rw [if_neg b1] at hy
        exact ha a b x y hab hx hy
  · obtain ⟨k, hk⟩ := List.mem_iff_getElem?.1 hv
    rw [get] at hk
    by_cases h : k = i
    · rw [if_pos h] at hk
      exact .inl (Option.some.inj hk).symm
    · rw [if_neg h] at hk
      refine .inr ⟨List.mem_of_getElem? hk, fun e2 => h (ha.one hk hi (by omega))⟩
  · obtain ⟨k, hk⟩ := List.mem_iff_getElem?.1 hv
    refine List.mem_of_getElem? (i := k) ?_
    rw [get, if_neg, hk]
    rintro rfl
    rw [hi] at hk
    cases hk
    exact hne e
theorem rt_pos {t : Thing} (hl : t.2.2.2.2.length ≤ 1000000000) (h : rt t = true) : 0 < nid t := by
  have hv := v_45 t hl
  rw [h] at hv
  unfold F_45 F_86 at hv
  by_cases h1 : t.1 ≥ (1 : Int)
  · exact Int.lt_of_lt_of_le (by decide : (0 : Int) < 1) h1
  · rw [decide_eq_false h1] at hv
    cases hv
theorem small_has {l l' : List Thing} {t : Thing} (hs : ∀ u ∈ l, u.2.2.2.2.length ≤ 1000000000) (ht : t.2.2.2.2.length ≤ 1000000000) (h : Has l t l') (hl : l'.length ≤ 1000000000) : Small l' :=
  ⟨hl, fun u hu => by
    rcases h.old u hu with rfl | ⟨h, _⟩
    · exact ht
    · exact hs u h⟩
/-- A scene with a thing is right. -/
theorem with_right {s : Scene} {t : Thing} {l' : List Thing} (hs : Small s.2.2) (hr : rightB s = true) (hh : Has s.2.2 t l') (hs' : Small l') (hrt : rt t = true) (hid : nid t < s.2.1) (hlen : l'.length ≤ 40)
    (hwhole : endB (s.1, s.2.1, l') t = true) (hap : apartB l' = true) (htree : treeB l' = true) (hend : (∃ u ∈ s.2.2, nid u = nid t ∧ u.2.1 = 1) → l'.all (endB (s.1, s.2.1, l')) = true) : rightB (s.1, s.2.1, l') = true := by
  have hR := right_of hr
  have htl : t.2.2.2.2.length ≤ 1000000000 := hs'.2 t hh.new
  unfold rightB at hr ⊢
  simp only [Bool.and_eq_true] at hr ⊢
  refine ⟨?_, ?_, hap, htree⟩
  · have hp := hr.1
    unfold plainB at hp ⊢
    simp only [Bool.and_eq_true] at hp ⊢
    refine ⟨plain_conv l' 0 (fun u hu => ?_) hh.asc, decide_eq_true (by omega), hp.2.2⟩
    rcases hh.old u hu with rfl | ⟨h, _⟩
    · exact ⟨rt_pos htl hrt, hid, hrt⟩
    · exact hR.low u h
  · by_cases hb : ∃ u ∈ s.2.2, nid u = nid t ∧ u.2.1 = 1
    · exact hend hb
    · rw [List.all_eq_true]
      intro u hu
      rcases hh.old u hu with rfl | ⟨h, hne⟩
      · exact hwhole
      · have he := hR.ends u h
        have key : ∀ n : Int, kindB s.2.2 n = 1 → kindB l' n = 1 := by
          intro n hn
          obtain ⟨v, hv, rfl, hk⟩ := kind_of hn
          have hvt : nid v ≠ nid t := fun e => hb ⟨v, hv, e, hk⟩
          rw [hh.asc.kind (hh.keep v hv hvt)]
          exact hk
        have hsup : ∀ n : Int, Is s.2.2 n → Is l' n := by
          rintro n ⟨v, hv, rfl⟩
          by_cases e : nid v = nid t
          · exact ⟨t, hh.new, e.symm⟩
          · exact ⟨v, hh.keep v hv e, rfl⟩
        unfold endB at he ⊢
        simp only [Bool.and_eq_true, Bool.or_eq_true, Bool.not_eq_true', bne_eq_false_iff_eq] at he ⊢
        refine ⟨?_, ?_⟩
        · rcases he.1 with h1 | ⟨h1, h2⟩
          · exact .inl h1
          · exact .inr ⟨key _ h1, key _ h2⟩
        · rw [List.all_eq_true] at *
          intro n hn
          exact has_of (s := (s.1, s.2.1, l')) hs' hh.asc (hsup n (has_is hs (he.2 n hn)))

theorem v_50 (s : Scene) (t : Thing) (hs : Small s.2.2) (ht : t.2.2.2.2.length ≤ 1000000000) : F_50 s t = some ((endB s t, ()) : Els [.bool]) := by
  have h := all_loop (G := fun x => G_50_2 x.1.2.2.1 x.1.2.2.2.1 x.1.2.2.2.2.1 x.2.1 x.2.2.1) (m := fuel) t.2.2.2.2 (hasB s) (fun k => (((), (), t.2.2.2.2, (t.2.2.2.2.length : Int), (k : Int), ()), (s, ()), (t, ()), ())) (.inr ((false, ()), ())) (.inl (((), (), ()), (s, ()), (t, ()), ()))
    (fun k n ha => ?_) ?_ (fuel_lt ht)
  · unfold F_50
    cases hall : t.2.2.2.2.all (hasB s) with
    | false =>
      rw [hall] at h
      refine bind_ofV h ?_
      unfold endB
      rw [hall, Bool.and_false]
      rfl
    | true =>
      rw [hall] at h
      refine bind_ofV h ?_
      unfold endB
      rw [hall, Bool.and_true]
      show (bif t.2.1 != (2 : Int) then some ((true, ()) : Els [.bool]) else (F_23 s t.2.2.2.1.1).bind fun v4 => (F_23 s t.2.2.2.1.2.1).bind fun v5 => bif v4.1.2.1 == (1 : Int) then some ((v5.1.2.1 == (1 : Int), ()) : Els [.bool]) else some (false, ())) = _
      rw [v_23 s _ hs.1 hs.2, v_23 s _ hs.1 hs.2]
      unfold kindB
      simp only [Option.bind_some, bne]
      cases (t.2.1 == (2 : Int)) <;> cases ((getB s.2.2 t.2.2.2.1.1).1.2.1 == (1 : Int)) <;> cases ((getB s.2.2 t.2.2.2.1.2.1).1.2.1 == (1 : Int)) <;> rfl
  · have hk := len_of ha
    simp only [G_50_2, dec_lt hk, dec_in hk, cond_true, getD_of ha, wrap_up hk (by omega)]
    obtain ⟨i, hi⟩ := v_48b s n hs
    rw [hi]
    cases hasB s n <;> rfl
  · simp only [G_50_2, dec_end, cond_false]

def noScene : Scene := (((0 : Int), (0 : Int)), (0 : Int), [])
theorem insLen20 {t : Thing} (h : ¬ ((t.2.2.2.2.length : Int) > 20)) : t.2.2.2.2.length ≤ 20 := by omega
end Go.DI.S

