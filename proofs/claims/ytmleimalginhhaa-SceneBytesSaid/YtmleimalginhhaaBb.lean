import Derived.Test.YtmleimalginhhaaBa
import Derived.Test.YtmleimalginhhaaEa
import Derived.Test.YtmleimalginhhaaWa
import Derived.Test.YtmleimalginhhaaUa
/- Reading is writing backwards; SceneBytes, plain. No conditions. -/
/-! What reading numbers, things and scenes comes to. -/
set_option linter.unusedVariables false
set_option linter.unusedSimpArgs false
set_option maxRecDepth 100000
namespace Go.DI.S
open Go.Proofs

theorem u64w (n : Int) : IntKind.u64.wrap n = n % 18446744073709551616 := by simp [IntKind.wrap, IntKind.bits, IntKind.signed]
theorem u8w (n : Int) : IntKind.u8.wrap n = n % 256 := by simp [IntKind.wrap, IntKind.bits, IntKind.signed]
/-- One byte more, in numbers. -/
theorem byteIn_eq (n : Int) (b : UInt8) : byteIn n b = (n * 256 + b.toNat) % 18446744073709551616 := by
  unfold byteIn
  have e1 : (2 : Int) ^ min (Int.toNat 8) IntKind.u64.bits = 256 := by decide
  have e2 : IntKind.u64.bits = 64 := rfl
  rw [e1, e2, u64w, u64w, u64w, BitVec.toNat_or, BitVec.toNat_ofInt, BitVec.toNat_ofInt]
  have hb : b.toNat < 256 := b.toNat_lt
  have e3 : ((2 ^ 64 : Nat) : Int) = 18446744073709551616 := by decide
  rw [e3]
  have e4 : (((b.toNat : Int) % 18446744073709551616) % 18446744073709551616).toNat = b.toNat := by omega
  have e5 : ∃ m : Nat, (((n * 256) % 18446744073709551616) % 18446744073709551616).toNat = 2 ^ 8 * m ∧ (m : Int) = n % 72057594037927936 := ⟨(n % 72057594037927936).toNat, by omega, by omega⟩
  obtain ⟨m, h1, h2⟩ := e5
  rw [e4, h1, ← Nat.two_pow_add_eq_or_of_lt (by omega : b.toNat < 2 ^ 8)]
  omega
theorem emod_step (v m : Int) (hm : 0 < m) : v % (m * 256) = v % m + m * (v / m % 256) := by
  have h1 : v = m * (v / m) + v % m := (Int.mul_ediv_add_emod v m).symm
  have h2 : v / m = 256 * (v / m / 256) + v / m % 256 := (Int.mul_ediv_add_emod (v / m) 256).symm
  have h3 : 0 ≤ v % m := Int.emod_nonneg _ (by omega)
  have h4 : v % m < m := Int.emod_lt_of_pos _ hm
  generalize hr : v % m = r at *
  generalize hq : v / m = q at *
  generalize ha : q / 256 = a at *
  have h5 : 0 ≤ q % 256 := Int.emod_nonneg _ (by omega)
  have h6 : q % 256 < 256 := Int.emod_lt_of_pos _ (by omega)
  generalize hb : q % 256 = b at *
  have h7 : v = (r + m * b) + (m * 256) * a := by
    rw [h1, h2]
    rw [Int.mul_add, Int.mul_assoc, ← Int.mul_assoc m 256 a]
    omega
  have h8 : m * b ≤ m * 255 := Int.mul_le_mul_of_nonneg_left (by omega) (by omega)
  have h9 : 0 ≤ m * b := Int.mul_nonneg (by omega) h5
  rw [h7, Int.add_mul_emod_self_left]
  exact Int.emod_eq_of_lt (by omega) (by omega)
theorem byteI_eq (v : Int) {n : Nat} (hn : n ≤ 7) : byteI v n = v / (256 : Int) ^ n % 256 := by
  unfold byteI
  rw [wrap8 (by omega), u8w]
  have e1 : min (8 * (n : Int)).toNat 64 = 8 * n := by omega
  rw [e1, Int.pow_mul, show (2 : Int) ^ 8 = 256 from rfl, Int.fdiv_eq_ediv_of_nonneg _ (Int.le_of_lt (Int.pow_pos (by decide)))]
theorem val_num (v : Int) : ∀ (n : Nat), n ≤ 8 → ∀ acc : Int, 0 ≤ acc → acc < 18446744073709551616 → (toS (numI v n)).foldl byteIn acc = (acc * (256 : Int) ^ n + v % (256 : Int) ^ n) % 18446744073709551616
  | 0, hn, acc, h1, h2 => by
    simp only [numI, toS, List.map_nil, List.foldl_nil, Int.pow_zero, Int.mul_one, Int.emod_one, Int.add_zero]
    omega
  | n + 1, hn, acc, h1, h2 => by
    have hb0 : 0 ≤ byteI v n := by rw [byteI_eq v (by omega)]; omega
    have hb1 : byteI v n < 256 := by rw [byteI_eq v (by omega)]; omega
    have hbt : ((UInt8.ofNat (byteI v n).toNat).toNat : Int) = byteI v n := by
      rw [UInt8.toNat_ofNat']
      omega
    show (toS (numI v n)).foldl byteIn (byteIn acc (UInt8.ofNat (byteI v n).toNat)) = _
    rw [val_num v n (by omega) _ (by rw [byteIn_eq]; omega) (by rw [byteIn_eq]; omega), byteIn_eq, hbt, Int.pow_succ, emod_step v _ (Int.pow_pos (by decide)), byteI_eq v (by omega)]
    generalize v / (256 : Int) ^ n % 256 = b
    generalize v % (256 : Int) ^ n = r
    generalize (256 : Int) ^ n = m
    rw [Int.add_emod, Int.mul_emod, Int.emod_emod, ← Int.mul_emod, ← Int.add_emod]
    congr 1
    rw [Int.add_mul, Int.mul_comm m 256, ← Int.mul_assoc, Int.mul_comm b m]
    omega

/-- A number that so many bytes hold. -/
def Fits (v : Int) (n : Nat) : Prop := (n = 8 ∧ -9223372036854775808 ≤ v ∧ v ≤ 9223372036854775807) ∨ (n ≤ 7 ∧ 0 ≤ v ∧ v < (256 : Int) ^ n)
theorem val_of {v : Int} {n : Nat} (h : Fits v n) : IntKind.i64.wrap ((toS (numI v n)).foldl byteIn 0) = v := by
  have hn : n ≤ 8 := by rcases h with ⟨h, _⟩ | ⟨h, _⟩ <;> omega
  rw [val_num v n hn 0 (by omega) (by omega), Int.zero_mul, Int.zero_add]
  rcases h with ⟨rfl, h1, h2⟩ | ⟨h1, h2, h3⟩
  · rw [show (256 : Int) ^ 8 = 18446744073709551616 from rfl, IntKind.wrap_i64]
    omega
  · rw [Int.emod_eq_of_lt h2 h3]
    have h4 : (256 : Int) ^ n ≤ 72057594037927936 := by
      have : n = 0 ∨ n = 1 ∨ n = 2 ∨ n = 3 ∨ n = 4 ∨ n = 5 ∨ n = 6 ∨ n = 7 := by omega
      rcases this with rfl | rfl | rfl | rfl | rfl | rfl | rfl | rfl <;> decide
    rw [Int.emod_eq_of_lt h2 (by omega)]
    exact wrap64 (by omega) (by omega)
theorem toS_len (l : List Int) : (toS l).length = l.length := by simp [toS]
theorem toS_app (l m : List Int) : toS (l ++ m) = toS l ++ toS m := by simp [toS]
theorem v_62 (l : List UInt8) (hl : l.length ≤ 1000000000) : F_62 l = some ((IntKind.i64.wrap (l.foldl byteIn 0), ()) : Els [I]) := by
  have h := fold_all (G := fun x => G_62_3 x.1.1 x.1.2.1 x.1.2.2.1 x.1.2.2.2.1) (m := fuel) l byteIn (fun j a => ((l, a, (l.length : Int), (j : Int), ()), ())) (fun a => .inl ((a, ()), ())) (fun j b a ha => ?_) (fun a => ?_) (fuel_lt hl) 0
  · unfold F_62 R_62_3
    rw [show ((0 : Int)) = ((0 : Nat) : Int) from rfl]
    rw [show ((0 : Int)) = ((0 : Nat) : Int) from rfl] at h
    rw [h]
    rfl
  · have hk := len_of ha
    simp only [G_62_3, dec_lt hk, dec_in hk, cond_true, getD_of ha, wrap_up hk (by omega)]
  · simp only [G_62_3, dec_end, cond_false]
theorem r_104 (l : List UInt8) (hl : l.length ≤ 1000000000) (s : List UInt8) (b : Bool) : R_104_4 (((), (0 : Int), l, (l.length : Int), (0 : Int), ()), (s, b, ()), ()) = some (.inl (((), l.foldl byteIn 0, ()), (s, b, ()), ())) := by
  have h := fold_all (G := fun x => G_104_4 x.1.2.1 x.1.2.2.1 x.1.2.2.2.1 x.1.2.2.2.2.1 x.2.1) (m := fuel) l byteIn (fun j a => (((), a, l, (l.length : Int), (j : Int), ()), (s, b, ()), ())) (fun a => .inl (((), a, ()), (s, b, ()), ())) (fun j c a ha => ?_) (fun a => ?_) (fuel_lt hl) 0
  · exact h
  · have hk := len_of ha
    simp only [G_104_4, dec_lt hk, dec_in hk, cond_true, getD_of ha, wrap_up hk (by omega)]
  · simp only [G_104_4, dec_end, cond_false]
theorem v_131 (l r : List UInt8) {n : Nat} (hn : l.length = n) : F_131 (n : Int) (l ++ r, false, ()) = some ((l, ()), (r, false, ()), ()) := by
  subst hn
  unfold F_131
  have h1 : ¬ ((l.length : Int) > ((l ++ r).length : Int)) := by simp; omega
  have h2 : (0 : Int) ≤ (l.length : Int) ∧ (l.length : Int) ≤ ((l ++ r).length : Int) := by simp; omega
  simp only [cond_false, decide_eq_false h1, decide_eq_true h2, cond_true]
  simp only [Int.toNat_natCast, Nat.sub_zero, List.drop_zero, List.take_left, List.drop_left, List.length_append, Nat.add_sub_cancel_left, List.take_length]
/-- A number is read as it was written. -/
theorem v_104 {v : Int} {n : Nat} (h : Fits v n) (r : List UInt8) : F_104 (n : Int) (toS (numI v n) ++ r, false, ()) = some ((v, ()), (r, false, ()), ()) := by
  have hn : n ≤ 8 := by rcases h with ⟨h, _⟩ | ⟨h, _⟩ <;> omega
  have hlen : (toS (numI v n)).length = n := by rw [toS_len, numI_len]
  unfold F_104
  simp only [v_131 _ r hlen, Option.bind_some]
  rw [r_104 _ (by omega)]
  simp only [Option.bind_some, Sum.elim_inl, val_of h]
theorem v_105 (a : Vec) (h1 : Fits a.1 8) (h2 : Fits a.2 8) (r : List UInt8) : F_105 (toS (vecI a) ++ r, false, ()) = some ((a, ()), (r, false, ()), ()) := by
  unfold F_105 vecI
  simp only [toS_app, List.append_assoc]
  have e1 := v_104 h1 (toS (numI a.2 8) ++ r)
  have e2 := v_104 h2 r
  rw [show ((8 : Nat) : Int) = 8 from rfl] at e1 e2
  simp only [e1, Option.bind_some, e2]
theorem v_60r (v : Int) : ∀ (n : Nat) (row : List Int) (f : Nat), n ≤ 1000 → n < f → row.length + n ≤ 1000000000 →
    roundsT (fun x => G_60_3 x.1.1 x.1.2.1 x.2.1) f ((v, (n : Int) - 1, (), ()), row, ()) = some (.inl (((), ()), row ++ numI v n, ()))
  | 0, row, f, hn, hf, hr => by
    obtain ⟨f, rfl⟩ : ∃ k, f = k + 1 := ⟨f - 1, by omega⟩
    refine rounds_out ?_ f
    simp only [G_60_3]
    rw [decide_eq_false (by omega : ¬ (((0 : Nat) : Int) - 1 ≥ 0)), cond_false]
    simp [numI]
  | n + 1, row, f, hn, hf, hr => by
    obtain ⟨f, rfl⟩ : ∃ k, f = k + 1 := ⟨f - 1, by omega⟩
    have e : ((n + 1 : Nat) : Int) - 1 = (n : Int) := by omega
    rw [e, rounds_in (x' := ((v, (n : Int) - 1, (), ()), row ++ [byteI v n], ())) ?_ f]
    · rw [v_60r v n _ f (by omega) (by omega) (by simp; omega)]
      simp [numI]
    · simp only [G_60_3]
      rw [decide_eq_true (by omega : (n : Int) ≥ 0), cond_true, wrap8 (by omega), decide_eq_false (by omega), cond_false, show Nat.ble ((row.length + _) * 1) 70368744177664 = true from Nat.ble_eq_true_of_le (by simp; omega), cond_true,
        wrap64 (x := (n : Int) - 1) (by omega) (by omega)]
      unfold byteI
      rw [wrap8 (by omega)]
theorem v_60 (v : Int) (n : Nat) (hn : n ≤ 1000) : F_60 v (n : Int) = some ((toS (numI v n), ()) : Els [.str]) := by
  unfold F_60 R_60_3
  rw [wrap64 (x := (n : Int) - 1) (by omega) (by omega), v_60r v n [] fuel hn (fuel_lt (by omega)) (by simp; omega)]
  rfl
end Go.DI.S

/-! Reading a thing, and a scene. -/
set_option linter.unusedVariables false
set_option linter.unusedSimpArgs false
set_option maxRecDepth 100000
namespace Go.DI.S
open Go.Proofs

def noBody : Body := ((0 : Int), ((0 : Int), (0 : Int)), (0 : Int), ((0 : Int), (0 : Int)), (0 : Int), (0 : Int))
def noJoint : Joint := ((0 : Int), (0 : Int), (0 : Int))
theorem v_86 (a : Int) : F_86 a = some ((decide (a ≥ 1) && decide (a ≤ 1000000), ()) : Els [.bool]) := by
  unfold F_86
  cases decide (a ≥ (1 : Int)) <;> rfl
theorem shape_of {b : Body} (h : F_88 b = some ((true, ()) : Els [.bool])) : b.1 = 1 ∨ b.1 = 2 := by
  by_cases h1 : b.1 = 1
  · exact .inl h1
  · by_cases h2 : b.1 = 2
    · exact .inr h2
    · exfalso
      have e : F_125 b.1 = some (([], ()) : Els [.str]) := by
        unfold F_125
        rw [show (b.1 == (1 : Int)) = false from beq_eq_false_iff_ne.2 h1, show (b.1 == (2 : Int)) = false from beq_eq_false_iff_ne.2 h2]
        rfl
      unfold F_88 at h
      rw [e] at h
      simp only [Option.bind_some] at h
      rw [show ((([] : List UInt8)) == []) = true from rfl] at h
      simp at h
theorem and_of {c : Bool} {x : Option (Els [.bool])} (h : (bif c then x else some (false, ())) = some (true, ())) : c = true ∧ x = some (true, ()) := by
  cases c with
  | true => exact ⟨rfl, h⟩
  | false => cases h
theorem not_of {c : Bool} {x : Option (Els [.bool])} (h : (bif !c then some (false, ()) else x) = some (true, ())) : c = true ∧ x = some (true, ()) := by
  cases c with
  | true => exact ⟨rfl, h⟩
  | false => cases h
theorem bool_of {c : Bool} (h : some ((c, ()) : Els [.bool]) = some (true, ())) : c = true := by cases h; rfl
theorem pass_of {x : Option (Els [.bool])} (h : (x.bind fun v => some ((v.1, ()) : Els [.bool])) = some (true, ())) : x = some (true, ()) := by
  cases x with
  | none => cases h
  | some y => obtain ⟨b, u⟩ := y; cases h; rfl
/-- What a right thing is. -/
theorem rt_parts {t : Thing} (hl : t.2.2.2.2.length ≤ 1000000000) (h : rt t = true) : (1 ≤ t.1 ∧ t.1 ≤ 1000000) ∧
    ((t.2.1 = 1 ∧ t.2.2.2.1 = noJoint ∧ ins t = [] ∧ (t.2.2.1.1 = 1 ∨ t.2.2.1.1 = 2)) ∨
     (t.2.1 = 2 ∧ t.2.2.1 = noBody ∧ ins t = [] ∧ (1 ≤ t.2.2.2.1.1 ∧ t.2.2.2.1.1 ≤ 1000000) ∧ (1 ≤ t.2.2.2.1.2.1 ∧ t.2.2.2.1.2.1 ≤ 1000000) ∧ t.2.2.2.1.1 ≠ t.2.2.2.1.2.1 ∧ 0 ≤ t.2.2.2.1.2.2 ∧ t.2.2.2.1.2.2 ≤ 4294967296000) ∨
     (t.2.1 = 3 ∧ t.2.2.1 = noBody ∧ t.2.2.2.1 = noJoint ∧ F_89 t = some ((true, ()) : Els [.bool]))) := by
  have hv := v_45 t hl
  rw [h] at hv
  obtain ⟨id, kind, ⟨b1, ⟨b2, b3⟩, b4, ⟨b5, b6⟩, b7, b8⟩, ⟨j1, j2, j3⟩, l⟩ := t
  unfold F_45 at hv
  simp only [v_86, Option.bind_some] at hv
  obtain ⟨k1, hv⟩ := not_of hv
  simp only [Bool.and_eq_true, decide_eq_true_eq] at k1
  refine ⟨k1, ?_⟩
  unfold F_87 at hv
  have hlen : ∀ {l : List Int}, (((l.length : Nat) : Int) == 0) = true → l = [] := by
    intro l h
    have : ((l.length : Nat) : Int) = 0 := by simpa using h
    exact List.eq_nil_of_length_eq_zero (by omega)
  by_cases c1 : kind = 1
  · subst c1
    refine .inl ?_
    simp only [beq_self_eq_true, cond_true] at hv
    cases hj : (j1 == (0 : Int) && (j2 == (0 : Int) && (j3 == (0 : Int) && true))) with
    | false => rw [hj] at hv; cases hv
    | true =>
      rw [hj] at hv
      simp only [cond_true, Option.bind_some] at hv
      obtain ⟨k2, hv⟩ := not_of hv
      have k3 := pass_of hv
      simp only [Bool.and_eq_true, beq_iff_eq, Bool.and_true] at hj
      obtain ⟨rfl, rfl, rfl⟩ := hj
      exact ⟨rfl, rfl, hlen k2, shape_of k3⟩
  · by_cases c2 : kind = 2
    · subst c2
      refine .inr (.inl ?_)
      simp only [show ((2 : Int) == 1) = false from rfl, beq_self_eq_true, cond_true, cond_false] at hv
      cases hj : (b1 == (0 : Int) && (b2 == (0 : Int) && (b3 == (0 : Int) && true) && (b4 == (0 : Int) && (b5 == (0 : Int) && (b6 == (0 : Int) && true) && (b7 == (0 : Int) && (b8 == (0 : Int) && true) && true))))) with
      | false => rw [hj] at hv; cases hv
      | true =>
        rw [hj] at hv
        simp only [cond_true, Option.bind_some] at hv
        obtain ⟨k2, hv⟩ := not_of hv
        obtain ⟨k3, hv⟩ := and_of hv
        obtain ⟨k4, hv⟩ := and_of hv
        obtain ⟨k5, hv⟩ := and_of hv
        obtain ⟨k6, hv⟩ := and_of hv
        have k7 := bool_of hv
        simp only [Bool.and_eq_true, beq_iff_eq, Bool.and_true] at hj
        obtain ⟨rfl, ⟨rfl, rfl⟩, rfl, ⟨rfl, rfl⟩, rfl, rfl⟩ := hj
        simp only [Bool.and_eq_true, decide_eq_true_eq, bne_iff_ne, ne_eq] at k3 k4 k5 k6 k7
        exact ⟨rfl, rfl, hlen k2, k3, k4, k5, k6, k7⟩
    · refine .inr (.inr ?_)
      simp only [show (kind == (1 : Int)) = false from beq_eq_false_iff_ne.2 c1, show (kind == (2 : Int)) = false from beq_eq_false_iff_ne.2 c2, cond_false] at hv
      cases hj : (b1 == (0 : Int) && (b2 == (0 : Int) && (b3 == (0 : Int) && true) && (b4 == (0 : Int) && (b5 == (0 : Int) && (b6 == (0 : Int) && true) && (b7 == (0 : Int) && (b8 == (0 : Int) && true) && true))))) with
      | false => rw [hj] at hv; cases hv
      | true =>
        rw [hj] at hv
        simp only [cond_true, Option.bind_some] at hv
        obtain ⟨k2, hv⟩ := not_of hv
        obtain ⟨k3, hv⟩ := and_of hv
        have k4 := pass_of hv
        simp only [Bool.and_eq_true, beq_iff_eq, Bool.and_true] at hj k2 k3
        obtain ⟨rfl, ⟨rfl, rfl⟩, rfl, ⟨rfl, rfl⟩, rfl, rfl⟩ := hj
        obtain ⟨rfl, rfl, rfl⟩ := k2
        exact ⟨k3, rfl, rfl, k4⟩
/-- The members of a right group. -/
theorem mem_89 {t : Thing} (hl : t.2.2.2.2.length ≤ 1000000000) (h : F_89 t = some ((true, ()) : Els [.bool])) : (∀ n ∈ ins t, 1 ≤ n ∧ n ≤ 1000000) ∧ (ins t).length ≤ 8 := by
  have key : ∀ (l : List Int) (k : Nat) (prev : Int) (m : Nat), (ins t).drop k = l → l.length < m → ∀ y, roundsT (fun x => G_89_3 x.1.2.1 x.1.2.2.1 x.1.2.2.2.1 x.1.2.2.2.2.1 x.2.1) m (((), prev, ins t, ((ins t).length : Int), (k : Int), ()), (t, ()), ()) = some y →
      (y = .inl (((), ()), (t, ()), ()) ∧ ∀ n ∈ l, 1 ≤ n ∧ n ≤ 1000000) ∨ y = .inr ((false, ()), ()) := by
    intro l
    induction l with
    | nil =>
      intro k prev m hd hm y hy
      obtain ⟨m, rfl⟩ : ∃ j, m = j + 1 := ⟨m - 1, by simp at hm; omega⟩
      have hk : (ins t).length ≤ k := by simpa using hd
      rw [rounds_out (y := .inl (((), ()), (t, ()), ())) (by simp only [G_89_3]; rw [decide_eq_false (by omega : ¬ ((k : Int) < ((ins t).length : Int)))]; rfl)] at hy
      exact .inl ⟨(Option.some.inj hy).symm, by simp⟩
    | cons a l ih =>
      intro k prev m hd hm y hy
      obtain ⟨m, rfl⟩ : ∃ j, m = j + 1 := ⟨m - 1, by simp at hm; omega⟩
      have hk : k < (ins t).length := by
        rcases Nat.lt_or_ge k (ins t).length with h | h
        · exact h
        · rw [List.drop_eq_nil_of_le h] at hd; cases hd
      have ha : (ins t)[k]? = some a := by rw [← List.head?_drop, hd]; rfl
      have hd' : (ins t).drop (k + 1) = l := by rw [← List.tail_drop, hd]; rfl
      have hG : G_89_3 prev (ins t) ((ins t).length : Int) (k : Int) (t, ()) = (bif decide (a ≤ prev) then some (.inr (.inr ((false, ()), ()))) else bif !(decide (a ≥ 1) && decide (a ≤ 1000000)) then some (.inr (.inr ((false, ()), ()))) else bif a == t.1 then some (.inr (.inr ((false, ()), ()))) else some (.inl (((), a, ins t, ((ins t).length : Int), ((k + 1 : Nat) : Int), ()), (t, ()), ()))) := by
        simp only [G_89_3, dec_lt hk, dec_in hk, cond_true, getD_of ha, wrap_up hk (by have : (ins t).length ≤ 1000000000 := hl; omega), v_86, Option.bind_some]
      have out : ∀ z, G_89_3 prev (ins t) ((ins t).length : Int) (k : Int) (t, ()) = some (.inr z) → y = z := by
        intro z hz
        rw [rounds_out hz] at hy
        exact (Option.some.inj hy).symm
      cases c1 : decide (a ≤ prev) with
      | true => rw [c1] at hG; exact .inr (out _ hG)
      | false =>
        rw [c1] at hG
        cases c2 : (decide (a ≥ 1) && decide (a ≤ 1000000)) with
        | false => rw [c2] at hG; exact .inr (out _ hG)
        | true =>
          rw [c2] at hG
          cases c3 : (a == t.1) with
          | true => rw [c3] at hG; exact .inr (out _ hG)
          | false =>
            rw [c3] at hG
            rw [rounds_in (x' := (((), a, ins t, ((ins t).length : Int), ((k + 1 : Nat) : Int), ()), (t, ()), ())) hG] at hy
            rcases ih (k + 1) a m hd' (by simp at hm; omega) y hy with ⟨h1, h2⟩ | h1
            · refine .inl ⟨h1, fun n hn => ?_⟩
              rcases List.mem_cons.1 hn with rfl | hn
              · simpa using c2
              · exact h2 n hn
            · exact .inr h1
  unfold F_89 R_89_3 at h
  obtain ⟨y, hy, h⟩ := Option.bind_eq_some_iff.1 h
  rcases key (ins t) 0 0 fuel rfl (fuel_lt hl) y hy with ⟨rfl, h2⟩ | rfl
  · refine ⟨h2, ?_⟩
    simp only [Sum.elim_inl] at h
    obtain ⟨k1, h⟩ := and_of h
    have := of_decide_eq_true (bool_of h)
    show (t.2.2.2.2).length ≤ 8
    omega
  · cases h

/-- What a thing holds is in range. -/
theorem fits64 {v : Int} (h : I.wf v) : Fits v 8 := by
  have h : (Lit.int IntKind.i64 v).wf = true := h
  simp only [Lit.wf, Bool.and_eq_true, decide_eq_true_eq] at h
  have e1 : IntKind.i64.min = -9223372036854775808 := by decide
  have e2 : IntKind.i64.max = 9223372036854775807 := by decide
  rw [e1, e2] at h
  exact .inl ⟨rfl, h.1, h.2⟩
theorem fits {v : Int} {n : Nat} (hn : n ≤ 7) (h1 : 0 ≤ v) (h2 : v < (256 : Int) ^ n) : Fits v n := .inr ⟨hn, h1, h2⟩
theorem fit1 {v : Int} (h1 : 0 ≤ v) (h2 : v < 256) : Fits v 1 := fits (by decide) h1 (by rw [show (256 : Int) ^ 1 = 256 from rfl]; exact h2)
theorem fit2 {v : Int} (h1 : 0 ≤ v) (h2 : v < 65536) : Fits v 2 := fits (by decide) h1 (by rw [show (256 : Int) ^ 2 = 65536 from rfl]; exact h2)
theorem fit4 {v : Int} (h1 : 0 ≤ v) (h2 : v < 4294967296) : Fits v 4 := fits (by decide) h1 (by rw [show (256 : Int) ^ 4 = 4294967296 from rfl]; exact h2)
/-- The members are read one by one. -/
theorem r_63 (s : List UInt8) (id kind : Int) (b : Body) (j : Joint) (r : List UInt8) : ∀ (l : List Int), (∀ n ∈ l, 1 ≤ n ∧ n ≤ 1000000) → ∀ (row : List Int) (m : Nat), row.length + l.length ≤ 1000000 → l.length < m →
    roundsT (fun x => G_63_18 x.1.1 x.1.2.2.2.2.1 x.2.1 x.2.2.1 x.2.2.2.1 x.2.2.2.2.1) m ((s, (), (), (), (l.length : Int), ()), (noThing, ()), (toS (insI l) ++ r, false, ()), (id, kind, b, j, (), ()), row, ()) =
      some (.inl ((s, (), (), (), ()), (noThing, ()), (r, false, ()), (id, kind, b, j, (), ()), row ++ l, ()))
  | [], _, row, m, h1, hm => by
    obtain ⟨m, rfl⟩ : ∃ k, m = k + 1 := ⟨m - 1, by simp at hm; omega⟩
    refine rounds_out ?_ m
    simp only [G_63_18]
    rw [decide_eq_false (by simp : ¬ ((([] : List Int).length : Int) > 0)), cond_false, List.append_nil]
    rfl
  | a :: l, hl, row, m, h1, hm => by
    obtain ⟨m, rfl⟩ : ∃ k, m = k + 1 := ⟨m - 1, by simp at hm; omega⟩
    have ha := hl a (by simp)
    have e1 := v_104 (fit4 (by omega : 0 ≤ a) (by omega)) (toS (insI l) ++ r)
    rw [show ((4 : Nat) : Int) = 4 from rfl] at e1
    have e2 : toS (insI (a :: l)) = toS (numI a 4) ++ toS (insI l) := by rw [← toS_app]; rfl
    simp only [List.length_cons] at h1 hm
    rw [rounds_in (x' := ((s, (), (), (), (l.length : Int), ()), (noThing, ()), (toS (insI l) ++ r, false, ()), (id, kind, b, j, (), ()), row ++ [a], ())) ?_ m]
    · rw [r_63 s id kind b j r l (fun n hn => hl n (by simp [hn])) (row ++ [a]) m (by simp; omega) (by omega), List.append_assoc]
      rfl
    · simp only [G_63_18]
      rw [decide_eq_true (by simp : (((a :: l).length : Nat) : Int) > 0), cond_true, e2, List.append_assoc, e1]
      simp only [Option.bind_some]
      rw [show Nat.ble ((row.length + [a].length) * 8) 70368744177664 = true from Nat.ble_eq_true_of_le (by simp; omega), cond_true, wrap64 (x := ((a :: l).length : Int) - 1) (by simp only [List.length_cons]; omega) (by simp only [List.length_cons]; omega)]
      have e3 : ((a :: l).length : Int) - 1 = (l.length : Int) := by simp
      rw [e3]
/-- A right thing's bytes are read as the thing. -/
theorem v_63 (t : Thing) (hw : tThing.wf t) (hl : t.2.2.2.2.length ≤ 1000000) (h : rt t = true) : F_63 (toS (putI t)) = some ((t, true, ()) : Els [tThing, .bool]) := by
  obtain ⟨hid, hp⟩ := rt_parts (by omega) h
  have h61 := v_61 t hl
  rw [h, cond_true] at h61
  have f1 : ∀ (v : Int), Fits v 1 → ∀ r, F_104 1 (toS (numI v 1) ++ r, false, ()) = some ((v, ()), (r, false, ()), ()) := fun v hv r => v_104 hv r
  have f4 : ∀ (v : Int), Fits v 4 → ∀ r, F_104 4 (toS (numI v 4) ++ r, false, ()) = some ((v, ()), (r, false, ()), ()) := fun v hv r => v_104 hv r
  have f8 : ∀ (v : Int), Fits v 8 → ∀ r, F_104 8 (toS (numI v 8) ++ r, false, ()) = some ((v, ()), (r, false, ()), ()) := fun v hv r => v_104 hv r
  generalize hs : toS (putI t) = s at *
  obtain ⟨(id : Int), (kind : Int), b, j, (l : List Int)⟩ := t
  have hid : (1 : Int) ≤ id ∧ id ≤ 1000000 := hid
  have hl : l.length ≤ 1000000 := hl
  obtain ⟨w1, w2, w3, w4, w5⟩ := hw
  have hs0 : s = toS (numI kind 1) ++ (toS (numI id 4) ++ toS (bif kind == (1 : Int) then bodyI b else bif kind == (2 : Int) then jointI j else bif kind == (3 : Int) then numI (l.length : Int) 1 ++ insI l else [])) := by
    rw [← hs, ← toS_app, ← toS_app]; rfl
  have hid4 : Fits id 4 := fit4 (by have := hid.1; omega) (by have := hid.2; omega)
  rcases hp with ⟨rfl, rfl, hi, hsh⟩ | ⟨rfl, rfl, hi, hA, hB, _, _, _⟩ | ⟨rfl, rfl, rfl, h89⟩
  · have hl0 : l = [] := hi
    subst hl0
    obtain ⟨b1, b2, b3, b4, b5⟩ := b
    obtain ⟨x1, x2, x3, x4, x5⟩ := w3
    have hs1 : s = toS (numI 1 1) ++ (toS (numI id 4) ++ (toS (numI b1 1) ++ (toS (vecI b2) ++ (toS (numI b3 8) ++ (toS (vecI b4) ++ (toS (vecI b5) ++ [])))))) := by
      rw [hs0]; simp only [beq_self_eq_true, cond_true, bodyI, toS_app, List.append_nil]
    unfold F_63
    rw [hs1, f1 1 (fit1 (by decide) (by decide))]
    simp only [Option.bind_some]
    rw [f4 id hid4]
    simp only [Option.bind_some, beq_self_eq_true, cond_true]
    rw [f1 b1 (by rcases hsh with h | h <;> (have h : b1 = _ := h; rw [h]; exact fit1 (by decide) (by decide)))]
    simp only [Option.bind_some]
    rw [v_105 b2 (fits64 x2.1) (fits64 x2.2)]
    simp only [Option.bind_some]
    rw [f8 b3 (fits64 x3)]
    simp only [Option.bind_some]
    rw [v_105 b4 (fits64 x4.1) (fits64 x4.2)]
    simp only [Option.bind_some]
    rw [v_105 b5 (fits64 x5.1) (fits64 x5.2)]
    simp only [Option.bind_some]
    rw [← hs1]
    have h61' : F_61 (id, 1, (b1, b2, b3, b4, b5), ((0 : Int), (0 : Int), (0 : Int)), []) = _ := h61
    rw [h61']
    simp only [Option.bind_some, cond_false, Bool.not_true, beq_self_eq_true]
    rfl
  · have hl0 : l = [] := hi
    subst hl0
    obtain ⟨(j1 : Int), (j2 : Int), (j3 : Int)⟩ := j
    obtain ⟨x1, x2, x3⟩ := w4
    have hA : 1 ≤ j1 ∧ j1 ≤ 1000000 := hA
    have hB : 1 ≤ j2 ∧ j2 ≤ 1000000 := hB
    have hs1 : s = toS (numI 2 1) ++ (toS (numI id 4) ++ (toS (numI j1 4) ++ (toS (numI j2 4) ++ (toS (numI j3 8) ++ [])))) := by
      rw [hs0]; simp only [show ((2 : Int) == 1) = false from rfl, beq_self_eq_true, cond_true, cond_false, jointI, toS_app, List.append_nil]
    unfold F_63
    rw [hs1, f1 2 (fit1 (by decide) (by decide))]
    simp only [Option.bind_some]
    rw [f4 id hid4]
    simp only [Option.bind_some, show ((2 : Int) == 1) = false from rfl, beq_self_eq_true, cond_true, cond_false]
    rw [f4 j1 (fit4 (by omega) (by omega))]
    simp only [Option.bind_some]
    rw [f4 j2 (fit4 (by omega) (by omega))]
    simp only [Option.bind_some]
    rw [f8 j3 (fits64 x3)]
    simp only [Option.bind_some]
    rw [← hs1]
    have h61' : F_61 (id, 2, ((0 : Int), ((0 : Int), (0 : Int)), (0 : Int), ((0 : Int), (0 : Int)), (0 : Int), (0 : Int)), (j1, j2, j3), []) = _ := h61
    rw [h61']
    simp only [Option.bind_some, cond_false, Bool.not_true, beq_self_eq_true]
    rfl
  · obtain ⟨hm, hm8⟩ := mem_89 (t := (id, 3, noBody, noJoint, l)) (by show l.length ≤ 1000000000; omega) h89
    have hm : ∀ n ∈ l, 1 ≤ n ∧ n ≤ 1000000 := hm
    have hm8 : l.length ≤ 8 := hm8
    have hs1 : s = toS (numI 3 1) ++ (toS (numI id 4) ++ (toS (numI (l.length : Int) 1) ++ (toS (insI l) ++ []))) := by
      rw [hs0]; simp only [show ((3 : Int) == 1) = false from rfl, show ((3 : Int) == 2) = false from rfl, beq_self_eq_true, cond_true, cond_false, toS_app, List.append_nil]
    unfold F_63
    rw [hs1, f1 3 (fit1 (by decide) (by decide))]
    simp only [Option.bind_some]
    rw [f4 id hid4]
    simp only [Option.bind_some, show ((3 : Int) == 1) = false from rfl, show ((3 : Int) == 2) = false from rfl, beq_self_eq_true, cond_true, cond_false]
    rw [f1 (l.length : Int) (fit1 (by omega) (by omega))]
    simp only [Option.bind_some]
    rw [← hs1]
    have hr := r_63 s id 3 noBody noJoint [] l hm [] fuel (by simp; omega) (fuel_lt (by omega))
    have hr' : R_63_18 ((s, (), (), (), (l.length : Int), ()), (((0 : Int), (0 : Int), ((0 : Int), ((0 : Int), (0 : Int)), (0 : Int), ((0 : Int), (0 : Int)), (0 : Int), (0 : Int)), ((0 : Int), (0 : Int), (0 : Int)), []), ()), (toS (insI l) ++ [], false, ()), (id, 3, ((0 : Int), ((0 : Int), (0 : Int)), (0 : Int), ((0 : Int), (0 : Int)), (0 : Int), (0 : Int)), ((0 : Int), (0 : Int), (0 : Int)), (), ()), [], ()) = _ := hr
    rw [hr']
    simp only [Option.bind_some, Sum.elim_inl]
    have h61' : F_61 (id, 3, noBody, noJoint, [] ++ l) = _ := h61
    rw [h61']
    simp only [Option.bind_some, cond_false, Bool.not_true, beq_self_eq_true]
    rfl
end Go.DI.S

/-! A scene's bytes: written, and read; SceneBytes, plain. -/
set_option linter.unusedVariables false
set_option linter.unusedSimpArgs false
set_option maxRecDepth 100000
namespace Go.DI.S
open Go.Proofs

theorem take_one {α : Type} {l : List α} {k : Nat} {a : α} (h : l[k]? = some a) : l.take (k + 1) = l.take k ++ [a] := by
  rw [List.take_add_one, h]; rfl
theorem bind_of {α β : Type} {a : Option α} {f : α → Option β} {x : α} {y : Option β} (h : a = some x) (k : f x = y) : a.bind f = y := by subst h; exact k
theorem bif_yes {α : Type} {c : Bool} {a b y : α} (h : c = true) (k : a = y) : (bif c then a else b) = y := by subst h; exact k
theorem bif_no {α : Type} {c : Bool} {a b y : α} (h : c = false) (k : b = y) : (bif c then a else b) = y := by subst h; exact k
def pieceS (t : Thing) : List UInt8 := toS (numI ((putI t).length : Int) 2) ++ toS (putI t)
def headS (s : Scene) : List UInt8 := toS (numI s.1.1 8) ++ toS (numI s.1.2 8) ++ toS (numI s.2.1 4) ++ toS (numI (s.2.2.length : Int) 2)
def dumpS (s : Scene) : List UInt8 := headS s ++ s.2.2.flatMap pieceS
theorem putI_len {t : Thing} (hl : (ins t).length ≤ 20) : (putI t).length ≤ 100 := by
  have h20 : t.2.2.2.2.length ≤ 20 := hl
  unfold putI
  rw [List.length_append, List.length_append, numI_len, numI_len]
  cases (t.2.1 == (1 : Int)) <;> cases (t.2.1 == (2 : Int)) <;> cases (t.2.1 == (3 : Int)) <;> simp [bodyI, jointI, vecI_len, numI_len, insI_len] <;> omega
theorem pieceS_len {t : Thing} (hl : (ins t).length ≤ 20) : (pieceS t).length = 2 + (putI t).length := by
  unfold pieceS
  rw [List.length_append, toS_len, toS_len, numI_len]
theorem pieces_len : ∀ (l : List Thing), (∀ t ∈ l, (ins t).length ≤ 20) → (l.flatMap pieceS).length ≤ 102 * l.length
  | [], _ => by simp
  | t :: l, h => by
    rw [List.flatMap_cons, List.length_append, pieceS_len (h t (by simp)), List.length_cons]
    have h1 := pieces_len l (fun u hu => h u (by simp [hu]))
    have h2 := putI_len (h t (by simp))
    omega
theorem headS_len (s : Scene) : (headS s).length = 22 := by simp [headS, toS_len, numI_len]
section
variable {s : Scene}
/-- What a scene's bytes are. -/
theorem v_28b (hs : Small s.2.2) (hr : rightB s = true) (h20 : ∀ t ∈ s.2.2, (ins t).length ≤ 20) : F_28b s = some ((dumpS s, ()) : Els [.str]) := by
  have hR := right_of hr
  have h40 := hR.len
  have h := find_loop (G := fun x => G_28b_5 x.1.1 x.1.2.1 x.1.2.2.1 x.1.2.2.2.1) (m := fuel) s.2.2 (fun _ => false) (fun k => ((headS s ++ (s.2.2.take k).flatMap pieceS, s.2.2, (s.2.2.length : Int), (k : Int), ()), ())) (fun _ => .inr ((), ())) (.inl ((dumpS s, ()), ()))
    (fun k t ha => ?_) ?_ (fuel_lt hs.1)
  · have hnone : s.2.2.findIdx? (fun _ => false) = none := by rw [List.findIdx?_eq_none_iff]; intro _ _; rfl
    rw [hnone] at h
    have w8 : ∀ v : Int, F_60 v 8 = some ((toS (numI v 8), ()) : Els [.str]) := fun v => v_60 v 8 (by omega)
    have w4 : ∀ v : Int, F_60 v 4 = some ((toS (numI v 4), ()) : Els [.str]) := fun v => v_60 v 4 (by omega)
    have w2 : ∀ v : Int, F_60 v 2 = some ((toS (numI v 2), ()) : Els [.str]) := fun v => v_60 v 2 (by omega)
    have l8 : ∀ v : Int, (toS (numI v 8)).length = 8 := fun v => by rw [toS_len, numI_len]
    have l4 : ∀ v : Int, (toS (numI v 4)).length = 4 := fun v => by rw [toS_len, numI_len]
    have l2 : ∀ v : Int, (toS (numI v 2)).length = 2 := fun v => by rw [toS_len, numI_len]
    have k1 : (toS (numI s.1.1 8)).length + (toS (numI s.1.2 8)).length ≤ 4611686018427387904 := by rw [l8, l8]; omega
    have k2 : (toS (numI s.1.1 8) ++ toS (numI s.1.2 8)).length + (toS (numI s.2.1 4)).length ≤ 4611686018427387904 := by rw [List.length_append, l8, l8, l4]; omega
    have k3 : (toS (numI s.1.1 8) ++ toS (numI s.1.2 8) ++ toS (numI s.2.1 4)).length + (toS (numI (s.2.2.length : Int) 2)).length ≤ 4611686018427387904 := by rw [List.length_append, List.length_append, l8, l8, l4, l2]; omega
    have e : toS (numI s.1.1 8) ++ toS (numI s.1.2 8) ++ toS (numI s.2.1 4) ++ toS (numI (s.2.2.length : Int) 2) = headS s ++ (s.2.2.take 0).flatMap pieceS := by simp [headS]
    unfold F_28b
    refine bind_of (v_20 s hs) ?_
    rw [hr]
    refine bif_no rfl (bind_of (w8 _) (bind_of (w8 _) (bif_yes (decide_eq_true k1) (bind_of (w4 _) (bif_yes (decide_eq_true k2) (bind_of (w2 _) (bif_yes (decide_eq_true k3) ?_)))))))
    unfold R_28b_5
    show (roundsT _ fuel ((toS (numI s.1.1 8) ++ toS (numI s.1.2 8) ++ toS (numI s.2.1 4) ++ toS (numI (s.2.2.length : Int) 2), s.2.2, (s.2.2.length : Int), (0 : Int), ()), ())).bind _ = _
    rw [e, show (0 : Int) = ((0 : Nat) : Int) from rfl]
    rw [h]
    rfl
  · have hk := len_of ha
    have ht := List.mem_of_getElem? ha
    have hrt := (hR.low t ht).2.2
    have hp := putI_len (h20 t ht)
    have hpl := pieces_len (s.2.2.take k) (fun u hu => h20 u (List.mem_of_mem_take hu))
    have htk : (s.2.2.take k).length ≤ 40 := by rw [List.length_take]; omega
    have h61 := v_61 t (by have : t.2.2.2.2.length ≤ 20 := h20 t ht; omega)
    rw [hrt, cond_true] at h61
    simp only [G_28b_5, dec_lt hk, dec_in hk, cond_true, getD_of ha]
    rw [h61, show (2 : Int) = ((2 : Nat) : Int) from rfl]
    simp only [Option.bind_some, toS_len, v_60 _ 2 (by omega)]
    have hw : IntKind.i64.wrap ((k : Int) + 1) = ((k + 1 : Nat) : Int) := wrap_up hk (by have := hs.1; omega)
    rw [decide_eq_true (by rw [numI_len]; omega : (numI ((putI t).length : Int) 2).length + (putI t).length ≤ 4611686018427387904), cond_true,
      decide_eq_true (by rw [List.length_append, headS_len, List.length_append, toS_len, toS_len, numI_len]; omega), cond_true, hw, take_one ha, List.flatMap_append]
    simp [pieceS]
  · simp only [G_28b_5, dec_end, cond_false, List.take_length]
    rfl

theorem bif_is {α : Type} {c : Bool} {a b y : α} (h : c = true) (k : a = y) : (bif c then a else b) = y := bif_yes h k
/-- The pieces are read one by one. -/
theorem r_29 (a1 : List UInt8) (z : Scene) (g : Vec) (next : Int) (fin : List Thing → List UInt8) : ∀ (l : List Thing), (∀ t ∈ l, tThing.wf t ∧ rt t = true ∧ (ins t).length ≤ 20) → ∀ (acc : List Thing) (m : Nat), acc.length + l.length ≤ 1000 → l.length < m →
    roundsT (fun x => G_29_7 x.1.1 x.1.2.2.2.1 x.2.1 x.2.2.1 x.2.2.2.1) m ((a1, (), (), l.flatMap pieceS, ()), (z, ()), (g, next, (), ()), acc, ()) = some (.inl ((a1, (), (), ()), (z, ()), (g, next, (), ()), acc ++ l, ()))
  | [], _, acc, m, h1, hm => by
    obtain ⟨m, rfl⟩ : ∃ k, m = k + 1 := ⟨m - 1, by simp at hm; omega⟩
    refine rounds_out ?_ m
    unfold G_29_7
    refine bif_no (decide_eq_false (by simp)) ?_
    rw [List.append_nil]
  | t :: l, hl, acc, m, h1, hm => by
    obtain ⟨m, rfl⟩ : ∃ k, m = k + 1 := ⟨m - 1, by simp at hm; omega⟩
    obtain ⟨hw, hrt, h20⟩ := hl t (by simp)
    simp only [List.length_cons] at h1 hm
    have hp := putI_len h20
    have hlen2 : (toS (numI ((putI t).length : Int) 2)).length = 2 := by rw [toS_len, numI_len]
    have hcat : (t :: l).flatMap pieceS = toS (numI ((putI t).length : Int) 2) ++ (toS (putI t) ++ l.flatMap pieceS) := by rw [List.flatMap_cons, pieceS, List.append_assoc]
    have hlen : ((t :: l).flatMap pieceS).length = 2 + ((putI t).length + (l.flatMap pieceS).length) := by rw [hcat, List.length_append, List.length_append, hlen2, toS_len]
    have hfit : Fits ((putI t).length : Int) 2 := fit2 (by omega) (by omega)
    have h62 : F_62 (List.take 2 (List.drop 0 ((t :: l).flatMap pieceS))) = some ((((putI t).length : Int), ()) : Els [I]) := by
      rw [List.drop_zero, hcat, List.take_left' hlen2, v_62 _ (by omega), val_of hfit]
    have hw1 : IntKind.i64.wrap ((2 : Int) + ((putI t).length : Int)) = ((2 + (putI t).length : Nat) : Int) := by
      rw [show (2 : Int) + ((putI t).length : Int) = ((2 + (putI t).length : Nat) : Int) by omega]
      exact wrap64 (by omega) (by omega)
    have h63 : F_63 (List.take ((IntKind.i64.wrap ((2 : Int) + ((putI t).length : Int))).toNat - 2) (List.drop 2 ((t :: l).flatMap pieceS))) = some ((t, true, ()) : Els [tThing, .bool]) := by
      rw [hw1, hcat, List.drop_left' hlen2]
      have : ((2 + (putI t).length : Nat) : Int).toNat - 2 = (toS (putI t)).length := by rw [toS_len]; omega
      rw [this, List.take_left]
      exact v_63 t hw (by have : t.2.2.2.2.length ≤ 20 := h20; omega) hrt
    have hnext : List.take (((t :: l).flatMap pieceS).length - (IntKind.i64.wrap ((2 : Int) + ((putI t).length : Int))).toNat) (List.drop (IntKind.i64.wrap ((2 : Int) + ((putI t).length : Int))).toNat ((t :: l).flatMap pieceS)) = l.flatMap pieceS := by
      rw [hw1, hlen, hcat, ← List.append_assoc]
      have e1 : ((2 + (putI t).length : Nat) : Int).toNat = (toS (numI ((putI t).length : Int) 2) ++ toS (putI t)).length := by rw [List.length_append, hlen2, toS_len]; omega
      have e2 : 2 + ((putI t).length + (l.flatMap pieceS).length) - ((2 + (putI t).length : Nat) : Int).toNat = (l.flatMap pieceS).length := by omega
      rw [e2, e1, List.drop_left, List.take_length]
    rw [rounds_in (x' := ((a1, (), (), l.flatMap pieceS, ()), (z, ()), (g, next, (), ()), acc ++ [t], ())) ?_ m]
    · rw [r_29 a1 z g next fin l (fun u hu => hl u (by simp [hu])) (acc ++ [t]) m (by simp; omega) (by omega), List.append_assoc]
      rfl
    · unfold G_29_7
      have c1 : (((t :: l).flatMap pieceS).length : Int) ≥ 2 := by rw [hlen]; omega
      have c2 : (0 : Int) ≤ 2 ∧ (2 : Int) ≤ (((t :: l).flatMap pieceS).length : Int) := by rw [hlen]; omega
      have c3 : ¬ (IntKind.i64.wrap ((2 : Int) + ((putI t).length : Int)) > (((t :: l).flatMap pieceS).length : Int)) := by rw [hw1, hlen]; omega
      have c4 : (0 : Int) ≤ IntKind.i64.wrap ((2 : Int) + ((putI t).length : Int)) ∧ IntKind.i64.wrap ((2 : Int) + ((putI t).length : Int)) ≤ (((t :: l).flatMap pieceS).length : Int) ∧ (0 : Int) ≤ 2 ∧ (2 : Int) ≤ IntKind.i64.wrap ((2 : Int) + ((putI t).length : Int)) := by rw [hw1, hlen]; omega
      have c5 : (0 : Int) ≤ IntKind.i64.wrap ((2 : Int) + ((putI t).length : Int)) ∧ IntKind.i64.wrap ((2 : Int) + ((putI t).length : Int)) ≤ (((t :: l).flatMap pieceS).length : Int) := ⟨c4.1, c4.2.1⟩
      refine bif_yes (decide_eq_true c1) (bif_yes (decide_eq_true c2) (bind_of h62 (bif_no (decide_eq_false c3) (bif_yes (decide_eq_true c4) (bind_of h63 (bif_no rfl (bif_yes (Nat.ble_eq_true_of_le (by simp; omega)) (bif_yes (decide_eq_true c5) ?_))))))))
      rw [← hnext]
/-- A right scene's bytes are read as the scene. -/
theorem v_29 (hs : Small s.2.2) (hr : rightB s = true) (hg : tVec.wf s.1) (hw : ∀ t ∈ s.2.2, tThing.wf t) (h20 : ∀ t ∈ s.2.2, (ins t).length ≤ 20) : F_29 (dumpS s) = some ((s, true, ()) : Els [tScene, .bool]) := by
  have hR := right_of hr
  have h40 := hR.len
  have hn := hR.next
  have hpl := pieces_len s.2.2 h20
  have hlen : (dumpS s).length = 22 + (s.2.2.flatMap pieceS).length := by rw [dumpS, List.length_append, headS_len]
  have l8 : ∀ v : Int, (toS (numI v 8)).length = 8 := fun v => by rw [toS_len, numI_len]
  have l4 : ∀ v : Int, (toS (numI v 4)).length = 4 := fun v => by rw [toS_len, numI_len]
  have l2 : ∀ v : Int, (toS (numI v 2)).length = 2 := fun v => by rw [toS_len, numI_len]
  have hcat : dumpS s = toS (numI s.1.1 8) ++ (toS (numI s.1.2 8) ++ (toS (numI s.2.1 4) ++ (toS (numI (s.2.2.length : Int) 2) ++ s.2.2.flatMap pieceS))) := by simp [dumpS, headS]
  have e1 : F_62 (List.take 8 (List.drop 0 (dumpS s))) = some ((s.1.1, ()) : Els [I]) := by
    rw [List.drop_zero, hcat, List.take_left' (l8 _), v_62 _ (by rw [l8]; omega), val_of (fits64 hg.1)]
  have d8 : List.drop 8 (dumpS s) = toS (numI s.1.2 8) ++ (toS (numI s.2.1 4) ++ (toS (numI (s.2.2.length : Int) 2) ++ s.2.2.flatMap pieceS)) := by rw [hcat, List.drop_left' (l8 _)]
  have d16 : List.drop 16 (dumpS s) = toS (numI s.2.1 4) ++ (toS (numI (s.2.2.length : Int) 2) ++ s.2.2.flatMap pieceS) := by rw [show (16 : Nat) = 8 + 8 from rfl, ← List.drop_drop, d8, List.drop_left' (l8 _)]
  have d22 : List.drop 22 (dumpS s) = s.2.2.flatMap pieceS := by rw [show (22 : Nat) = 16 + (4 + 2) from rfl, ← List.drop_drop, d16, ← List.drop_drop, List.drop_left' (l4 _), List.drop_left' (l2 _)]
  have e2 : F_62 (List.take 8 (List.drop 8 (dumpS s))) = some ((s.1.2, ()) : Els [I]) := by
    rw [d8, List.take_left' (l8 _), v_62 _ (by rw [l8]; omega), val_of (fits64 hg.2)]
  have e3 : F_62 (List.take 4 (List.drop 16 (dumpS s))) = some ((s.2.1, ()) : Els [I]) := by
    rw [d16, List.take_left' (l4 _), v_62 _ (by rw [l4]; omega), val_of (fit4 (Int.le_trans (by decide : (0 : Int) ≤ 1) hn.1) (Int.lt_of_le_of_lt hn.2 (by decide : (1000001 : Int) < 4294967296)))]
  have hloop : R_29_7 ((dumpS s, (), (), List.take ((dumpS s).length - 22) (List.drop 22 (dumpS s)), ()), ((((0 : Int), (0 : Int)), (0 : Int), []), ()), ((s.1.1, s.1.2), s.2.1, (), ()), [], ()) = some (.inl ((dumpS s, (), (), ()), ((((0 : Int), (0 : Int)), (0 : Int), []), ()), ((s.1.1, s.1.2), s.2.1, (), ()), s.2.2, ())) := by
    rw [d22, hlen, Nat.add_sub_cancel_left, List.take_length]
    exact r_29 (dumpS s) _ _ _ (fun _ => []) s.2.2 (fun t ht => ⟨hw t ht, (hR.low t ht).2.2, h20 t ht⟩) [] fuel (by simp; omega) (fuel_lt hs.1)
  unfold F_29
  refine bif_no (decide_eq_false (by rw [hlen]; omega)) (bif_yes (decide_eq_true (by rw [hlen]; omega)) (bind_of e1 (bif_yes (decide_eq_true (by rw [hlen]; omega)) (bind_of e2 (bif_yes (decide_eq_true (by rw [hlen]; omega)) (bind_of e3 (bif_yes (decide_eq_true (by rw [hlen]; omega)) (bind_of hloop ?_))))))))
  show (F_28b s).bind _ = _
  exact bind_of (v_28b hs hr h20) (bif_no (by simp) rfl)
end
/-! ### alike, or not -/
theorem v_100ne {t u : Thing} (ht : t.2.2.2.2.length ≤ 1000000000) (hne : t ≠ u) : F_100 t u = some ((false, ()) : Els [.bool]) := by
  obtain ⟨(id : Int), (kind : Int), ⟨(b1 : Int), ⟨(b2 : Int), (b3 : Int)⟩, (b4 : Int), ⟨(b5 : Int), (b6 : Int)⟩, (b7 : Int), (b8 : Int)⟩, ⟨(j1 : Int), (j2 : Int), (j3 : Int)⟩, (l : List Int)⟩ := t
  obtain ⟨(id' : Int), (kind' : Int), ⟨(c1 : Int), ⟨(c2 : Int), (c3 : Int)⟩, (c4 : Int), ⟨(c5 : Int), (c6 : Int)⟩, (c7 : Int), (c8 : Int)⟩, ⟨(k1 : Int), (k2 : Int), (k3 : Int)⟩, (m : List Int)⟩ := u
  have hl : l.length ≤ 1000000000 := ht
  unfold F_100
  cases q1 : (id != id') with
  | true => rfl
  | false =>
  refine bif_no rfl ?_
  cases q2 : (kind != kind') with
  | true => rfl
  | false =>
  refine bif_no rfl ?_
  cases q3 : (b1 == c1 && ((b2 == c2 && (b3 == c3 && true)) && (b4 == c4 && ((b5 == c5 && (b6 == c6 && true)) && ((b7 == c7 && (b8 == c8 && true)) && true))))) with
  | false => rfl
  | true =>
  refine bif_no rfl ?_
  cases q4 : (j1 == k1 && (j2 == k2 && (j3 == k3 && true))) with
  | false => rfl
  | true =>
  refine bif_no rfl ?_
  cases q5 : ((l.length : Int) != (m.length : Int)) with
  | true => rfl
  | false =>
  refine bif_no rfl ?_
  have hlen : l.length = m.length := by
    have : ((l.length : Int)) = (m.length : Int) := by simpa using q5
    omega
  have hll : l ≠ m := by
    rintro rfl
    apply hne
    simp only [Bool.and_eq_true, beq_iff_eq, Bool.and_true] at q3 q4
    have r1 : id = id' := by simpa using q1
    have r2 : kind = kind' := by simpa using q2
    obtain ⟨rfl, ⟨rfl, rfl⟩, rfl, ⟨rfl, rfl⟩, rfl, rfl⟩ := q3
    obtain ⟨rfl, rfl, rfl⟩ := q4
    subst r1; subst r2; rfl
  generalize hT : (id, kind, (b1, (b2, b3), b4, (b5, b6), b7, b8), (j1, j2, j3), l) = T
  generalize hU : (id', kind', (c1, (c2, c3), c4, (c5, c6), c7, c8), (k1, k2, k3), m) = U
  have h := all_loop (G := fun x => G_100_4 x.1.2.2.1 x.2.1 x.2.2.1) (m := fuel) (l.zip m) (fun p => p.1 == p.2) (fun k => (((), (), (k : Int), ()), ((T : Thing), ()), ((U : Thing), ()), ())) (.inr ((false, ()), ())) (.inl ((), ()))
    (fun k p ha => ?_) ?_ (fuel_lt (by rw [List.length_zip]; omega))
  · have hno : ((l.zip m).all fun p => p.1 == p.2) = false := by
      rw [Bool.eq_false_iff]
      intro hall
      apply hll
      apply List.ext_getElem hlen
      intro i h1 h2
      have := List.all_eq_true.1 hall (l[i], m[i]) (by
        rw [List.mem_iff_getElem]
        exact ⟨i, by rw [List.length_zip]; omega, by simp⟩)
      simpa using this
    rw [hno] at h
    exact bind_of h rfl
  · rw [List.getElem?_zip_eq_some] at ha
    obtain ⟨h1, h2⟩ := ha
    have k1 := len_of h1
    have k2 := len_of h2
    subst hT; subst hU
    show (bif decide ((k : Int) < (l.length : Int)) then _ else _) = _
    refine bif_yes (dec_lt k1) (bif_yes (dec_in k1) (bif_yes (dec_in k2) ?_))
    rw [getD_of h1, getD_of h2, wrap_up k1 (by omega)]
    cases hx : (p.1 == p.2) <;> simp [bne, hx]
  · subst hT; subst hU
    show (bif decide (((l.zip m).length : Int) < (l.length : Int)) then _ else _) = _
    rw [decide_eq_false (by rw [List.length_zip]; omega)]
    rfl
theorem v_57ne {s r : Scene} (hs : Small s.2.2) (hne : s ≠ r) : F_57 s r = some ((false, ()) : Els [.bool]) := by
  obtain ⟨⟨(g1 : Int), (g2 : Int)⟩, (next : Int), (l : List Thing)⟩ := s
  obtain ⟨⟨(h1 : Int), (h2 : Int)⟩, (next' : Int), (m : List Thing)⟩ := r
  have hl : l.length ≤ 1000000000 := hs.1
  unfold F_57
  cases q1 : (g1 == h1 && (g2 == h2 && true)) with
  | false => rfl
  | true =>
  refine bif_no rfl ?_
  cases q2 : (next != next') with
  | true => rfl
  | false =>
  refine bif_no rfl ?_
  cases q5 : ((l.length : Int) != (m.length : Int)) with
  | true => rfl
  | false =>
  refine bif_no rfl ?_
  have hlen : l.length = m.length := by
    have : ((l.length : Int)) = (m.length : Int) := by simpa using q5
    omega
  have hll : l ≠ m := by
    rintro rfl
    apply hne
    simp only [Bool.and_eq_true, beq_iff_eq, Bool.and_true] at q1
    have r2 : next = next' := by simpa using q2
    obtain ⟨rfl, rfl⟩ := q1
    subst r2; rfl
  classical
  have h := all_loop (G := fun x => G_57_4 x.1.2.2.1 x.2.1 x.2.2.1) (m := fuel) (l.zip m) (fun p => decide (p.1 = p.2)) (fun k => (((), (), (k : Int), ()), ((((g1, g2), next, l) : Scene), ()), ((((h1, h2), next', m) : Scene), ()), ())) (.inr ((false, ()), ())) (.inl ((), ()))
    (fun k p ha => ?_) ?_ (fuel_lt (by rw [List.length_zip]; omega))
  · have hno : ((l.zip m).all fun p => decide (p.1 = p.2)) = false := by
      rw [Bool.eq_false_iff]
      intro hall
      apply hll
      apply List.ext_getElem hlen
      intro i h1 h2
      have := List.all_eq_true.1 hall (l[i], m[i]) (by
        rw [List.mem_iff_getElem]
        exact ⟨i, by rw [List.length_zip]; omega, by simp⟩)
      simpa using this
    rw [hno] at h
    exact bind_of h rfl
  · rw [List.getElem?_zip_eq_some] at ha
    obtain ⟨e1, e2⟩ := ha
    have k1 := len_of e1
    have k2 := len_of e2
    show (bif decide ((k : Int) < (l.length : Int)) then _ else _) = _
    refine bif_yes (dec_lt k1) (bif_yes (dec_in k1) (bif_yes (dec_in k2) ?_))
    show (F_100 (l.getD (Int.toNat (k : Int)) tThing.dflt) (m.getD (Int.toNat (k : Int)) tThing.dflt)).bind _ = _
    rw [getD_of e1, getD_of e2, wrap_up k1 (by omega)]
    have hx20 := hs.2 p.1 (List.mem_of_getElem? e1)
    by_cases hx : p.1 = p.2
    · rw [← hx]
      refine bind_of (v_100 p.1 hx20) ?_
      simp
    · refine bind_of (v_100ne hx20 hx) ?_
      simp [hx]
  · show (bif decide (((l.zip m).length : Int) < (l.length : Int)) then _ else _) = _
    rw [decide_eq_false (by rw [List.length_zip]; omega)]
    rfl
/-! ### SceneBytes -/
theorem sceneBytes (g h : Vec) (next after : I.El) (l m : (Ty.list tThing).El) (h0 : tVec.wf g) (h1 : tVec.wf h) (h2 : I.wf next) (h3 : I.wf after) (h4 : (Ty.list tThing).wf l) (h5 : (Ty.list tThing).wf m) : F_7 g h next after l m = some ((true, ()) : Els [.bool]) := by
  unfold F_7
  refine bind_of (v_22 l h4.1) ?_
  cases hf : fewB l with
  | false => exact bif_yes rfl (bind_of alive16 rfl)
  | true =>
  refine bif_no rfl (bind_of (v_22 m h5.1) ?_)
  cases hf' : fewB m with
  | false => exact bif_yes rfl (bind_of alive16 rfl)
  | true =>
  have h20 : ∀ t ∈ l, (ins t).length ≤ 20 := (few_small hf).2
  have h20' : ∀ t ∈ m, (ins t).length ≤ 20 := (few_small hf').2
  have hs : Small l := small_of (few_small hf)
  have hs' : Small m := small_of (few_small hf')
  refine bif_no rfl (bind_of (v_20 (g, next, l) hs) ?_)
  cases hr : rightB (g, next, l) with
  | false => exact bif_yes rfl (bind_of alive16 rfl)
  | true =>
  refine bif_no rfl (bind_of (v_20 (h, after, m) hs') ?_)
  cases hr' : rightB (h, after, m) with
  | false => exact bif_yes rfl (bind_of alive16 rfl)
  | true =>
  refine bif_no rfl (bind_of alive16 (bif_no rfl (bind_of (v_28b (s := (g, next, l)) hs hr h20) (bind_of (v_28b (s := (h, after, m)) hs' hr' h20') (bind_of (v_29 (s := (g, next, l)) hs hr h0 h4.2 h20) (bif_yes rfl (bind_of (v_25 _) (bind_of (v_24 (g, next, l) hs) (bif_yes rfl (bind_of (v_25 _) ?_))))))))))
  have hge : decide (((dumpS (g, next, l)).length : Int) ≥ 22) = true := decide_eq_true (by rw [dumpS, List.length_append, headS_len]; omega)
  have hx := v_29 (s := (g, next, l)) hs hr h0 h4.2 h20
  have hy := v_29 (s := (h, after, m)) hs' hr' h1 h5.2 h20'
  by_cases he : ((g, next, l) : Scene) = (h, after, m)
  · refine bind_of (x := (true, ())) ?_ ?_
    · rw [← he]; exact v_24 (g, next, l) hs
    · refine bif_yes ?_ ?_
      · rw [he]; simp
      · show some ((decide (((dumpS (g, next, l)).length : Int) ≥ 22), ()) : Els [.bool]) = _
        rw [hge]
  · refine bind_of (x := (false, ())) ?_ ?_
    · unfold F_24
      exact bind_of (v_25 _) (bind_of (v_57ne hs he) rfl)
    · have hd : (dumpS (g, next, l) == dumpS (h, after, m)) = false := by
        rw [beq_eq_false_iff_ne]
        intro e
        rw [e, hy] at hx
        apply he
        injection hx with hx
        injection hx with hx _
        exact hx.symm
      refine bif_yes ?_ ?_
      · show ((dumpS (g, next, l) == dumpS (h, after, m)) == false) = true
        rw [hd]; rfl
      · show some ((decide (((dumpS (g, next, l)).length : Int) ≥ 22), ()) : Els [.bool]) = _
        rw [hge]
end Go.DI.S

