import Derived.Test.YtbjldjihpekhaaaGreatMd
/- Bodies that may be, plain. No conditions. -/
/-! A whole number of few thousands as a float is read as so many Ones. -/
set_option linter.unusedVariables false
set_option maxRecDepth 1000000
namespace Go.DI.S
open Go.Proofs
noncomputable def gOk (n : Int) : Bool := match F_get (FloatKind.f64.nearest n) with
  | some (a, b, ()) => decide (a = n * 4294967296) && decide (b = 0)
  | none => false
theorem gOk_eq {n : Int} (h : gOk n = true) : F_get (FloatKind.f64.nearest n) = some ((n * 4294967296, 0, ()) : Els [I, I]) := by
  unfold gOk at h
  split at h
  · rename_i a b ha
    simp only [Bool.and_eq_true, decide_eq_true_eq] at h
    rw [ha, h.1, h.2]
  · cases h
noncomputable def gRow (a : Int) : Nat → Bool
  | 0 => true
  | k + 1 => gOk (a + k) && gRow a k
theorem gRow_at {a : Int} : ∀ {k : Nat}, gRow a k = true → ∀ n : Int, a ≤ n → n < a + k → gOk n = true
  | 0, _, n, h1, h2 => by omega
  | k + 1, h, n, h1, h2 => by
    simp only [gRow, Bool.and_eq_true] at h
    by_cases e : n = a + k
    · subst e; exact h.1
    · exact gRow_at h.2 n h1 (by omega)
end Go.DI.S

/-! A body that is made in a new scene, plain. -/
set_option linter.unusedVariables false
set_option linter.unusedSimpArgs false
set_option maxRecDepth 100000
namespace Go.DI.S
open Go.Proofs
theorem bnd {α β : Type} {a : Option α} {f : α → Option β} {x : α} {y : Option β} (h : a = some x) (k : f x = y) : a.bind f = y := by rw [h]; exact k
theorem yesQ {α : Type} {c : Bool} {a b y : α} (h : c = true) (k : a = y) : (bif c then a else b) = y := by subst h; exact k
theorem noQ {α : Type} {c : Bool} {a b y : α} (h : c = false) (k : b = y) : (bif c then a else b) = y := by subst h; exact k
def oneF : Int := 4294967296
/-- What is asked for. -/
def bodyQ (sh x y w h m : Int) : Body := (sh, (w * 4294967296, h), m * 4294967296, (x * 4294967296, y * 4294967296), (0, 0))
def thingQ (sh x y w h m : Int) : Thing := (7, 1, bodyQ sh x y w h m, (0, 0, 0), [])
def s7 : Scene := ((0, 0), 7, [])
def s8 : Scene := ((0, 0), 8, [])
theorem w1Q : IntKind.i64.wrap ((0 : Int) - 42949672960000) = -42949672960000 := by decide
theorem w2Q : IntKind.i64.wrap ((0 : Int) - 4294967296000000) = -4294967296000000 := by decide
theorem v_126q (a b c : Int) : F_126 a b c = some ((decide (a ≥ b) && decide (a ≤ c), ()) : Els [.bool]) := by
  unfold F_126
  cases decide (a ≥ b) <;> rfl
theorem in_q {a b c : Int} (h1 : b ≤ a) (h2 : a ≤ c) : F_126 a b c = some ((true, ()) : Els [.bool]) := by
  rw [v_126q, decide_eq_true (show a ≥ b from h1), decide_eq_true h2]; rfl
theorem near_q {x y c : Int} {b : Int} (hw : IntKind.i64.wrap ((0 : Int) - c) = b) (h1 : b ≤ x) (h2 : x ≤ c) (h3 : b ≤ y) (h4 : y ≤ c) : F_127 (x, y) c = some ((true, ()) : Els [.bool]) := by
  have h : F_127 (x, y) c = (F_126 x (IntKind.i64.wrap ((0 : Int) - c)) c).bind fun v1 => bif v1.fst then (F_126 y (IntKind.i64.wrap ((0 : Int) - c)) c).bind fun v3 => some ((v3.fst, ()) : Els [.bool]) else some (false, ()) := rfl
  rw [h, hw]
  exact bnd (in_q h1 h2) (yesQ rfl (bnd (in_q h3 h4) rfl))
theorem e125a : F_125 1 = some (([98, 97, 108, 108], ()) : Els [.str]) := by kernel_rfl
theorem e125b : F_125 2 = some (([99, 114, 97, 116, 101], ()) : Els [.str]) := by kernel_rfl
theorem e125c {n : Int} (h1 : n ≠ 1) (h2 : n ≠ 2) : F_125 n = some (([], ()) : Els [.str]) := by
  unfold F_125
  exact noQ (by simpa using h1) (noQ (by simpa using h2) rfl)
theorem mass_q {x y m : Int} (hx1 : -9000 ≤ x) (hx2 : x ≤ 9000) (hy1 : -9000 ≤ y) (hy2 : y ≤ 9000) (hm1 : 0 ≤ m) (hm2 : m ≤ 9000) :
    (bif m * 4294967296 == (0 : Int) then
      bif !(((0 : Int) == (0 : Int)) && (((0 : Int) == (0 : Int)) && true)) then some ((false, ()) : Els [.bool])
      else
        bif m * 4294967296 != (0 : Int) then
          (F_126 (m * 4294967296) (67108864 : Int) (42949672960000 : Int)).bind fun v33 =>
            bif !v33.fst then some ((false, ()) : Els [.bool])
            else
              (F_127 (x * 4294967296, y * 4294967296) (42949672960000 : Int)).bind fun v35 =>
                bif v35.fst then (F_127 ((0 : Int), (0 : Int)) (4294967296000000 : Int)).bind fun v37 => some ((v37.fst, ()) : Els [.bool]) else some (false, ())
        else
          (F_127 (x * 4294967296, y * 4294967296) (42949672960000 : Int)).bind fun v38 =>
            bif v38.fst then (F_127 ((0 : Int), (0 : Int)) (4294967296000000 : Int)).bind fun v40 => some ((v40.fst, ()) : Els [.bool]) else some (false, ())
    else
      bif m * 4294967296 != (0 : Int) then
        (F_126 (m * 4294967296) (67108864 : Int) (42949672960000 : Int)).bind fun v42 =>
          bif !v42.fst then some ((false, ()) : Els [.bool])
          else
            (F_127 (x * 4294967296, y * 4294967296) (42949672960000 : Int)).bind fun v44 =>
              bif v44.fst then (F_127 ((0 : Int), (0 : Int)) (4294967296000000 : Int)).bind fun v46 => some ((v46.fst, ()) : Els [.bool]) else some (false, ())
      else
        (F_127 (x * 4294967296, y * 4294967296) (42949672960000 : Int)).bind fun v47 =>
          bif v47.fst then (F_127 ((0 : Int), (0 : Int)) (4294967296000000 : Int)).bind fun v49 => some ((v49.fst, ()) : Els [.bool]) else some (false, ())) = some ((true, ()) : Els [.bool]) := by
  have n1 : F_127 (x * 4294967296, y * 4294967296) 42949672960000 = some ((true, ()) : Els [.bool]) := near_q w1Q (by omega) (by omega) (by omega) (by omega)
  have n2 : F_127 ((0 : Int), (0 : Int)) 4294967296000000 = some ((true, ()) : Els [.bool]) := near_q w2Q (by omega) (by omega) (by omega) (by omega)
  by_cases hm : m = 0
  · subst hm
    exact yesQ rfl (noQ rfl (noQ rfl (bnd n1 (yesQ rfl (bnd n2 rfl)))))
  · have e1 : (m * 4294967296 == (0 : Int)) = false := by
      rw [beq_eq_false_iff_ne]; omega
    have e2 : (m * 4294967296 != (0 : Int)) = true := by
      unfold bne; rw [e1]; rfl
    exact noQ e1 (yesQ e2 (bnd (in_q (by omega) (by omega)) (noQ rfl (bnd n1 (yesQ rfl (bnd n2 rfl))))))
theorem v_88a {x y w m : Int} (hx1 : -9000 ≤ x) (hx2 : x ≤ 9000) (hy1 : -9000 ≤ y) (hy2 : y ≤ 9000) (hw1 : 1 ≤ w) (hw2 : w ≤ 900) (hm1 : 0 ≤ m) (hm2 : m ≤ 9000) : F_88 (bodyQ 1 x y w 0 m) = some ((true, ()) : Els [.bool]) := by
  unfold F_88
  exact bnd e125a (noQ rfl (bnd (in_q (show (67108864 : Int) ≤ w * 4294967296 by omega) (show w * 4294967296 ≤ (4294967296000 : Int) by omega)) (noQ rfl (yesQ rfl (noQ rfl (noQ rfl (mass_q hx1 hx2 hy1 hy2 hm1 hm2)))))))
theorem v_88b {x y w h m : Int} (hx1 : -9000 ≤ x) (hx2 : x ≤ 9000) (hy1 : -9000 ≤ y) (hy2 : y ≤ 9000) (hw1 : 1 ≤ w) (hw2 : w ≤ 900) (hh1 : 1 ≤ h) (hh2 : h ≤ 900) (hm1 : 0 ≤ m) (hm2 : m ≤ 9000) : F_88 (bodyQ 2 x y w (h * 4294967296) m) = some ((true, ()) : Els [.bool]) := by
  unfold F_88
  exact bnd e125b (noQ rfl (bnd (in_q (show (67108864 : Int) ≤ w * 4294967296 by omega) (show w * 4294967296 ≤ (4294967296000 : Int) by omega)) (noQ rfl (noQ rfl (yesQ rfl (bnd (in_q (show (67108864 : Int) ≤ h * 4294967296 by omega) (show h * 4294967296 ≤ (4294967296000 : Int) by omega)) (noQ rfl (mass_q hx1 hx2 hy1 hy2 hm1 hm2))))))))
theorem v_88c {sh x y w h m : Int} (h1 : sh ≠ 1) (h2 : sh ≠ 2) : F_88 (bodyQ sh x y w h m) = some ((false, ()) : Els [.bool]) := by
  unfold F_88
  exact bnd (e125c h1 h2) (yesQ rfl rfl)
theorem e86q : F_86 7 = some ((true, ()) : Els [.bool]) := by kernel_rfl
theorem e87q (sh x y w h m : Int) : F_87 (thingQ sh x y w h m) = some ((true, ()) : Els [.bool]) := by kernel_rfl
theorem v_45q {sh x y w h m : Int} {b : Bool} (e : F_88 (bodyQ sh x y w h m) = some ((b, ()) : Els [.bool])) : F_45 (thingQ sh x y w h m) = some ((b, ()) : Els [.bool]) := by
  unfold F_45
  exact bnd e86q (noQ rfl (bnd (e87q sh x y w h m) (noQ rfl (yesQ rfl (bnd e rfl)))))
theorem e20q : F_20 s8 = some ((true, ()) : Els [.bool]) := by kernel_rfl
theorem e20r : F_20 s7 = some ((true, ()) : Els [.bool]) := by kernel_rfl
theorem withQ {sh x y w h m : Int} (e : F_45 (thingQ sh x y w h m) = some ((true, ()) : Els [.bool])) : F_18w s8 (thingQ sh x y w h m) = some ((((0, 0), 8, [thingQ sh x y w h m]), 0, ()) : Els [tScene, I]) := by
  unfold F_18w
  exact bnd e20q (noQ rfl (bnd e (noQ rfl (by kernel_rfl))))
def ordQ (sh : Int) (X Y W H M : Nat) : Order := (1, 0, 0, sh, X, Y, W, H, M, 0, 0, [])
theorem make_eq (sh x y w h m : Int) (o : Order) (n : tFive.El) : F_make (0, 1, bodyQ sh x y w h m, (0, 0, 0), []) ((s7, o, n), ()) = (F_45 (thingQ sh x y w h m)).bind fun v2 => bif !v2.fst then some (((s7, (0 : Int), (9 : Int), ()), ((s7, o, n), ()), ()) : OUT_make.El) else (F_18w s8 (thingQ sh x y w h m)).bind fun v4 => some (((v4.fst, (7 : Int), v4.snd.fst, ()), ((s7, o, n), ()), ()) : OUT_make.El) := by kernel_rfl
theorem do_eq (sh x y w h m : Int) (X Y W H M : Nat) : F_do ((s7, ordQ sh X Y W H M, (x * 4294967296, y * 4294967296, w * 4294967296, h, m * 4294967296)), ()) = (F_make (0, 1, bodyQ sh x y w h m, (0, 0, 0), []) ((s7, ordQ sh X Y W H M, (x * 4294967296, y * 4294967296, w * 4294967296, h, m * 4294967296)), ())).bind fun v8 => some (((v8.fst.fst, v8.fst.snd.fst, v8.fst.snd.snd.fst, ()), (v8.snd.fst.fst, ()), ()) : OUT_do.El) := by kernel_rfl
theorem readA {x y w m : Int} {X Y W H M : Nat} (hx : F_get X = some ((x * 4294967296, 0, ()) : Els [I, I])) (hy : F_get Y = some ((y * 4294967296, 0, ()) : Els [I, I])) (hw : F_get W = some ((w * 4294967296, 0, ()) : Els [I, I])) (hm : F_get M = some ((m * 4294967296, 0, ()) : Els [I, I])) :
    F_readw ((s7, ordQ 1 X Y W H M, (0, 0, 0, 0, 0)), ()) = some (((0, ()), ((s7, ordQ 1 X Y W H M, (x * 4294967296, y * 4294967296, w * 4294967296, 0, m * 4294967296)), ()), ()) : OUT_readw.El) := by
  unfold F_readw
  exact yesQ rfl (bnd rfl (bnd hx (noQ rfl (bnd hy (noQ rfl (bnd hw (noQ rfl (yesQ rfl (bnd hm (noQ rfl rfl))))))))))
theorem readB {sh x y w h m : Int} {X Y W H M : Nat} (hs : sh ≠ 1) (hx : F_get X = some ((x * 4294967296, 0, ()) : Els [I, I])) (hy : F_get Y = some ((y * 4294967296, 0, ()) : Els [I, I])) (hw : F_get W = some ((w * 4294967296, 0, ()) : Els [I, I])) (hh : F_get H = some ((h * 4294967296, 0, ()) : Els [I, I])) (hm : F_get M = some ((m * 4294967296, 0, ()) : Els [I, I])) :
    F_readw ((s7, ordQ sh X Y W H M, (0, 0, 0, 0, 0)), ()) = some (((0, ()), ((s7, ordQ sh X Y W H M, (x * 4294967296, y * 4294967296, w * 4294967296, h * 4294967296, m * 4294967296)), ()), ()) : OUT_readw.El) := by
  unfold F_readw
  exact yesQ rfl (bnd rfl (bnd hx (noQ rfl (bnd hy (noQ rfl (bnd hw (noQ rfl (noQ (beq_eq_false_iff_ne.2 hs) (bnd hh (noQ rfl (bnd hm (noQ rfl rfl))))))))))))
/-- What Do comes to: a body that may be is made. -/
theorem DoQ {sh x y w h m : Int} {X Y W H M : Nat} (hr : F_readw ((s7, ordQ sh X Y W H M, (0, 0, 0, 0, 0)), ()) = some (((0, ()), ((s7, ordQ sh X Y W H M, (x * 4294967296, y * 4294967296, w * 4294967296, h, m * 4294967296)), ()), ()) : OUT_readw.El)) {b : Bool} (hb : F_45 (thingQ sh x y w h m) = some ((b, ()) : Els [.bool])) :
    F_Do s7 (ordQ sh X Y W H M) = some ((bif b then (((0, 0), 8, [thingQ sh x y w h m]), 7, 0, ()) else (s7, 0, 9, ())) : Els [tScene, I, I]) := by
  have hd : F_do ((s7, ordQ sh X Y W H M, (x * 4294967296, y * 4294967296, w * 4294967296, h, m * 4294967296)), ()) = some (((bif b then (((0, 0), 8, [thingQ sh x y w h m]), 7, 0, ()) else (s7, 0, 9, ())), ((s7, ordQ sh X Y W H M, (x * 4294967296, y * 4294967296, w * 4294967296, h, m * 4294967296)), ()), ()) : OUT_do.El) := by
    rw [do_eq, make_eq, hb]
    cases b with
    | false => rfl
    | true => rw [withQ hb]; rfl
  unfold F_Do
  refine noQ rfl (noQ rfl (bnd e20r (noQ rfl (bnd hr (noQ rfl (bnd hd ?_))))))
  cases b <;> rfl
end Go.DI.S

