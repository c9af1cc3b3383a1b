/- The sine of the first quarter grows, by at most 3 from one angle to the next, and by at least 1 from an angle of the first eighth to the third one after it; no conditions but the quarter's bounds. -/
import Derived.Test.YtbaedcjophgiiaaQx21
import Derived.Test.YtbaedcjophgiiaaQx15
import Derived.Test.YtbaedcjophgiiaaM1
import Derived.Test.YtbaedcjophgiiaaM2
import Derived.Test.YtbaedcjophgiiaaM3
import Derived.Test.YtbaedcjophgiiaaM4
import Derived.Test.YtbaedcjophgiiaaM5
import Derived.Test.YtbaedcjophgiiaaB1
import Derived.Test.YtbaedcjophgiiaaT1
namespace Go.Proofs.Ytbaedcjophgiiaa.Q
open Go.RowKit Go.Proofs.YtbaedcjophgiiaaW.PrintWords Go.Proofs.YtbaedcjophgiiaaW.PrintLast Go.Proofs.YtbaedcjophgiiaaW.PrintMore
set_option linter.unusedVariables false
set_option linter.unusedSimpArgs false

theorem div_half {X k : Int} (hX : 0 ≤ X) (hk : 2 ≤ k) : X / k ≤ X / 2 := by
  have h := Int.ediv_mul_le X (show k ≠ 0 by omega)
  have p : 0 ≤ X / k := Int.ediv_nonneg hX (by omega)
  have m : X / k * 2 ≤ X / k * k := Int.mul_le_mul_of_nonneg_left hk p
  omega
theorem div_grow {X d k : Int} (hd : 0 ≤ d) (hk : 1 ≤ k) : (X + d) / k ≤ X / k + d := by
  have m : d * 1 ≤ d * k := Int.mul_le_mul_of_nonneg_left hk hd
  have h : (X + d) / k ≤ (X + d * k) / k := Int.ediv_le_ediv (by omega) (by omega)
  rw [Int.add_mul_ediv_right _ _ (by omega)] at h
  exact h

theorem tm_two {u u' s s' : Int} (h0 : 0 ≤ u) (h : u ≤ u') (hs : s' ≤ s) (s1 : s ≤ 1152921504606846976) (hu : u ≤ s') (hd : s - s' ≤ u' - u) (hs0 : 0 ≤ s') :
    tm u s ≤ tm u' s' ∧ tm u' s' ≤ tm u s + (u' - u) := by
  have e1 : u' * s' - u * s = (u' - u) * s' - u * (s - s') := by grind
  have e2 : u * (s - s') ≤ u * (u' - u) := Int.mul_le_mul_of_nonneg_left hd h0
  have e3 : (u' - u) * u ≤ (u' - u) * s' := Int.mul_le_mul_of_nonneg_left hu (by omega)
  have e4 : u * (u' - u) = (u' - u) * u := Int.mul_comm _ _
  have f1 : u' * s' ≤ u' * s := Int.mul_le_mul_of_nonneg_left hs (by omega)
  have f2 : u' * s = u * s + (u' - u) * s := by grind
  have f3 : (u' - u) * s ≤ (u' - u) * 1152921504606846976 := Int.mul_le_mul_of_nonneg_left s1 (by omega)
  unfold tm
  constructor
  · omega
  · omega

theorem ser_two {u u' : Int} (h0 : 0 ≤ u) (h : u ≤ u') (h1 : u' ≤ 711500000000000000) (l : List Int) : ∀ s s' : Int, (∀ k ∈ l, 2 ≤ k) → s' ≤ s → s ≤ 1152921504606846976 → 711500000000000000 ≤ s' → s - s' ≤ u' - u →
    ser u' s' l ≤ ser u s l ∧ ser u s l - ser u' s' l ≤ u' - u ∧ 711500000000000000 ≤ ser u' s' l ∧ ser u s l ≤ 1152921504606846976 := by
  induction l with
  | nil => intro s s' _ a b c d; exact ⟨a, d, c, b⟩
  | cons k l ih =>
    intro s s' hk a b c d
    have k2 := hk k (by simp)
    obtain ⟨t1, t2⟩ := tm_two h0 h a b (by omega) d (by omega)
    have b1 := tm_bd (a := u) (b := s) h0 (by omega) (by omega) b
    have b2 := tm_bd (a := u') (b := s') (by omega) (by omega) (by omega) (by omega)
    have m1 : tm u s / k ≤ tm u' s' / k := Int.ediv_le_ediv (by omega) t1
    have m2 : tm u' s' / k ≤ tm u s / k + (u' - u) := by
      have := Int.ediv_le_ediv (a := tm u' s') (b := tm u s + (u' - u)) (c := k) (by omega) t2
      have := div_grow (X := tm u s) (d := u' - u) (k := k) (by omega) (by omega)
      omega
    have m3 := div_half (X := tm u' s') (k := k) b2.1 k2
    have m4 : 0 ≤ tm u s / k := Int.ediv_nonneg b1.1 (by omega)
    exact ih _ _ (fun k h => hk k (by simp [h])) (by omega) (by omega) (by omega) (by omega)

theorem ser_app (u : Int) (k : Int) (l : List Int) : ∀ s, ser u s (l ++ [k]) = 1152921504606846976 - tm u (ser u s l) / k := by
  induction l with
  | nil => intro s; rfl
  | cons a l ih => intro s; exact ih _

/-- Squares of neighbouring numbers. -/
theorem sq_two {x e : Int} (x0 : 0 ≤ x) (x1 : x + e ≤ 905502432259640355) (e0 : 0 ≤ e) (e1 : e ≤ 6000000000) :
    tm x x ≤ tm (x + e) (x + e) ∧ 10 * (tm (x + e) (x + e) - tm x x) ≤ 16 * e + 400 ∧ 0 ≤ tm x x ∧ tm (x + e) (x + e) ≤ 711500000000000000 := by
  have q : (x + e) * (x + e) = x * x + 2 * (x * e) + e * e := by grind
  have p1 : 0 ≤ x * e := Int.mul_nonneg x0 e0
  have p2 : 0 ≤ e * e := Int.mul_nonneg e0 e0
  have p3 : x * e ≤ 905502432259640355 * e := Int.mul_le_mul_of_nonneg_right (by omega) e0
  have p4 : e * e ≤ 6000000000 * 6000000000 := Int.mul_le_mul e1 e1 e0 (by decide)
  have p5 : 0 ≤ x * x := Int.mul_nonneg x0 x0
  have p6 : (x + e) * (x + e) ≤ 905502432259640355 * 905502432259640355 := Int.mul_le_mul x1 x1 (by omega) (by decide)
  unfold tm
  refine ⟨by omega, by omega, by omega, by omega⟩

/-- The value of the sine before it is rounded. -/
def vs (x : Int) : Int := tm x (ser (tm x x) 1152921504606846976 sinL)
theorem vs_two {x e : Int} (x0 : 0 ≤ x) (x1 : x + e ≤ 905502432259640355) (e0 : 20 ≤ e) (e1 : e ≤ 6000000000) :
    vs x ≤ vs (x + e) ∧ vs (x + e) ≤ vs x + e ∧ 10 * (vs (x + e) - vs x) ≥ 4 * e - 100 := by
  obtain ⟨q1, q2, q3, q4⟩ := sq_two x0 x1 (by omega) e1
  have S := ser_two q3 q1 q4 [156, 110, 72, 42, 20] 1152921504606846976 1152921504606846976 (by decide) (by decide) (by decide) (by decide) (by omega)
  have hs : ∀ u, ser u 1152921504606846976 sinL = 1152921504606846976 - tm u (ser u 1152921504606846976 [156, 110, 72, 42, 20]) / 6 := fun u => ser_app u 6 [156, 110, 72, 42, 20] _
  unfold vs
  rw [hs, hs]
  generalize tm x x = u at *
  generalize tm (x + e) (x + e) = u' at *
  obtain ⟨t1, t2⟩ := tm_two q3 q1 S.1 S.2.2.2 (by omega) S.2.1 (by omega)
  have b1 := tm_bd (a := u) (b := ser u 1152921504606846976 [156, 110, 72, 42, 20]) q3 (by omega) (by omega) (by omega)
  have b2 := tm_bd (a := u') (b := ser u' 1152921504606846976 [156, 110, 72, 42, 20]) (by omega) (by omega) (by omega) (by omega)
  generalize tm u (ser u 1152921504606846976 [156, 110, 72, 42, 20]) = X at *
  generalize tm u' (ser u' 1152921504606846976 [156, 110, 72, 42, 20]) = X' at *
  obtain ⟨s, hs1⟩ : ∃ s, s = 1152921504606846976 - X / 6 := ⟨_, rfl⟩
  obtain ⟨s', hs2⟩ : ∃ s', s' = 1152921504606846976 - X' / 6 := ⟨_, rfl⟩
  rw [← hs1, ← hs2]
  have dl : 60 * (s - s') ≤ 16 * e + 1000 := by omega
  have dl0 : s' ≤ s := by omega
  have lo : 711500000000000000 ≤ s' := by omega
  have up : s ≤ 1152921504606846976 := by omega
  have g1 : (x + e) * s' = x * s + e * s' - x * (s - s') := by grind
  have g2 : e * 711500000000000000 ≤ e * s' := Int.mul_le_mul_of_nonneg_left lo (by omega)
  have g3 : x * (s - s') ≤ 905502432259640355 * (s - s') := Int.mul_le_mul_of_nonneg_right (by omega) (by omega)
  have g4 : 0 ≤ x * (s - s') := Int.mul_nonneg x0 (by omega)
  have g5 : e * s' ≤ e * 1152921504606846976 := Int.mul_le_mul_of_nonneg_left (by omega) (by omega)
  unfold tm
  generalize (x + e) * s' = P' at *
  generalize x * s = P at *
  generalize e * s' = R at *
  generalize x * (s - s') = T at *
  refine ⟨by omega, by omega, by omega⟩

/-- The value of the cosine before it is rounded. -/
def vc (x : Int) : Int := ser (tm x x) 1152921504606846976 cosL
theorem vc_two {x e : Int} (x0 : 0 ≤ x) (x1 : x + e ≤ 905502432259640355) (e0 : 0 ≤ e) (e1 : e ≤ 6000000000) :
    vc (x + e) ≤ vc x ∧ 10 * (vc x - vc (x + e)) ≤ 16 * e + 400 := by
  obtain ⟨q1, q2, q3, q4⟩ := sq_two x0 x1 (by omega) e1
  have S := ser_two q3 q1 q4 cosL 1152921504606846976 1152921504606846976 (by decide) (by decide) (by decide) (by decide) (by omega)
  unfold vc
  omega

theorem qt_lo {t : Int} (h : t ≤ 536870912) : qt t = rnd (vs (xof t)) := by unfold qt vs; rw [if_neg (by omega)]
theorem qt_hi {t : Int} (h : t > 536870912) : qt t = rnd (vc (xof (1073741824 - t))) := by unfold qt vc; rw [if_pos h]

theorem qt_mid : qt 536870912 ≤ qt 536870913 ∧ qt 536870913 ≤ qt 536870912 + 3 := by decide +kernel

theorem qt_next {t : Int} (h0 : 0 ≤ t) (h1 : t < 1073741824) : qt t ≤ qt (t + 1) ∧ qt (t + 1) ≤ qt t + 3 := by
  by_cases c : t < 536870912
  · rw [qt_lo (by omega), qt_lo (by omega)]
    have b := xof_bd (t := t) h0 (by omega)
    have b' := xof_bd (t := t + 1) (by omega) (by omega)
    obtain ⟨e, he⟩ : ∃ e, xof (t + 1) = xof t + e := ⟨xof (t + 1) - xof t, by omega⟩
    have he0 : 1686629700 ≤ e ∧ e ≤ 1686629800 := by unfold xof at he; omega
    rw [he] at b' ⊢
    obtain ⟨v1, v2, v3⟩ := vs_two (x := xof t) (e := e) b.1 b'.2 (by omega) (by omega)
    unfold rnd; omega
  · by_cases d : t = 536870912
    · subst d; exact qt_mid
    · rw [qt_hi (by omega), qt_hi (by omega)]
      have b := xof_bd (t := 1073741824 - t) (by omega) (by omega)
      have b' := xof_bd (t := 1073741824 - (t + 1)) (by omega) (by omega)
      obtain ⟨e, he⟩ : ∃ e, xof (1073741824 - t) = xof (1073741824 - (t + 1)) + e := ⟨xof (1073741824 - t) - xof (1073741824 - (t + 1)), by omega⟩
      have he0 : 1686629700 ≤ e ∧ e ≤ 1686629800 := by unfold xof at he; omega
      rw [he] at b ⊢
      obtain ⟨v1, v2⟩ := vc_two (x := xof (1073741824 - (t + 1))) (e := e) b'.1 b.2 (by omega) (by omega)
      unfold rnd; omega

theorem qt_mono_nat (n : Nat) : ∀ t : Int, 0 ≤ t → t + n ≤ 1073741824 → qt t ≤ qt (t + n) := by
  induction n with
  | zero => intro t _ _; simp
  | succ n ih =>
    intro t h0 h1
    have a := ih t h0 (by omega)
    have b := (qt_next (t := t + n) (by omega) (by omega)).1
    rw [show t + ((n + 1 : Nat) : Int) = t + n + 1 by omega]
    omega
theorem qt_mono {t t' : Int} (h0 : 0 ≤ t) (h : t ≤ t') (h1 : t' ≤ 1073741824) : qt t ≤ qt t' := by
  have := qt_mono_nat (t' - t).toNat t h0 (by omega)
  rw [show t + ((t' - t).toNat : Int) = t' by omega] at this
  exact this

theorem qt_three {t : Int} (h0 : 0 ≤ t) (h1 : t + 3 ≤ 536870912) : qt t + 1 ≤ qt (t + 3) := by
  rw [qt_lo (by omega), qt_lo (by omega)]
  have b := xof_bd (t := t) h0 (by omega)
  have b' := xof_bd (t := t + 3) (by omega) (by omega)
  obtain ⟨e, he⟩ : ∃ e, xof (t + 3) = xof t + e := ⟨xof (t + 3) - xof t, by omega⟩
  have he0 : 5059889100 ≤ e ∧ e ≤ 5059889200 := by unfold xof at he; omega
  rw [he] at b' ⊢
  obtain ⟨v1, v2, v3⟩ := vs_two (x := xof t) (e := e) b.1 b'.2 (by omega) (by omega)
  unfold rnd; omega

theorem qt_zero : qt 0 = 0 := by decide +kernel
theorem qt_one : qt 1073741824 = 1073741824 := by decide +kernel
end Go.Proofs.Ytbaedcjophgiiaa.Q
