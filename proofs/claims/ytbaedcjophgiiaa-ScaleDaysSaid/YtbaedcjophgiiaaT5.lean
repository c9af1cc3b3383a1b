/- The angle of a direction in plain numbers: it depends on the direction alone, and grows when the direction turns to the left, in the first quarter; no conditions but the components' signs. -/
import Derived.Test.YtbaedcjophgiiaaQx21
import Derived.Test.YtbaedcjophgiiaaQx4
import Derived.Test.YtbaedcjophgiiaaM1
import Derived.Test.YtbaedcjophgiiaaM3
import Derived.Test.YtbaedcjophgiiaaT1
import Derived.Test.YtbaedcjophgiiaaT2
import Derived.Test.YtbaedcjophgiiaaT3
import Derived.Test.YtbaedcjophgiiaaT4
namespace Go.Proofs.Ytbaedcjophgiiaa.Q
open Go.RowKit Go.Proofs.YtbaedcjophgiiaaW.PrintWords Go.Proofs.YtbaedcjophgiiaaW.PrintLast Go.Proofs.YtbaedcjophgiiaaW.PrintMore
set_option linter.unusedVariables false
set_option linter.unusedSimpArgs false

theorem below {a n : Int} (hn : 1 ≤ n) (hn1 : n < 9223372036854775808) : spymake_Below.f a n = some (a % n) := by
  unfold spymake_Below.f
  rw [if_neg (by omega), if_neg (by omega)]
  have m0 := Int.emod_nonneg a (show n ≠ 0 by omega)
  have m1 := Int.emod_lt_of_pos a (show 0 < n by omega)
  by_cases c : 0 ≤ a
  · rw [tmod_eq c, if_neg (by omega)]
  · have e : Int.tmod a n = -(-a % n) := by
      have := Int.neg_tmod (-a) n
      rw [Int.neg_neg] at this
      rw [this, tmod_eq (by omega)]
    rw [e, (show a % n = (if -a % n = 0 then 0 else n - -a % n) by
      have e1 := Int.emod_add_mul_ediv (-a) n
      have h0 := Int.emod_nonneg (-a) (show n ≠ 0 by omega)
      have h1 := Int.emod_lt_of_pos (-a) (show 0 < n by omega)
      split
      · exact ((Int.ediv_emod_unique (q := -(-a / n)) (show 0 < n by omega)).mpr ⟨by rw [Int.mul_neg]; omega, by omega, by omega⟩).2
      · exact ((Int.ediv_emod_unique (q := -(-a / n) - 1) (show 0 < n by omega)).mpr ⟨by rw [Int.mul_sub, Int.mul_neg]; omega, by omega, by omega⟩).2)]
    have h0 := Int.emod_nonneg (-a) (show n ≠ 0 by omega)
    have h1 := Int.emod_lt_of_pos (-a) (show 0 < n by omega)
    by_cases z : -a % n = 0
    · rw [if_neg (by omega), if_pos z, z]; rfl
    · rw [if_pos (by omega), if_neg z, w64_id (by omega) (by omega)]; congr 1; omega

theorem sn_q1 {m : Int} (h0 : 0 ≤ m) (h1 : m ≤ 1073741824) : sn m = qt m := by
  by_cases c : m = 1073741824
  · subst c; rw [sn_at (q := 1) (t := 0) (by decide) (by decide)]; simp
  · rw [sn_at (q := 0) (t := m) (by omega) (by omega)]; simp
theorem cs_q1 {m : Int} (h0 : 0 ≤ m) (h1 : m ≤ 1073741824) : cs m = qt (1073741824 - m) := by
  rw [cs_sn]
  by_cases c : m = 1073741824
  · subst c; rw [sn_at (q := 2) (t := 0) (by decide) (by decide)]; simp [qt_zero]
  · rw [sn_at (q := 1) (t := m) (by omega) (by omega)]; simp

theorem sn_up {m m' : Int} (h0 : 0 ≤ m) (h : m ≤ m') (h1 : m' ≤ 1073741824) : sn m ≤ sn m' := by
  rw [sn_q1 h0 (by omega), sn_q1 (by omega) h1]; exact qt_mono h0 h h1
theorem cs_down {m m' : Int} (h0 : 0 ≤ m) (h : m ≤ m') (h1 : m' ≤ 1073741824) : cs m' ≤ cs m := by
  rw [cs_q1 h0 (by omega), cs_q1 (by omega) h1]; exact qt_mono (by omega) (by omega) (by omega)
theorem cs_pos {m : Int} (h0 : 0 ≤ m) (h1 : m ≤ 1073741824) : 0 ≤ cs m := by
  rw [cs_q1 h0 h1]; exact (qt_bd (by omega) (by omega)).1

theorem meets_down {y x m m' : Int} (y0 : 0 ≤ y) (x0 : 0 ≤ x) (h0 : 0 ≤ m) (h : m ≤ m') (h1 : m' ≤ 1073741824) (hm : sn m' * x ≤ cs m' * y) : sn m * x ≤ cs m * y := by
  have a := Int.mul_le_mul_of_nonneg_right (sn_up h0 h h1) x0
  have b := Int.mul_le_mul_of_nonneg_right (cs_down h0 h h1) y0
  omega

theorem oct_le {y1 x1 y2 x2 : Int} (y0 : 0 ≤ y2) (x0 : 0 ≤ x2) (H : ∀ m, 0 ≤ m → m ≤ 536870912 → sn m * x1 ≤ cs m * y1 → sn m * x2 ≤ cs m * y2) : oct y1 x1 ≤ oct y2 x2 := by
  have a := oct_is y1 x1
  have b := oct_is y2 x2
  rcases Int.lt_or_le (oct y2 x2) (oct y1 x1) with c | c
  · exfalso
    rcases a.2.2.1 with h | h
    · omega
    · have h2 := H _ a.1 a.2.1 h
      rcases b.2.2.2 with h3 | h3
      · omega
      · exact h3 (meets_down y0 x0 (by omega) (by omega) (by omega) h2)
  · exact c

theorem oct_turn {y1 x1 y2 x2 : Int} (y10 : 0 ≤ y1) (x10 : 0 < x1) (y20 : 0 ≤ y2) (x20 : 0 ≤ x2) (h : y1 * x2 ≤ y2 * x1) : oct y1 x1 ≤ oct y2 x2 := by
  refine oct_le y20 x20 (fun m m0 m1 hm => ?_)
  have c0 := cs_pos m0 (by omega)
  have e1 := Int.mul_le_mul_of_nonneg_right hm x20
  have e2 := Int.mul_le_mul_of_nonneg_left h c0
  have f1 : sn m * x1 * x2 = sn m * x2 * x1 := by grind
  have f2 : cs m * (y2 * x1) = cs m * y2 * x1 := by grind
  have f3 : cs m * y1 * x2 = cs m * (y1 * x2) := by grind
  exact Int.le_of_mul_le_mul_right (a := x1) (by omega) x10

theorem oct_scale {n y x : Int} (hn : 1 ≤ n) (y0 : 0 ≤ y) (x0 : 0 ≤ x) : oct (n * y) (n * x) = oct y x := by
  have hy : 0 ≤ n * y := Int.mul_nonneg (by omega) y0
  have hx : 0 ≤ n * x := Int.mul_nonneg (by omega) x0
  have e : ∀ m : Int, sn m * (n * x) ≤ cs m * (n * y) ↔ sn m * x ≤ cs m * y := by
    intro m
    rw [show sn m * (n * x) = n * (sn m * x) by grind, show cs m * (n * y) = n * (cs m * y) by grind]
    exact Int.mul_le_mul_left (by omega)
  exact Int.le_antisymm (oct_le y0 x0 fun m _ _ h => (e m).mp h) (oct_le hy hx fun m _ _ h => (e m).mpr h)

/-- The angle within the first quarter. -/
def at0 (y x : Int) : Int := if y ≤ x then oct y x else 1073741824 - oct x y
theorem at1_abs (y x : Int) : at1 y x = at0 (mx y (-y)) (mx x (-x)) := rfl
theorem at0_bd (y x : Int) : 0 ≤ at0 y x ∧ at0 y x ≤ 1073741824 := by
  have a := oct_is y x
  have b := oct_is x y
  unfold at0; split <;> omega

theorem at0_turn {y1 x1 y2 x2 : Int} (y10 : 0 ≤ y1) (x10 : 0 ≤ x1) (h1 : x1 ≠ 0 ∨ y1 ≠ 0) (y20 : 0 ≤ y2) (x20 : 0 ≤ x2) (h2 : x2 ≠ 0 ∨ y2 ≠ 0) (h : y1 * x2 ≤ y2 * x1) : at0 y1 x1 ≤ at0 y2 x2 := by
  have a1 := oct_is y1 x1
  have a2 := oct_is x2 y2
  unfold at0
  by_cases c1 : y1 ≤ x1
  · rw [if_pos c1]
    by_cases c2 : y2 ≤ x2
    · rw [if_pos c2]; exact oct_turn y10 (by omega) y20 x20 h
    · rw [if_neg c2]; omega
  · rw [if_neg c1]
    by_cases c2 : y2 ≤ x2
    · exfalso
      have e1 : (x1 + 1) * x2 ≤ y1 * x2 := Int.mul_le_mul_of_nonneg_right (by omega) x20
      have e2 : y2 * x1 ≤ x2 * x1 := Int.mul_le_mul_of_nonneg_right c2 x10
      have e3 : (x1 + 1) * x2 = x2 * x1 + x2 := by grind
      omega
    · rw [if_neg c2]
      have := oct_turn (y1 := x2) (x1 := y2) (y2 := x1) (x2 := y1) x20 (by omega) x10 y10 (by
        rw [Int.mul_comm x2 y1, Int.mul_comm x1 y2]; exact h)
      omega

theorem at0_scale {n y x : Int} (hn : 1 ≤ n) (y0 : 0 ≤ y) (x0 : 0 ≤ x) : at0 (n * y) (n * x) = at0 y x := by
  unfold at0
  rw [oct_scale hn y0 x0, oct_scale hn x0 y0]
  by_cases c : y ≤ x
  · rw [if_pos c, if_pos (Int.mul_le_mul_of_nonneg_left c (by omega))]
  · rw [if_neg c, if_neg]
    intro h
    exact c (Int.le_of_mul_le_mul_left h (by omega))

theorem mx_pos {x : Int} (h : 0 ≤ x) : mx x (-x) = x := by unfold mx; split <;> omega
theorem mx_neg {x : Int} (h : x < 0) : mx x (-x) = -x := by unfold mx; split <;> omega

theorem at2_up {y x : Int} (y0 : 0 ≤ y) : at2 y x = (if x < 0 then 2147483648 - at0 y (-x) else at0 y x) := by
  unfold at2
  have b1 := at0_bd y (-x)
  have b2 := at0_bd y x
  rw [if_neg (by omega), at1_abs, mx_pos y0]
  by_cases c : x < 0
  · rw [if_pos c, if_pos c, mx_neg c]; omega
  · rw [if_neg c, if_neg c, mx_pos (by omega)]; omega

/-- In the upper half, the angle grows when the direction turns to the left. -/
theorem at2_turn {p q r s : Int} (q0 : 0 ≤ q) (s0 : 0 ≤ s) (h1 : p ≠ 0 ∨ q ≠ 0) (h2 : r ≠ 0 ∨ s ≠ 0) (n1 : ¬ (q = 0 ∧ p < 0)) (n2 : ¬ (s = 0 ∧ r < 0)) (h : 0 ≤ p * s - q * r) : at2 q p ≤ at2 s r := by
  rw [at2_up q0, at2_up s0]
  have b1 := at0_bd q p
  have b2 := at0_bd s (-r)
  by_cases cp : p < 0
  · rw [if_pos cp]
    by_cases cr : r < 0
    · rw [if_pos cr]
      have := at0_turn (y1 := s) (x1 := -r) (y2 := q) (x2 := -p) s0 (by omega) (by omega) q0 (by omega) (by omega) (by
        rw [Int.mul_neg, Int.mul_neg, Int.mul_comm s p]; omega)
      omega
    · exfalso
      have e1 : s * p ≤ s * (-1) := Int.mul_le_mul_of_nonneg_left (by omega) s0
      have e2 : 1 * r ≤ q * r := Int.mul_le_mul_of_nonneg_right (by omega) (by omega)
      rw [Int.mul_comm p s] at h
      omega
  · rw [if_neg cp]
    by_cases cr : r < 0
    · rw [if_pos cr]; omega
    · rw [if_neg cr]
      exact at0_turn q0 (by omega) (by omega) s0 (by omega) (by omega) (by rw [Int.mul_comm s p]; omega)

theorem at2_scale {n p q : Int} (hn : 1 ≤ n) (q0 : 0 ≤ q) : at2 (n * q) (n * p) = at2 q p := by
  have hq : 0 ≤ n * q := Int.mul_nonneg (by omega) q0
  rw [at2_up q0, at2_up hq]
  by_cases c : p < 0
  · have c' : n * p < 0 := Int.mul_neg_of_pos_of_neg (by omega) c
    rw [if_pos c, if_pos c', show -(n * p) = n * (-p) by rw [Int.mul_neg], at0_scale hn q0 (by omega)]
  · have c' : 0 ≤ n * p := Int.mul_nonneg (by omega) (by omega)
    rw [if_neg c, if_neg (by omega), at0_scale hn q0 (by omega)]
end Go.Proofs.Ytbaedcjophgiiaa.Q
