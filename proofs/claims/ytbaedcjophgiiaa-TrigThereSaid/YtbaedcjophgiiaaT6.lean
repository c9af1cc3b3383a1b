/- The angle of the cosine and the sine of an angle is this angle, up to 2, in plain numbers; no conditions. -/
import Derived.Test.YtbaedcjophgiiaaQx21
import Derived.Test.YtbaedcjophgiiaaM1
import Derived.Test.YtbaedcjophgiiaaM3
import Derived.Test.YtbaedcjophgiiaaT1
import Derived.Test.YtbaedcjophgiiaaT2
import Derived.Test.YtbaedcjophgiiaaT3
import Derived.Test.YtbaedcjophgiiaaT4
import Derived.Test.YtbaedcjophgiiaaT5
namespace Go.Proofs.Ytbaedcjophgiiaa.Q
open Go.RowKit Go.Proofs.YtbaedcjophgiiaaW.PrintWords Go.Proofs.YtbaedcjophgiiaaW.PrintLast Go.Proofs.YtbaedcjophgiiaaW.PrintMore
set_option linter.unusedVariables false
set_option linter.unusedSimpArgs false

theorem qt_near : 1 ≤ qt 1 ∧ 1 ≤ qt 536870912 ∧ qt 536870911 < qt 536870913 ∧ qt 536870910 < qt 536870914 := by decide +kernel
theorem qt_pos {t : Int} (h0 : 1 ≤ t) (h1 : t ≤ 1073741824) : 1 ≤ qt t := by
  have := qt_mono (t := 1) (t' := t) (by decide) h0 h1
  have := qt_near.1
  omega

theorem oct_there {t : Int} (h0 : 0 ≤ t) (h1 : t ≤ 536870912) : t ≤ oct (qt t) (qt (1073741824 - t)) ∧ oct (qt t) (qt (1073741824 - t)) ≤ t + 2 := by
  obtain ⟨m0, m1, m2, m3⟩ := oct_is (qt t) (qt (1073741824 - t))
  have y0 := qt_bd (t := t) h0 (by omega)
  have x0 := qt_bd (t := 1073741824 - t) (by omega) (by omega)
  have xp := qt_pos (t := 1073741824 - t) (by omega) (by omega)
  generalize oct (qt t) (qt (1073741824 - t)) = m at *
  constructor
  · rcases Int.lt_or_le m t with c | c
    · exfalso
      rcases m3 with h | h
      · omega
      · apply h
        rw [sn_q1 (by omega) (by omega), cs_q1 (by omega) (by omega)]
        have a := qt_mono (t := m + 1) (t' := t) (by omega) (by omega) (by omega)
        have b := qt_mono (t := 1073741824 - t) (t' := 1073741824 - (m + 1)) (by omega) (by omega) (by omega)
        have a' := Int.mul_le_mul_of_nonneg_right a x0.1
        have b' := Int.mul_le_mul_of_nonneg_right b y0.1
        have e := Int.mul_comm (qt t) (qt (1073741824 - t))
        omega
    · exact c
  · rcases Int.lt_or_le (t + 2) m with c | c
    · exfalso
      rcases m2 with h | h
      · omega
      · rw [sn_q1 (by omega) (by omega), cs_q1 (by omega) (by omega)] at h
        have a := qt_three (t := t) h0 (by omega)
        have a2 := qt_mono (t := t + 3) (t' := m) (by omega) (by omega) (by omega)
        have b := qt_mono (t := 1073741824 - m) (t' := 1073741824 - t) (by omega) (by omega) (by omega)
        have a' := Int.mul_le_mul_of_nonneg_right (show qt t + 1 ≤ qt m by omega) x0.1
        have b' := Int.mul_le_mul_of_nonneg_right b y0.1
        have e := Int.mul_comm (qt t) (qt (1073741824 - t))
        rw [Int.add_mul, Int.one_mul] at a'
        omega
    · exact c

theorem at0_there {t : Int} (h0 : 0 ≤ t) (h1 : t ≤ 1073741824) : t - 2 ≤ at0 (qt t) (qt (1073741824 - t)) ∧ at0 (qt t) (qt (1073741824 - t)) ≤ t + 2 := by
  by_cases c : t ≤ 536870912
  · have m := qt_mono (t := t) (t' := 1073741824 - t) h0 (by omega) (by omega)
    have o := oct_there h0 c
    unfold at0
    rw [if_pos m]; omega
  · have m := qt_mono (t := 1073741824 - t) (t' := t) (by omega) (by omega) h1
    have o := oct_there (t := 1073741824 - t) (by omega) (by omega)
    rw [show 1073741824 - (1073741824 - t) = t by omega] at o
    unfold at0
    by_cases d : qt t ≤ qt (1073741824 - t)
    · exfalso
      by_cases f : t = 536870913
      · subst f; have := qt_near.2.2.1; simp at d; omega
      · by_cases g : t = 536870914
        · subst g; have := qt_near.2.2.2; simp at d; omega
        · have a := qt_three (t := 1073741824 - t) (by omega) (by omega)
          have b := qt_mono (t := 1073741824 - t + 3) (t' := t) (by omega) (by omega) h1
          omega
    · rw [if_neg d]; omega

theorem there (a : Int) : (at2 (sn a) (cs a) - a + 2) % 4294967296 ≤ 4 := by
  obtain ⟨hq, ht0, ht1⟩ := quad a
  generalize ht : a % 1073741824 = t at *
  have o1 := at0_there (t := t) ht0 (by omega)
  have o2 := at0_there (t := 1073741824 - t) (by omega) (by omega)
  rw [show 1073741824 - (1073741824 - t) = t by omega] at o2
  have b1 := qt_bd (t := t) ht0 (by omega)
  have b2 := qt_bd (t := 1073741824 - t) (by omega) (by omega)
  have p2 := qt_pos (t := 1073741824 - t) (by omega) (by omega)
  have p1 : 1 ≤ t → 1 ≤ qt t := fun h => qt_pos h (by omega)
  have z0 : t = 0 → qt t = 0 := fun h => by rw [h]; exact qt_zero
  rw [cs_sn]
  rcases hq with hq | hq | hq | hq
  · rw [sn_at hq ht, sn_at (a := a + 1073741824) (q := 1) (t := t) (by omega) (by omega)]
    simp only [if_pos]
    simp
    rw [at2_up b1.1, if_neg (by omega)]
    omega
  · rw [sn_at hq ht, sn_at (a := a + 1073741824) (q := 2) (t := t) (by omega) (by omega)]
    simp
    rw [at2_up b2.1]
    by_cases z : t = 0
    · rw [if_neg (by have := z0 z; omega)]
      have e := z0 z
      rw [e] at o2 ⊢
      simp
      omega
    · rw [if_pos (by have := p1 (by omega); omega), Int.neg_neg]
      omega
  · rw [sn_at hq ht, sn_at (a := a + 1073741824) (q := 3) (t := t) (by omega) (by omega)]
    simp
    by_cases z : t = 0
    · have e := z0 z
      rw [e] at o1 ⊢
      simp
      rw [at2_up (by decide), if_pos (by omega), Int.neg_neg]
      omega
    · have p := p1 (by omega)
      unfold at2
      rw [if_pos (by omega), if_pos (by omega), at1_abs, mx_neg (by omega), mx_neg (by omega), Int.neg_neg, Int.neg_neg]
      omega
  · rw [sn_at hq ht, sn_at (a := a + 1073741824) (q := 0) (t := t) (by omega) (by omega)]
    simp
    unfold at2
    rw [if_pos (by omega), if_neg (by omega), at1_abs, mx_neg (by omega), mx_pos b1.1, Int.neg_neg]
    omega
end Go.Proofs.Ytbaedcjophgiiaa.Q
