/- The symmetries of the sine in plain numbers: of opposite and supplementary angles and of neighbours; no conditions. -/
import Derived.Test.YtbaedcjophgiiaaQx21
import Derived.Test.YtbaedcjophgiiaaM1
import Derived.Test.YtbaedcjophgiiaaT1
import Derived.Test.YtbaedcjophgiiaaT2
import Derived.Test.YtbaedcjophgiiaaT3
namespace Go.Proofs.Ytbaedcjophgiiaa.Q
open Go.RowKit Go.Proofs.YtbaedcjophgiiaaW.PrintWords Go.Proofs.YtbaedcjophgiiaaW.PrintLast Go.Proofs.YtbaedcjophgiiaaW.PrintMore
set_option linter.unusedVariables false
set_option linter.unusedSimpArgs false

theorem sn_mod {a b : Int} (h : a % 4294967296 = b % 4294967296) : sn a = sn b := by
  unfold sn; rw [h, show a % 1073741824 = b % 1073741824 by omega]

theorem quad (a : Int) : (a % 4294967296 / 1073741824 = 0 ∨ a % 4294967296 / 1073741824 = 1 ∨ a % 4294967296 / 1073741824 = 2 ∨ a % 4294967296 / 1073741824 = 3) ∧ 0 ≤ a % 1073741824 ∧ a % 1073741824 < 1073741824 := by omega

theorem sn_neg (a : Int) : sn (-a) = -sn a := by
  obtain ⟨hq, ht0, ht1⟩ := quad a
  generalize ht : a % 1073741824 = t at *
  by_cases z : t = 0
  · subst z
    rcases hq with hq | hq | hq | hq
    · rw [sn_at hq ht, sn_at (a := -a) (q := 0) (t := 0) (by omega) (by omega)]; simp [qt_zero]
    · rw [sn_at hq ht, sn_at (a := -a) (q := 3) (t := 0) (by omega) (by omega)]; simp
    · rw [sn_at hq ht, sn_at (a := -a) (q := 2) (t := 0) (by omega) (by omega)]; simp [qt_zero]
    · rw [sn_at hq ht, sn_at (a := -a) (q := 1) (t := 0) (by omega) (by omega)]; simp
  · have e : 1073741824 - (1073741824 - t) = t := by omega
    rcases hq with hq | hq | hq | hq
    · rw [sn_at hq ht, sn_at (a := -a) (q := 3) (t := 1073741824 - t) (by omega) (by omega)]; simp [e]
    · rw [sn_at hq ht, sn_at (a := -a) (q := 2) (t := 1073741824 - t) (by omega) (by omega)]; simp
    · rw [sn_at hq ht, sn_at (a := -a) (q := 1) (t := 1073741824 - t) (by omega) (by omega)]; simp [e]
    · rw [sn_at hq ht, sn_at (a := -a) (q := 0) (t := 1073741824 - t) (by omega) (by omega)]; simp

theorem sn_half (a : Int) : sn (a + 2147483648) = -sn a := by
  obtain ⟨hq, ht0, ht1⟩ := quad a
  generalize ht : a % 1073741824 = t at *
  rcases hq with hq | hq | hq | hq
  · rw [sn_at hq ht, sn_at (a := a + 2147483648) (q := 2) (t := t) (by omega) (by omega)]; simp
  · rw [sn_at hq ht, sn_at (a := a + 2147483648) (q := 3) (t := t) (by omega) (by omega)]; simp
  · rw [sn_at hq ht, sn_at (a := a + 2147483648) (q := 0) (t := t) (by omega) (by omega)]; simp
  · rw [sn_at hq ht, sn_at (a := a + 2147483648) (q := 1) (t := t) (by omega) (by omega)]; simp

theorem sn_supp (a : Int) : sn (2147483648 - a) = sn a := by
  rw [show 2147483648 - a = -a + 2147483648 by omega, sn_half, sn_neg, Int.neg_neg]

theorem cs_sn (a : Int) : cs a = sn (a + 1073741824) := sn_mod (by omega)
theorem cs_neg (a : Int) : cs (-a) = cs a := by
  rw [cs_sn, cs_sn, show -a + 1073741824 = 2147483648 - (a + 1073741824) by omega, sn_supp]

theorem sn_next {r : Int} (h0 : 0 ≤ r) (h1 : r < 4294967296) :
    -3 ≤ sn (r + 1) - sn r ∧ sn (r + 1) - sn r ≤ 3 ∧ ((r < 1073741824 ∨ r ≥ 3221225472) → 0 ≤ sn (r + 1) - sn r) ∧ (¬ (r < 1073741824 ∨ r ≥ 3221225472) → sn (r + 1) - sn r ≤ 0) := by
  obtain ⟨hq, ht0, ht1⟩ := quad r
  generalize ht : r % 1073741824 = t at *
  have n1 := qt_next ht0 ht1
  have n2 := qt_next (t := 1073741824 - t - 1) (by omega) (by omega)
  rw [show 1073741824 - t - 1 + 1 = 1073741824 - t by omega] at n2
  have z0 := qt_zero
  have z1 := qt_one
  by_cases l : t = 1073741823
  · subst l
    simp only [show (1073741823 : Int) + 1 = 1073741824 by decide, show (1073741824 : Int) - 1073741823 = 1 by decide, show (1 : Int) - 1 = 0 by decide] at n1 n2
    rcases hq with hq | hq | hq | hq
    · rw [sn_at hq ht, sn_at (a := r + 1) (q := 1) (t := 0) (by omega) (by omega)]; simp; omega
    · rw [sn_at hq ht, sn_at (a := r + 1) (q := 2) (t := 0) (by omega) (by omega)]; simp; omega
    · rw [sn_at hq ht, sn_at (a := r + 1) (q := 3) (t := 0) (by omega) (by omega)]; simp; omega
    · rw [sn_at hq ht, sn_at (a := r + 1) (q := 0) (t := 0) (by omega) (by omega)]; simp; omega
  · rcases hq with hq | hq | hq | hq
    · rw [sn_at hq ht, sn_at (a := r + 1) (q := 0) (t := t + 1) (by omega) (by omega)]; simp; omega
    · rw [sn_at hq ht, sn_at (a := r + 1) (q := 1) (t := t + 1) (by omega) (by omega), show 1073741824 - (t + 1) = 1073741824 - t - 1 by omega]; simp; omega
    · rw [sn_at hq ht, sn_at (a := r + 1) (q := 2) (t := t + 1) (by omega) (by omega)]; simp; omega
    · rw [sn_at hq ht, sn_at (a := r + 1) (q := 3) (t := t + 1) (by omega) (by omega), show 1073741824 - (t + 1) = 1073741824 - t - 1 by omega]; simp; omega
end Go.Proofs.Ytbaedcjophgiiaa.Q
