/- Fractions as rational numbers: what the functions of package frac answer; the bounds stand in each statement. -/
import Derived.Test.YtoplbhohaaielaaDoorQx3
import Derived.Test.YtoplbhohaaielaaDoorQx2
import Derived.Test.YtoplbhohaaielaaDoorQx5
import Derived.Test.YtoplbhohaaielaaDoorQx6
import Derived.Test.YtoplbhohaaielaaDoorM1
import Derived.Test.YtoplbhohaaielaaDoorM2
import Derived.Test.YtoplbhohaaielaaDoorM3
import Derived.Test.YtoplbhohaaielaaDoorM4
import Derived.Test.YtoplbhohaaielaaDoorM5
import Derived.Test.YtoplbhohaaielaaDoorM6
import Derived.Test.YtoplbhohaaielaaDoorFR0
-- AUTO
namespace Go.Proofs.YtoplbhohaaielaaDoor.Q
open Go.RowKit Go.Proofs.YtoplbhohaaielaaDoorW.PrintWords Go.Proofs.YtoplbhohaaielaaDoorW.PrintLast Go.Proofs.YtoplbhohaaielaaDoorW.PrintMore
set_option linter.unusedVariables false
set_option linter.unusedSimpArgs false

/-- A rational number that a fraction can be. -/
def sm (x : Rat) : Prop := -1152921504606846976 ≤ x.num ∧ x.num ≤ 1152921504606846976 ∧ (x.den : Int) ≤ 1152921504606846976
instance (x : Rat) : Decidable (sm x) := by unfold sm; infer_instance
/-- What is answered where the result is x. -/
def rat (x : Rat) : Int × Int × Int := if sm x then (x.num, (x.den : Int), 0) else (0, 0, 2)
theorem den1 (x : Rat) : 1 ≤ (x.den : Int) := by have := x.den_pos; omega
theorem sm.vf {x : Rat} (h : sm x) : vf x.num x.den := by
  refine ⟨h.1, h.2.1, den1 x, h.2.2, ?_⟩
  have := x.reduced
  unfold Nat.Coprime at this
  unfold Int.gcd
  simpa using this
theorem vf.rat {n d : Int} (h : vf n d) : ∃ x : Rat, sm x ∧ x.num = n ∧ (x.den : Int) = d := by
  obtain ⟨a, b, c, e, g⟩ := h
  have e2 : (d.toNat : Int) = d := by omega
  refine ⟨⟨n, d.toNat, by omega, ?_⟩, ⟨a, b, by simp only; omega⟩, rfl, e2⟩
  unfold Int.gcd at g
  unfold Nat.Coprime
  rw [show d.toNat = d.natAbs by omega]; exact g
theorem wone : wrap64 (0 + 1) = 1 := by unfold wrap64; omega
theorem wtwo : wrap64 (1 + 1) = 2 := by unfold wrap64; omega
theorem or_err (x y : Int) : Ev (fun k => cmp_Or_api_Errno.f k [x, y]) (if x = 0 then y else x) := by
  unfold cmp_Or_api_Errno.f
  by_cases hx : x = 0
  · rw [if_pos hx]
    refine Ev.step (fun k => by rw [cmp_Or_api_Errno.l0, if_pos (by simp), if_pos (by decide), if_pos (by simp), if_pos (by simpa [rd] using hx), wone]) ?_
    by_cases hy : y = 0
    · refine Ev.step (fun k => by rw [cmp_Or_api_Errno.l0, if_pos (by simp), if_pos (by decide), if_pos (by simp), if_pos (by simpa [rd] using hy), wtwo]) ?_
      refine one_ev fun k => ?_
      rw [cmp_Or_api_Errno.l0, if_neg (by simp), hy]
    · refine one_ev fun k => ?_
      rw [cmp_Or_api_Errno.l0, if_pos (by simp), if_pos (by decide), if_pos (by simp), if_neg (by simpa [rd] using hy)]
      rfl
  · rw [if_neg hx]
    refine one_ev fun k => ?_
    rw [cmp_Or_api_Errno.l0, if_pos (by simp), if_pos (by decide), if_pos (by simp), if_neg (by simpa [rd] using hx)]
    rfl
theorem both_ok {x y : Rat} (hx : sm x) (hy : sm y) : Ev (fun k => frac_both.f k x.num x.den y.num y.den) 0 := by
  unfold frac_both.f
  refine Ev.bind (fcheck_ok hx.vf) (Ev.bind (fcheck_ok hy.vf) (Ev.bind (or_err 0 0) (Ev.now _)))
theorem both_bad {a b c d : Int} (h : a = 0 ∧ b = 0) (c0 : -9223372036854775808 ≤ c) (c1 : c < 9223372036854775808) (d0 : -9223372036854775808 ≤ d) (d1 : d < 9223372036854775808) : ∃ e : Int, e ≠ 0 ∧ Ev (fun k => frac_both.f k a b c d) e := by
  obtain ⟨rfl, rfl⟩ := h
  obtain ⟨e, he, e0, _⟩ := fcheck_ev (n := 0) (d := 0) (by decide) (by decide) (by decide) (by decide)
  obtain ⟨e2, he2, _, _⟩ := fcheck_ev c0 c1 d0 d1
  have hz : e ≠ 0 := fun h => by have := e0.mp h; exact absurd this.2.2.1 (by decide)
  refine ⟨e, hz, ?_⟩
  unfold frac_both.f
  have O := or_err e e2
  rw [if_neg hz] at O
  exact Ev.bind he (Ev.bind he2 (Ev.bind O (Ev.now _)))
theorem made_ev (n d : Int) (b1 b2 : Bool) : Ev (fun k => frac_made.f k n d [b1, b2]) (if b1 = true ∧ b2 = true ∧ -1152921504606846976 ≤ n ∧ n ≤ 1152921504606846976 ∧ d ≤ 1152921504606846976 then (n, d, 0) else (0, 0, 2)) := by
  unfold frac_made.f
  cases b1
  · rw [if_neg (by simp)]
    exact one_ev fun k => by rw [frac_made.l0, if_pos (by simp), if_pos (by decide), if_pos (by simp), if_neg (by simp [rdOf])]
  · refine Ev.step (fun k => by rw [frac_made.l0, if_pos (by simp), if_pos (by decide), if_pos (by simp), if_pos (by simp [rdOf]), wone]) ?_
    cases b2
    · rw [if_neg (by simp)]
      exact one_ev fun k => by rw [frac_made.l0, if_pos (by simp), if_pos (by decide), if_pos (by simp), if_neg (by simp [rdOf])]
    · refine Ev.step (fun k => by rw [frac_made.l0, if_pos (by simp), if_pos (by decide), if_pos (by simp), if_pos (by simp [rdOf]), wtwo]) ?_
      refine one_ev fun k => ?_
      rw [frac_made.l0, if_neg (by simp)]
      by_cases c : n < -1152921504606846976
      · rw [if_pos c, if_neg (by omega)]
      rw [if_neg c]
      by_cases c2 : n > 1152921504606846976
      · rw [if_pos c2, if_neg (by omega)]
      rw [if_neg c2]
      by_cases c3 : d > 1152921504606846976
      · rw [if_pos c3, if_neg (by omega)]
      · rw [if_neg c3, if_pos ⟨rfl, rfl, by omega, by omega, by omega⟩]
theorem nmul {a b : Int} (a0 : -9223372036854775808 ≤ a) (a1 : a < 9223372036854775808) (b0 : -9223372036854775808 ≤ b) (b1 : b < 9223372036854775808) :
    num_Mul.f a b = some (if fits (a * b) = true then (a * b, true) else (0, false)) := by
  have hb := prod_bd a0 a1 b0 b1
  unfold num_Mul.f
  rw [product a0 a1 b0 b1, Option.bind_some]
  simp only []
  generalize a * b = v at *
  unfold fits wrap64
  by_cases c : v / 18446744073709551616 = ((v % 18446744073709551616 + 9223372036854775808) % 18446744073709551616 - 9223372036854775808) / 9223372036854775808
  · rw [if_pos c, if_pos (by simp only [Bool.and_eq_true, decide_eq_true_eq]; omega)]
    congr 2; omega
  · rw [if_neg c, if_neg (by simp only [Bool.and_eq_true, decide_eq_true_eq]; omega)]
theorem fits_iff {n : Int} : fits n = true ↔ -9223372036854775808 ≤ n ∧ n ≤ 9223372036854775807 := by unfold fits; simp
end Go.Proofs.YtoplbhohaaielaaDoor.Q
