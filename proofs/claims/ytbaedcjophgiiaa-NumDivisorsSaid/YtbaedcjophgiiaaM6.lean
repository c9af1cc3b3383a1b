/- The greatest common divisor and the square root of package num in plain numbers; the bounds stand in each statement. -/
import Derived.Test.YtbaedcjophgiiaaQx14
import Derived.Test.YtbaedcjophgiiaaQx13
import Derived.Test.YtbaedcjophgiiaaM1
import Derived.Test.YtbaedcjophgiiaaM2
import Derived.Test.YtbaedcjophgiiaaM3
import Derived.Test.YtbaedcjophgiiaaM4
import Derived.Test.YtbaedcjophgiiaaM5
namespace Go.Proofs.Ytbaedcjophgiiaa.Q
open Go.RowKit Go.Proofs.YtbaedcjophgiiaaW.PrintWords Go.Proofs.YtbaedcjophgiiaaW.PrintLast Go.Proofs.YtbaedcjophgiiaaW.PrintMore
set_option linter.unusedVariables false
set_option linter.unusedSimpArgs false

theorem andNot63 {x : Int} (h0 : 0 ≤ x) (h1 : x < 18446744073709551616) : Go.bits .andNot .u64 x 9223372036854775808 = x % 9223372036854775808 := by
  obtain ⟨n, rfl⟩ := Int.eq_ofNat_of_zero_le h0
  rw [Go.u64_andNot _ _ (by omega) (by omega) (by decide) (by decide)]
  rw [show (18446744073709551615 - (9223372036854775808 : Int).toNat) = 9223372036854775807 from rfl, Int.toNat_natCast, Go.nat_mask63]
  omega

theorem gcd_l0 (n : Nat) : ∀ x y : Nat, y ≤ n → x ≤ 9223372036854775808 → y ≤ 9223372036854775808 → Ev (fun k => num_Gcd.l0 k (x : Int) (y : Int)) ((Nat.gcd x y : Int) % 9223372036854775808) := by
  induction n with
  | zero =>
    intro x y hy hx hy'
    obtain rfl : y = 0 := by omega
    refine one_ev fun k => ?_
    rw [num_Gcd.l0, if_neg (by decide), andNot63 (by omega) (by omega), w64_id (by omega) (by omega), Nat.gcd_zero_right]
  | succ n ih =>
    intro x y hy hx hy'
    by_cases z : y = 0
    · subst z
      refine one_ev fun k => ?_
      rw [num_Gcd.l0, if_neg (by decide), andNot63 (by omega) (by omega), w64_id (by omega) (by omega), Nat.gcd_zero_right]
    · have hm : x % y < y := Nat.mod_lt _ (by omega)
      refine Ev.step (fun k => by rw [num_Gcd.l0, if_pos (by omega), if_neg (by omega), tmod_eq (by omega), ← Int.natCast_emod]) ?_
      rw [show Nat.gcd x y = Nat.gcd y (x % y) by rw [Nat.gcd_comm, Nat.gcd_rec, Nat.gcd_comm]]
      exact ih y (x % y) (by omega) hy' (by omega)

theorem gcd_ev {a b : Int} (a0 : -9223372036854775808 ≤ a) (a1 : a < 9223372036854775808) (b0 : -9223372036854775808 ≤ b) (b1 : b < 9223372036854775808) :
    Ev (fun k => num_Gcd.f k a b) ((Int.gcd a b : Int) % 9223372036854775808) := by
  have e : ∀ c : Int, (if c < 0 then -c else c) = (c.natAbs : Int) := fun c => by split <;> omega
  refine Ev.congr (f := fun k => num_Gcd.l0 k (a.natAbs : Int) (b.natAbs : Int)) (fun k => ?_) ?_
  · unfold num_Gcd.f
    rw [size_some a0 a1, size_some b0 b1, e, e]; rfl
  · exact gcd_l0 _ _ _ (Nat.le_refl _) (by omega) (by omega)

theorem sqrt_l0 {p : Int} (p0 : 0 ≤ p) (p1 : p < 85070591730234615865843651857942052864) (i : Nat) : ∀ r : Int, i ≤ 62 → 0 ≤ r → r % 2 ^ (i + 1) = 0 → r + 2 ^ (i + 1) ≤ 9223372036854775808 → r * r ≤ p → p < (r + 2 ^ (i + 1)) * (r + 2 ^ (i + 1)) →
    ∃ s : Int, Ev (fun k => num_SqrtMul.l0 k (p / 18446744073709551616) (p % 18446744073709551616) r (2 ^ i)) s ∧ 0 ≤ s ∧ s < 9223372036854775808 ∧ s * s ≤ p ∧ p < (s + 1) * (s + 1) := by
  have or_add : ∀ (i : Nat) (r : Int), i ≤ 62 → 0 ≤ r → r % 2 ^ (i + 1) = 0 → r + 2 ^ (i + 1) ≤ 9223372036854775808 → Go.bits .or .u64 r (2 ^ i) = r + 2 ^ i := by
    intro i r hi hr hm hb
    have hP : (0 : Int) < 2 ^ i := Int.pow_pos (by decide)
    have hP2 : (2 : Int) ^ (i + 1) = 2 ^ i * 2 := by rw [Int.pow_succ]
    exact Go.bits_join .u64 64 (by decide) (fun n h h' => by rw [uw]; omega) (i + 1) _ _ hr hm (by omega) (by omega) (by omega) (by omega)
  have step : ∀ (i : Nat) (r : Int), i ≤ 62 → 0 ≤ r → r % 2 ^ (i + 1) = 0 → r + 2 ^ (i + 1) ≤ 9223372036854775808 → ∀ {k : Nat} {nb : Int}, nb = 2 ^ i / 2 →
      num_SqrtMul.l0 (k + 1) (p / 18446744073709551616) (p % 18446744073709551616) r (2 ^ i) =
        if (r + 2 ^ i) * (r + 2 ^ i) ≤ p then num_SqrtMul.l0 k (p / 18446744073709551616) (p % 18446744073709551616) (r + 2 ^ i) nb else num_SqrtMul.l0 k (p / 18446744073709551616) (p % 18446744073709551616) r nb := by
    intro i r hi hr hm hb k nb hnb
    have hP : (0 : Int) < 2 ^ i := Int.pow_pos (by decide)
    have hP2 : (2 : Int) ^ (i + 1) = 2 ^ i * 2 := by rw [Int.pow_succ]
    rw [num_SqrtMul.l0, if_pos hP, or_add i r hi hr hm hb, mul64 (by omega) (by omega) (by omega) (by omega), Option.bind_some]
    simp only []
    rw [← hnb]
    generalize (r + 2 ^ i) * (r + 2 ^ i) = q
    by_cases h1 : q / 18446744073709551616 < p / 18446744073709551616
    · rw [if_pos h1, if_pos (by omega)]
    · rw [if_neg h1]
      by_cases h2 : q / 18446744073709551616 = p / 18446744073709551616
      · rw [if_pos h2]
        by_cases h3 : q % 18446744073709551616 ≤ p % 18446744073709551616
        · rw [if_pos h3, if_pos (by omega)]
        · rw [if_neg h3, if_neg (by omega)]
      · rw [if_neg h2, if_neg (by omega)]
  induction i with
  | zero =>
    intro r hi hr hm hb h0 h1
    have fin : ∀ s : Int, 0 ≤ s → s < 9223372036854775808 → Ev (fun k => num_SqrtMul.l0 k (p / 18446744073709551616) (p % 18446744073709551616) s 0) s := by
      intro s hs hs'
      exact one_ev fun k => by rw [num_SqrtMul.l0, if_neg (by decide), w64_id (by omega) (by omega)]
    simp only [Int.pow_zero, Nat.zero_add, Int.pow_one] at *
    have st := fun k => step 0 r hi hr hm (by simpa using hb) (k := k) (nb := 0) (by decide)
    simp only [Int.pow_zero] at st
    by_cases c : (r + 1) * (r + 1) ≤ p
    · refine ⟨r + 1, Ev.step (fun k => by rw [st, if_pos c]) (fin (r + 1) (by omega) (by omega)), by omega, by omega, c, ?_⟩
      rw [show r + 1 + 1 = r + 2 by omega]; exact h1
    · exact ⟨r, Ev.step (fun k => by rw [st, if_neg c]) (fin r hr (by omega)), hr, by omega, h0, by omega⟩
  | succ i ih =>
    intro r hi hr hm hb h0 h1
    have hP : (0 : Int) < 2 ^ i := Int.pow_pos (by decide)
    have hP2 : (2 : Int) ^ (i + 1) = 2 ^ i * 2 := by rw [Int.pow_succ]
    have hP4 : (2 : Int) ^ (i + 1 + 1) = 2 ^ (i + 1) * 2 := by rw [Int.pow_succ]
    have hd : r % 2 ^ (i + 1) = 0 := by
      have h := Int.emod_add_mul_ediv r (2 ^ (i + 1 + 1))
      rw [hm, Int.zero_add, hP4, Int.mul_assoc] at h
      rw [← h, Int.mul_emod_right]
    have st := fun k => step (i + 1) r hi hr hm hb (k := k) (nb := 2 ^ i) (by omega)
    by_cases c : (r + 2 ^ (i + 1)) * (r + 2 ^ (i + 1)) ≤ p
    · obtain ⟨s, hs, rest⟩ := ih (r + 2 ^ (i + 1)) (by omega) (by omega) (by rw [Int.add_emod_right]; exact hd) (by omega) c (by rw [show r + 2 ^ (i + 1) + 2 ^ (i + 1) = r + 2 ^ (i + 1 + 1) by omega]; exact h1)
      exact ⟨s, Ev.step (fun k => by rw [st, if_pos c]) hs, rest⟩
    · obtain ⟨s, hs, rest⟩ := ih r (by omega) hr hd (by omega) h0 (by omega)
      exact ⟨s, Ev.step (fun k => by rw [st, if_neg c]) hs, rest⟩

theorem sqrt_ev {a b : Int} (a0 : 0 ≤ a) (a1 : a < 9223372036854775808) (b0 : 0 ≤ b) (b1 : b < 9223372036854775808) :
    ∃ r : Int, Ev (fun k => num_SqrtMul.f k a b) r ∧ 0 ≤ r ∧ r < 9223372036854775808 ∧ r * r ≤ a * b ∧ a * b < (r + 1) * (r + 1) := by
  have p0 : 0 ≤ a * b := Int.mul_nonneg a0 b0
  have p1 : a * b ≤ 9223372036854775807 * 9223372036854775807 := Int.mul_le_mul (by omega) (by omega) b0 (by omega)
  obtain ⟨r, hr, rest⟩ := sqrt_l0 (p := a * b) p0 (by omega) 62 0 (by decide) (by decide) (by decide) (by decide) (by omega) (by
    rw [show ((0 : Int) + 2 ^ (62 + 1)) * (0 + 2 ^ (62 + 1)) = 85070591730234615865843651857942052864 by decide]; omega)
  refine ⟨r, ?_, rest⟩
  refine Ev.congr (f := fun k => num_SqrtMul.j0 k a b false) (fun k => by unfold num_SqrtMul.f; rw [if_neg (by omega), decide_eq_false (by omega)]) ?_
  refine Ev.step (fun k => by rw [num_SqrtMul.j0, if_neg (by decide), uw_id (x := a) a0 (by omega), uw_id (x := b) b0 (by omega), mul64 a0 (by omega) b0 (by omega), Option.bind_some]) ?_
  exact hr

theorem sqrt_neg {a b : Int} (h : a < 0 ∨ b < 0) : Ev (fun k => num_SqrtMul.f k a b) 0 := by
  refine Ev.congr (f := fun k => num_SqrtMul.j0 k a b true) (fun k => ?_) (one_ev fun k => by rw [num_SqrtMul.j0, if_pos rfl])
  unfold num_SqrtMul.f
  by_cases ha : a < 0
  · rw [if_pos ha]
  · rw [if_neg ha, decide_eq_true (by omega)]
end Go.Proofs.Ytbaedcjophgiiaa.Q
