/- This session's own texts KHorizonLiftedM1 KHorizonLiftedM2 KHorizonLiftedM3 KHorizonLiftedM4 KHorizonLiftedM5 KHorizonLiftedBL1 KHorizonLiftedST1 KHorizonLiftedBD0 KHorizonLiftedBDArc KHorizonLiftedBDArc2 KHorizonLiftedBDArc3 KHorizonLiftedBDArcI KHorizonLiftedSBArc KHorizonLiftedH1 KHorizonLiftedH2 KHorizonLiftedPureHorizonLifted, one after the other. -/
import Derived.Test.YtpophefonhpnmaaKHorizonLiftedQx37
import Derived.Test.YtpophefonhpnmaaKHorizonLiftedQx36
import Derived.Test.YtpophefonhpnmaaKHorizonLiftedQx10
import Derived.Test.YtpophefonhpnmaaKHorizonLiftedQx11
import Derived.Test.YtpophefonhpnmaaKHorizonLiftedQx12
import Derived.Test.YtpophefonhpnmaaKHorizonLiftedQx13
import Derived.Test.YtpophefonhpnmaaKHorizonLiftedQx14
import Derived.Test.YtpophefonhpnmaaKHorizonLiftedQx17
import Derived.Test.YtpophefonhpnmaaKHorizonLiftedQx26
import Derived.Test.YtpophefonhpnmaaKHorizonLiftedQx27
import Derived.Test.YtpophefonhpnmaaKHorizonLiftedQx28
import Derived.Test.YtpophefonhpnmaaKHorizonLiftedQx19
import Derived.Test.YtpophefonhpnmaaKHorizonLiftedQx31
import Derived.Test.YtpophefonhpnmaaKHorizonLiftedQx30

section
/- Wrapping, shifts and products of 64 bits: what the printed functions of math/bits compute; no other condition than those that each statement names. -/
namespace Go.Proofs.Ytpophefonhpnmaa.Q
open Go.RowKit Go.Proofs.YtpophefonhpnmaaW.PrintWords Go.Proofs.YtpophefonhpnmaaW.PrintLast Go.Proofs.YtpophefonhpnmaaW.PrintMore
set_option linter.unusedVariables false
set_option linter.unusedSimpArgs false

theorem uw (x : Int) : IntKind.u64.wrap x = x % 18446744073709551616 := u64_wrap_eq x
theorem uw_id {x : Int} (h0 : 0 ≤ x) (h1 : x < 18446744073709551616) : IntKind.u64.wrap x = x := by rw [uw]; omega
theorem w64_id {x : Int} (h0 : -9223372036854775808 ≤ x) (h1 : x < 9223372036854775808) : wrap64 x = x := by unfold wrap64; omega
theorem uw_wrap64 (x : Int) : wrap64 (IntKind.u64.wrap x) = wrap64 x := by rw [uw]; unfold wrap64; omega

theorem u64_mask32 {x : Int} (h0 : 0 ≤ x) (h1 : x < 18446744073709551616) : Go.bits .and .u64 x 4294967295 = x % 4294967296 :=
  Go.bits_mask .u64 64 (by decide) (fun n h h' => by rw [uw]; omega) 32 (by decide) x h0 h1

theorem mul64 {a b : Int} (a0 : 0 ≤ a) (a1 : a < 18446744073709551616) (b0 : 0 ≤ b) (b1 : b < 18446744073709551616) :
    bits_Mul64.f a b = some (a * b / 18446744073709551616, a * b % 18446744073709551616) := by
  unfold bits_Mul64.f
  rw [u64_mask32 a0 a1, u64_mask32 b0 b1]
  generalize hx1 : a / 4294967296 = x1
  generalize hx0 : a % 4294967296 = x0
  generalize hy1 : b / 4294967296 = y1
  generalize hy0 : b % 4294967296 = y0
  have hx : a = x1 * 4294967296 + x0 := by omega
  have hy : b = y1 * 4294967296 + y0 := by omega
  have p : ∀ {u v : Int}, 0 ≤ u → u ≤ 4294967295 → 0 ≤ v → v ≤ 4294967295 → 0 ≤ u * v ∧ u * v ≤ 18446744065119617025 := by
    intro u v hu0 hu1 hv0 hv1
    refine ⟨Int.mul_nonneg hu0 hv0, ?_⟩
    have := Int.mul_le_mul hu1 hv1 hv0 (by omega)
    omega
  have q11 := p (u := x1) (v := y1) (by omega) (by omega) (by omega) (by omega)
  have q10 := p (u := x1) (v := y0) (by omega) (by omega) (by omega) (by omega)
  have q01 := p (u := x0) (v := y1) (by omega) (by omega) (by omega) (by omega)
  have q00 := p (u := x0) (v := y0) (by omega) (by omega) (by omega) (by omega)
  have e : a * b = x1 * y1 * 18446744073709551616 + (x1 * y0 + x0 * y1) * 4294967296 + x0 * y0 := by
    rw [hx, hy]; grind
  rw [e]
  generalize x1 * y1 = P at *
  generalize x1 * y0 = Q at *
  generalize x0 * y1 = R at *
  generalize x0 * y0 = S at *
  rw [uw_id (x := S) (by omega) (by omega), uw_id (x := Q) (by omega) (by omega), uw_id (x := R) (by omega) (by omega), uw_id (x := P) (by omega) (by omega),
    uw_id (x := Q + S / 4294967296) (by omega) (by omega), u64_mask32 (by omega) (by omega), uw, uw, uw]
  congr 2 <;> omega

theorem size_some {a : Int} (h0 : -9223372036854775808 ≤ a) (h1 : a < 9223372036854775808) : num_size.f a = some (if a < 0 then -a else a) := by
  unfold num_size.f
  split
  · rw [uw, uw]; congr 1; omega
  · rw [uw]; congr 1; omega
end Go.Proofs.Ytpophefonhpnmaa.Q
end

section
/- The number of leading zeros of a number of 64 bits, and the quotient of 128 by 64 bits: what the printed functions of math/bits compute, for every divisor greater than the upper half. -/
namespace Go.Proofs.Ytpophefonhpnmaa.Q
open Go.RowKit Go.Proofs.YtpophefonhpnmaaW.PrintWords Go.Proofs.YtpophefonhpnmaaW.PrintLast Go.Proofs.YtpophefonhpnmaaW.PrintMore
set_option linter.unusedVariables false
set_option linter.unusedSimpArgs false

set_option maxRecDepth 100000 in
def len8 : ByteArray := ⟨#[0, 1, 2, 2, 3, 3, 3, 3, 4, 4, 4, 4, 4, 4, 4, 4, 5, 5, 5, 5, 5, 5, 5, 5, 5, 5, 5, 5, 5, 5, 5, 5, 6, 6, 6, 6, 6, 6, 6, 6, 6, 6, 6, 6, 6, 6, 6, 6, 6, 6, 6, 6, 6, 6, 6, 6, 6, 6, 6, 6, 6, 6, 6, 6, 7, 7, 7, 7, 7, 7, 7, 7, 7, 7, 7, 7, 7, 7, 7, 7, 7, 7, 7, 7, 7, 7, 7, 7, 7, 7, 7, 7, 7, 7, 7, 7, 7, 7, 7, 7, 7, 7, 7, 7, 7, 7, 7, 7, 7, 7, 7, 7, 7, 7, 7, 7, 7, 7, 7, 7, 7, 7, 7, 7, 7, 7, 7, 7, 8, 8, 8, 8, 8, 8, 8, 8, 8, 8, 8, 8, 8, 8, 8, 8, 8, 8, 8, 8, 8, 8, 8, 8, 8, 8, 8, 8, 8, 8, 8, 8, 8, 8, 8, 8, 8, 8, 8, 8, 8, 8, 8, 8, 8, 8, 8, 8, 8, 8, 8, 8, 8, 8, 8, 8, 8, 8, 8, 8, 8, 8, 8, 8, 8, 8, 8, 8, 8, 8, 8, 8, 8, 8, 8, 8, 8, 8, 8, 8, 8, 8, 8, 8, 8, 8, 8, 8, 8, 8, 8, 8, 8, 8, 8, 8, 8, 8, 8, 8, 8, 8, 8, 8, 8, 8, 8, 8, 8, 8, 8, 8, 8, 8, 8, 8, 8, 8, 8, 8, 8, 8, 8, 8, 8, 8, 8, 8]⟩
set_option maxRecDepth 100000 in
theorem len8_eq : (⟨#[0, 1, 2, 2, 3, 3, 3, 3, 4, 4, 4, 4, 4, 4, 4, 4, 5, 5, 5, 5, 5, 5, 5, 5, 5, 5, 5, 5, 5, 5, 5, 5, 6, 6, 6, 6, 6, 6, 6, 6, 6, 6, 6, 6, 6, 6, 6, 6, 6, 6, 6, 6, 6, 6, 6, 6, 6, 6, 6, 6, 6, 6, 6, 6, 7, 7, 7, 7, 7, 7, 7, 7, 7, 7, 7, 7, 7, 7, 7, 7, 7, 7, 7, 7, 7, 7, 7, 7, 7, 7, 7, 7, 7, 7, 7, 7, 7, 7, 7, 7, 7, 7, 7, 7, 7, 7, 7, 7, 7, 7, 7, 7, 7, 7, 7, 7, 7, 7, 7, 7, 7, 7, 7, 7, 7, 7, 7, 7, 8, 8, 8, 8, 8, 8, 8, 8, 8, 8, 8, 8, 8, 8, 8, 8, 8, 8, 8, 8, 8, 8, 8, 8, 8, 8, 8, 8, 8, 8, 8, 8, 8, 8, 8, 8, 8, 8, 8, 8, 8, 8, 8, 8, 8, 8, 8, 8, 8, 8, 8, 8, 8, 8, 8, 8, 8, 8, 8, 8, 8, 8, 8, 8, 8, 8, 8, 8, 8, 8, 8, 8, 8, 8, 8, 8, 8, 8, 8, 8, 8, 8, 8, 8, 8, 8, 8, 8, 8, 8, 8, 8, 8, 8, 8, 8, 8, 8, 8, 8, 8, 8, 8, 8, 8, 8, 8, 8, 8, 8, 8, 8, 8, 8, 8, 8, 8, 8, 8, 8, 8, 8, 8, 8, 8, 8, 8, 8]⟩ : ByteArray) = len8 := rfl
def len8ok (i : Nat) : Bool := let n := bt len8 (i : Int); decide (0 ≤ n) && decide (n ≤ 8) && decide ((i : Int) < 2 ^ n.toNat) && (i == 0 || decide ((2 : Int) ^ n.toNat ≤ 2 * i))
theorem len8_all : (List.range 256).all len8ok = true := by decide +kernel
theorem len8_at {i : Int} (h0 : 0 ≤ i) (h1 : i < 256) : ∃ m : Nat, m ≤ 8 ∧ bt len8 i = m ∧ i < 2 ^ m ∧ (0 < i → (2 : Int) ^ m ≤ 2 * i) := by
  obtain ⟨n, rfl⟩ := Int.eq_ofNat_of_zero_le h0
  have h := List.all_eq_true.mp len8_all n (by simp; omega)
  unfold len8ok at h
  simp only [Bool.and_eq_true, Bool.or_eq_true, decide_eq_true_eq, beq_iff_eq] at h
  obtain ⟨⟨⟨a, b⟩, c⟩, d⟩ := h
  refine ⟨(bt len8 (n : Int)).toNat, by omega, by omega, c, fun hp => ?_⟩
  rcases d with d | d
  · omega
  · exact d

set_option maxRecDepth 100000 in
theorem len64_j0 {x n : Int} (h0 : 0 ≤ x) (h1 : x < 4294967296) (n0 : 0 ≤ n) (n1 : n ≤ 32) (k : Nat) :
    ∃ m : Nat, m ≤ 32 ∧ bits_Len64.j0 (k + 1) x n = some (n + m) ∧ x < 2 ^ m ∧ (0 < x → (2 : Int) ^ m ≤ 2 * x) := by
  rw [bits_Len64.j0.eq_2, len8_eq]
  by_cases a : x ≥ 65536
  · rw [if_pos a]
    by_cases b : x / 65536 ≥ 256
    · rw [if_pos b, if_pos (by omega), if_pos (by omega)]
      obtain ⟨m, m1, m2, m3, m4⟩ := len8_at (i := ((x / 65536) / 256) % 256) (by omega) (by omega)
      refine ⟨m + 24, by omega, ?_, ?_, ?_⟩
      · rw [m2]; congr 1; unfold wrap64; omega
      · rw [Int.pow_add]; generalize (2 : Int) ^ m = P at *; omega
      · intro _; rw [Int.pow_add]; generalize (2 : Int) ^ m = P at *; omega
    · rw [if_neg b, if_pos (by omega), if_pos (by omega)]
      obtain ⟨m, m1, m2, m3, m4⟩ := len8_at (i := (x / 65536) % 256) (by omega) (by omega)
      refine ⟨m + 16, by omega, ?_, ?_, ?_⟩
      · rw [m2]; congr 1; unfold wrap64; omega
      · rw [Int.pow_add]; generalize (2 : Int) ^ m = P at *; omega
      · intro _; rw [Int.pow_add]; generalize (2 : Int) ^ m = P at *; omega
  · rw [if_neg a]
    by_cases b : x ≥ 256
    · rw [if_pos b, if_pos (by omega), if_pos (by omega)]
      obtain ⟨m, m1, m2, m3, m4⟩ := len8_at (i := (x / 256) % 256) (by omega) (by omega)
      refine ⟨m + 8, by omega, ?_, ?_, ?_⟩
      · rw [m2]; congr 1; unfold wrap64; omega
      · rw [Int.pow_add]; generalize (2 : Int) ^ m = P at *; omega
      · intro _; rw [Int.pow_add]; generalize (2 : Int) ^ m = P at *; omega
    · rw [if_neg b, if_pos (by omega), if_pos (by omega)]
      obtain ⟨m, m1, m2, m3, m4⟩ := len8_at (i := x % 256) (by omega) (by omega)
      refine ⟨m, by omega, ?_, ?_, ?_⟩
      · rw [m2]; congr 1; unfold wrap64; omega
      · generalize (2 : Int) ^ m = P at *; omega
      · intro _; generalize (2 : Int) ^ m = P at *; omega

theorem len64 {x : Int} (h0 : 0 ≤ x) (h1 : x < 18446744073709551616) (k : Nat) :
    ∃ m : Nat, m ≤ 64 ∧ bits_Len64.f (k + 1) x = some (m : Int) ∧ x < 2 ^ m ∧ (0 < x → (2 : Int) ^ m ≤ 2 * x) := by
  unfold bits_Len64.f
  by_cases a : x ≥ 4294967296
  · rw [if_pos a]
    obtain ⟨m, m1, m2, m3, m4⟩ := len64_j0 (x := x / 4294967296) (n := 32) (by omega) (by omega) (by omega) (by omega) k
    refine ⟨m + 32, by omega, ?_, ?_, ?_⟩
    · rw [m2]; congr 1; omega
    · rw [Int.pow_add]; generalize (2 : Int) ^ m = P at *; omega
    · intro _; rw [Int.pow_add]; generalize (2 : Int) ^ m = P at *; omega
  · rw [if_neg a]
    obtain ⟨m, m1, m2, m3, m4⟩ := len64_j0 (x := x) (n := 0) (by omega) (by omega) (by omega) (by omega) k
    refine ⟨m, by omega, ?_, m3, m4⟩
    rw [m2]; congr 1; omega

/-- The leading zeros: shifted by them, a number fills 64 bits. -/
theorem lz64 {y : Int} (h0 : 0 < y) (h1 : y < 18446744073709551616) (k : Nat) :
    ∃ s : Nat, s ≤ 63 ∧ bits_LeadingZeros64.f (k + 1) y = some (s : Int) ∧ 9223372036854775808 ≤ y * 2 ^ s ∧ y * 2 ^ s < 18446744073709551616 := by
  obtain ⟨m, m1, m2, m3, m4⟩ := len64 (by omega) h1 k
  have hm : 1 ≤ m := by
    rcases m with _ | m
    · simp at m3; omega
    · omega
  refine ⟨64 - m, by omega, ?_, ?_, ?_⟩
  · unfold bits_LeadingZeros64.f
    rw [m2]; simp only [Option.bind_some]; congr 1; unfold wrap64; omega
  · have e : (2 : Int) ^ m * 2 ^ (64 - m) = 18446744073709551616 := by rw [← Int.pow_add, show m + (64 - m) = 64 by omega]; decide
    have p : (0 : Int) < 2 ^ (64 - m) := Int.pow_pos (by decide)
    have := Int.mul_le_mul_of_nonneg_right (m4 h0) (Int.le_of_lt p)
    rw [e, Int.mul_assoc] at this
    omega
  · have e : (2 : Int) ^ m * 2 ^ (64 - m) = 18446744073709551616 := by rw [← Int.pow_add, show m + (64 - m) = 64 by omega]; decide
    have p : (0 : Int) < 2 ^ (64 - m) := Int.pow_pos (by decide)
    have := Int.mul_lt_mul_of_pos_right m3 p
    omega
end Go.Proofs.Ytpophefonhpnmaa.Q
end

section
/- The quotient and the remainder of a number of 128 bits by one of 64 bits: math/bits.Div64 as printed, for every divisor greater than the upper half. -/
namespace Go.Proofs.Ytpophefonhpnmaa.Q
open Go.RowKit Go.Proofs.YtpophefonhpnmaaW.PrintWords Go.Proofs.YtpophefonhpnmaaW.PrintLast Go.Proofs.YtpophefonhpnmaaW.PrintMore
set_option linter.unusedVariables false
set_option linter.unusedSimpArgs false

theorem ev_fun {α : Type} {g : Nat → Option α} {r r' : α} (h : Ev g r) (e : r = r') : Ev g r' := e ▸ h

/-- One step of the search for a digit, in plain numbers. -/
theorem digit_facts {Y y1 y0 u A n1 q r : Int} (hY : Y = y1 * 4294967296 + y0) (h1 : 2147483648 ≤ y1) (h2 : y1 < 4294967296) (h3 : 0 ≤ y0) (h4 : y0 < 4294967296)
    (hn : 0 ≤ n1) (hn' : n1 < 4294967296) (hA : A = u * 4294967296 + n1) (hu : 0 ≤ u) (huY : u < Y) (hr : r = u - q * y1) (hr0 : 0 ≤ r) (hq1 : q ≤ 4294967297) (hq : A / Y ≤ q) :
    (q ≥ 4294967296 → A / Y ≤ q - 1) ∧ (q * y0 > 4294967296 * r + n1 → A / Y ≤ q - 1) ∧ (q < 4294967296 → ¬ q * y0 > 4294967296 * r + n1 → A / Y = q)
    ∧ (A / Y ≤ q - 1 → r + y1 ≥ 4294967296 → A / Y = q - 1) ∧ 0 ≤ A / Y ∧ A / Y < 4294967296 := by
  have hYp : 0 < Y := by omega
  have hA0 : 0 ≤ A := by omega
  have hQ0 : 0 ≤ A / Y := Int.ediv_nonneg hA0 (by omega)
  have hQ1 : A / Y < 4294967296 := by
    rw [Int.ediv_lt_iff_lt_mul hYp]; omega
  have eU : q * Y = A - n1 - r * 4294967296 + q * y0 := by
    rw [hY, hA, hr]; grind
  have k := Int.le_ediv_iff_mul_le (a := q) (b := A) hYp
  have k' := Int.le_ediv_iff_mul_le (a := q - 1) (b := A) hYp
  have eU' : (q - 1) * Y = q * Y - Y := by grind
  refine ⟨by omega, fun h => ?_, fun _ h => ?_, fun hle hr1 => ?_, hQ0, hQ1⟩
  · rcases Int.lt_or_le (A / Y) q with h' | h'
    · omega
    · have := k.mp h'; omega
  · have : q * Y ≤ A := by omega
    have := k.mpr this; omega
  · have b : (q - 1) * y0 ≤ 4294967296 * 4294967295 := Int.mul_le_mul (by omega) (by omega) h3 (by omega)
    have e : (q - 1) * y0 = q * y0 - y0 := by grind
    have : (q - 1) * Y ≤ A := by omega
    have := k'.mpr this; omega

theorem div_l0 {Y s y1 y0 u n1 n0 : Int} {R : Int × Int} (hY : Y = y1 * 4294967296 + y0) (h1 : 2147483648 ≤ y1) (h2 : y1 < 4294967296) (h3 : 0 ≤ y0) (h4 : y0 < 4294967296)
    (hn : 0 ≤ n1) (hn' : n1 < 4294967296) (hu : 0 ≤ u) (huY : u < Y) (H : Ev (fun k => bits_Div64.j2 k Y s y1 y0 u n1 n0 ((u * 4294967296 + n1) / Y)) R) (n : Nat) :
    ∀ q r : Int, r = u - q * y1 → 0 ≤ r → r < 4294967296 → q ≤ 4294967297 → (u * 4294967296 + n1) / Y ≤ q → 4294967296 - r ≤ n → Ev (fun k => bits_Div64.l0 k Y s y1 y0 u n1 n0 q r) R := by
  induction n with
  | zero => intro q r _ _ _ _ _ _; omega
  | succ n ih =>
    intro q r hr hr0 hr1 hq1 hq hm
    obtain ⟨f1, f2, f3, f4, f5, f6⟩ := digit_facts hY h1 h2 h3 h4 hn hn' rfl hu huY hr hr0 hq1 hq
    generalize hA : (u * 4294967296 + n1) / Y = Q at *
    have go : Q ≤ q - 1 → Ev (fun k => bits_Div64.j1 k Y s y1 y0 u n1 n0 q r true) R := by
      intro hle
      by_cases c : r + y1 ≥ 4294967296
      · refine Ev.step (fun k => by rw [bits_Div64.j1, if_pos rfl, uw_id (x := r + y1) (by omega) (by omega), if_pos c, uw_id (x := q - 1) (by omega) (by omega)]) ?_
        rw [← f4 hle c]; exact H
      · refine Ev.step (fun k => by rw [bits_Div64.j1, if_pos rfl, uw_id (x := r + y1) (by omega) (by omega), if_neg c, uw_id (x := q - 1) (by omega) (by omega)]) ?_
        exact ih (q - 1) (r + y1) (by rw [hr]; grind) (by omega) (by omega) (by omega) hle (by omega)
    by_cases c : q ≥ 4294967296
    · exact Ev.step (fun k => by rw [bits_Div64.l0, if_pos c]) (go (f1 c))
    · have b0 : 0 ≤ q * y0 := Int.mul_nonneg (by omega) h3
      have b1 : q * y0 ≤ 4294967295 * 4294967295 := Int.mul_le_mul (by omega) (by omega) h3 (by omega)
      have e : decide ((IntKind.u64.wrap (q * y0)) > (IntKind.u64.wrap ((IntKind.u64.wrap (4294967296 * r)) + n1))) = decide (q * y0 > 4294967296 * r + n1) := by
        rw [uw_id (x := q * y0) b0 (by omega), uw_id (x := 4294967296 * r) (by omega) (by omega), uw_id (by omega) (by omega)]
      by_cases d : q * y0 > 4294967296 * r + n1
      · exact Ev.step (fun k => by rw [bits_Div64.l0, if_neg c, e, decide_eq_true d]) (go (f2 d))
      · refine Ev.step (fun k => by rw [bits_Div64.l0, if_neg c, e, decide_eq_false d]) ?_
        refine Ev.step (fun k => by rw [bits_Div64.j1, if_neg (by decide)]) ?_
        rw [← f3 (by omega) d]; exact H

theorem div_end {Y y1 u n0 q1 s A : Int} (hY0 : 0 < Y) (hY1 : Y < 18446744073709551616) (hA : A = u * 4294967296 + n0) (hq1 : 0 ≤ q1) (hq1' : q1 < 4294967296) (hQ : 0 ≤ A / Y) (hQ1 : A / Y < 4294967296) :
    (IntKind.u64.wrap ((IntKind.u64.wrap (q1 * 4294967296)) + A / Y), shr .u64 (IntKind.u64.wrap ((IntKind.u64.wrap ((IntKind.u64.wrap (u * 4294967296)) + n0)) - (IntKind.u64.wrap ((A / Y) * Y)))) s)
      = (q1 * 4294967296 + A / Y, shr .u64 (A % Y) s) := by
  have h := Int.emod_add_mul_ediv A Y
  have h0 := Int.emod_nonneg A (show Y ≠ 0 by omega)
  have h1 := Int.emod_lt_of_pos A hY0
  have hc : Y * (A / Y) = A / Y * Y := Int.mul_comm _ _
  rw [hc] at h
  generalize A / Y * Y = P at *
  generalize A / Y = Q at *
  have e : (u * 4294967296 % 18446744073709551616 + n0) % 18446744073709551616 = A % 18446744073709551616 := by rw [hA]; omega
  rw [uw, uw, uw, uw, uw, uw, e]
  congr 1
  · omega
  · congr 1; omega

theorem div_l1 {Y s y1 y0 u n0 q1 : Int} (hY : Y = y1 * 4294967296 + y0) (h1 : 2147483648 ≤ y1) (h2 : y1 < 4294967296) (h3 : 0 ≤ y0) (h4 : y0 < 4294967296)
    (hn : 0 ≤ n0) (hn' : n0 < 4294967296) (hu : 0 ≤ u) (huY : u < Y) (hq1 : 0 ≤ q1) (hq1' : q1 < 4294967296) (hs : 0 ≤ s) (n : Nat) :
    ∀ q r : Int, r = u - q * y1 → 0 ≤ r → r < 4294967296 → q ≤ 4294967297 → (u * 4294967296 + n0) / Y ≤ q → 4294967296 - r ≤ n →
      Ev (fun k => bits_Div64.l1 k Y s y1 y0 n0 q1 r u q) (q1 * 4294967296 + (u * 4294967296 + n0) / Y, shr .u64 ((u * 4294967296 + n0) % Y) s) := by
  induction n with
  | zero => intro q r _ _ _ _ _ _; omega
  | succ n ih =>
    intro q r hr hr0 hr1 hq1 hq hm
    obtain ⟨f1, f2, f3, f4, f5, f6⟩ := digit_facts hY h1 h2 h3 h4 hn hn' rfl hu huY hr hr0 hq1 hq
    have fin := div_end (Y := Y) (y1 := y1) (u := u) (n0 := n0) (q1 := q1) (s := s) (by omega) (by omega) rfl (by omega) (by omega) f5 f6
    generalize hA : u * 4294967296 + n0 = A at *
    have go : A / Y ≤ q - 1 → Ev (fun k => bits_Div64.j4 k Y s y1 y0 n0 q1 r u q true) (q1 * 4294967296 + A / Y, shr .u64 (A % Y) s) := by
      intro hle
      by_cases c : r + y1 ≥ 4294967296
      · have e := f4 hle c
        refine Ev.step (f := fun _ => some (q1 * 4294967296 + A / Y, shr .u64 (A % Y) s)) (fun k => ?_) (Ev.now _)
        rw [bits_Div64.j4, if_pos rfl, uw_id (x := r + y1) (by omega) (by omega), if_pos c, uw_id (x := q - 1) (by omega) (by omega), if_pos hs, ← e]
        rw [fin]
      · refine Ev.step (fun k => by rw [bits_Div64.j4, if_pos rfl, uw_id (x := r + y1) (by omega) (by omega), if_neg c, uw_id (x := q - 1) (by omega) (by omega)]) ?_
        exact ih (q - 1) (r + y1) (by rw [hr]; grind) (by omega) (by omega) (by omega) hle (by omega)
    by_cases c : q ≥ 4294967296
    · exact Ev.step (fun k => by rw [bits_Div64.l1, if_pos c]) (go (f1 c))
    · have b0 : 0 ≤ q * y0 := Int.mul_nonneg (by omega) h3
      have b1 : q * y0 ≤ 4294967295 * 4294967295 := Int.mul_le_mul (by omega) (by omega) h3 (by omega)
      have e : decide ((IntKind.u64.wrap (q * y0)) > (IntKind.u64.wrap ((IntKind.u64.wrap (4294967296 * r)) + n0))) = decide (q * y0 > 4294967296 * r + n0) := by
        rw [uw_id (x := q * y0) b0 (by omega), uw_id (x := 4294967296 * r) (by omega) (by omega), uw_id (by omega) (by omega)]
      by_cases d : q * y0 > 4294967296 * r + n0
      · exact Ev.step (fun k => by rw [bits_Div64.l1, if_neg c, e, decide_eq_true d]) (go (f2 d))
      · refine Ev.step (fun k => by rw [bits_Div64.l1, if_neg c, e, decide_eq_false d]) ?_
        have e := f3 (by omega) d
        refine Ev.step (f := fun _ => some (q1 * 4294967296 + A / Y, shr .u64 (A % Y) s)) (fun k => ?_) (Ev.now _)
        rw [bits_Div64.j4, if_neg (by decide), if_pos hs, ← e]
        rw [fin]

theorem tdiv_eq {a b : Int} (ha : 0 ≤ a) : Int.tdiv a b = a / b := Int.tdiv_eq_ediv_of_nonneg ha
theorem tmod_eq {a b : Int} (ha : 0 ≤ a) : Int.tmod a b = a % b := Int.tmod_eq_emod_of_nonneg ha

/-- The first guess of a digit. -/
theorem guess {Y y1 y0 u A n1 : Int} (hY : Y = y1 * 4294967296 + y0) (h1 : 2147483648 ≤ y1) (h2 : y1 < 4294967296) (h3 : 0 ≤ y0) (h4 : y0 < 4294967296)
    (hn : 0 ≤ n1) (hn' : n1 < 4294967296) (hA : A = u * 4294967296 + n1) (hu : 0 ≤ u) (huY : u < Y) :
    0 ≤ u / y1 ∧ u / y1 ≤ 4294967297 ∧ A / Y ≤ u / y1 ∧ u - u / y1 * y1 = u % y1 ∧ 0 ≤ u % y1 ∧ u % y1 < 4294967296 := by
  have e := Int.emod_add_mul_ediv u y1
  have e0 := Int.emod_nonneg u (show y1 ≠ 0 by omega)
  have e1 := Int.emod_lt_of_pos u (show 0 < y1 by omega)
  have e2 : y1 * (u / y1) = u / y1 * y1 := Int.mul_comm _ _
  refine ⟨Int.ediv_nonneg hu (by omega), ?_, ?_, by omega, e0, by omega⟩
  · have : u / y1 < 4294967298 := by rw [Int.ediv_lt_iff_lt_mul (by omega)]; omega
    omega
  · -- (A / Y) * Y ≤ A, hence (A / Y) * y1 * 2^32 ≤ A, hence (A / Y) * y1 ≤ u
    have hYp : 0 < Y := by omega
    have k := (Int.le_ediv_iff_mul_le (a := A / Y) (b := A) hYp).mp (Int.le_refl _)
    have hQ0 : 0 ≤ A / Y := Int.ediv_nonneg (by omega) (by omega)
    have m0 : 0 ≤ A / Y * y0 := Int.mul_nonneg hQ0 h3
    have eU : A / Y * Y = A / Y * y1 * 4294967296 + A / Y * y0 := by
      generalize A / Y = Q; rw [hY]; grind
    rw [Int.le_ediv_iff_mul_le (by omega)]
    omega

theorem div_j2 {Y s y1 y0 u n1 n0 : Int} (hY : Y = y1 * 4294967296 + y0) (h1 : 2147483648 ≤ y1) (h2 : y1 < 4294967296) (h3 : 0 ≤ y0) (h4 : y0 < 4294967296)
    (hn : 0 ≤ n1) (hn' : n1 < 4294967296) (hm : 0 ≤ n0) (hm' : n0 < 4294967296) (hu : 0 ≤ u) (huY : u < Y) (hs : 0 ≤ s) :
    Ev (fun k => bits_Div64.j2 k Y s y1 y0 u n1 n0 ((u * 4294967296 + n1) / Y))
      ((u * 18446744073709551616 + n1 * 4294967296 + n0) / Y, shr .u64 ((u * 18446744073709551616 + n1 * 4294967296 + n0) % Y) s) := by
  have hYp : 0 < Y := by omega
  have h := Int.emod_add_mul_ediv (u * 4294967296 + n1) Y
  have h0 := Int.emod_nonneg (u * 4294967296 + n1) (show Y ≠ 0 by omega)
  have h1' := Int.emod_lt_of_pos (u * 4294967296 + n1) hYp
  have hc : Y * ((u * 4294967296 + n1) / Y) = (u * 4294967296 + n1) / Y * Y := Int.mul_comm _ _
  have hQ0 : 0 ≤ (u * 4294967296 + n1) / Y := Int.ediv_nonneg (by omega) (by omega)
  have hQ1 : (u * 4294967296 + n1) / Y < 4294967296 := by rw [Int.ediv_lt_iff_lt_mul hYp]; omega
  generalize hQ : (u * 4294967296 + n1) / Y = Q1 at *
  generalize hV : (u * 4294967296 + n1) % Y = V at *
  have eV : IntKind.u64.wrap ((IntKind.u64.wrap ((IntKind.u64.wrap (u * 4294967296)) + n1)) - (IntKind.u64.wrap (Q1 * Y))) = V := by
    rw [uw, uw, uw, uw]; omega
  obtain ⟨g0, g1, g2, g3, g4, g5⟩ := guess (A := V * 4294967296 + n0) hY h1 h2 h3 h4 hm hm' rfl h0 h1'
  have eN : u * 18446744073709551616 + n1 * 4294967296 + n0 = V * 4294967296 + n0 + (Q1 * 4294967296) * Y := by
    have : (Q1 * 4294967296) * Y = Q1 * Y * 4294967296 := by grind
    omega
  have eD : (u * 18446744073709551616 + n1 * 4294967296 + n0) / Y = Q1 * 4294967296 + (V * 4294967296 + n0) / Y := by
    rw [eN, Int.add_mul_ediv_right _ _ (by omega)]; omega
  have eM : (u * 18446744073709551616 + n1 * 4294967296 + n0) % Y = (V * 4294967296 + n0) % Y := by
    rw [eN, Int.add_mul_emod_self_right]
  rw [eD, eM]
  refine Ev.step (f := fun k => bits_Div64.l1 k Y s y1 y0 n0 Q1 (V % y1) V (V / y1)) (fun k => ?_) ?_
  · rw [bits_Div64.j2, if_neg (by omega), eV, tdiv_eq h0, uw_id (x := V / y1) g0 (by omega)]
    rw [uw, uw]
    congr 1
    omega
  · exact div_l1 hY h1 h2 h3 h4 hm hm' h0 h1' hQ0 hQ1 hs 4294967296 _ _ g3.symm g4 g5 g1 g2 (by omega)
end Go.Proofs.Ytpophefonhpnmaa.Q
end

section
/- math/bits.Div64 as printed returns the quotient and the remainder of hi * 2^64 + lo by y, for every y greater than hi. -/
namespace Go.Proofs.Ytpophefonhpnmaa.Q
open Go.RowKit Go.Proofs.YtpophefonhpnmaaW.PrintWords Go.Proofs.YtpophefonhpnmaaW.PrintLast Go.Proofs.YtpophefonhpnmaaW.PrintMore
set_option linter.unusedVariables false
set_option linter.unusedSimpArgs false

theorem shl64 {x : Int} {s : Nat} (hs : s ≤ 64) : shl .u64 x (s : Int) = (x * 2 ^ s) % 18446744073709551616 := by
  unfold shl; rw [uw, Int.toNat_natCast, show IntKind.u64.bits = 64 from rfl, Nat.min_eq_left hs]
theorem shr64 {x : Int} {s : Nat} (hs : s ≤ 64) : shr .u64 x (s : Int) = x / 2 ^ s := by
  unfold shr; rw [Int.toNat_natCast, show IntKind.u64.bits = 64 from rfl, Nat.min_eq_left hs]

theorem div64 {hi lo y : Int} (h0 : 0 ≤ hi) (h1 : hi < y) (h2 : y < 18446744073709551616) (l0 : 0 ≤ lo) (l1 : lo < 18446744073709551616) :
    Ev (fun k => bits_Div64.f k hi lo y) ((hi * 18446744073709551616 + lo) / y, (hi * 18446744073709551616 + lo) % y) := by
  by_cases hz : hi = 0
  · subst hz
    refine Ev.congr (f := fun _ => some (lo / y, lo % y)) (fun k => ?_) ?_
    · unfold bits_Div64.f
      rw [if_neg (by omega), if_neg (by omega), if_pos rfl, tdiv_eq l0, tmod_eq l0, uw_id (Int.ediv_nonneg l0 (by omega))]
      have := Int.ediv_le_self y l0
      omega
    · rw [show 0 * 18446744073709551616 + lo = lo by omega]; exact Ev.now _
  · obtain ⟨K, hK⟩ : ∃ K, ∀ k, K ≤ k → bits_Div64.f k hi lo y = some ((hi * 18446744073709551616 + lo) / y, (hi * 18446744073709551616 + lo) % y) := by
      obtain ⟨s, hs, hsv, hY0, hY1⟩ := lz64 (y := y) (by omega) h2 0
      have hsE : Ev (fun k => bits_LeadingZeros64.f k y) (s : Int) := Ev.of (fun k => bits_LeadingZeros64.mono _ _) hsv
      have hP : (0 : Int) < 2 ^ s := Int.pow_pos (by decide)
      have hPP : (2 : Int) ^ s * 2 ^ (64 - s) = 18446744073709551616 := by rw [← Int.pow_add, show s + (64 - s) = 64 by omega]; decide
      have hP' : (0 : Int) < 2 ^ (64 - s) := Int.pow_pos (by decide)
      have hb : hi * 2 ^ s < y * 2 ^ s := Int.mul_lt_mul_of_pos_right h1 hP
      have hb0 : 0 ≤ hi * 2 ^ s := Int.mul_nonneg h0 (by omega)
      have hlo0 : 0 ≤ lo * 2 ^ s := Int.mul_nonneg l0 (by omega)
      -- the low part of the dividend that moves up
      have hdl : lo / 2 ^ (64 - s) = lo * 2 ^ s / 18446744073709551616 := by
        rw [← hPP, Int.mul_comm lo, Int.mul_ediv_mul_of_pos _ _ hP]
      have hlt : lo * 2 ^ s < 18446744073709551616 * 2 ^ s := Int.mul_lt_mul_of_pos_right l1 hP
      have hdlt : lo * 2 ^ s / 18446744073709551616 < 2 ^ s := by
        rw [Int.ediv_lt_iff_lt_mul (by decide), Int.mul_comm (2 ^ s)]; exact hlt
      have hd0 : 0 ≤ lo * 2 ^ s / 18446744073709551616 := Int.ediv_nonneg hlo0 (by decide)
      have e1 : shl .u64 y (s : Int) = y * 2 ^ s := by rw [shl64 (by omega)]; omega
      have e2 : shl .u64 hi (s : Int) = hi * 2 ^ s := by rw [shl64 (by omega)]; omega
      have e3 : shl .u64 lo (s : Int) = lo * 2 ^ s % 18446744073709551616 := shl64 (by omega)
      have e4 : shr .u64 lo (IntKind.u64.wrap (64 - IntKind.u64.wrap (s : Int))) = lo * 2 ^ s / 18446744073709551616 := by
        rw [uw_id (x := (s : Int)) (by omega) (by omega), uw_id (by omega) (by omega), show (64 : Int) - (s : Int) = ((64 - s : Nat) : Int) by omega, shr64 (by omega), hdl]
      have hle : hi * 2 ^ s + 2 ^ s ≤ y * 2 ^ s := by
        have := Int.mul_le_mul_of_nonneg_right (show hi + 1 ≤ y by omega) (Int.le_of_lt hP)
        rw [Int.add_mul, Int.one_mul] at this; exact this
      have e5 : Go.bits .or .u64 (hi * 2 ^ s) (lo * 2 ^ s / 18446744073709551616) = hi * 2 ^ s + lo * 2 ^ s / 18446744073709551616 :=
        Go.bits_join .u64 64 (by decide) (fun n h h' => by rw [uw]; omega) s _ _ hb0 (Int.mul_emod_left _ _) (by omega) hd0 hdlt (by omega)
      -- the whole
      have key := div_j2 (Y := y * 2 ^ s) (s := (s : Int)) (y1 := y * 2 ^ s / 4294967296) (y0 := y * 2 ^ s % 4294967296) (u := hi * 2 ^ s + lo * 2 ^ s / 18446744073709551616)
        (n1 := lo * 2 ^ s % 18446744073709551616 / 4294967296) (n0 := lo * 2 ^ s % 18446744073709551616 % 4294967296)
        (by omega) (by omega) (by omega) (by omega) (by omega) (by omega) (by omega) (by omega) (by omega) (by omega) (by omega) (by omega)
      have hN : (hi * 2 ^ s + lo * 2 ^ s / 18446744073709551616) * 18446744073709551616 + lo * 2 ^ s % 18446744073709551616 / 4294967296 * 4294967296 + lo * 2 ^ s % 18446744073709551616 % 4294967296
          = (hi * 18446744073709551616 + lo) * 2 ^ s := by
        have : (hi * 18446744073709551616 + lo) * 2 ^ s = hi * 2 ^ s * 18446744073709551616 + lo * 2 ^ s := by grind
        omega
      have eM : (hi * 18446744073709551616 + lo) * 2 ^ s % (y * 2 ^ s) = (hi * 18446744073709551616 + lo) % y * 2 ^ s := by
        rw [Int.mul_comm _ (2 ^ s), Int.mul_comm y, Int.mul_emod_mul_of_pos _ _ hP, Int.mul_comm]
      rw [hN, Int.mul_ediv_mul_of_pos_left _ _ hP, eM, shr64 (by omega), Int.mul_ediv_cancel _ (by omega)] at key
      obtain ⟨g0, g1, g2, g3, g4, g5⟩ := guess (Y := y * 2 ^ s) (y1 := y * 2 ^ s / 4294967296) (y0 := y * 2 ^ s % 4294967296) (u := hi * 2 ^ s + lo * 2 ^ s / 18446744073709551616)
        (A := (hi * 2 ^ s + lo * 2 ^ s / 18446744073709551616) * 4294967296 + lo * 2 ^ s % 18446744073709551616 / 4294967296) (n1 := lo * 2 ^ s % 18446744073709551616 / 4294967296)
        (by omega) (by omega) (by omega) (by omega) (by omega) (by omega) (by omega) rfl (by omega) (by omega)
      have key2 := div_l0 (Y := y * 2 ^ s) (s := (s : Int)) (y1 := y * 2 ^ s / 4294967296) (y0 := y * 2 ^ s % 4294967296) (u := hi * 2 ^ s + lo * 2 ^ s / 18446744073709551616)
        (n1 := lo * 2 ^ s % 18446744073709551616 / 4294967296) (n0 := lo * 2 ^ s % 18446744073709551616 % 4294967296)
        (by omega) (by omega) (by omega) (by omega) (by omega) (by omega) (by omega) (by omega) (by omega) key 4294967296 _ _ g3.symm g4 g5 g1 g2 (by omega)
      obtain ⟨K1, h1'⟩ := hsE
      obtain ⟨K2, h2'⟩ := key2
      refine ⟨max K1 K2, fun k hk => ?_⟩
      unfold bits_Div64.f
      rw [if_neg (by omega), if_neg (by omega), if_neg hz, show bits_LeadingZeros64.f k y = some (s : Int) from h1' k (by omega)]
      simp only [Option.bind_some]
      rw [e4, uw_id (x := (s : Int)) (by omega) (by omega), if_pos (by omega), uw_id (x := 64 - (s : Int)) (by omega) (by omega), if_pos (by omega), e1, e2, e3, e5,
        if_neg (by omega), u64_mask32 (by omega) (by omega), u64_mask32 (by omega) (by omega), tdiv_eq (by omega), uw_id (x := _ / _) g0 (by omega), uw, uw]
      have hmm : ((hi * 2 ^ s + lo * 2 ^ s / 18446744073709551616) - (hi * 2 ^ s + lo * 2 ^ s / 18446744073709551616) / (y * 2 ^ s / 4294967296) * (y * 2 ^ s / 4294967296) % 18446744073709551616) % 18446744073709551616
          = (hi * 2 ^ s + lo * 2 ^ s / 18446744073709551616) % (y * 2 ^ s / 4294967296) := by omega
      rw [hmm]
      exact h2' k (by omega)
    exact ⟨K, hK⟩
end Go.Proofs.Ytpophefonhpnmaa.Q
end

section
/- Package num of the program in plain numbers: products of 128 bits, their sums, order, quotients and remainders; the bounds stand in each statement. -/
namespace Go.Proofs.Ytpophefonhpnmaa.Q
open Go.RowKit Go.Proofs.YtpophefonhpnmaaW.PrintWords Go.Proofs.YtpophefonhpnmaaW.PrintLast Go.Proofs.YtpophefonhpnmaaW.PrintMore
set_option linter.unusedVariables false
set_option linter.unusedSimpArgs false

/-- What a product of two numbers of 64 bits lies between. -/
theorem prod_bd {a b : Int} (a0 : -9223372036854775808 ≤ a) (a1 : a < 9223372036854775808) (b0 : -9223372036854775808 ≤ b) (b1 : b < 9223372036854775808) :
    -85070591730234615865843651857942052864 ≤ a * b ∧ a * b ≤ 85070591730234615865843651857942052864 := by
  have h : (a * b).natAbs ≤ 9223372036854775808 * 9223372036854775808 := by
    rw [Int.natAbs_mul]; exact Nat.mul_le_mul (by omega) (by omega)
  omega

theorem wide_neg {v : Int} (h0 : -170141183460469231731687303715884105728 < v) (h1 : v < 170141183460469231731687303715884105728) :
    num_Wide_Neg.f (v / 18446744073709551616) (v % 18446744073709551616) = some (-v / 18446744073709551616, -v % 18446744073709551616) := by
  unfold num_Wide_Neg.f
  rw [if_pos (by omega), if_pos (by omega)]
  congr 2
  · unfold wrap64; omega
  · omega

theorem wide_plus {u v : Int} (h0 : -170141183460469231731687303715884105728 ≤ u + v) (h1 : u + v < 170141183460469231731687303715884105728) :
    num_Wide_Plus.f (u / 18446744073709551616) (u % 18446744073709551616) (v / 18446744073709551616) (v % 18446744073709551616)
      = some ((u + v) / 18446744073709551616, (u + v) % 18446744073709551616) := by
  unfold num_Wide_Plus.f
  rw [if_pos (by omega), if_pos (by omega), if_pos (by omega), if_pos (by omega)]
  congr 2
  · unfold wrap64; omega
  · omega

theorem product {a b : Int} (a0 : -9223372036854775808 ≤ a) (a1 : a < 9223372036854775808) (b0 : -9223372036854775808 ≤ b) (b1 : b < 9223372036854775808) :
    num_Product.f a b = some (a * b / 18446744073709551616, a * b % 18446744073709551616) := by
  have hb := prod_bd a0 a1 b0 b1
  unfold num_Product.f
  rw [size_some a0 a1, size_some b0 b1]
  simp only [Option.bind_some]
  rw [mul64 (by split <;> omega) (by split <;> omega) (by split <;> omega) (by split <;> omega)]
  simp only [Option.bind_some]
  by_cases ha : a < 0 <;> by_cases hc : b < 0
  · rw [if_pos ha, if_pos hc, if_neg (by simp [ha, hc]), Int.neg_mul_neg]
    congr 2
    unfold wrap64; omega
  · rw [if_pos ha, if_neg hc, if_pos (by simp [ha]; omega), Int.neg_mul, w64_id (by omega) (by omega), wide_neg (by omega) (by omega)]
    simp only [Option.bind_some, Int.neg_neg]
  · rw [if_neg ha, if_pos hc, if_pos (by simp [hc]; omega), Int.mul_neg, w64_id (by omega) (by omega), wide_neg (by omega) (by omega)]
    simp only [Option.bind_some, Int.neg_neg]
  · rw [if_neg ha, if_neg hc, if_neg (by simp [ha, hc])]
    congr 2
    unfold wrap64; omega

/-- Division of a negative number: by that of the opposite one. -/
theorem neg_div {v d : Int} (hd : 0 < d) : v / d = (if -v % d = 0 then -(-v / d) else -(-v / d) - 1) ∧ v % d = (if -v % d = 0 then 0 else d - -v % d) := by
  have e := Int.emod_add_mul_ediv (-v) d
  have h0 := Int.emod_nonneg (-v) (show d ≠ 0 by omega)
  have h1 := Int.emod_lt_of_pos (-v) hd
  split
  · exact (Int.ediv_emod_unique hd).mpr ⟨by rw [Int.mul_neg]; omega, by omega, by omega⟩
  · exact (Int.ediv_emod_unique hd).mpr ⟨by rw [Int.mul_sub, Int.mul_neg]; omega, by omega, by omega⟩

theorem div_bd {v d : Int} (h0 : 0 ≤ v) (hd : 0 < d) : 0 ≤ v / d ∧ v / d ≤ v := ⟨Int.ediv_nonneg h0 (by omega), Int.ediv_le_self d h0⟩

theorem bind_ev {α β : Type} {g : Nat → Option α} {f : Nat → α → Option β} {a : α} {r : β} (h : Ev g a) (k : Ev (fun n => f n a) r) : Ev (fun n => (g n).bind (f n)) r := Ev.bind h k
theorem one_ev {α : Type} {g : Nat → Option α} {r : α} (h : ∀ k, g (k + 1) = some r) : Ev g r := Ev.step (f := fun _ => some r) h (Ev.now _)
theorem now_ev {α : Type} {g : Nat → Option α} {r : α} (h : ∀ k, g k = some r) : Ev g r := Ev.congr (f := fun _ => some r) h (Ev.now _)

theorem wide_div_j1 {p r : Int} (neg : Bool) {h l : Int} (hn : (h < 0) = (neg = true)) (hp0 : 0 ≤ p) (hp1 : p < 18446744073709551616) (hr : 0 ≤ r) :
    Ev (fun k => num_Wide_Div.j1 k p r (if neg then (if r > 0 then 9223372036854775807 else 9223372036854775808) else 9223372036854775807) h l)
      (if neg then (if r = 0 then (if p ≤ 9223372036854775808 then (-p, 0) else (0, 2)) else (if p ≤ 9223372036854775807 then (-p - 1, 0) else (0, 2)))
        else (if p ≤ 9223372036854775807 then (p, 0) else (0, 2))) := by
  refine one_ev fun k => ?_
  rw [num_Wide_Div.j1]
  cases neg
  · have hh : ¬ h < 0 := by rw [hn]; decide
    simp only [Bool.false_eq_true, if_false]
    by_cases c : p ≤ 9223372036854775807
    · rw [if_neg (by omega), if_pos (by omega), if_pos c, w64_id (by omega) (by omega)]
    · rw [if_pos (by omega), if_neg c]
  · have hh : h < 0 := by rw [hn]
    simp only [if_true]
    by_cases z : r = 0
    · rw [if_neg (show ¬ r > 0 by omega), if_pos z]
      by_cases c : p ≤ 9223372036854775808
      · rw [if_neg (by omega), if_neg (by omega), if_neg (by omega), if_pos c, uw_wrap64, w64_id (by omega) (by omega)]
      · rw [if_pos (by omega), if_neg c]
    · rw [if_pos (show r > 0 by omega), if_neg z]
      by_cases c : p ≤ 9223372036854775807
      · rw [if_neg (by omega), if_neg (by omega), if_pos (by omega), if_pos c, uw_wrap64, w64_id (x := -p) (by omega) (by omega), w64_id (by omega) (by omega)]
      · rw [if_pos (by omega), if_neg c]

theorem some_ev {α β : Type} {g : Option α} {f : Nat → α → Option β} {a : α} {r : β} (h : g = some a) (k : Ev (fun n => f n a) r) : Ev (fun n => g.bind (f n)) r := by
  subst h; exact k
theorem pos_ev {α : Type} {c : Prop} [Decidable c] {g f : Nat → Option α} {r : α} (h : c) (k : Ev g r) : Ev (fun n => if c then g n else f n) r := by
  simp only [if_pos h]; exact k
theorem neg_ev {α : Type} {c : Prop} [Decidable c] {g f : Nat → Option α} {r : α} (h : ¬ c) (k : Ev f r) : Ev (fun n => if c then g n else f n) r := by
  simp only [if_neg h]; exact k

/-- Whether a number has 64 bits, with sign. -/
def fits (n : Int) : Bool := decide (-9223372036854775808 ≤ n) && decide (n ≤ 9223372036854775807)

theorem wide_div {v d : Int} (h0 : -170141183460469231731687303715884105728 ≤ v) (h1 : v < 170141183460469231731687303715884105728) (hd1 : d < 9223372036854775808) :
    Ev (fun k => num_Wide_Div.f k (v / 18446744073709551616) (v % 18446744073709551616) d) (if d < 1 then (0, 1) else if fits (v / d) then (v / d, 0) else (0, 2)) := by
  by_cases hd : d < 1
  · rw [if_pos hd]; exact now_ev fun k => by unfold num_Wide_Div.f; rw [if_pos hd]
  rw [if_neg hd]
  have hdp : 0 < d := by omega
  by_cases hv : v < 0
  · by_cases hm : v = -170141183460469231731687303715884105728
    · subst hm
      have hf : fits (-170141183460469231731687303715884105728 / d) = false := by
        have : -170141183460469231731687303715884105728 / d < -9223372036854775808 := by rw [Int.ediv_lt_iff_lt_mul hdp]; omega
        unfold fits; rw [decide_eq_false (by omega)]; rfl
      rw [hf]
      refine Ev.congr (f := fun k => num_Wide_Div.j0 k d (-9223372036854775808) 0 (-9223372036854775808) 0) (fun k => ?_) ?_
      · unfold num_Wide_Div.f
        rw [if_neg hd, if_pos (by omega)]
        have : num_Wide_Neg.f (-170141183460469231731687303715884105728 / 18446744073709551616) (-170141183460469231731687303715884105728 % 18446744073709551616) = some (-9223372036854775808, 0) := by decide +kernel
        rw [this]
        rfl
      · refine one_ev fun k => ?_
        rw [num_Wide_Div.j0, if_pos (by rw [uw, uw]; omega)]
        rfl
    · have b := div_bd (v := -v) (d := d) (by omega) hdp
      have nd := neg_div (v := v) hdp
      have h0' := Int.emod_nonneg (-v) (show d ≠ 0 by omega)
      refine Ev.congr (f := fun k => num_Wide_Div.j0 k d (v / 18446744073709551616) (v % 18446744073709551616) (-v / 18446744073709551616) (-v % 18446744073709551616)) (fun k => ?_) ?_
      · unfold num_Wide_Div.f
        rw [if_neg hd, if_pos (by omega), wide_neg (by omega) (by omega)]
        rfl
      · by_cases c : -v / 18446744073709551616 ≥ d
        · have hq : 18446744073709551616 ≤ -v / d := by rw [Int.le_ediv_iff_mul_le hdp]; omega
          have hf : fits (v / d) = false := by
            unfold fits; rw [decide_eq_false (by rw [nd.1]; split <;> omega)]; rfl
          rw [hf]
          refine one_ev fun k => ?_
          rw [num_Wide_Div.j0, if_pos (by rw [uw, uw]; omega)]
          rfl
        · have D := div64 (hi := -v / 18446744073709551616) (lo := -v % 18446744073709551616) (y := d) (by omega) (by omega) (by omega) (by omega) (by omega)
          rw [show -v / 18446744073709551616 * 18446744073709551616 + -v % 18446744073709551616 = -v by omega] at D
          have hq : -v / d < 18446744073709551616 := by rw [Int.ediv_lt_iff_lt_mul hdp]; omega
          have J := wide_div_j1 (p := -v / d) (r := -v % d) true (h := v / 18446744073709551616) (l := v % 18446744073709551616) (by simp; omega) b.1 hq h0'
          simp only [if_true] at J
          refine Ev.step (f := fun k => (bits_Div64.f k (-v / 18446744073709551616) (-v % 18446744073709551616) d).bind fun bt => num_Wide_Div.j1 k bt.1 bt.2 (if bt.2 > 0 then 9223372036854775807 else 9223372036854775808) (v / 18446744073709551616) (v % 18446744073709551616)) (fun k => ?_) ?_
          · rw [num_Wide_Div.j0, uw_id (x := -v / 18446744073709551616) (by omega) (by omega), uw_id (x := d) (by omega) (by omega), if_neg c]
            congr 1
            funext bt
            rw [if_pos (by omega)]
            split <;> rfl
          · refine ev_fun (Ev.bind D J) ?_
            rw [nd.1]
            unfold fits
            by_cases z : -v % d = 0
            · rw [if_pos z, if_pos z]
              by_cases y : -v / d ≤ 9223372036854775808
              · rw [if_pos y, decide_eq_true (by omega), decide_eq_true (by omega)]; rfl
              · rw [if_neg y, decide_eq_false (by omega)]; rfl
            · rw [if_neg z, if_neg z]
              by_cases y : -v / d ≤ 9223372036854775807
              · rw [if_pos y, decide_eq_true (by omega), decide_eq_true (by omega)]; rfl
              · rw [if_neg y, decide_eq_false (by omega)]; rfl
  · have b := div_bd (v := v) (d := d) (by omega) hdp
    have h0' := Int.emod_nonneg v (show d ≠ 0 by omega)
    refine Ev.congr (f := fun k => num_Wide_Div.j0 k d (v / 18446744073709551616) (v % 18446744073709551616) (v / 18446744073709551616) (v % 18446744073709551616)) (fun k => ?_) ?_
    · unfold num_Wide_Div.f
      rw [if_neg hd, if_neg (by omega)]
    · by_cases c : v / 18446744073709551616 ≥ d
      · have hq : 18446744073709551616 ≤ v / d := by rw [Int.le_ediv_iff_mul_le hdp]; omega
        have hf : fits (v / d) = false := by
          unfold fits; rw [decide_eq_true (by omega), decide_eq_false (by omega)]; rfl
        rw [hf]
        refine one_ev fun k => ?_
        rw [num_Wide_Div.j0, if_pos (by rw [uw, uw]; omega)]
        rfl
      · have D := div64 (hi := v / 18446744073709551616) (lo := v % 18446744073709551616) (y := d) (by omega) (by omega) (by omega) (by omega) (by omega)
        rw [show v / 18446744073709551616 * 18446744073709551616 + v % 18446744073709551616 = v by omega] at D
        have hq : v / d < 18446744073709551616 := by rw [Int.ediv_lt_iff_lt_mul hdp]; omega
        have J := wide_div_j1 (p := v / d) (r := v % d) false (h := v / 18446744073709551616) (l := v % 18446744073709551616) (by simp; omega) b.1 hq h0'
        simp only [Bool.false_eq_true, if_false] at J
        refine Ev.step (f := fun k => (bits_Div64.f k (v / 18446744073709551616) (v % 18446744073709551616) d).bind fun bt => num_Wide_Div.j1 k bt.1 bt.2 9223372036854775807 (v / 18446744073709551616) (v % 18446744073709551616)) (fun k => ?_) ?_
        · rw [num_Wide_Div.j0, uw_id (x := v / 18446744073709551616) (by omega) (by omega), uw_id (x := d) (by omega) (by omega), if_neg c]
          congr 1
          funext bt
          rw [if_neg (by omega)]
        · refine ev_fun (Ev.bind D J) ?_
          unfold fits
          by_cases y : v / d ≤ 9223372036854775807
          · rw [if_pos y, decide_eq_true (by omega), decide_eq_true (by omega)]; rfl
          · rw [if_neg y, decide_eq_true (by omega), decide_eq_false (by omega)]; rfl

theorem wide_mod {v d : Int} (h0 : -170141183460469231731687303715884105728 < v) (h1 : v < 170141183460469231731687303715884105728) (hd1 : d < 9223372036854775808) :
    Ev (fun k => num_Wide_Mod.f k (v / 18446744073709551616) (v % 18446744073709551616) d) (if d < 1 then 0 else v % d) := by
  by_cases hd : d < 1
  · rw [if_pos hd]; exact now_ev fun k => by unfold num_Wide_Mod.f; rw [if_pos hd]
  rw [if_neg hd]
  have hdp : 0 < d := by omega
  -- the upper half may be reduced first
  have red : ∀ u : Int, 0 ≤ u → u < 170141183460469231731687303715884105728 →
      Ev (fun k => bits_Div64.f k (Int.tmod (IntKind.u64.wrap (u / 18446744073709551616)) (IntKind.u64.wrap d)) (u % 18446744073709551616) (IntKind.u64.wrap d))
        ((u / 18446744073709551616 % d * 18446744073709551616 + u % 18446744073709551616) / d, u % d) := by
    intro u u0 u1
    have m0 := Int.emod_nonneg (u / 18446744073709551616) (show d ≠ 0 by omega)
    have m1 := Int.emod_lt_of_pos (u / 18446744073709551616) hdp
    have D := div64 (hi := u / 18446744073709551616 % d) (lo := u % 18446744073709551616) (y := d) m0 m1 (by omega) (by omega) (by omega)
    have e : (u / 18446744073709551616 % d * 18446744073709551616 + u % 18446744073709551616) % d = u % d := by
      have e1 := Int.emod_add_mul_ediv (u / 18446744073709551616) d
      have e2 : u = u / 18446744073709551616 % d * 18446744073709551616 + u % 18446744073709551616 + d * (u / 18446744073709551616 / d * 18446744073709551616) := by
        have : d * (u / 18446744073709551616 / d * 18446744073709551616) = d * (u / 18446744073709551616 / d) * 18446744073709551616 := by grind
        omega
      conv => rhs; rw [e2]
      rw [Int.add_mul_emod_self_left]
    rw [e] at D
    refine Ev.congr (fun k => ?_) D
    rw [uw_id (x := u / 18446744073709551616) (by omega) (by omega), uw_id (x := d) (by omega) (by omega), tmod_eq (by omega)]
  have hw : ¬ IntKind.u64.wrap d = 0 := by rw [uw]; omega
  by_cases hv : v < 0
  · have nd := neg_div (v := v) hdp
    have m0 := Int.emod_nonneg (-v) (show d ≠ 0 by omega)
    have m1 := Int.emod_lt_of_pos (-v) hdp
    refine Ev.congr (f := fun k => (bits_Div64.f k (Int.tmod (IntKind.u64.wrap (-v / 18446744073709551616)) (IntKind.u64.wrap d)) (-v % 18446744073709551616) (IntKind.u64.wrap d)).bind fun bt => if bt.2 > 0 then some (wrap64 (IntKind.u64.wrap (IntKind.u64.wrap d - bt.2))) else some (wrap64 bt.2)) (fun k => ?_) ?_
    · unfold num_Wide_Mod.f
      rw [if_neg hd, if_pos (by omega), wide_neg h0 h1]
      simp only [Option.bind_some]
      rw [if_neg hw]
    · refine Ev.bind (red (-v) (by omega) (by omega)) (now_ev fun k => ?_)
      rw [nd.2]
      by_cases z : -v % d = 0
      · rw [if_neg (by simp only; omega), if_pos z]; simp only [z]; decide +kernel
      · rw [if_pos (by simp only; omega), if_neg z]; simp only; congr 1; rw [uw_id (x := d) (by omega) (by omega), uw_wrap64, w64_id (by omega) (by omega)]
  · have m0 := Int.emod_nonneg v (show d ≠ 0 by omega)
    have m1 := Int.emod_lt_of_pos v hdp
    refine Ev.congr (f := fun k => (bits_Div64.f k (Int.tmod (IntKind.u64.wrap (v / 18446744073709551616)) (IntKind.u64.wrap d)) (v % 18446744073709551616) (IntKind.u64.wrap d)).bind fun bt => some (wrap64 bt.2)) (fun k => ?_) ?_
    · unfold num_Wide_Mod.f
      rw [if_neg hd, if_neg (by omega), if_neg hw]
    · refine Ev.bind (red v (by omega) (by omega)) (now_ev fun k => ?_)
      simp only; congr 1; rw [w64_id (by omega) (by omega)]

theorem cmp_i64 (a b : Int) : cmp_Compare_int64.f a b = some (if a < b then -1 else if a > b then 1 else 0) := by
  unfold cmp_Compare_int64.f cmp_isNaN_int64.f
  simp only [Option.bind_some, bne_self_eq_false, Bool.false_eq_true, if_false]
  split
  · rfl
  · split <;> rfl
theorem cmp_u64 (a b : Int) : cmp_Compare_uint64.f a b = some (if a < b then -1 else if a > b then 1 else 0) := by
  unfold cmp_Compare_uint64.f cmp_isNaN_uint64.f
  simp only [Option.bind_some, bne_self_eq_false, Bool.false_eq_true, if_false]
  split
  · rfl
  · split <;> rfl
theorem or_two (x y : Int) : Ev (fun k => cmp_Or_int.f k [x, y]) (if x = 0 then y else x) := by
  refine Ev.congr (f := fun k => cmp_Or_int.l0 k 0 [x, y] 2 0) (fun k => by unfold cmp_Or_int.f; rfl) ?_
  by_cases hx : x = 0
  · rw [if_pos hx]
    refine Ev.step (f := fun k => cmp_Or_int.l0 k 0 [x, y] 2 1) (fun k => ?_) ?_
    · rw [cmp_Or_int.l0, if_pos (by decide), if_pos (by decide), if_pos (by simp), if_pos (by simpa [rd] using hx), w64_id (by decide) (by decide)]; rfl
    · by_cases hy : y = 0
      · refine Ev.step (f := fun k => cmp_Or_int.l0 k 0 [x, y] 2 2) (fun k => ?_) ?_
        · rw [cmp_Or_int.l0, if_pos (by decide), if_pos (by decide), if_pos (by simp), if_pos (by simpa [rd] using hy), w64_id (by decide) (by decide)]; rfl
        · exact one_ev fun k => by rw [cmp_Or_int.l0, if_neg (by decide), hy]
      · exact one_ev fun k => by rw [cmp_Or_int.l0, if_pos (by decide), if_pos (by decide), if_pos (by simp), if_neg (by simpa [rd] using hy)]; simp [rd]
  · rw [if_neg hx]
    exact one_ev fun k => by rw [cmp_Or_int.l0, if_pos (by decide), if_pos (by decide), if_pos (by simp), if_neg (by simpa [rd] using hx)]; simp [rd]

theorem wide_cmp (u v : Int) : Ev (fun k => num_Wide_Cmp.f k (u / 18446744073709551616) (u % 18446744073709551616) (v / 18446744073709551616) (v % 18446744073709551616)) (if u < v then -1 else if u > v then 1 else 0) := by
  refine Ev.congr (f := fun k => (cmp_Or_int.f k [if u / 18446744073709551616 < v / 18446744073709551616 then -1 else if u / 18446744073709551616 > v / 18446744073709551616 then 1 else 0,
      if u % 18446744073709551616 < v % 18446744073709551616 then -1 else if u % 18446744073709551616 > v % 18446744073709551616 then 1 else 0]).bind fun t => some t) (fun k => ?_) ?_
  · unfold num_Wide_Cmp.f
    rw [cmp_i64, cmp_u64]; rfl
  · refine ev_fun (Ev.bind (or_two _ _) (Ev.now _)) ?_
    by_cases a : u / 18446744073709551616 < v / 18446744073709551616
    · rw [if_pos a, if_neg (by omega), if_pos (by omega)]
    · rw [if_neg a]
      by_cases b : u / 18446744073709551616 > v / 18446744073709551616
      · rw [if_pos b, if_neg (by omega), if_neg (by omega), if_pos (by omega)]
      · rw [if_neg b, if_pos rfl]
        by_cases c : u % 18446744073709551616 < v % 18446744073709551616
        · rw [if_pos c, if_pos (show u < v by omega)]
        · rw [if_neg c, if_neg (show ¬ u < v by omega)]
          by_cases d : u % 18446744073709551616 > v % 18446744073709551616
          · rw [if_pos d, if_pos (show u > v by omega)]
          · rw [if_neg d, if_neg (show ¬ u > v by omega)]

theorem muldiv {a b d : Int} (a0 : -9223372036854775808 ≤ a) (a1 : a < 9223372036854775808) (b0 : -9223372036854775808 ≤ b) (b1 : b < 9223372036854775808) (hd1 : d < 9223372036854775808) :
    Ev (fun k => num_MulDiv.f k a b d) (if d < 1 then (0, 1) else if fits (a * b / d) then (a * b / d, 0) else (0, 2)) := by
  have hb := prod_bd a0 a1 b0 b1
  refine Ev.congr (f := fun k => (num_Wide_Div.f k (a * b / 18446744073709551616) (a * b % 18446744073709551616) d).bind fun bt => some (bt.1, bt.2)) (fun k => ?_) ?_
  · unfold num_MulDiv.f
    rw [product a0 a1 b0 b1]; rfl
  · exact Ev.bind (wide_div (by omega) (by omega) hd1) (Ev.now _)

/-- The quotient, rounded up. -/
def upq (v d : Int) : Int := if v % d = 0 then v / d else v / d + 1

theorem muldivup {a b d : Int} (a0 : -9223372036854775808 ≤ a) (a1 : a < 9223372036854775808) (b0 : -9223372036854775808 ≤ b) (b1 : b < 9223372036854775808) (hd1 : d < 9223372036854775808) :
    Ev (fun k => num_MulDivUp.f k a b d) (if d < 1 then (0, 1) else if fits (a * b / d) then (if fits (upq (a * b) d) then (upq (a * b) d, 0) else (0, 2)) else (0, 2)) := by
  have hb := prod_bd a0 a1 b0 b1
  have hD := wide_div (v := a * b) (d := d) (by omega) (by omega) hd1
  have hM := wide_mod (v := a * b) (d := d) (by omega) (by omega) hd1
  generalize hv : a * b = v at *
  refine Ev.congr (f := fun k => (num_Wide_Div.f k (v / 18446744073709551616) (v % 18446744073709551616) d).bind fun bt => (if bt.2 = 0 then ((num_Wide_Mod.f k (v / 18446744073709551616) (v % 18446744073709551616) d).bind fun t => (num_MulDivUp.j0 k bt.1 bt.2 (t == 0))) else (num_MulDivUp.j0 k bt.1 bt.2 true))) (fun k => ?_) ?_
  · unfold num_MulDivUp.f
    rw [product a0 a1 b0 b1, hv]; rfl
  · refine Ev.bind hD ?_
    by_cases hd : d < 1
    · rw [if_pos hd, if_pos hd]
      exact one_ev fun k => by rw [if_neg (by decide), num_MulDivUp.j0, if_pos rfl]
    · rw [if_neg hd] at hM ⊢
      rw [if_neg hd]
      by_cases f : fits (v / d) = true
      · rw [if_pos f, if_pos f]
        simp only [if_true]
        refine Ev.bind hM ?_
        refine one_ev fun k => ?_
        rw [num_MulDivUp.j0]
        unfold upq
        unfold fits at f
        simp only [Bool.and_eq_true, decide_eq_true_eq] at f
        by_cases z : v % d = 0
        · rw [if_pos (by simp [z]), if_pos z]
          unfold fits
          rw [decide_eq_true f.1, decide_eq_true f.2]; rfl
        · rw [if_neg (by simp [z]), if_neg z]
          unfold fits
          by_cases y : v / d = 9223372036854775807
          · rw [if_pos y, decide_eq_true (by omega), decide_eq_false (by omega)]; rfl
          · rw [if_neg y, decide_eq_true (by omega), decide_eq_true (by omega), w64_id (by omega) (by omega)]; rfl
      · rw [if_neg f, if_neg f]
        exact one_ev fun k => by rw [if_neg (by decide), num_MulDivUp.j0, if_pos rfl]
end Go.Proofs.Ytpophefonhpnmaa.Q
end

section
/- What spymake.Below answers, in plain numbers. -/
namespace Go.Proofs.Ytpophefonhpnmaa.Q
open Go.RowKit Go.Proofs.YtpophefonhpnmaaW.PrintWords Go.Proofs.YtpophefonhpnmaaW.PrintLast Go.Proofs.YtpophefonhpnmaaW.PrintMore
set_option linter.unusedVariables false
set_option linter.unusedSimpArgs false

theorem below {a n : Int} (hn : 1 ≤ n) (hn1 : n < 9223372036854775808) : spymake_Below.f a n = some (a % n) := by
  unfold spymake_Below.f
  rw [if_neg (by omega), if_neg (by omega)]
  have m0 := Int.emod_nonneg a (show n ≠ 0 by omega)
  have m1 := Int.emod_lt_of_pos a (show 0 < n by omega)
  by_cases c : 0 ≤ a
  · rw [tmod_eq c, if_neg (by omega)]
  · have e : Int.tmod a n = -(-a % n) := by
      have := Int.neg_tmod (-a) n
      rw [Int.neg_neg] at this
      rw [this, tmod_eq (by omega)]
    rw [e, (show a % n = (if -a % n = 0 then 0 else n - -a % n) by
      have e1 := Int.emod_add_mul_ediv (-a) n
      have h0 := Int.emod_nonneg (-a) (show n ≠ 0 by omega)
      have h1 := Int.emod_lt_of_pos (-a) (show 0 < n by omega)
      split
      · exact ((Int.ediv_emod_unique (q := -(-a / n)) (show 0 < n by omega)).mpr ⟨by rw [Int.mul_neg]; omega, by omega, by omega⟩).2
      · exact ((Int.ediv_emod_unique (q := -(-a / n) - 1) (show 0 < n by omega)).mpr ⟨by rw [Int.mul_sub, Int.mul_neg]; omega, by omega, by omega⟩).2)]
    have h0 := Int.emod_nonneg (-a) (show n ≠ 0 by omega)
    have h1 := Int.emod_lt_of_pos (-a) (show 0 < n by omega)
    by_cases z : -a % n = 0
    · rw [if_neg (by omega), if_pos z, z]; rfl
    · rw [if_pos (by omega), if_neg z, w64_id (by omega) (by omega)]; congr 1; omega
end Go.Proofs.Ytpophefonhpnmaa.Q
end

section
/- The stream of numbers of package spymake in plain numbers: each answer lies in the range that was asked for; the bounds stand in each statement. -/
namespace Go.Proofs.Ytpophefonhpnmaa.Q
open Go.RowKit Go.Proofs.YtpophefonhpnmaaW.PrintWords Go.Proofs.YtpophefonhpnmaaW.PrintLast Go.Proofs.YtpophefonhpnmaaW.PrintMore
set_option linter.unusedVariables false
set_option linter.unusedSimpArgs false

theorem below_in {a n : Int} (hn : 1 ≤ n) (hn1 : n < 9223372036854775808) : ∃ v, spymake_Below.f a n = some v ∧ 0 ≤ v ∧ v < n :=
  ⟨a % n, below hn hn1, Int.emod_nonneg a (by omega), Int.emod_lt_of_pos a (by omega)⟩

/-- The next number lies from 0 to n - 1, and the place moves on by one. -/
theorem next_in (l : List Int) {at_ n : Int} (hl : l.length ≤ 9223372036854775807) (a0 : 0 ≤ at_) (a1 : at_ < 4611686018427387904) (n0 : 1 ≤ n) (n1 : n < 9223372036854775808) :
    ∃ v, spymake_Stream_Next.f l at_ n = some (v, at_ + 1) ∧ 0 ≤ v ∧ v < n := by
  unfold spymake_Stream_Next.f
  rw [w64_id (x := at_ + 1) (by omega) (by omega)]
  by_cases z : (l.length : Int) = 0
  · rw [if_pos z]
    obtain ⟨v, hv, v0, v1⟩ := below_in (a := wrap64 ((at_ + 1) * 7919)) n0 n1
    exact ⟨v, by rw [hv]; rfl, v0, v1⟩
  · rw [if_neg z, w64_id (x := at_ + 1 - 1) (by omega) (by omega), tmod_eq (by omega)]
    have m0 := Int.emod_nonneg (at_ + 1 - 1) z
    have m1 := Int.emod_lt_of_pos (at_ + 1 - 1) (show 0 < (l.length : Int) by omega)
    rw [if_pos m0, if_pos m1]
    obtain ⟨v, hv, v0, v1⟩ := below_in (a := rd l ((at_ + 1 - 1) % (l.length : Int))) (n := 1073741824) (by decide) (by decide)
    rw [hv]
    simp only [Option.bind_some]
    obtain ⟨v', hv', v0', v1'⟩ := below_in (a := wrap64 (v + (wrap64 ((wrap64 (Int.tdiv (at_ + 1 - 1) (l.length : Int))) * (wrap64 (7919 + ((at_ + 1 - 1) % (l.length : Int)))))))) n0 n1
    exact ⟨v', by rw [hv']; rfl, v0', v1'⟩

/-- A number of a range lies in it. -/
theorem range_in (l : List Int) {at_ lo hi : Int} (hl : l.length ≤ 9223372036854775807) (a0 : 0 ≤ at_) (a1 : at_ < 4611686018427387904) (h : lo ≤ hi) (h0 : -2305843009213693952 ≤ lo) (h1 : hi < 2305843009213693952) :
    ∃ v, spymake_Stream_Range.f l at_ lo hi = some (v, at_ + 1) ∧ lo ≤ v ∧ v ≤ hi := by
  unfold spymake_Stream_Range.f
  rw [if_neg (by omega), w64_id (x := hi - lo) (by omega) (by omega), w64_id (x := hi - lo + 1) (by omega) (by omega)]
  obtain ⟨v, hv, v0, v1⟩ := next_in l (n := hi - lo + 1) hl a0 a1 (by omega) (by omega)
  refine ⟨lo + v, ?_, by omega, by omega⟩
  rw [hv]
  simp only [Option.bind_some]
  rw [w64_id (by omega) (by omega)]
end Go.Proofs.Ytpophefonhpnmaa.Q
end

section
/- Which bounds are valid, in plain numbers; definitions alone. -/
namespace Go.Proofs.Ytpophefonhpnmaa.Q
/-- Whether a bound is valid. -/
def vb (lo hi : Int) (u : Bool) : Bool := if u then lo == 0 && hi == 0 else decide (-1152921504606846976 ≤ lo) && decide (lo ≤ hi) && decide (hi ≤ 1152921504606846976)
/-- A bound itself if it is valid, else an unknown one. -/
def nb (lo hi : Int) (u : Bool) : Int × Int × Bool := if vb lo hi u = true then (lo, hi, u) else (0, 0, true)
theorem nb_ok {lo hi : Int} (h0 : -1152921504606846976 ≤ lo) (h : lo ≤ hi) (h1 : hi ≤ 1152921504606846976) : nb lo hi false = (lo, hi, false) := by
  unfold nb vb; simp [h0, h, h1]
theorem nb_none : nb 0 0 true = (0, 0, true) := by decide
end Go.Proofs.Ytpophefonhpnmaa.Q
end

section
/- Package bound at one type of numbers in plain numbers: which bounds are valid, and what the smallest functions answer; no conditions but 64 bits where they are named. -/
namespace Go.Proofs.Ytpophefonhpnmaa.Q
open Go.RowKit Go.Proofs.YtpophefonhpnmaaW.PrintWords Go.Proofs.YtpophefonhpnmaaW.PrintLast Go.Proofs.YtpophefonhpnmaaW.PrintMore
set_option linter.unusedVariables false
set_option linter.unusedSimpArgs false

theorem check_api_Arc (lo hi : Int) (u : Bool) : ∃ e : Int, Ev (fun k => bound_Check_api_Arc.f k lo hi u) e ∧ (e = 0 ↔ vb lo hi u = true) := by
  have J1 : ∀ b : Bool, ∃ e : Int, Ev (fun k => bound_Check_api_Arc.j1 k b lo hi u) e ∧ (e = 0 ↔ (b = false ∧ lo ≤ hi)) := by
    intro b
    cases b
    · by_cases c : lo > hi
      · exact ⟨11, one_ev fun k => by rw [bound_Check_api_Arc.j1, if_neg (by decide), if_pos c], by omega⟩
      · exact ⟨0, one_ev fun k => by rw [bound_Check_api_Arc.j1, if_neg (by decide), if_neg c], by simp; omega⟩
    · exact ⟨4, one_ev fun k => by rw [bound_Check_api_Arc.j1, if_pos rfl], by simp⟩
  have J0 : ∀ b : Bool, ∃ e : Int, Ev (fun k => bound_Check_api_Arc.j0 k b lo hi u) e ∧ (e = 0 ↔ (b = false ∧ -1152921504606846976 ≤ lo ∧ lo ≤ hi ∧ hi ≤ 1152921504606846976)) := by
    intro b
    cases b
    · by_cases c : mn lo hi < -1152921504606846976
      · obtain ⟨e, he, h⟩ := J1 true
        refine ⟨e, Ev.step (fun k => by rw [bound_Check_api_Arc.j0, if_neg (by decide), if_pos c]) he, ?_⟩
        unfold mn at c
        rw [h]; simp; split at c <;> omega
      · obtain ⟨e, he, h⟩ := J1 (decide ((mx lo hi) > 1152921504606846976))
        refine ⟨e, Ev.step (fun k => by rw [bound_Check_api_Arc.j0, if_neg (by decide), if_neg c]) he, ?_⟩
        unfold mn at c
        rw [h]; unfold mx; simp only [decide_eq_false_iff_not, true_and]
        split at c <;> split <;> omega
    · exact ⟨3, one_ev fun k => by rw [bound_Check_api_Arc.j0, if_pos rfl], by simp⟩
  unfold bound_Check_api_Arc.f vb
  cases u
  · obtain ⟨e, he, h⟩ := J0 false
    refine ⟨e, Ev.congr (fun k => by rw [if_neg (by decide)]) he, ?_⟩
    rw [h]; simp; omega
  · by_cases z : lo = 0
    · obtain ⟨e, he, h⟩ := J0 (hi != 0)
      refine ⟨e, Ev.congr (fun k => by rw [if_pos rfl, if_pos z]) he, ?_⟩
      rw [h]
      simp [z]
      intro h'; omega
    · obtain ⟨e, he, h⟩ := J0 true
      refine ⟨e, Ev.congr (fun k => by rw [if_pos rfl, if_neg z]) he, ?_⟩
      rw [h]; simp [z]

theorem norm_api_Arc (lo hi : Int) (u : Bool) : Ev (fun k => bound_Norm_api_Arc.f k lo hi u) (nb lo hi u) := by
  obtain ⟨e, he, h⟩ := check_api_Arc lo hi u
  unfold bound_Norm_api_Arc.f nb
  refine Ev.bind he ?_
  by_cases c : e = 0
  · rw [if_pos (h.mp c)]; exact pos_ev c (Ev.now _)
  · rw [if_neg (fun h' => c (h.mpr h'))]; exact neg_ev c (now_ev fun k => by unfold bound_None_api_Arc.f; rfl)
end Go.Proofs.Ytpophefonhpnmaa.Q
end

section
/- Package bound at one type of numbers in plain numbers: vague and Of; no other condition. -/
namespace Go.Proofs.Ytpophefonhpnmaa.Q
open Go.RowKit Go.Proofs.YtpophefonhpnmaaW.PrintWords Go.Proofs.YtpophefonhpnmaaW.PrintLast Go.Proofs.YtpophefonhpnmaaW.PrintMore
set_option linter.unusedVariables false
set_option linter.unusedSimpArgs false

theorem vague_api_Arc (lo hi : Int) (u : Bool) (lo2 hi2 : Int) (u2 : Bool) : Ev (fun k => bound_vague_api_Arc.f k lo hi u lo2 hi2 u2) ((nb lo hi u).2.2 || (nb lo2 hi2 u2).2.2) := by
  unfold bound_vague_api_Arc.f
  refine Ev.bind (norm_api_Arc lo hi u) ?_
  by_cases c : (nb lo hi u).2.2 = true
  · rw [c]; exact pos_ev rfl (Ev.now _)
  · rw [Bool.not_eq_true] at c
    rw [c]; refine neg_ev (by decide) (Ev.bind (norm_api_Arc lo2 hi2 u2) (Ev.now _))
theorem of_api_Arc (lo hi : Int) : Ev (fun k => bound_Of_api_Arc.f k lo hi) (nb lo hi false) := by
  unfold bound_Of_api_Arc.f
  exact Ev.bind (norm_api_Arc lo hi false) (Ev.now _)
theorem nbu_api_Arc {lo hi : Int} {u : Bool} (h : (nb lo hi u).2.2 = false) : u = false := by
  cases u
  · rfl
  · unfold nb at h; split at h <;> simp_all
end Go.Proofs.Ytpophefonhpnmaa.Q
end

section
/- Package bound at one type of numbers in plain numbers: Exact, Add, Neg and Sub; no other condition than those that stand in the statements. -/
namespace Go.Proofs.Ytpophefonhpnmaa.Q
open Go.RowKit Go.Proofs.YtpophefonhpnmaaW.PrintWords Go.Proofs.YtpophefonhpnmaaW.PrintLast Go.Proofs.YtpophefonhpnmaaW.PrintMore
set_option linter.unusedVariables false
set_option linter.unusedSimpArgs false

theorem exact_api_Arc {v : Int} (h0 : -1152921504606846976 ≤ v) (h1 : v ≤ 1152921504606846976) : Ev (fun k => bound_Exact_api_Arc.f k v) (v, v, false) := by
  unfold bound_Exact_api_Arc.f
  refine Ev.bind (of_api_Arc v v) ?_
  rw [nb_ok h0 (Int.le_refl v) h1]
  exact Ev.now _
theorem add_api_Arc (lo hi : Int) (u : Bool) (lo2 hi2 : Int) (u2 : Bool) : Ev (fun k => bound_Add_api_Arc.f k lo hi u lo2 hi2 u2) (if ((nb lo hi u).2.2 || (nb lo2 hi2 u2).2.2) = true then (0, 0, true) else nb (wrap64 (lo + lo2)) (wrap64 (hi + hi2)) false) := by
  unfold bound_Add_api_Arc.f
  refine Ev.bind (vague_api_Arc lo hi u lo2 hi2 u2) ?_
  by_cases c : ((nb lo hi u).2.2 || (nb lo2 hi2 u2).2.2) = true
  · rw [if_pos c]; exact pos_ev c (now_ev fun k => by unfold bound_None_api_Arc.f; rfl)
  · rw [if_neg c]; exact neg_ev c (Ev.bind (of_api_Arc _ _) (Ev.now _))
theorem addk_api_Arc {lo hi lo2 hi2 : Int} (a0 : -576460752303423488 ≤ lo) (a : lo ≤ hi) (a1 : hi ≤ 576460752303423488) (b0 : -576460752303423488 ≤ lo2) (b : lo2 ≤ hi2) (b1 : hi2 ≤ 576460752303423488) :
    Ev (fun k => bound_Add_api_Arc.f k lo hi false lo2 hi2 false) (lo + lo2, hi + hi2, false) := by
  have h := add_api_Arc lo hi false lo2 hi2 false
  rw [nb_ok (by omega) a (by omega), nb_ok (by omega) b (by omega), if_neg (by simp), w64_id (x := lo + lo2) (by omega) (by omega), w64_id (x := hi + hi2) (by omega) (by omega), nb_ok (by omega) (by omega) (by omega)] at h
  exact h
end Go.Proofs.Ytpophefonhpnmaa.Q
end

section
/- Package bound at one type of numbers in plain numbers: Inside. -/
namespace Go.Proofs.Ytpophefonhpnmaa.Q
open Go.RowKit Go.Proofs.YtpophefonhpnmaaW.PrintWords Go.Proofs.YtpophefonhpnmaaW.PrintLast Go.Proofs.YtpophefonhpnmaaW.PrintMore
set_option linter.unusedVariables false
set_option linter.unusedSimpArgs false

theorem inside_api_Arc {lo hi lo2 hi2 : Int} {u u2 : Bool} (h : (nb lo2 hi2 u2).2.2 = false → (nb lo hi u).2.2 = false ∧ lo2 ≤ lo ∧ hi ≤ hi2) : Ev (fun k => bound_Inside_api_Arc.f k lo hi u lo2 hi2 u2) true := by
  unfold bound_Inside_api_Arc.f
  refine Ev.bind (vague_api_Arc lo2 hi2 u2 lo2 hi2 u2) ?_
  by_cases c : ((nb lo2 hi2 u2).2.2 || (nb lo2 hi2 u2).2.2) = true
  · exact pos_ev c (Ev.now _)
  · obtain ⟨h0, h1, h2⟩ := h (by simpa using c)
    refine neg_ev c (Ev.bind (vague_api_Arc lo hi u lo hi u) (neg_ev (by simp [h0]) (pos_ev h1 (now_ev fun k => by rw [decide_eq_true h2]))))
end Go.Proofs.Ytpophefonhpnmaa.Q
end

section
/- Bounds out of the stream of numbers, in plain numbers: what spymake.Bound and spymake.Within answer; the bounds stand in each statement. -/
namespace Go.Proofs.Ytpophefonhpnmaa.Q
open Go.RowKit Go.Proofs.YtpophefonhpnmaaW.PrintWords Go.Proofs.YtpophefonhpnmaaW.PrintLast Go.Proofs.YtpophefonhpnmaaW.PrintMore
set_option linter.unusedVariables false
set_option linter.unusedSimpArgs false

/-- A bound that is drawn: unknown, or of small numbers. -/
theorem bound_api_Arc (l : List Int) {p m : Int} (hl : l.length ≤ 9223372036854775807) (p0 : 0 ≤ p) (p1 : p < 4611686018427380000) (m0 : 0 ≤ m) (m1 : m ≤ 1152921504606846976) :
    ∃ lo hi u q, spymake_Bound_api_Arc.f l p m = some (lo, hi, u, q) ∧ p ≤ q ∧ q ≤ p + 3 ∧ (u = true ∧ lo = 0 ∧ hi = 0 ∨ u = false ∧ -m ≤ lo ∧ lo ≤ hi ∧ hi ≤ m) := by
  unfold spymake_Bound_api_Arc.f
  obtain ⟨v, hv, v0, v1⟩ := next_in l (at_ := p) (n := 8) hl p0 (by omega) (by decide) (by decide)
  rw [hv, Option.bind_some, w64_id (x := -m) (by omega) (by omega)]
  simp only
  by_cases c : v = 0
  · exact ⟨0, 0, true, p + 1, by rw [if_pos c], by omega, by omega, .inl ⟨rfl, rfl, rfl⟩⟩
  · rw [if_neg c]
    obtain ⟨a, ha, a0, a1⟩ := range_in l (at_ := p + 1) (lo := -m) (hi := m) hl (by omega) (by omega) (by omega) (by omega) (by omega)
    by_cases d : v = 1
    · exact ⟨a, a, false, p + 2, by rw [if_pos d, ha, Option.bind_some, show p + 1 + 1 = p + 2 by omega], by omega, by omega, .inr ⟨rfl, a0, Int.le_refl _, a1⟩⟩
    · obtain ⟨b, hb, b0, b1⟩ := range_in l (at_ := p + 1 + 1) (lo := -m) (hi := m) hl (by omega) (by omega) (by omega) (by omega) (by omega)
      refine ⟨mn a b, mx a b, false, p + 3, ?_, by omega, by omega, .inr ⟨rfl, ?_, ?_, ?_⟩⟩
      · rw [if_neg d, ha, Option.bind_some, hb, Option.bind_some, show p + 1 + 1 + 1 = p + 3 by omega]
      · unfold mn; split <;> omega
      · unfold mn mx; split <;> split <;> omega
      · unfold mx; split <;> omega
/-- A narrower bound that is drawn. -/
theorem within_api_Arc (l : List Int) {p lo hi : Int} {u : Bool} (hl : l.length ≤ 9223372036854775807) (p0 : 0 ≤ p) (p1 : p < 4611686018427370000) (h : u = true ∧ lo = 0 ∧ hi = 0 ∨ u = false ∧ -1152921504606846976 ≤ lo ∧ lo ≤ hi ∧ hi ≤ 1152921504606846976) :
    ∃ lo2 hi2 u2 q, spymake_Within_api_Arc.f l p lo hi u = some (lo2, hi2, u2, q) ∧ p ≤ q ∧ q ≤ p + 4 ∧ (u2 = true ∧ lo2 = 0 ∧ hi2 = 0 ∧ u = true ∨ u2 = false ∧ (u = true → -100 ≤ lo2 ∧ hi2 ≤ 100) ∧ lo2 ≤ hi2 ∧ (u = false → lo ≤ lo2 ∧ hi2 ≤ hi)) := by
  unfold spymake_Within_api_Arc.f
  rcases h with ⟨rfl, rfl, rfl⟩ | ⟨rfl, h0, h1, h2⟩
  · rw [if_pos rfl]
    obtain ⟨v, hv, v0, v1⟩ := next_in l (at_ := p) (n := 2) hl p0 (by omega) (by decide) (by decide)
    rw [hv, Option.bind_some]
    by_cases c : v = 0
    · exact ⟨0, 0, true, p + 1, by rw [if_pos c], by omega, by omega, .inl ⟨rfl, rfl, rfl, rfl⟩⟩
    · obtain ⟨lo2, hi2, u2, q, e, q0, q1, r⟩ := bound_api_Arc l (p := p + 1) (m := 100) hl (by omega) (by omega) (by decide) (by decide)
      refine ⟨lo2, hi2, u2, q, by rw [if_neg c, e, Option.bind_some], by omega, by omega, ?_⟩
      rcases r with ⟨rfl, rfl, rfl⟩ | ⟨rfl, r0, r1, r2⟩
      · exact .inl ⟨rfl, rfl, rfl, rfl⟩
      · exact .inr ⟨rfl, fun _ => ⟨r0, r2⟩, r1, fun h => by cases h⟩
  · rw [if_neg (by decide), w64_id (x := hi - lo) (by omega) (by omega)]
    obtain ⟨m, hm⟩ : ∃ m, m = mn (hi - lo) 536870912 := ⟨_, rfl⟩
    rw [← hm]
    have m0 : 0 ≤ m ∧ m ≤ hi - lo ∧ m ≤ 536870912 := by rw [hm]; unfold mn; split <;> omega
    rw [w64_id (x := m + 1) (by omega) (by omega)]
    obtain ⟨v, hv, v0, v1⟩ := next_in l (at_ := p) (n := m + 1) hl p0 (by omega) (by omega) (by omega)
    rw [hv, Option.bind_some]
    simp only
    obtain ⟨y, hy, y0, y1⟩ := range_in l (at_ := p + 1) (lo := v) (hi := m) hl (by omega) (by omega) (by omega) (by omega) (by omega)
    rw [hy, Option.bind_some]
    simp only
    rw [w64_id (x := lo + v) (by omega) (by omega), w64_id (x := lo + y) (by omega) (by omega)]
    exact ⟨_, _, _, _, rfl, by omega, by omega, .inr ⟨rfl, (fun h => by cases h), by omega, fun _ => ⟨by omega, by omega⟩⟩⟩
end Go.Proofs.Ytpophefonhpnmaa.Q
end

section
/- Refract in plain numbers: of a table of refraction whose altitudes grow and whose lifts are valid, and a bound of an altitude; the bounds stand in each statement. -/
namespace Go.Proofs.Ytpophefonhpnmaa.Q
open Go.RowKit Go.Proofs.YtpophefonhpnmaaW.PrintWords Go.Proofs.YtpophefonhpnmaaW.PrintLast Go.Proofs.YtpophefonhpnmaaW.PrintMore
set_option linter.unusedVariables false
set_option linter.unusedSimpArgs false

/-- A bound of a lift, as a table has it. -/
def okb (lo hi : Int) (u : Bool) : Prop := u = true ∧ lo = 0 ∧ hi = 0 ∨ u = false ∧ -1000000000 ≤ lo ∧ lo ≤ hi ∧ hi ≤ 1000000000
theorem okb.nb {lo hi : Int} {u : Bool} (h : okb lo hi u) : nb lo hi u = (lo, hi, u) := by
  rcases h with ⟨rfl, rfl, rfl⟩ | ⟨rfl, a, b, c⟩
  · exact nb_none
  · exact nb_ok (by omega) b (by omega)
def alt (l : List S108) (i : Int) : Int := (rd_T108 l i).f0
def llo (l : List S108) (i : Int) : Int := (rd_T108 l i).f1.f0
def lhi (l : List S108) (i : Int) : Int := (rd_T108 l i).f1.f1
def lun (l : List S108) (i : Int) : Bool := (rd_T108 l i).f1.f2
structure GT (l : List S108) : Prop where
  n0 : 2 ≤ (l.length : Int)
  n1 : (l.length : Int) ≤ 64
  lo : ∀ i : Int, 0 ≤ i → i < l.length → -1000000 ≤ alt l i ∧ alt l i ≤ 1000000 ∧ okb (llo l i) (lhi l i) (lun l i)
  up : ∀ i : Int, 0 ≤ i → i + 1 < l.length → alt l i < alt l (i + 1)
theorem GT.mono {l : List S108} (h : GT l) (d : Nat) : ∀ i j : Int, 0 ≤ i → j = i + 1 + d → j < l.length → alt l i < alt l j := by
  induction d with
  | zero => intro i j h0 e h1; rw [show j = i + 1 by omega]; exact h.up i h0 (by omega)
  | succ d ih =>
    intro i j h0 e h1
    have a := ih i (j - 1) h0 (by omega) (by omega)
    have b := h.up (j - 1) (by omega) (by omega)
    rw [show j - 1 + 1 = j by omega] at b
    omega
theorem GT.lt {l : List S108} (h : GT l) {i j : Int} (h0 : 0 ≤ i) (hij : i < j) (h1 : j < l.length) : alt l i < alt l j := h.mono (j - i - 1).toNat i j h0 (by omega) h1
theorem GT.le {l : List S108} (h : GT l) {i j : Int} (h0 : 0 ≤ i) (hij : i ≤ j) (h1 : j < l.length) : alt l i ≤ alt l j := by
  rcases Int.lt_or_eq_of_le hij with a | rfl
  · exact Int.le_of_lt (h.lt h0 a h1)
  · exact Int.le_refl _

theorem hull_ev {lo hi lo2 hi2 : Int} {u u2 : Bool} (h : okb lo hi u) (h2 : okb lo2 hi2 u2) :
    Ev (fun k => bound_Hull_api_Arc.f k lo hi u lo2 hi2 u2) (if (u || u2) = true then (0, 0, true) else (mn lo lo2, mx hi hi2, false)) := by
  unfold bound_Hull_api_Arc.f
  have v := vague_api_Arc lo hi u lo2 hi2 u2
  rw [h.nb, h2.nb] at v
  refine Ev.bind v ?_
  by_cases c : (u || u2) = true
  · rw [if_pos c]
    refine pos_ev c (now_ev fun k => ?_)
    unfold bound_None_api_Arc.f; rfl
  · rw [if_neg c]
    refine neg_ev c (Ev.bind (of_api_Arc _ _) ?_)
    rw [Bool.or_eq_true, not_or, Bool.not_eq_true, Bool.not_eq_true] at c
    obtain ⟨rfl, rfl⟩ := c
    rcases h with ⟨a, _⟩ | ⟨_, a, b, d⟩
    · cases a
    rcases h2 with ⟨a2, _⟩ | ⟨_, a2, b2, d2⟩
    · cases a2
    have m0 : mn lo lo2 ≤ lo ∧ -1000000000 ≤ mn lo lo2 := by unfold mn; split <;> omega
    have m1 : hi ≤ mx hi hi2 ∧ mx hi hi2 ≤ 1000000000 := by unfold mx; split <;> omega
    rw [nb_ok (by omega) (by omega) (by omega)]
    exact Ev.now _

/-- What the hull of the rows a to b - 1 (of a list) and of a first bound is. -/
def Hl (l : List S108) (c0 c1 : Int) (c2 : Bool) (a b : Int) (r0 r1 : Int) (r2 : Bool) : Prop :=
  (r2 = true ∧ r0 = 0 ∧ r1 = 0 ∧ (c2 = true ∨ ∃ i, a ≤ i ∧ i < b ∧ lun l i = true)) ∨
  (r2 = false ∧ c2 = false ∧ (∀ i, a ≤ i → i < b → lun l i = false ∧ r0 ≤ llo l i ∧ lhi l i ≤ r1) ∧ r0 ≤ c0 ∧ c1 ≤ r1 ∧ (r0 = c0 ∨ ∃ i, a ≤ i ∧ i < b ∧ r0 = llo l i) ∧ (r1 = c1 ∨ ∃ i, a ≤ i ∧ i < b ∧ r1 = lhi l i) ∧ -1000000000 ≤ r0 ∧ r0 ≤ r1 ∧ r1 ≤ 1000000000)
theorem loop_ev (y : List S108) (p q : Int) (hy : (y.length : Int) ≤ 64) (ok : ∀ i : Int, 0 ≤ i → i < y.length → okb (llo y i) (lhi y i) (lun y i)) (d : Nat) :
    ∀ (i c0 c1 : Int) (c2 : Bool), 0 ≤ i → (y.length : Int) = i + d → okb c0 c1 c2 → ∃ r0 r1 r2, Hl y c0 c1 c2 i y.length r0 r1 r2 ∧ ∀ r, Ev (fun k => bound_Add_api_Arc.f k p q false r0 r1 r2) r → Ev (fun k => horizon_Refract.l2 k y y.length i p q false c0 c1 c2) r := by
  induction d with
  | zero =>
    intro i c0 c1 c2 h0 e hc
    refine ⟨c0, c1, c2, ?_, fun r hr => ?_⟩
    · rcases hc with ⟨rfl, rfl, rfl⟩ | ⟨rfl, a, b, c⟩
      · exact .inl ⟨rfl, rfl, rfl, .inl rfl⟩
      · exact .inr ⟨rfl, rfl, fun j h1 h2 => by omega, Int.le_refl _, Int.le_refl _, .inl rfl, .inl rfl, a, b, c⟩
    · refine Ev.step (fun k => by rw [horizon_Refract.l2, if_neg (by omega)]) ?_
      exact Ev.bind hr (Ev.now _)
  | succ d ih =>
    intro i c0 c1 c2 h0 e hc
    have hi := ok i h0 (by omega)
    have hh := hull_ev hc hi
    have w : wrap64 (i + 1) = i + 1 := w64_id (by omega) (by omega)
    by_cases c : (c2 || lun y i) = true
    · rw [if_pos c] at hh
      obtain ⟨r0, r1, r2, H, E⟩ := ih (i + 1) 0 0 true (by omega) (by omega) (.inl ⟨rfl, rfl, rfl⟩)
      refine ⟨r0, r1, r2, ?_, fun r hr => ?_⟩
      · rcases H with ⟨a, b, c', _⟩ | ⟨_, a, _⟩
        · refine .inl ⟨a, b, c', ?_⟩
          rw [Bool.or_eq_true] at c
          rcases c with c | c
          · exact .inl c
          · exact .inr ⟨i, Int.le_refl _, by omega, c⟩
        · cases a
      · refine Ev.step (fun k => by rw [horizon_Refract.l2, if_pos (by omega), if_pos h0, if_pos (by omega)]) ?_
        refine Ev.bind hh ?_
        rw [w]
        exact E r hr
    · rw [if_neg c] at hh
      rw [Bool.or_eq_true, not_or, Bool.not_eq_true, Bool.not_eq_true] at c
      obtain ⟨rfl, u⟩ := c
      rcases hc with ⟨a, _⟩ | ⟨_, a, b, d0⟩
      · cases a
      rcases hi with ⟨a2, _⟩ | ⟨_, a2, b2, d2⟩
      · rw [u] at a2; cases a2
      have m0 : mn c0 (llo y i) ≤ c0 ∧ mn c0 (llo y i) ≤ llo y i ∧ -1000000000 ≤ mn c0 (llo y i) ∧ (mn c0 (llo y i) = c0 ∨ mn c0 (llo y i) = llo y i) := by unfold mn; split <;> omega
      have m1 : c1 ≤ mx c1 (lhi y i) ∧ lhi y i ≤ mx c1 (lhi y i) ∧ mx c1 (lhi y i) ≤ 1000000000 ∧ (mx c1 (lhi y i) = c1 ∨ mx c1 (lhi y i) = lhi y i) := by unfold mx; split <;> omega
      obtain ⟨r0, r1, r2, H, E⟩ := ih (i + 1) (mn c0 (llo y i)) (mx c1 (lhi y i)) false (by omega) (by omega) (.inr ⟨rfl, m0.2.2.1, by omega, m1.2.2.1⟩)
      refine ⟨r0, r1, r2, ?_, fun r hr => ?_⟩
      · rcases H with ⟨a', b', c', D⟩ | ⟨a', _, H1, H2, H3, H4, H5, H6⟩
        · refine .inl ⟨a', b', c', .inr ?_⟩
          rcases D with D | ⟨j, j0, j1, D⟩
          · cases D
          · exact ⟨j, by omega, j1, D⟩
        · refine .inr ⟨a', rfl, fun j j0 j1 => ?_, by omega, by omega, ?_, ?_, H6⟩
          · rcases Int.lt_or_eq_of_le j0 with j0 | rfl
            · exact H1 j (by omega) j1
            · exact ⟨u, by omega, by omega⟩
          · rcases H4 with H4 | ⟨j, j0, j1, H4⟩
            · rcases m0.2.2.2 with m | m
              · exact .inl (by omega)
              · exact .inr ⟨i, Int.le_refl _, by omega, by omega⟩
            · exact .inr ⟨j, by omega, j1, H4⟩
          · rcases H5 with H5 | ⟨j, j0, j1, H5⟩
            · rcases m1.2.2.2 with m | m
              · exact .inl (by omega)
              · exact .inr ⟨i, Int.le_refl _, by omega, by omega⟩
            · exact .inr ⟨j, by omega, j1, H5⟩
      · refine Ev.step (fun k => by rw [horizon_Refract.l2, if_pos (by omega), if_pos h0, if_pos (by omega)]) ?_
        refine Ev.bind hh ?_
        rw [w]
        exact E r hr
end Go.Proofs.Ytpophefonhpnmaa.Q
end

section
/- Refract in plain numbers, on: its loops, the check of a table, and that a narrower altitude gives a narrower one; the bounds stand in each statement. -/
namespace Go.Proofs.Ytpophefonhpnmaa.Q
open Go.RowKit Go.Proofs.YtpophefonhpnmaaW.PrintWords Go.Proofs.YtpophefonhpnmaaW.PrintLast Go.Proofs.YtpophefonhpnmaaW.PrintMore
set_option linter.unusedVariables false
set_option linter.unusedSimpArgs false

theorem okb.vb {lo hi : Int} {u : Bool} (h : okb lo hi u) : vb lo hi u = true := by
  rcases h with ⟨rfl, rfl, rfl⟩ | ⟨rfl, a, b, c⟩
  · decide
  · have h0 : -1152921504606846976 ≤ lo := by omega
    have h1 : hi ≤ 1152921504606846976 := by omega
    unfold Go.Proofs.Ytpophefonhpnmaa.Q.vb; simp [h0, b, h1]
theorem bends_ev {l : List S108} (h : GT l) : Ev (fun k => horizon_CheckBends.f k l) 0 := by
  unfold horizon_CheckBends.f
  have n1 := h.n1
  refine neg_ev (by omega) ?_
  have main : ∀ (d : Nat) (i : Int), 0 ≤ i → (l.length : Int) = i + d → Ev (fun k => horizon_CheckBends.l0 k l l l.length i) 0 := by
    intro d
    induction d with
    | zero =>
      intro i h0 e
      exact one_ev fun k => by rw [horizon_CheckBends.l0, if_neg (by omega)]
    | succ d ih =>
      intro i h0 e
      obtain ⟨a0, a1, ok⟩ := h.lo i h0 (by omega)
      unfold alt at a0 a1
      obtain ⟨c, hc, c0⟩ := check_api_Arc (llo l i) (lhi l i) (lun l i)
      obtain rfl := c0.mpr ok.vb
      have next := ih (i + 1) (by omega) (by omega)
      have w : wrap64 (i + 1) = i + 1 := w64_id (by omega) (by omega)
      refine Ev.step (fun k => by rw [horizon_CheckBends.l0, if_pos (by omega), if_pos h0, if_pos (by omega)]) ?_
      refine Ev.bind hc (neg_ev (by omega) ?_)
      rw [decide_eq_false (by omega)]
      by_cases z : i > 0
      · have w' : wrap64 (i - 1) = i - 1 := w64_id (by omega) (by omega)
        have u := h.up (i - 1) (by omega) (by omega)
        rw [show i - 1 + 1 = i by omega] at u
        unfold alt at u
        refine Ev.step (fun k => by rw [horizon_CheckBends.j1, if_neg (by decide), if_pos rfl, if_pos z, w', if_pos (by omega), if_pos (by omega), if_neg (by omega), w]) ?_
        exact next
      · refine Ev.step (fun k => by rw [horizon_CheckBends.j1, if_neg (by decide), if_pos rfl, if_neg z, w]) ?_
        exact next
  exact main l.length 0 (Int.le_refl _) (by omega)

theorem last_ev {l : List S108} (h : GT l) (p q f : Int) (f0 : 0 ≤ f) (d : Nat) : ∀ x : Int, x = f + d → x < l.length → q ≤ alt l x →
    ∃ t, f ≤ t ∧ t ≤ x ∧ q ≤ alt l t ∧ (f < t → alt l (t - 1) < q) ∧ ∀ r, Ev (fun k => horizon_Refract.j4 k l f t p q false) r → Ev (fun k => horizon_Refract.l1 k l f x p q false) r := by
  induction d with
  | zero =>
    intro x e h1 hq
    refine ⟨x, by omega, Int.le_refl _, hq, fun _ => by omega, fun r hr => ?_⟩
    refine Ev.step (fun k => by rw [horizon_Refract.l1, if_neg (by omega)]) ?_
    exact hr
  | succ d ih =>
    intro x e h1 hq
    have n1 := h.n1
    have w : wrap64 (x - 1) = x - 1 := w64_id (by omega) (by omega)
    by_cases c : q ≤ alt l (x - 1)
    · obtain ⟨t, t0, t1, t2, t3, t4⟩ := ih (x - 1) (by omega) (by omega) c
      refine ⟨t, t0, by omega, t2, t3, fun r hr => ?_⟩
      unfold alt at c
      refine Ev.step (fun k => by rw [horizon_Refract.l1, if_pos (by omega), w, if_pos (by omega), if_pos (by omega), if_pos (by omega)]) ?_
      exact t4 r hr
    · refine ⟨x, by omega, Int.le_refl _, hq, fun _ => by omega, fun r hr => ?_⟩
      unfold alt at c
      refine Ev.step (fun k => by rw [horizon_Refract.l1, if_pos (by omega), w, if_pos (by omega), if_pos (by omega), if_neg (by omega)]) ?_
      exact hr
theorem first_ev {l : List S108} (h : GT l) (p q m : Int) (hm : m < l.length) (d : Nat) : ∀ x : Int, 0 ≤ x → m = x + d → alt l x ≤ p →
    ∃ f, x ≤ f ∧ f ≤ m ∧ alt l f ≤ p ∧ (f < m → p < alt l (f + 1)) ∧ ∀ r, Ev (fun k => horizon_Refract.j2 k l f m p q false) r → Ev (fun k => horizon_Refract.l0 k l x m p q false) r := by
  induction d with
  | zero =>
    intro x x0 e hp
    refine ⟨x, Int.le_refl _, by omega, hp, fun _ => by omega, fun r hr => ?_⟩
    refine Ev.step (fun k => by rw [horizon_Refract.l0, if_neg (by omega)]) ?_
    exact hr
  | succ d ih =>
    intro x x0 e hp
    have n1 := h.n1
    have w : wrap64 (x + 1) = x + 1 := w64_id (by omega) (by omega)
    by_cases c : alt l (x + 1) ≤ p
    · obtain ⟨t, t0, t1, t2, t3, t4⟩ := ih (x + 1) (by omega) (by omega) c
      refine ⟨t, by omega, t1, t2, t3, fun r hr => ?_⟩
      unfold alt at c
      refine Ev.step (fun k => by rw [horizon_Refract.l0, if_pos (by omega), w, if_pos (by omega), if_pos (by omega), if_pos c]) ?_
      exact t4 r hr
    · refine ⟨x, Int.le_refl _, by omega, hp, fun _ => by omega, fun r hr => ?_⟩
      unfold alt at c
      refine Ev.step (fun k => by rw [horizon_Refract.l0, if_pos (by omega), w, if_pos (by omega), if_pos (by omega), if_neg c]) ?_
      exact hr

/-- The hull of the lifts from row f to row t. -/
def Hr (l : List S108) (f t r0 r1 : Int) (r2 : Bool) : Prop :=
  (r2 = true ∧ r0 = 0 ∧ r1 = 0 ∧ ∃ i, f ≤ i ∧ i ≤ t ∧ lun l i = true) ∨
  (r2 = false ∧ (∀ i, f ≤ i → i ≤ t → lun l i = false ∧ r0 ≤ llo l i ∧ lhi l i ≤ r1) ∧ (∃ i, f ≤ i ∧ i ≤ t ∧ r0 = llo l i) ∧ (∃ i, f ≤ i ∧ i ≤ t ∧ r1 = lhi l i) ∧ -1000000000 ≤ r0 ∧ r0 ≤ r1 ∧ r1 ≤ 1000000000)
theorem rd_cut (l : List S108) {f t i : Int} (f0 : 0 ≤ f) (i0 : 0 ≤ i) (i1 : f + i ≤ t) (t1 : t < l.length) : rd_T108 ((l.take (t + 1 : Int).toNat).drop f.toNat) i = rd_T108 l (f + i) := by
  unfold rd_T108
  rw [List.getD_eq_getElem?_getD, List.getD_eq_getElem?_getD, List.getElem?_drop, List.getElem?_take, if_pos (by omega), show f.toNat + i.toNat = (f + i).toNat by omega]
theorem len_cut (l : List S108) {f t : Int} (f0 : 0 ≤ f) (ft : f ≤ t) (t1 : t < l.length) : (((l.take (t + 1 : Int).toNat).drop f.toNat).length : Int) = t + 1 - f := by
  rw [List.length_drop, List.length_take]; omega
theorem cut_ev {l : List S108} (h : GT l) (p q f t : Int) (f0 : 0 ≤ f) (ft : f ≤ t) (t1 : t < l.length) :
    ∃ r0 r1 r2, Hr l f t r0 r1 r2 ∧ ∀ r, Ev (fun k => bound_Add_api_Arc.f k p q false r0 r1 r2) r → Ev (fun k => horizon_Refract.j4 k l f t p q false) r := by
  have n1 := h.n1
  have ln := len_cut l f0 ft t1
  have rd := fun (i : Int) (i0 : 0 ≤ i) (i1 : f + i ≤ t) => rd_cut l f0 i0 i1 t1
  have w : wrap64 (t + 1) = t + 1 := w64_id (by omega) (by omega)
  have st : ∀ r, Ev (fun k => horizon_Refract.l2 k ((l.take (t + 1 : Int).toNat).drop f.toNat) ((l.take (t + 1 : Int).toNat).drop f.toNat).length 0 p q false (llo l f) (lhi l f) (lun l f)) r → Ev (fun k => horizon_Refract.j4 k l f t p q false) r := by
    intro r hr
    refine Ev.step (fun k => by rw [horizon_Refract.j4, w, if_pos f0, if_pos (by omega), if_pos (by omega), if_pos (by omega), Option.bind_some]) ?_
    exact hr
  generalize (l.take (t + 1 : Int).toNat).drop f.toNat = y at ln rd st
  have lo_ : ∀ i : Int, 0 ≤ i → f + i ≤ t → llo y i = llo l (f + i) ∧ lhi y i = lhi l (f + i) ∧ lun y i = lun l (f + i) := by
    intro i i0 i1
    unfold llo lhi lun
    rw [rd i i0 i1]; exact ⟨rfl, rfl, rfl⟩
  obtain ⟨r0, r1, r2, H, E⟩ := loop_ev y p q (by omega) (fun i i0 i1 => by
    obtain ⟨a, b, c⟩ := lo_ i i0 (by omega)
    rw [a, b, c]; exact (h.lo (f + i) (by omega) (by omega)).2.2) y.length 0 (llo l f) (lhi l f) (lun l f) (Int.le_refl _) (by omega) (h.lo f f0 (by omega)).2.2
  refine ⟨r0, r1, r2, ?_, fun r hr => st r (E r hr)⟩
  rcases H with ⟨a, b, c, D⟩ | ⟨a, b, H1, H2, H3, H4, H5, H6⟩
  · refine .inl ⟨a, b, c, ?_⟩
    rcases D with D | ⟨i, i0, i1, D⟩
    · exact ⟨f, Int.le_refl _, ft, D⟩
    · exact ⟨f + i, by omega, by omega, by rw [← (lo_ i i0 (by omega)).2.2]; exact D⟩
  · refine .inr ⟨a, fun i i0 i1 => ?_, ?_, ?_, H6⟩
    · obtain ⟨u, v, w'⟩ := H1 (i - f) (by omega) (by omega)
      obtain ⟨x, y', z⟩ := lo_ (i - f) (by omega) (by omega)
      rw [show f + (i - f) = i by omega] at x y' z
      rw [← x, ← y', ← z]; exact ⟨u, v, w'⟩
    · rcases H4 with H4 | ⟨i, i0, i1, H4⟩
      · exact ⟨f, Int.le_refl _, ft, H4⟩
      · exact ⟨f + i, by omega, by omega, by rw [← (lo_ i i0 (by omega)).1]; exact H4⟩
    · rcases H5 with H5 | ⟨i, i0, i1, H5⟩
      · exact ⟨f, Int.le_refl _, ft, H5⟩
      · exact ⟨f + i, by omega, by omega, by rw [← (lo_ i i0 (by omega)).2.1]; exact H5⟩

/-- The rows that Refract looks at. -/
structure Rows (l : List S108) (p q f t : Int) : Prop where
  f0 : 0 ≤ f
  ft : f ≤ t
  t1 : t < l.length
  a : alt l f ≤ p
  b : f + 1 < l.length → p < alt l (f + 1)
  c : q ≤ alt l t
  d : f < t → alt l (t - 1) < q
theorem refract_out {l : List S108} (h : GT l) {p q : Int} (p0 : -1000000000 ≤ p) (pq : p ≤ q) (q1 : q ≤ 1000000000) (out : p < alt l 0 ∨ alt l (l.length - 1) < q) : Ev (fun k => horizon_Refract.f k l p q false) (0, 0, true) := by
  have n0 := h.n0
  have n1 := h.n1
  have N := norm_api_Arc p q false
  rw [nb_ok (by omega) pq (by omega)] at N
  have J : Ev (fun k => horizon_Refract.j0 k l true p q false) (0, 0, true) := one_ev fun k => by rw [horizon_Refract.j0, if_pos rfl]; unfold bound_None_api_Arc.f; rfl
  unfold horizon_Refract.f
  refine Ev.bind N (Ev.bind (bends_ev h) (pos_ev rfl (neg_ev (by simp) (neg_ev (by omega) (pos_ev (by omega) ?_)))))
  by_cases c : p < alt l 0
  · exact pos_ev c J
  · have w : wrap64 ((l.length : Int) - 1) = l.length - 1 := w64_id (by omega) (by omega)
    refine neg_ev c ?_
    rw [w]
    refine pos_ev (by omega) (pos_ev (by omega) ?_)
    have c2 : q > (rd_T108 l ((l.length : Int) - 1)).f0 := by
      rcases out with out | out
      · exact absurd out c
      · exact out
    simp only [decide_eq_true c2]
    exact J
theorem refract_in {l : List S108} (h : GT l) {p q : Int} (p0 : -1000000000 ≤ p) (pq : p ≤ q) (q1 : q ≤ 1000000000) (i0 : alt l 0 ≤ p) (i1 : q ≤ alt l (l.length - 1)) :
    ∃ f t r0 r1 r2, Rows l p q f t ∧ Hr l f t r0 r1 r2 ∧ Ev (fun k => horizon_Refract.f k l p q false) (if r2 = true then (0, 0, true) else (p + r0, q + r1, false)) := by
  have n0 := h.n0
  have n1 := h.n1
  have N := norm_api_Arc p q false
  rw [nb_ok (by omega) pq (by omega)] at N
  obtain ⟨f, f0, f1, fa, fb, F⟩ := first_ev h p q (l.length - 1) (by omega) (l.length - 1) 0 (Int.le_refl _) (by omega) i0
  obtain ⟨t, t0, t1, ta, tb, T⟩ := last_ev h p q f (by omega) ((l.length : Int) - 1 - f).toNat (l.length - 1) (by omega) (by omega) i1
  obtain ⟨r0, r1, r2, H, C⟩ := cut_ev h p q f t (by omega) t0 (by omega)
  have A : Ev (fun k => bound_Add_api_Arc.f k p q false r0 r1 r2) (if r2 = true then (0, 0, true) else (p + r0, q + r1, false)) := by
    rcases H with ⟨rfl, rfl, rfl, _⟩ | ⟨rfl, _, _, _, a, b, c⟩
    · have h := add_api_Arc p q false 0 0 true
      rw [nb_none, if_pos (by simp)] at h
      exact h
    · exact addk_api_Arc (by omega) pq (by omega) (by omega) b (by omega)
  refine ⟨f, t, r0, r1, r2, ⟨by omega, t0, by omega, fa, fun _ => fb (by omega), ta, tb⟩, H, ?_⟩
  have J2 : Ev (fun k => horizon_Refract.j2 k l f (l.length - 1) p q false) (if r2 = true then (0, 0, true) else (p + r0, q + r1, false)) := by
    refine Ev.step (fun k => by rw [horizon_Refract.j2]) ?_
    exact T _ (C _ A)
  have w : wrap64 ((l.length : Int) - 1) = l.length - 1 := w64_id (by omega) (by omega)
  have J0 : Ev (fun k => horizon_Refract.j0 k l false p q false) (if r2 = true then (0, 0, true) else (p + r0, q + r1, false)) := by
    refine Ev.step (fun k => by rw [horizon_Refract.j0, if_neg (by decide), w]) ?_
    exact F _ J2
  have c : ¬ p < (rd_T108 l 0).f0 := by have := i0; unfold alt at this; omega
  have c2 : ¬ q > (rd_T108 l ((l.length : Int) - 1)).f0 := by have := i1; unfold alt at this; omega
  unfold horizon_Refract.f
  refine Ev.bind N (Ev.bind (bends_ev h) (pos_ev rfl (neg_ev (by simp) (neg_ev (by omega) (pos_ev (by omega) (neg_ev c ?_))))))
  rw [w]
  refine pos_ev (by omega) (pos_ev (by omega) ?_)
  simp only [decide_eq_false c2]
  exact J0
/-- Of two bounds, one inside the other, the rows of the one lie among those of the other. -/
theorem Rows.among {l : List S108} (h : GT l) {p q f t p2 q2 f2 t2 : Int} (a : Rows l p q f t) (b : Rows l p2 q2 f2 t2) (hp : p ≤ p2) (pq : p2 ≤ q2) (hq : q2 ≤ q) : f ≤ f2 ∧ t2 ≤ t := by
  obtain ⟨a0, a1, a2, a3, a4, a5, a6⟩ := a
  obtain ⟨b0, b1, b2, b3, b4, b5, b6⟩ := b
  constructor
  · by_cases c : f ≤ f2
    · exact c
    · have := h.le (i := f2 + 1) (j := f) (by omega) (by omega) (by omega)
      have := b4 (by omega)
      omega
  · by_cases c : t2 ≤ t
    · exact c
    · by_cases e : f2 < t2
      · have := h.le (i := t) (j := t2 - 1) (by omega) (by omega) (by omega)
        have := b6 e
        omega
      · have := h.lt (i := t) (j := f2) (by omega) (by omega) (by omega)
        omega
theorem refract_inside {l : List S108} (h : GT l) {p q p2 q2 : Int} (p0 : -1000000000 ≤ p) (hp : p ≤ p2) (pq : p2 ≤ q2) (hq : q2 ≤ q) (q1 : q ≤ 1000000000) :
    ∃ x y, Ev (fun k => horizon_Refract.f k l p q false) x ∧ Ev (fun k => horizon_Refract.f k l p2 q2 false) y ∧ Ev (fun k => bound_Inside_api_Arc.f k y.1 y.2.1 y.2.2 x.1 x.2.1 x.2.2) true := by
  by_cases out : p < alt l 0 ∨ alt l (l.length - 1) < q
  · have X := refract_out h p0 (by omega) q1 out
    have Y : ∃ y, Ev (fun k => horizon_Refract.f k l p2 q2 false) y := by
      by_cases o2 : p2 < alt l 0 ∨ alt l (l.length - 1) < q2
      · exact ⟨_, refract_out h (by omega) pq (by omega) o2⟩
      · obtain ⟨_, _, _, _, _, _, _, E⟩ := refract_in h (p := p2) (q := q2) (by omega) pq (by omega) (by omega) (by omega)
        exact ⟨_, E⟩
    obtain ⟨y, Y⟩ := Y
    refine ⟨_, y, X, Y, inside_api_Arc fun e => ?_⟩
    simp only [nb_none] at e
    cases e
  · obtain ⟨f, t, r0, r1, r2, R, H, E⟩ := refract_in h p0 (by omega) q1 (by omega) (by omega)
    obtain ⟨f2, t2, s0, s1, s2, R2, H2, E2⟩ := refract_in h (p := p2) (q := q2) (by omega) pq (by omega) (by omega) (by omega)
    obtain ⟨am, am2⟩ := Rows.among h R R2 hp pq hq
    refine ⟨_, _, E, E2, inside_api_Arc fun e => ?_⟩
    rcases H with ⟨rfl, rfl, rfl, _⟩ | ⟨rfl, H1, _, _, a, b, c⟩
    · rw [if_pos rfl, nb_none] at e; cases e
    rcases H2 with ⟨rfl, rfl, rfl, i, i0, i1, u⟩ | ⟨rfl, _, ⟨i, i0, i1, I⟩, ⟨j, j0, j1, J⟩, a', b', c'⟩
    · rw [(H1 i (by omega) (by omega)).1] at u; cases u
    · have x := (H1 i (by omega) (by omega)).2.1
      have y := (H1 j (by omega) (by omega)).2.2
      simp only [Bool.false_eq_true, if_false]
      rw [nb_ok (by omega) (by omega) (by omega)]
      exact ⟨rfl, by omega, by omega⟩
/-- At a row's own altitude: its own lift. -/
theorem refract_at {l : List S108} (h : GT l) {i : Int} (i0 : 0 ≤ i) (i1 : i < l.length) :
    Ev (fun k => horizon_Refract.f k l (alt l i) (alt l i) false) (if lun l i = true then (0, 0, true) else (alt l i + llo l i, alt l i + lhi l i, false)) := by
  obtain ⟨b0, b1, ok⟩ := h.lo i i0 i1
  obtain ⟨f, t, r0, r1, r2, R, H, E⟩ := refract_in h (p := alt l i) (q := alt l i) (by omega) (Int.le_refl _) (by omega) (h.le (Int.le_refl _) i0 i1) (h.le i0 (by omega) (by omega))
  obtain ⟨a0, a1, a2, a3, a4, a5, a6⟩ := R
  have fi : f = i := by
    rcases Int.lt_trichotomy f i with c | c | c
    · have := a4 (by omega); have := h.le (i := f + 1) (j := i) (by omega) (by omega) i1; omega
    · exact c
    · have := h.lt i0 c (by omega); omega
  have ti : t = i := by
    rcases Int.lt_trichotomy t i with c | c | c
    · omega
    · exact c
    · have := a6 (by omega); have := h.le (i := i) (j := t - 1) i0 (by omega) (by omega); omega
  subst fi
  subst ti
  rcases H with ⟨rfl, rfl, rfl, j, j0, j1, u⟩ | ⟨rfl, H1, ⟨j, j0, j1, J⟩, ⟨j', j0', j1', J'⟩, _⟩
  · obtain rfl : j = t := by omega
    rw [u]; exact E
  · obtain rfl : j = t := by omega
    obtain rfl : j' = j := by omega
    rw [(H1 j' (by omega) (by omega)).1, ← J, ← J']; exact E
end Go.Proofs.Ytpophefonhpnmaa.Q
end

section
/- HorizonLifted in plain numbers: for every stream of numbers the printed function answers true; no other condition. -/
namespace Go.Proofs.Ytpophefonhpnmaa.Pure
open Go.RowKit Go.Proofs.Ytpophefonhpnmaa.Q Go.Proofs.YtpophefonhpnmaaW.PrintWords Go.Proofs.YtpophefonhpnmaaW.PrintLast
set_option linter.unusedVariables false
set_option linter.unusedSimpArgs false
set_option maxRecDepth 100000 in
theorem horizonFact_ev : Ev (fun k => spykeep1_horizonFact.f k) true :=
  Ev.of (fun k => spykeep1_horizonFact.mono k) (k := 200) (by decide +kernel)

/-- A table so far, and the next altitude. -/
structure PT (l : List S108) (x : Int) : Prop where
  x0 : -1000 ≤ x
  x1 : x ≤ 400 * l.length
  lo : ∀ i : Int, 0 ≤ i → i < l.length → -1000 ≤ alt l i ∧ alt l i < x ∧ okb (llo l i) (lhi l i) (lun l i)
  up : ∀ i : Int, 0 ≤ i → i + 1 < l.length → alt l i < alt l (i + 1)
theorem rd_old (l : List S108) (s : S108) {i : Int} (h0 : 0 ≤ i) (h1 : i < l.length) : rd_T108 (l ++ [s]) i = rd_T108 l i := by
  unfold rd_T108
  rw [List.getD_eq_getElem?_getD, List.getD_eq_getElem?_getD, List.getElem?_append_left (by omega)]
theorem rd_new (l : List S108) (s : S108) {i : Int} (h : i = l.length) : rd_T108 (l ++ [s]) i = s := by
  subst h
  unfold rd_T108
  rw [List.getD_eq_getElem?_getD, List.getElem?_append_right (by omega)]
  simp
theorem PT.next {l : List S108} {x d lo hi : Int} {u : Bool} (h : PT l x) (d0 : 1 ≤ d) (d1 : d ≤ 400) (ok : okb lo hi u) : PT (l ++ [(⟨x, (⟨lo, hi, u⟩ : S96)⟩ : S108)]) (x + d) := by
  have h0 := h.x0
  have h1 := h.x1
  have old := fun (i : Int) (a : 0 ≤ i) (b : i < l.length) => rd_old l (⟨x, (⟨lo, hi, u⟩ : S96)⟩ : S108) a b
  have new := rd_new l (⟨x, (⟨lo, hi, u⟩ : S96)⟩ : S108) rfl
  have ln : (((l ++ [(⟨x, (⟨lo, hi, u⟩ : S96)⟩ : S108)]).length : Nat) : Int) = l.length + 1 := by simp
  refine ⟨by omega, by omega, fun i a b => ?_, fun i a b => ?_⟩
  · unfold alt llo lhi lun
    by_cases c : i < l.length
    · rw [old i a c]
      obtain ⟨p, q, r⟩ := h.lo i a c
      unfold alt llo lhi lun at *
      exact ⟨p, by omega, r⟩
    · obtain rfl : i = l.length := by omega
      rw [new]
      exact ⟨h0, by simp only; omega, ok⟩
  · unfold alt
    by_cases c : i + 1 < l.length
    · rw [old i a (by omega), old (i + 1) (by omega) c]
      exact h.up i a c
    · obtain e : i + 1 = l.length := by omega
      rw [old i a (by omega), e, new]
      exact (h.lo i a (by omega)).2.1

theorem HorizonLifted : spykeep1_HorizonLifted.Pure := by
  intro l hm _ _
  have hl : l.length ≤ 9223372036854775807 := by have h := hm; unfold maxLen at h; omega
  refine Ev.rounds (r := true) ?_
  have fin : ∀ (t : List S108) (x n p : Int), GT t → 0 ≤ p → p ≤ 1000 → Ev (fun k => spykeep1_HorizonLifted.l0 k t x n n l p) true := by
    intro t x n p G p0 p1
    have n0 := G.n0
    obtain ⟨lo, hR, l0, l1⟩ := range_in l (at_ := p) (lo := -1000) (hi := 1500) hl p0 (by omega) (by decide) (by decide) (by decide)
    obtain ⟨d, hN, d0, d1⟩ := next_in l (at_ := p + 1) (n := 500) hl (by omega) (by omega) (by decide) (by decide)
    have w : wrap64 (lo + d) = lo + d := w64_id (by omega) (by omega)
    obtain ⟨lo2, hi2, u2, q, hW, q0, q1, C⟩ := within_api_Arc l (p := p + 1 + 1) (lo := lo) (hi := lo + d) (u := false) hl (by omega) (by omega) (.inr ⟨rfl, by omega, by omega, by omega⟩)
    obtain ⟨rfl, c0, c1⟩ : u2 = false ∧ lo2 ≤ hi2 ∧ lo ≤ lo2 ∧ hi2 ≤ lo + d := by
      rcases C with ⟨_, _, _, c⟩ | ⟨a, _, b, c⟩
      · cases c
      · exact ⟨a, b, c rfl⟩
    obtain ⟨c1, c2⟩ := c1
    obtain ⟨b0, b1, ok⟩ := G.lo 1 (by omega) (by omega)
    obtain ⟨X, Y, hX, hY, hI⟩ := refract_inside G (p := lo) (q := lo + d) (p2 := lo2) (q2 := hi2) (by omega) c1 c0 c2 (by omega)
    have hA := refract_at G (i := 1) (by omega) (by omega)
    have hE := exact_api_Arc (v := alt t 1) (by omega) (by omega)
    have S : Ev (fun k => bound_Add_api_Arc.f k (llo t 1) (lhi t 1) (lun t 1) (alt t 1) (alt t 1) false) (if lun t 1 = true then (0, 0, true) else (alt t 1 + llo t 1, alt t 1 + lhi t 1, false)) := by
      rcases ok with ⟨a, b, c⟩ | ⟨a, b, c, e⟩
      · rw [a, b, c]
        have h := add_api_Arc 0 0 true (alt t 1) (alt t 1) false
        rw [nb_none, if_pos (by simp)] at h
        exact h
      · rw [a, Int.add_comm (alt t 1), Int.add_comm (alt t 1)]
        exact addk_api_Arc (by omega) c (by omega) (by omega) (Int.le_refl _) (by omega)
    refine Ev.step (fun k => by rw [spykeep1_HorizonLifted.l0, if_neg (by omega)]) ?_
    refine some_ev hR (some_ev hN ?_)
    rw [w]
    refine some_ev hW (pos_ev (by omega) (Ev.bind hE (Ev.bind hA (Ev.bind horizonFact_ev (pos_ev rfl (Ev.bind hY (Ev.bind hX (Ev.bind hI (pos_ev rfl (Ev.bind hE (Ev.bind S ?_)))))))))))
    exact now_ev fun k => by simp
  have loop : ∀ (n : Int), 2 ≤ n → n ≤ 8 → ∀ (d : Nat) (t : List S108) (x i p : Int), n = i + d → (t.length : Int) = i → PT t x → 0 ≤ p → p ≤ 4 * i + 2 → Ev (fun k => spykeep1_HorizonLifted.l0 k t x n i l p) true := by
    intro n n0 n1 d
    induction d with
    | zero =>
      intro t x i p e ln P p0 p1
      obtain rfl : n = i := by omega
      have h1 := P.x1
      exact fin t x n p ⟨by omega, by omega, fun j j0 j1 => by obtain ⟨a, b, c⟩ := P.lo j j0 j1; exact ⟨by omega, by omega, c⟩, P.up⟩ p0 (by omega)
    | succ d ih =>
      intro t x i p e ln P p0 p1
      have h0 := P.x0
      have h1 := P.x1
      obtain ⟨lo, hi, u, q, hB, q0, q1, A⟩ := bound_api_Arc l (p := p) (m := 500) hl p0 (by omega) (by decide) (by decide)
      obtain ⟨s, hR, s0, s1⟩ := range_in l (at_ := q) (lo := 1) (hi := 400) hl (by omega) (by omega) (by decide) (by decide) (by decide)
      have w : wrap64 (x + s) = x + s := w64_id (by omega) (by omega)
      have w' : wrap64 (i + 1) = i + 1 := w64_id (by omega) (by omega)
      refine Ev.step (fun k => by rw [spykeep1_HorizonLifted.l0, if_pos (by omega)]) ?_
      refine some_ev hB (pos_ev (by omega) (some_ev hR ?_))
      rw [w, w']
      refine ih _ _ (i + 1) (q + 1) (by omega) (by simp; omega) (P.next s0 s1 ?_) (by omega) (by omega)
      rcases A with ⟨a, b, c⟩ | ⟨a, b, c, e⟩
      · exact .inl ⟨a, b, c⟩
      · exact .inr ⟨a, by simp only; omega, c, by simp only; omega⟩
  obtain ⟨x, hX, x0, x1⟩ := range_in l (at_ := 0) (lo := -1000) (hi := 0) hl (by decide) (by decide) (by decide) (by decide) (by decide)
  obtain ⟨n, hN, n0, n1⟩ := range_in l (at_ := 0 + 1) (lo := 2) (hi := 8) hl (by decide) (by decide) (by decide) (by decide) (by decide)
  unfold spykeep1_HorizonLifted.f
  refine some_ev hX (some_ev hN ?_)
  exact loop n n0 n1 n.toNat [] x 0 _ (by omega) rfl ⟨x0, by simpa using x1, fun i a b => absurd b (by simp; omega), fun i a b => absurd b (by simp; omega)⟩ (by simp only; omega) (by simp only; omega)
end Go.Proofs.Ytpophefonhpnmaa.Pure
end
