/- This session's own texts KScaleFirstM1 KScaleFirstM2 KScaleFirstM3 KScaleFirstM4 KScaleFirstM5 KScaleFirstM6 KScaleFirstBL1 KScaleFirstST1 KScaleFirstFD1 KScaleFirstFR0 KScaleFirstMK1 KScaleFirstRT1 KScaleFirstBD0 KScaleFirstBDTick KScaleFirstBDTick2 KScaleFirstBDTick3 KScaleFirstBDTick4 KScaleFirstBDArc KScaleFirstBDArc2 KScaleFirstBDArc3 KScaleFirstSD1 KScaleFirstPureScaleFirst, one after the other. -/
import Derived.Test.YtpophefonhpnmaaKScaleFirstQx31
import Derived.Test.YtpophefonhpnmaaKScaleFirstQx30
import Derived.Test.YtpophefonhpnmaaKScaleFirstQx15
import Derived.Test.YtpophefonhpnmaaKScaleFirstQx13
import Derived.Test.YtpophefonhpnmaaKScaleFirstQx12
import Derived.Test.YtpophefonhpnmaaKScaleFirstQx16
import Derived.Test.YtpophefonhpnmaaKScaleFirstQx18
import Derived.Test.YtpophefonhpnmaaKScaleFirstQx19
import Derived.Test.YtpophefonhpnmaaKScaleFirstQx17
import Derived.Test.YtpophefonhpnmaaKScaleFirstQx38
import Derived.Test.YtpophefonhpnmaaKScaleFirstQx6
import Derived.Test.YtpophefonhpnmaaKScaleFirstQx20
import Derived.Test.YtpophefonhpnmaaKScaleFirstQx7
import Derived.Test.YtpophefonhpnmaaKScaleFirstQx24
import Derived.Test.YtpophefonhpnmaaKScaleFirstQx25
import Derived.Test.YtpophefonhpnmaaKScaleFirstQx26
import Derived.Test.YtpophefonhpnmaaKScaleFirstQx14

section
/- Wrapping, shifts and products of 64 bits: what the printed functions of math/bits compute; no other condition than those that each statement names. -/
namespace Go.Proofs.Ytpophefonhpnmaa.Q
open Go.RowKit Go.Proofs.YtpophefonhpnmaaW.PrintWords Go.Proofs.YtpophefonhpnmaaW.PrintLast Go.Proofs.YtpophefonhpnmaaW.PrintMore
set_option linter.unusedVariables false
set_option linter.unusedSimpArgs false

theorem uw (x : Int) : IntKind.u64.wrap x = x % 18446744073709551616 := u64_wrap_eq x
theorem uw_id {x : Int} (h0 : 0 ≤ x) (h1 : x < 18446744073709551616) : IntKind.u64.wrap x = x := by rw [uw]; omega
theorem w64_id {x : Int} (h0 : -9223372036854775808 ≤ x) (h1 : x < 9223372036854775808) : wrap64 x = x := by unfold wrap64; omega
theorem uw_wrap64 (x : Int) : wrap64 (IntKind.u64.wrap x) = wrap64 x := by rw [uw]; unfold wrap64; omega

theorem u64_mask32 {x : Int} (h0 : 0 ≤ x) (h1 : x < 18446744073709551616) : Go.bits .and .u64 x 4294967295 = x % 4294967296 :=
  Go.bits_mask .u64 64 (by decide) (fun n h h' => by rw [uw]; omega) 32 (by decide) x h0 h1

theorem mul64 {a b : Int} (a0 : 0 ≤ a) (a1 : a < 18446744073709551616) (b0 : 0 ≤ b) (b1 : b < 18446744073709551616) :
    bits_Mul64.f a b = some (a * b / 18446744073709551616, a * b % 18446744073709551616) := by
  unfold bits_Mul64.f
  rw [u64_mask32 a0 a1, u64_mask32 b0 b1]
  generalize hx1 : a / 4294967296 = x1
  generalize hx0 : a % 4294967296 = x0
  generalize hy1 : b / 4294967296 = y1
  generalize hy0 : b % 4294967296 = y0
  have hx : a = x1 * 4294967296 + x0 := by omega
  have hy : b = y1 * 4294967296 + y0 := by omega
  have p : ∀ {u v : Int}, 0 ≤ u → u ≤ 4294967295 → 0 ≤ v → v ≤ 4294967295 → 0 ≤ u * v ∧ u * v ≤ 18446744065119617025 := by
    intro u v hu0 hu1 hv0 hv1
    refine ⟨Int.mul_nonneg hu0 hv0, ?_⟩
    have := Int.mul_le_mul hu1 hv1 hv0 (by omega)
    omega
  have q11 := p (u := x1) (v := y1) (by omega) (by omega) (by omega) (by omega)
  have q10 := p (u := x1) (v := y0) (by omega) (by omega) (by omega) (by omega)
  have q01 := p (u := x0) (v := y1) (by omega) (by omega) (by omega) (by omega)
  have q00 := p (u := x0) (v := y0) (by omega) (by omega) (by omega) (by omega)
  have e : a * b = x1 * y1 * 18446744073709551616 + (x1 * y0 + x0 * y1) * 4294967296 + x0 * y0 := by
    rw [hx, hy]; grind
  rw [e]
  generalize x1 * y1 = P at *
  generalize x1 * y0 = Q at *
  generalize x0 * y1 = R at *
  generalize x0 * y0 = S at *
  rw [uw_id (x := S) (by omega) (by omega), uw_id (x := Q) (by omega) (by omega), uw_id (x := R) (by omega) (by omega), uw_id (x := P) (by omega) (by omega),
    uw_id (x := Q + S / 4294967296) (by omega) (by omega), u64_mask32 (by omega) (by omega), uw, uw, uw]
  congr 2 <;> omega

theorem size_some {a : Int} (h0 : -9223372036854775808 ≤ a) (h1 : a < 9223372036854775808) : num_size.f a = some (if a < 0 then -a else a) := by
  unfold num_size.f
  split
  · rw [uw, uw]; congr 1; omega
  · rw [uw]; congr 1; omega
end Go.Proofs.Ytpophefonhpnmaa.Q
end

section
/- The number of leading zeros of a number of 64 bits, and the quotient of 128 by 64 bits: what the printed functions of math/bits compute, for every divisor greater than the upper half. -/
namespace Go.Proofs.Ytpophefonhpnmaa.Q
open Go.RowKit Go.Proofs.YtpophefonhpnmaaW.PrintWords Go.Proofs.YtpophefonhpnmaaW.PrintLast Go.Proofs.YtpophefonhpnmaaW.PrintMore
set_option linter.unusedVariables false
set_option linter.unusedSimpArgs false

set_option maxRecDepth 100000 in
def len8 : ByteArray := ⟨#[0, 1, 2, 2, 3, 3, 3, 3, 4, 4, 4, 4, 4, 4, 4, 4, 5, 5, 5, 5, 5, 5, 5, 5, 5, 5, 5, 5, 5, 5, 5, 5, 6, 6, 6, 6, 6, 6, 6, 6, 6, 6, 6, 6, 6, 6, 6, 6, 6, 6, 6, 6, 6, 6, 6, 6, 6, 6, 6, 6, 6, 6, 6, 6, 7, 7, 7, 7, 7, 7, 7, 7, 7, 7, 7, 7, 7, 7, 7, 7, 7, 7, 7, 7, 7, 7, 7, 7, 7, 7, 7, 7, 7, 7, 7, 7, 7, 7, 7, 7, 7, 7, 7, 7, 7, 7, 7, 7, 7, 7, 7, 7, 7, 7, 7, 7, 7, 7, 7, 7, 7, 7, 7, 7, 7, 7, 7, 7, 8, 8, 8, 8, 8, 8, 8, 8, 8, 8, 8, 8, 8, 8, 8, 8, 8, 8, 8, 8, 8, 8, 8, 8, 8, 8, 8, 8, 8, 8, 8, 8, 8, 8, 8, 8, 8, 8, 8, 8, 8, 8, 8, 8, 8, 8, 8, 8, 8, 8, 8, 8, 8, 8, 8, 8, 8, 8, 8, 8, 8, 8, 8, 8, 8, 8, 8, 8, 8, 8, 8, 8, 8, 8, 8, 8, 8, 8, 8, 8, 8, 8, 8, 8, 8, 8, 8, 8, 8, 8, 8, 8, 8, 8, 8, 8, 8, 8, 8, 8, 8, 8, 8, 8, 8, 8, 8, 8, 8, 8, 8, 8, 8, 8, 8, 8, 8, 8, 8, 8, 8, 8, 8, 8, 8, 8, 8, 8]⟩
set_option maxRecDepth 100000 in
theorem len8_eq : (⟨#[0, 1, 2, 2, 3, 3, 3, 3, 4, 4, 4, 4, 4, 4, 4, 4, 5, 5, 5, 5, 5, 5, 5, 5, 5, 5, 5, 5, 5, 5, 5, 5, 6, 6, 6, 6, 6, 6, 6, 6, 6, 6, 6, 6, 6, 6, 6, 6, 6, 6, 6, 6, 6, 6, 6, 6, 6, 6, 6, 6, 6, 6, 6, 6, 7, 7, 7, 7, 7, 7, 7, 7, 7, 7, 7, 7, 7, 7, 7, 7, 7, 7, 7, 7, 7, 7, 7, 7, 7, 7, 7, 7, 7, 7, 7, 7, 7, 7, 7, 7, 7, 7, 7, 7, 7, 7, 7, 7, 7, 7, 7, 7, 7, 7, 7, 7, 7, 7, 7, 7, 7, 7, 7, 7, 7, 7, 7, 7, 8, 8, 8, 8, 8, 8, 8, 8, 8, 8, 8, 8, 8, 8, 8, 8, 8, 8, 8, 8, 8, 8, 8, 8, 8, 8, 8, 8, 8, 8, 8, 8, 8, 8, 8, 8, 8, 8, 8, 8, 8, 8, 8, 8, 8, 8, 8, 8, 8, 8, 8, 8, 8, 8, 8, 8, 8, 8, 8, 8, 8, 8, 8, 8, 8, 8, 8, 8, 8, 8, 8, 8, 8, 8, 8, 8, 8, 8, 8, 8, 8, 8, 8, 8, 8, 8, 8, 8, 8, 8, 8, 8, 8, 8, 8, 8, 8, 8, 8, 8, 8, 8, 8, 8, 8, 8, 8, 8, 8, 8, 8, 8, 8, 8, 8, 8, 8, 8, 8, 8, 8, 8, 8, 8, 8, 8, 8, 8]⟩ : ByteArray) = len8 := rfl
def len8ok (i : Nat) : Bool := let n := bt len8 (i : Int); decide (0 ≤ n) && decide (n ≤ 8) && decide ((i : Int) < 2 ^ n.toNat) && (i == 0 || decide ((2 : Int) ^ n.toNat ≤ 2 * i))
theorem len8_all : (List.range 256).all len8ok = true := by decide +kernel
theorem len8_at {i : Int} (h0 : 0 ≤ i) (h1 : i < 256) : ∃ m : Nat, m ≤ 8 ∧ bt len8 i = m ∧ i < 2 ^ m ∧ (0 < i → (2 : Int) ^ m ≤ 2 * i) := by
  obtain ⟨n, rfl⟩ := Int.eq_ofNat_of_zero_le h0
  have h := List.all_eq_true.mp len8_all n (by simp; omega)
  unfold len8ok at h
  simp only [Bool.and_eq_true, Bool.or_eq_true, decide_eq_true_eq, beq_iff_eq] at h
  obtain ⟨⟨⟨a, b⟩, c⟩, d⟩ := h
  refine ⟨(bt len8 (n : Int)).toNat, by omega, by omega, c, fun hp => ?_⟩
  rcases d with d | d
  · omega
  · exact d

set_option maxRecDepth 100000 in
theorem len64_j0 {x n : Int} (h0 : 0 ≤ x) (h1 : x < 4294967296) (n0 : 0 ≤ n) (n1 : n ≤ 32) (k : Nat) :
    ∃ m : Nat, m ≤ 32 ∧ bits_Len64.j0 (k + 1) x n = some (n + m) ∧ x < 2 ^ m ∧ (0 < x → (2 : Int) ^ m ≤ 2 * x) := by
  rw [bits_Len64.j0.eq_2, len8_eq]
  by_cases a : x ≥ 65536
  · rw [if_pos a]
    by_cases b : x / 65536 ≥ 256
    · rw [if_pos b, if_pos (by omega), if_pos (by omega)]
      obtain ⟨m, m1, m2, m3, m4⟩ := len8_at (i := ((x / 65536) / 256) % 256) (by omega) (by omega)
      refine ⟨m + 24, by omega, ?_, ?_, ?_⟩
      · rw [m2]; congr 1; unfold wrap64; omega
      · rw [Int.pow_add]; generalize (2 : Int) ^ m = P at *; omega
      · intro _; rw [Int.pow_add]; generalize (2 : Int) ^ m = P at *; omega
    · rw [if_neg b, if_pos (by omega), if_pos (by omega)]
      obtain ⟨m, m1, m2, m3, m4⟩ := len8_at (i := (x / 65536) % 256) (by omega) (by omega)
      refine ⟨m + 16, by omega, ?_, ?_, ?_⟩
      · rw [m2]; congr 1; unfold wrap64; omega
      · rw [Int.pow_add]; generalize (2 : Int) ^ m = P at *; omega
      · intro _; rw [Int.pow_add]; generalize (2 : Int) ^ m = P at *; omega
  · rw [if_neg a]
    by_cases b : x ≥ 256
    · rw [if_pos b, if_pos (by omega), if_pos (by omega)]
      obtain ⟨m, m1, m2, m3, m4⟩ := len8_at (i := (x / 256) % 256) (by omega) (by omega)
      refine ⟨m + 8, by omega, ?_, ?_, ?_⟩
      · rw [m2]; congr 1; unfold wrap64; omega
      · rw [Int.pow_add]; generalize (2 : Int) ^ m = P at *; omega
      · intro _; rw [Int.pow_add]; generalize (2 : Int) ^ m = P at *; omega
    · rw [if_neg b, if_pos (by omega), if_pos (by omega)]
      obtain ⟨m, m1, m2, m3, m4⟩ := len8_at (i := x % 256) (by omega) (by omega)
      refine ⟨m, by omega, ?_, ?_, ?_⟩
      · rw [m2]; congr 1; unfold wrap64; omega
      · generalize (2 : Int) ^ m = P at *; omega
      · intro _; generalize (2 : Int) ^ m = P at *; omega

theorem len64 {x : Int} (h0 : 0 ≤ x) (h1 : x < 18446744073709551616) (k : Nat) :
    ∃ m : Nat, m ≤ 64 ∧ bits_Len64.f (k + 1) x = some (m : Int) ∧ x < 2 ^ m ∧ (0 < x → (2 : Int) ^ m ≤ 2 * x) := by
  unfold bits_Len64.f
  by_cases a : x ≥ 4294967296
  · rw [if_pos a]
    obtain ⟨m, m1, m2, m3, m4⟩ := len64_j0 (x := x / 4294967296) (n := 32) (by omega) (by omega) (by omega) (by omega) k
    refine ⟨m + 32, by omega, ?_, ?_, ?_⟩
    · rw [m2]; congr 1; omega
    · rw [Int.pow_add]; generalize (2 : Int) ^ m = P at *; omega
    · intro _; rw [Int.pow_add]; generalize (2 : Int) ^ m = P at *; omega
  · rw [if_neg a]
    obtain ⟨m, m1, m2, m3, m4⟩ := len64_j0 (x := x) (n := 0) (by omega) (by omega) (by omega) (by omega) k
    refine ⟨m, by omega, ?_, m3, m4⟩
    rw [m2]; congr 1; omega

/-- The leading zeros: shifted by them, a number fills 64 bits. -/
theorem lz64 {y : Int} (h0 : 0 < y) (h1 : y < 18446744073709551616) (k : Nat) :
    ∃ s : Nat, s ≤ 63 ∧ bits_LeadingZeros64.f (k + 1) y = some (s : Int) ∧ 9223372036854775808 ≤ y * 2 ^ s ∧ y * 2 ^ s < 18446744073709551616 := by
  obtain ⟨m, m1, m2, m3, m4⟩ := len64 (by omega) h1 k
  have hm : 1 ≤ m := by
    rcases m with _ | m
    · simp at m3; omega
    · omega
  refine ⟨64 - m, by omega, ?_, ?_, ?_⟩
  · unfold bits_LeadingZeros64.f
    rw [m2]; simp only [Option.bind_some]; congr 1; unfold wrap64; omega
  · have e : (2 : Int) ^ m * 2 ^ (64 - m) = 18446744073709551616 := by rw [← Int.pow_add, show m + (64 - m) = 64 by omega]; decide
    have p : (0 : Int) < 2 ^ (64 - m) := Int.pow_pos (by decide)
    have := Int.mul_le_mul_of_nonneg_right (m4 h0) (Int.le_of_lt p)
    rw [e, Int.mul_assoc] at this
    omega
  · have e : (2 : Int) ^ m * 2 ^ (64 - m) = 18446744073709551616 := by rw [← Int.pow_add, show m + (64 - m) = 64 by omega]; decide
    have p : (0 : Int) < 2 ^ (64 - m) := Int.pow_pos (by decide)
    have := Int.mul_lt_mul_of_pos_right m3 p
    omega
end Go.Proofs.Ytpophefonhpnmaa.Q
end

section
/- The quotient and the remainder of a number of 128 bits by one of 64 bits: math/bits.Div64 as printed, for every divisor greater than the upper half. -/
namespace Go.Proofs.Ytpophefonhpnmaa.Q
open Go.RowKit Go.Proofs.YtpophefonhpnmaaW.PrintWords Go.Proofs.YtpophefonhpnmaaW.PrintLast Go.Proofs.YtpophefonhpnmaaW.PrintMore
set_option linter.unusedVariables false
set_option linter.unusedSimpArgs false

theorem ev_fun {α : Type} {g : Nat → Option α} {r r' : α} (h : Ev g r) (e : r = r') : Ev g r' := e ▸ h

/-- One step of the search for a digit, in plain numbers. -/
theorem digit_facts {Y y1 y0 u A n1 q r : Int} (hY : Y = y1 * 4294967296 + y0) (h1 : 2147483648 ≤ y1) (h2 : y1 < 4294967296) (h3 : 0 ≤ y0) (h4 : y0 < 4294967296)
    (hn : 0 ≤ n1) (hn' : n1 < 4294967296) (hA : A = u * 4294967296 + n1) (hu : 0 ≤ u) (huY : u < Y) (hr : r = u - q * y1) (hr0 : 0 ≤ r) (hq1 : q ≤ 4294967297) (hq : A / Y ≤ q) :
    (q ≥ 4294967296 → A / Y ≤ q - 1) ∧ (q * y0 > 4294967296 * r + n1 → A / Y ≤ q - 1) ∧ (q < 4294967296 → ¬ q * y0 > 4294967296 * r + n1 → A / Y = q)
    ∧ (A / Y ≤ q - 1 → r + y1 ≥ 4294967296 → A / Y = q - 1) ∧ 0 ≤ A / Y ∧ A / Y < 4294967296 := by
  have hYp : 0 < Y := by omega
  have hA0 : 0 ≤ A := by omega
  have hQ0 : 0 ≤ A / Y := Int.ediv_nonneg hA0 (by omega)
  have hQ1 : A / Y < 4294967296 := by
    rw [Int.ediv_lt_iff_lt_mul hYp]; omega
  have eU : q * Y = A - n1 - r * 4294967296 + q * y0 := by
    rw [hY, hA, hr]; grind
  have k := Int.le_ediv_iff_mul_le (a := q) (b := A) hYp
  have k' := Int.le_ediv_iff_mul_le (a := q - 1) (b := A) hYp
  have eU' : (q - 1) * Y = q * Y - Y := by grind
  refine ⟨by omega, fun h => ?_, fun _ h => ?_, fun hle hr1 => ?_, hQ0, hQ1⟩
  · rcases Int.lt_or_le (A / Y) q with h' | h'
    · omega
    · have := k.mp h'; omega
  · have : q * Y ≤ A := by omega
    have := k.mpr this; omega
  · have b : (q - 1) * y0 ≤ 4294967296 * 4294967295 := Int.mul_le_mul (by omega) (by omega) h3 (by omega)
    have e : (q - 1) * y0 = q * y0 - y0 := by grind
    have : (q - 1) * Y ≤ A := by omega
    have := k'.mpr this; omega

theorem div_l0 {Y s y1 y0 u n1 n0 : Int} {R : Int × Int} (hY : Y = y1 * 4294967296 + y0) (h1 : 2147483648 ≤ y1) (h2 : y1 < 4294967296) (h3 : 0 ≤ y0) (h4 : y0 < 4294967296)
    (hn : 0 ≤ n1) (hn' : n1 < 4294967296) (hu : 0 ≤ u) (huY : u < Y) (H : Ev (fun k => bits_Div64.j2 k Y s y1 y0 u n1 n0 ((u * 4294967296 + n1) / Y)) R) (n : Nat) :
    ∀ q r : Int, r = u - q * y1 → 0 ≤ r → r < 4294967296 → q ≤ 4294967297 → (u * 4294967296 + n1) / Y ≤ q → 4294967296 - r ≤ n → Ev (fun k => bits_Div64.l0 k Y s y1 y0 u n1 n0 q r) R := by
  induction n with
  | zero => intro q r _ _ _ _ _ _; omega
  | succ n ih =>
    intro q r hr hr0 hr1 hq1 hq hm
    obtain ⟨f1, f2, f3, f4, f5, f6⟩ := digit_facts hY h1 h2 h3 h4 hn hn' rfl hu huY hr hr0 hq1 hq
    generalize hA : (u * 4294967296 + n1) / Y = Q at *
    have go : Q ≤ q - 1 → Ev (fun k => bits_Div64.j1 k Y s y1 y0 u n1 n0 q r true) R := by
      intro hle
      by_cases c : r + y1 ≥ 4294967296
      · refine Ev.step (fun k => by rw [bits_Div64.j1, if_pos rfl, uw_id (x := r + y1) (by omega) (by omega), if_pos c, uw_id (x := q - 1) (by omega) (by omega)]) ?_
        rw [← f4 hle c]; exact H
      · refine Ev.step (fun k => by rw [bits_Div64.j1, if_pos rfl, uw_id (x := r + y1) (by omega) (by omega), if_neg c, uw_id (x := q - 1) (by omega) (by omega)]) ?_
        exact ih (q - 1) (r + y1) (by rw [hr]; grind) (by omega) (by omega) (by omega) hle (by omega)
    by_cases c : q ≥ 4294967296
    · exact Ev.step (fun k => by rw [bits_Div64.l0, if_pos c]) (go (f1 c))
    · have b0 : 0 ≤ q * y0 := Int.mul_nonneg (by omega) h3
      have b1 : q * y0 ≤ 4294967295 * 4294967295 := Int.mul_le_mul (by omega) (by omega) h3 (by omega)
      have e : decide ((IntKind.u64.wrap (q * y0)) > (IntKind.u64.wrap ((IntKind.u64.wrap (4294967296 * r)) + n1))) = decide (q * y0 > 4294967296 * r + n1) := by
        rw [uw_id (x := q * y0) b0 (by omega), uw_id (x := 4294967296 * r) (by omega) (by omega), uw_id (by omega) (by omega)]
      by_cases d : q * y0 > 4294967296 * r + n1
      · exact Ev.step (fun k => by rw [bits_Div64.l0, if_neg c, e, decide_eq_true d]) (go (f2 d))
      · refine Ev.step (fun k => by rw [bits_Div64.l0, if_neg c, e, decide_eq_false d]) ?_
        refine Ev.step (fun k => by rw [bits_Div64.j1, if_neg (by decide)]) ?_
        rw [← f3 (by omega) d]; exact H

theorem div_end {Y y1 u n0 q1 s A : Int} (hY0 : 0 < Y) (hY1 : Y < 18446744073709551616) (hA : A = u * 4294967296 + n0) (hq1 : 0 ≤ q1) (hq1' : q1 < 4294967296) (hQ : 0 ≤ A / Y) (hQ1 : A / Y < 4294967296) :
    (IntKind.u64.wrap ((IntKind.u64.wrap (q1 * 4294967296)) + A / Y), shr .u64 (IntKind.u64.wrap ((IntKind.u64.wrap ((IntKind.u64.wrap (u * 4294967296)) + n0)) - (IntKind.u64.wrap ((A / Y) * Y)))) s)
      = (q1 * 4294967296 + A / Y, shr .u64 (A % Y) s) := by
  have h := Int.emod_add_mul_ediv A Y
  have h0 := Int.emod_nonneg A (show Y ≠ 0 by omega)
  have h1 := Int.emod_lt_of_pos A hY0
  have hc : Y * (A / Y) = A / Y * Y := Int.mul_comm _ _
  rw [hc] at h
  generalize A / Y * Y = P at *
  generalize A / Y = Q at *
  have e : (u * 4294967296 % 18446744073709551616 + n0) % 18446744073709551616 = A % 18446744073709551616 := by rw [hA]; omega
  rw [uw, uw, uw, uw, uw, uw, e]
  congr 1
  · omega
  · congr 1; omega

theorem div_l1 {Y s y1 y0 u n0 q1 : Int} (hY : Y = y1 * 4294967296 + y0) (h1 : 2147483648 ≤ y1) (h2 : y1 < 4294967296) (h3 : 0 ≤ y0) (h4 : y0 < 4294967296)
    (hn : 0 ≤ n0) (hn' : n0 < 4294967296) (hu : 0 ≤ u) (huY : u < Y) (hq1 : 0 ≤ q1) (hq1' : q1 < 4294967296) (hs : 0 ≤ s) (n : Nat) :
    ∀ q r : Int, r = u - q * y1 → 0 ≤ r → r < 4294967296 → q ≤ 4294967297 → (u * 4294967296 + n0) / Y ≤ q → 4294967296 - r ≤ n →
      Ev (fun k => bits_Div64.l1 k Y s y1 y0 n0 q1 r u q) (q1 * 4294967296 + (u * 4294967296 + n0) / Y, shr .u64 ((u * 4294967296 + n0) % Y) s) := by
  induction n with
  | zero => intro q r _ _ _ _ _ _; omega
  | succ n ih =>
    intro q r hr hr0 hr1 hq1 hq hm
    obtain ⟨f1, f2, f3, f4, f5, f6⟩ := digit_facts hY h1 h2 h3 h4 hn hn' rfl hu huY hr hr0 hq1 hq
    have fin := div_end (Y := Y) (y1 := y1) (u := u) (n0 := n0) (q1 := q1) (s := s) (by omega) (by omega) rfl (by omega) (by omega) f5 f6
    generalize hA : u * 4294967296 + n0 = A at *
    have go : A / Y ≤ q - 1 → Ev (fun k => bits_Div64.j4 k Y s y1 y0 n0 q1 r u q true) (q1 * 4294967296 + A / Y, shr .u64 (A % Y) s) := by
      intro hle
      by_cases c : r + y1 ≥ 4294967296
      · have e := f4 hle c
        refine Ev.step (f := fun _ => some (q1 * 4294967296 + A / Y, shr .u64 (A % Y) s)) (fun k => ?_) (Ev.now _)
        rw [bits_Div64.j4, if_pos rfl, uw_id (x := r + y1) (by omega) (by omega), if_pos c, uw_id (x := q - 1) (by omega) (by omega), if_pos hs, ← e]
        rw [fin]
      · refine Ev.step (fun k => by rw [bits_Div64.j4, if_pos rfl, uw_id (x := r + y1) (by omega) (by omega), if_neg c, uw_id (x := q - 1) (by omega) (by omega)]) ?_
        exact ih (q - 1) (r + y1) (by rw [hr]; grind) (by omega) (by omega) (by omega) hle (by omega)
    by_cases c : q ≥ 4294967296
    · exact Ev.step (fun k => by rw [bits_Div64.l1, if_pos c]) (go (f1 c))
    · have b0 : 0 ≤ q * y0 := Int.mul_nonneg (by omega) h3
      have b1 : q * y0 ≤ 4294967295 * 4294967295 := Int.mul_le_mul (by omega) (by omega) h3 (by omega)
      have e : decide ((IntKind.u64.wrap (q * y0)) > (IntKind.u64.wrap ((IntKind.u64.wrap (4294967296 * r)) + n0))) = decide (q * y0 > 4294967296 * r + n0) := by
        rw [uw_id (x := q * y0) b0 (by omega), uw_id (x := 4294967296 * r) (by omega) (by omega), uw_id (by omega) (by omega)]
      by_cases d : q * y0 > 4294967296 * r + n0
      · exact Ev.step (fun k => by rw [bits_Div64.l1, if_neg c, e, decide_eq_true d]) (go (f2 d))
      · refine Ev.step (fun k => by rw [bits_Div64.l1, if_neg c, e, decide_eq_false d]) ?_
        have e := f3 (by omega) d
        refine Ev.step (f := fun _ => some (q1 * 4294967296 + A / Y, shr .u64 (A % Y) s)) (fun k => ?_) (Ev.now _)
        rw [bits_Div64.j4, if_neg (by decide), if_pos hs, ← e]
        rw [fin]

theorem tdiv_eq {a b : Int} (ha : 0 ≤ a) : Int.tdiv a b = a / b := Int.tdiv_eq_ediv_of_nonneg ha
theorem tmod_eq {a b : Int} (ha : 0 ≤ a) : Int.tmod a b = a % b := Int.tmod_eq_emod_of_nonneg ha

/-- The first guess of a digit. -/
theorem guess {Y y1 y0 u A n1 : Int} (hY : Y = y1 * 4294967296 + y0) (h1 : 2147483648 ≤ y1) (h2 : y1 < 4294967296) (h3 : 0 ≤ y0) (h4 : y0 < 4294967296)
    (hn : 0 ≤ n1) (hn' : n1 < 4294967296) (hA : A = u * 4294967296 + n1) (hu : 0 ≤ u) (huY : u < Y) :
    0 ≤ u / y1 ∧ u / y1 ≤ 4294967297 ∧ A / Y ≤ u / y1 ∧ u - u / y1 * y1 = u % y1 ∧ 0 ≤ u % y1 ∧ u % y1 < 4294967296 := by
  have e := Int.emod_add_mul_ediv u y1
  have e0 := Int.emod_nonneg u (show y1 ≠ 0 by omega)
  have e1 := Int.emod_lt_of_pos u (show 0 < y1 by omega)
  have e2 : y1 * (u / y1) = u / y1 * y1 := Int.mul_comm _ _
  refine ⟨Int.ediv_nonneg hu (by omega), ?_, ?_, by omega, e0, by omega⟩
  · have : u / y1 < 4294967298 := by rw [Int.ediv_lt_iff_lt_mul (by omega)]; omega
    omega
  · -- (A / Y) * Y ≤ A, hence (A / Y) * y1 * 2^32 ≤ A, hence (A / Y) * y1 ≤ u
    have hYp : 0 < Y := by omega
    have k := (Int.le_ediv_iff_mul_le (a := A / Y) (b := A) hYp).mp (Int.le_refl _)
    have hQ0 : 0 ≤ A / Y := Int.ediv_nonneg (by omega) (by omega)
    have m0 : 0 ≤ A / Y * y0 := Int.mul_nonneg hQ0 h3
    have eU : A / Y * Y = A / Y * y1 * 4294967296 + A / Y * y0 := by
      generalize A / Y = Q; rw [hY]; grind
    rw [Int.le_ediv_iff_mul_le (by omega)]
    omega

theorem div_j2 {Y s y1 y0 u n1 n0 : Int} (hY : Y = y1 * 4294967296 + y0) (h1 : 2147483648 ≤ y1) (h2 : y1 < 4294967296) (h3 : 0 ≤ y0) (h4 : y0 < 4294967296)
    (hn : 0 ≤ n1) (hn' : n1 < 4294967296) (hm : 0 ≤ n0) (hm' : n0 < 4294967296) (hu : 0 ≤ u) (huY : u < Y) (hs : 0 ≤ s) :
    Ev (fun k => bits_Div64.j2 k Y s y1 y0 u n1 n0 ((u * 4294967296 + n1) / Y))
      ((u * 18446744073709551616 + n1 * 4294967296 + n0) / Y, shr .u64 ((u * 18446744073709551616 + n1 * 4294967296 + n0) % Y) s) := by
  have hYp : 0 < Y := by omega
  have h := Int.emod_add_mul_ediv (u * 4294967296 + n1) Y
  have h0 := Int.emod_nonneg (u * 4294967296 + n1) (show Y ≠ 0 by omega)
  have h1' := Int.emod_lt_of_pos (u * 4294967296 + n1) hYp
  have hc : Y * ((u * 4294967296 + n1) / Y) = (u * 4294967296 + n1) / Y * Y := Int.mul_comm _ _
  have hQ0 : 0 ≤ (u * 4294967296 + n1) / Y := Int.ediv_nonneg (by omega) (by omega)
  have hQ1 : (u * 4294967296 + n1) / Y < 4294967296 := by rw [Int.ediv_lt_iff_lt_mul hYp]; omega
  generalize hQ : (u * 4294967296 + n1) / Y = Q1 at *
  generalize hV : (u * 4294967296 + n1) % Y = V at *
  have eV : IntKind.u64.wrap ((IntKind.u64.wrap ((IntKind.u64.wrap (u * 4294967296)) + n1)) - (IntKind.u64.wrap (Q1 * Y))) = V := by
    rw [uw, uw, uw, uw]; omega
  obtain ⟨g0, g1, g2, g3, g4, g5⟩ := guess (A := V * 4294967296 + n0) hY h1 h2 h3 h4 hm hm' rfl h0 h1'
  have eN : u * 18446744073709551616 + n1 * 4294967296 + n0 = V * 4294967296 + n0 + (Q1 * 4294967296) * Y := by
    have : (Q1 * 4294967296) * Y = Q1 * Y * 4294967296 := by grind
    omega
  have eD : (u * 18446744073709551616 + n1 * 4294967296 + n0) / Y = Q1 * 4294967296 + (V * 4294967296 + n0) / Y := by
    rw [eN, Int.add_mul_ediv_right _ _ (by omega)]; omega
  have eM : (u * 18446744073709551616 + n1 * 4294967296 + n0) % Y = (V * 4294967296 + n0) % Y := by
    rw [eN, Int.add_mul_emod_self_right]
  rw [eD, eM]
  refine Ev.step (f := fun k => bits_Div64.l1 k Y s y1 y0 n0 Q1 (V % y1) V (V / y1)) (fun k => ?_) ?_
  · rw [bits_Div64.j2, if_neg (by omega), eV, tdiv_eq h0, uw_id (x := V / y1) g0 (by omega)]
    rw [uw, uw]
    congr 1
    omega
  · exact div_l1 hY h1 h2 h3 h4 hm hm' h0 h1' hQ0 hQ1 hs 4294967296 _ _ g3.symm g4 g5 g1 g2 (by omega)
end Go.Proofs.Ytpophefonhpnmaa.Q
end

section
/- math/bits.Div64 as printed returns the quotient and the remainder of hi * 2^64 + lo by y, for every y greater than hi. -/
namespace Go.Proofs.Ytpophefonhpnmaa.Q
open Go.RowKit Go.Proofs.YtpophefonhpnmaaW.PrintWords Go.Proofs.YtpophefonhpnmaaW.PrintLast Go.Proofs.YtpophefonhpnmaaW.PrintMore
set_option linter.unusedVariables false
set_option linter.unusedSimpArgs false

theorem shl64 {x : Int} {s : Nat} (hs : s ≤ 64) : shl .u64 x (s : Int) = (x * 2 ^ s) % 18446744073709551616 := by
  unfold shl; rw [uw, Int.toNat_natCast, show IntKind.u64.bits = 64 from rfl, Nat.min_eq_left hs]
theorem shr64 {x : Int} {s : Nat} (hs : s ≤ 64) : shr .u64 x (s : Int) = x / 2 ^ s := by
  unfold shr; rw [Int.toNat_natCast, show IntKind.u64.bits = 64 from rfl, Nat.min_eq_left hs]

theorem div64 {hi lo y : Int} (h0 : 0 ≤ hi) (h1 : hi < y) (h2 : y < 18446744073709551616) (l0 : 0 ≤ lo) (l1 : lo < 18446744073709551616) :
    Ev (fun k => bits_Div64.f k hi lo y) ((hi * 18446744073709551616 + lo) / y, (hi * 18446744073709551616 + lo) % y) := by
  by_cases hz : hi = 0
  · subst hz
    refine Ev.congr (f := fun _ => some (lo / y, lo % y)) (fun k => ?_) ?_
    · unfold bits_Div64.f
      rw [if_neg (by omega), if_neg (by omega), if_pos rfl, tdiv_eq l0, tmod_eq l0, uw_id (Int.ediv_nonneg l0 (by omega))]
      have := Int.ediv_le_self y l0
      omega
    · rw [show 0 * 18446744073709551616 + lo = lo by omega]; exact Ev.now _
  · obtain ⟨K, hK⟩ : ∃ K, ∀ k, K ≤ k → bits_Div64.f k hi lo y = some ((hi * 18446744073709551616 + lo) / y, (hi * 18446744073709551616 + lo) % y) := by
      obtain ⟨s, hs, hsv, hY0, hY1⟩ := lz64 (y := y) (by omega) h2 0
      have hsE : Ev (fun k => bits_LeadingZeros64.f k y) (s : Int) := Ev.of (fun k => bits_LeadingZeros64.mono _ _) hsv
      have hP : (0 : Int) < 2 ^ s := Int.pow_pos (by decide)
      have hPP : (2 : Int) ^ s * 2 ^ (64 - s) = 18446744073709551616 := by rw [← Int.pow_add, show s + (64 - s) = 64 by omega]; decide
      have hP' : (0 : Int) < 2 ^ (64 - s) := Int.pow_pos (by decide)
      have hb : hi * 2 ^ s < y * 2 ^ s := Int.mul_lt_mul_of_pos_right h1 hP
      have hb0 : 0 ≤ hi * 2 ^ s := Int.mul_nonneg h0 (by omega)
      have hlo0 : 0 ≤ lo * 2 ^ s := Int.mul_nonneg l0 (by omega)
      -- the low part of the dividend that moves up
      have hdl : lo / 2 ^ (64 - s) = lo * 2 ^ s / 18446744073709551616 := by
        rw [← hPP, Int.mul_comm lo, Int.mul_ediv_mul_of_pos _ _ hP]
      have hlt : lo * 2 ^ s < 18446744073709551616 * 2 ^ s := Int.mul_lt_mul_of_pos_right l1 hP
      have hdlt : lo * 2 ^ s / 18446744073709551616 < 2 ^ s := by
        rw [Int.ediv_lt_iff_lt_mul (by decide), Int.mul_comm (2 ^ s)]; exact hlt
      have hd0 : 0 ≤ lo * 2 ^ s / 18446744073709551616 := Int.ediv_nonneg hlo0 (by decide)
      have e1 : shl .u64 y (s : Int) = y * 2 ^ s := by rw [shl64 (by omega)]; omega
      have e2 : shl .u64 hi (s : Int) = hi * 2 ^ s := by rw [shl64 (by omega)]; omega
      have e3 : shl .u64 lo (s : Int) = lo * 2 ^ s % 18446744073709551616 := shl64 (by omega)
      have e4 : shr .u64 lo (IntKind.u64.wrap (64 - IntKind.u64.wrap (s : Int))) = lo * 2 ^ s / 18446744073709551616 := by
        rw [uw_id (x := (s : Int)) (by omega) (by omega), uw_id (by omega) (by omega), show (64 : Int) - (s : Int) = ((64 - s : Nat) : Int) by omega, shr64 (by omega), hdl]
      have hle : hi * 2 ^ s + 2 ^ s ≤ y * 2 ^ s := by
        have := Int.mul_le_mul_of_nonneg_right (show hi + 1 ≤ y by omega) (Int.le_of_lt hP)
        rw [Int.add_mul, Int.one_mul] at this; exact this
      have e5 : Go.bits .or .u64 (hi * 2 ^ s) (lo * 2 ^ s / 18446744073709551616) = hi * 2 ^ s + lo * 2 ^ s / 18446744073709551616 :=
        Go.bits_join .u64 64 (by decide) (fun n h h' => by rw [uw]; omega) s _ _ hb0 (Int.mul_emod_left _ _) (by omega) hd0 hdlt (by omega)
      -- the whole
      have key := div_j2 (Y := y * 2 ^ s) (s := (s : Int)) (y1 := y * 2 ^ s / 4294967296) (y0 := y * 2 ^ s % 4294967296) (u := hi * 2 ^ s + lo * 2 ^ s / 18446744073709551616)
        (n1 := lo * 2 ^ s % 18446744073709551616 / 4294967296) (n0 := lo * 2 ^ s % 18446744073709551616 % 4294967296)
        (by omega) (by omega) (by omega) (by omega) (by omega) (by omega) (by omega) (by omega) (by omega) (by omega) (by omega) (by omega)
      have hN : (hi * 2 ^ s + lo * 2 ^ s / 18446744073709551616) * 18446744073709551616 + lo * 2 ^ s % 18446744073709551616 / 4294967296 * 4294967296 + lo * 2 ^ s % 18446744073709551616 % 4294967296
          = (hi * 18446744073709551616 + lo) * 2 ^ s := by
        have : (hi * 18446744073709551616 + lo) * 2 ^ s = hi * 2 ^ s * 18446744073709551616 + lo * 2 ^ s := by grind
        omega
      have eM : (hi * 18446744073709551616 + lo) * 2 ^ s % (y * 2 ^ s) = (hi * 18446744073709551616 + lo) % y * 2 ^ s := by
        rw [Int.mul_comm _ (2 ^ s), Int.mul_comm y, Int.mul_emod_mul_of_pos _ _ hP, Int.mul_comm]
      rw [hN, Int.mul_ediv_mul_of_pos_left _ _ hP, eM, shr64 (by omega), Int.mul_ediv_cancel _ (by omega)] at key
      obtain ⟨g0, g1, g2, g3, g4, g5⟩ := guess (Y := y * 2 ^ s) (y1 := y * 2 ^ s / 4294967296) (y0 := y * 2 ^ s % 4294967296) (u := hi * 2 ^ s + lo * 2 ^ s / 18446744073709551616)
        (A := (hi * 2 ^ s + lo * 2 ^ s / 18446744073709551616) * 4294967296 + lo * 2 ^ s % 18446744073709551616 / 4294967296) (n1 := lo * 2 ^ s % 18446744073709551616 / 4294967296)
        (by omega) (by omega) (by omega) (by omega) (by omega) (by omega) (by omega) rfl (by omega) (by omega)
      have key2 := div_l0 (Y := y * 2 ^ s) (s := (s : Int)) (y1 := y * 2 ^ s / 4294967296) (y0 := y * 2 ^ s % 4294967296) (u := hi * 2 ^ s + lo * 2 ^ s / 18446744073709551616)
        (n1 := lo * 2 ^ s % 18446744073709551616 / 4294967296) (n0 := lo * 2 ^ s % 18446744073709551616 % 4294967296)
        (by omega) (by omega) (by omega) (by omega) (by omega) (by omega) (by omega) (by omega) (by omega) key 4294967296 _ _ g3.symm g4 g5 g1 g2 (by omega)
      obtain ⟨K1, h1'⟩ := hsE
      obtain ⟨K2, h2'⟩ := key2
      refine ⟨max K1 K2, fun k hk => ?_⟩
      unfold bits_Div64.f
      rw [if_neg (by omega), if_neg (by omega), if_neg hz, show bits_LeadingZeros64.f k y = some (s : Int) from h1' k (by omega)]
      simp only [Option.bind_some]
      rw [e4, uw_id (x := (s : Int)) (by omega) (by omega), if_pos (by omega), uw_id (x := 64 - (s : Int)) (by omega) (by omega), if_pos (by omega), e1, e2, e3, e5,
        if_neg (by omega), u64_mask32 (by omega) (by omega), u64_mask32 (by omega) (by omega), tdiv_eq (by omega), uw_id (x := _ / _) g0 (by omega), uw, uw]
      have hmm : ((hi * 2 ^ s + lo * 2 ^ s / 18446744073709551616) - (hi * 2 ^ s + lo * 2 ^ s / 18446744073709551616) / (y * 2 ^ s / 4294967296) * (y * 2 ^ s / 4294967296) % 18446744073709551616) % 18446744073709551616
          = (hi * 2 ^ s + lo * 2 ^ s / 18446744073709551616) % (y * 2 ^ s / 4294967296) := by omega
      rw [hmm]
      exact h2' k (by omega)
    exact ⟨K, hK⟩
end Go.Proofs.Ytpophefonhpnmaa.Q
end

section
/- Package num of the program in plain numbers: products of 128 bits, their sums, order, quotients and remainders; the bounds stand in each statement. -/
namespace Go.Proofs.Ytpophefonhpnmaa.Q
open Go.RowKit Go.Proofs.YtpophefonhpnmaaW.PrintWords Go.Proofs.YtpophefonhpnmaaW.PrintLast Go.Proofs.YtpophefonhpnmaaW.PrintMore
set_option linter.unusedVariables false
set_option linter.unusedSimpArgs false

/-- What a product of two numbers of 64 bits lies between. -/
theorem prod_bd {a b : Int} (a0 : -9223372036854775808 ≤ a) (a1 : a < 9223372036854775808) (b0 : -9223372036854775808 ≤ b) (b1 : b < 9223372036854775808) :
    -85070591730234615865843651857942052864 ≤ a * b ∧ a * b ≤ 85070591730234615865843651857942052864 := by
  have h : (a * b).natAbs ≤ 9223372036854775808 * 9223372036854775808 := by
    rw [Int.natAbs_mul]; exact Nat.mul_le_mul (by omega) (by omega)
  omega

theorem wide_neg {v : Int} (h0 : -170141183460469231731687303715884105728 < v) (h1 : v < 170141183460469231731687303715884105728) :
    num_Wide_Neg.f (v / 18446744073709551616) (v % 18446744073709551616) = some (-v / 18446744073709551616, -v % 18446744073709551616) := by
  unfold num_Wide_Neg.f
  rw [if_pos (by omega), if_pos (by omega)]
  congr 2
  · unfold wrap64; omega
  · omega

theorem wide_plus {u v : Int} (h0 : -170141183460469231731687303715884105728 ≤ u + v) (h1 : u + v < 170141183460469231731687303715884105728) :
    num_Wide_Plus.f (u / 18446744073709551616) (u % 18446744073709551616) (v / 18446744073709551616) (v % 18446744073709551616)
      = some ((u + v) / 18446744073709551616, (u + v) % 18446744073709551616) := by
  unfold num_Wide_Plus.f
  rw [if_pos (by omega), if_pos (by omega), if_pos (by omega), if_pos (by omega)]
  congr 2
  · unfold wrap64; omega
  · omega

theorem product {a b : Int} (a0 : -9223372036854775808 ≤ a) (a1 : a < 9223372036854775808) (b0 : -9223372036854775808 ≤ b) (b1 : b < 9223372036854775808) :
    num_Product.f a b = some (a * b / 18446744073709551616, a * b % 18446744073709551616) := by
  have hb := prod_bd a0 a1 b0 b1
  unfold num_Product.f
  rw [size_some a0 a1, size_some b0 b1]
  simp only [Option.bind_some]
  rw [mul64 (by split <;> omega) (by split <;> omega) (by split <;> omega) (by split <;> omega)]
  simp only [Option.bind_some]
  by_cases ha : a < 0 <;> by_cases hc : b < 0
  · rw [if_pos ha, if_pos hc, if_neg (by simp [ha, hc]), Int.neg_mul_neg]
    congr 2
    unfold wrap64; omega
  · rw [if_pos ha, if_neg hc, if_pos (by simp [ha]; omega), Int.neg_mul, w64_id (by omega) (by omega), wide_neg (by omega) (by omega)]
    simp only [Option.bind_some, Int.neg_neg]
  · rw [if_neg ha, if_pos hc, if_pos (by simp [hc]; omega), Int.mul_neg, w64_id (by omega) (by omega), wide_neg (by omega) (by omega)]
    simp only [Option.bind_some, Int.neg_neg]
  · rw [if_neg ha, if_neg hc, if_neg (by simp [ha, hc])]
    congr 2
    unfold wrap64; omega

/-- Division of a negative number: by that of the opposite one. -/
theorem neg_div {v d : Int} (hd : 0 < d) : v / d = (if -v % d = 0 then -(-v / d) else -(-v / d) - 1) ∧ v % d = (if -v % d = 0 then 0 else d - -v % d) := by
  have e := Int.emod_add_mul_ediv (-v) d
  have h0 := Int.emod_nonneg (-v) (show d ≠ 0 by omega)
  have h1 := Int.emod_lt_of_pos (-v) hd
  split
  · exact (Int.ediv_emod_unique hd).mpr ⟨by rw [Int.mul_neg]; omega, by omega, by omega⟩
  · exact (Int.ediv_emod_unique hd).mpr ⟨by rw [Int.mul_sub, Int.mul_neg]; omega, by omega, by omega⟩

theorem div_bd {v d : Int} (h0 : 0 ≤ v) (hd : 0 < d) : 0 ≤ v / d ∧ v / d ≤ v := ⟨Int.ediv_nonneg h0 (by omega), Int.ediv_le_self d h0⟩

theorem bind_ev {α β : Type} {g : Nat → Option α} {f : Nat → α → Option β} {a : α} {r : β} (h : Ev g a) (k : Ev (fun n => f n a) r) : Ev (fun n => (g n).bind (f n)) r := Ev.bind h k
theorem one_ev {α : Type} {g : Nat → Option α} {r : α} (h : ∀ k, g (k + 1) = some r) : Ev g r := Ev.step (f := fun _ => some r) h (Ev.now _)
theorem now_ev {α : Type} {g : Nat → Option α} {r : α} (h : ∀ k, g k = some r) : Ev g r := Ev.congr (f := fun _ => some r) h (Ev.now _)

theorem wide_div_j1 {p r : Int} (neg : Bool) {h l : Int} (hn : (h < 0) = (neg = true)) (hp0 : 0 ≤ p) (hp1 : p < 18446744073709551616) (hr : 0 ≤ r) :
    Ev (fun k => num_Wide_Div.j1 k p r (if neg then (if r > 0 then 9223372036854775807 else 9223372036854775808) else 9223372036854775807) h l)
      (if neg then (if r = 0 then (if p ≤ 9223372036854775808 then (-p, 0) else (0, 2)) else (if p ≤ 9223372036854775807 then (-p - 1, 0) else (0, 2)))
        else (if p ≤ 9223372036854775807 then (p, 0) else (0, 2))) := by
  refine one_ev fun k => ?_
  rw [num_Wide_Div.j1]
  cases neg
  · have hh : ¬ h < 0 := by rw [hn]; decide
    simp only [Bool.false_eq_true, if_false]
    by_cases c : p ≤ 9223372036854775807
    · rw [if_neg (by omega), if_pos (by omega), if_pos c, w64_id (by omega) (by omega)]
    · rw [if_pos (by omega), if_neg c]
  · have hh : h < 0 := by rw [hn]
    simp only [if_true]
    by_cases z : r = 0
    · rw [if_neg (show ¬ r > 0 by omega), if_pos z]
      by_cases c : p ≤ 9223372036854775808
      · rw [if_neg (by omega), if_neg (by omega), if_neg (by omega), if_pos c, uw_wrap64, w64_id (by omega) (by omega)]
      · rw [if_pos (by omega), if_neg c]
    · rw [if_pos (show r > 0 by omega), if_neg z]
      by_cases c : p ≤ 9223372036854775807
      · rw [if_neg (by omega), if_neg (by omega), if_pos (by omega), if_pos c, uw_wrap64, w64_id (x := -p) (by omega) (by omega), w64_id (by omega) (by omega)]
      · rw [if_pos (by omega), if_neg c]

theorem some_ev {α β : Type} {g : Option α} {f : Nat → α → Option β} {a : α} {r : β} (h : g = some a) (k : Ev (fun n => f n a) r) : Ev (fun n => g.bind (f n)) r := by
  subst h; exact k
theorem pos_ev {α : Type} {c : Prop} [Decidable c] {g f : Nat → Option α} {r : α} (h : c) (k : Ev g r) : Ev (fun n => if c then g n else f n) r := by
  simp only [if_pos h]; exact k
theorem neg_ev {α : Type} {c : Prop} [Decidable c] {g f : Nat → Option α} {r : α} (h : ¬ c) (k : Ev f r) : Ev (fun n => if c then g n else f n) r := by
  simp only [if_neg h]; exact k

/-- Whether a number has 64 bits, with sign. -/
def fits (n : Int) : Bool := decide (-9223372036854775808 ≤ n) && decide (n ≤ 9223372036854775807)

theorem wide_div {v d : Int} (h0 : -170141183460469231731687303715884105728 ≤ v) (h1 : v < 170141183460469231731687303715884105728) (hd1 : d < 9223372036854775808) :
    Ev (fun k => num_Wide_Div.f k (v / 18446744073709551616) (v % 18446744073709551616) d) (if d < 1 then (0, 1) else if fits (v / d) then (v / d, 0) else (0, 2)) := by
  by_cases hd : d < 1
  · rw [if_pos hd]; exact now_ev fun k => by unfold num_Wide_Div.f; rw [if_pos hd]
  rw [if_neg hd]
  have hdp : 0 < d := by omega
  by_cases hv : v < 0
  · by_cases hm : v = -170141183460469231731687303715884105728
    · subst hm
      have hf : fits (-170141183460469231731687303715884105728 / d) = false := by
        have : -170141183460469231731687303715884105728 / d < -9223372036854775808 := by rw [Int.ediv_lt_iff_lt_mul hdp]; omega
        unfold fits; rw [decide_eq_false (by omega)]; rfl
      rw [hf]
      refine Ev.congr (f := fun k => num_Wide_Div.j0 k d (-9223372036854775808) 0 (-9223372036854775808) 0) (fun k => ?_) ?_
      · unfold num_Wide_Div.f
        rw [if_neg hd, if_pos (by omega)]
        have : num_Wide_Neg.f (-170141183460469231731687303715884105728 / 18446744073709551616) (-170141183460469231731687303715884105728 % 18446744073709551616) = some (-9223372036854775808, 0) := by decide +kernel
        rw [this]
        rfl
      · refine one_ev fun k => ?_
        rw [num_Wide_Div.j0, if_pos (by rw [uw, uw]; omega)]
        rfl
    · have b := div_bd (v := -v) (d := d) (by omega) hdp
      have nd := neg_div (v := v) hdp
      have h0' := Int.emod_nonneg (-v) (show d ≠ 0 by omega)
      refine Ev.congr (f := fun k => num_Wide_Div.j0 k d (v / 18446744073709551616) (v % 18446744073709551616) (-v / 18446744073709551616) (-v % 18446744073709551616)) (fun k => ?_) ?_
      · unfold num_Wide_Div.f
        rw [if_neg hd, if_pos (by omega), wide_neg (by omega) (by omega)]
        rfl
      · by_cases c : -v / 18446744073709551616 ≥ d
        · have hq : 18446744073709551616 ≤ -v / d := by rw [Int.le_ediv_iff_mul_le hdp]; omega
          have hf : fits (v / d) = false := by
            unfold fits; rw [decide_eq_false (by rw [nd.1]; split <;> omega)]; rfl
          rw [hf]
          refine one_ev fun k => ?_
          rw [num_Wide_Div.j0, if_pos (by rw [uw, uw]; omega)]
          rfl
        · have D := div64 (hi := -v / 18446744073709551616) (lo := -v % 18446744073709551616) (y := d) (by omega) (by omega) (by omega) (by omega) (by omega)
          rw [show -v / 18446744073709551616 * 18446744073709551616 + -v % 18446744073709551616 = -v by omega] at D
          have hq : -v / d < 18446744073709551616 := by rw [Int.ediv_lt_iff_lt_mul hdp]; omega
          have J := wide_div_j1 (p := -v / d) (r := -v % d) true (h := v / 18446744073709551616) (l := v % 18446744073709551616) (by simp; omega) b.1 hq h0'
          simp only [if_true] at J
          refine Ev.step (f := fun k => (bits_Div64.f k (-v / 18446744073709551616) (-v % 18446744073709551616) d).bind fun bt => num_Wide_Div.j1 k bt.1 bt.2 (if bt.2 > 0 then 9223372036854775807 else 9223372036854775808) (v / 18446744073709551616) (v % 18446744073709551616)) (fun k => ?_) ?_
          · rw [num_Wide_Div.j0, uw_id (x := -v / 18446744073709551616) (by omega) (by omega), uw_id (x := d) (by omega) (by omega), if_neg c]
            congr 1
            funext bt
            rw [if_pos (by omega)]
            split <;> rfl
          · refine ev_fun (Ev.bind D J) ?_
            rw [nd.1]
            unfold fits
            by_cases z : -v % d = 0
            · rw [if_pos z, if_pos z]
              by_cases y : -v / d ≤ 9223372036854775808
              · rw [if_pos y, decide_eq_true (by omega), decide_eq_true (by omega)]; rfl
              · rw [if_neg y, decide_eq_false (by omega)]; rfl
            · rw [if_neg z, if_neg z]
              by_cases y : -v / d ≤ 9223372036854775807
              · rw [if_pos y, decide_eq_true (by omega), decide_eq_true (by omega)]; rfl
              · rw [if_neg y, decide_eq_false (by omega)]; rfl
  · have b := div_bd (v := v) (d := d) (by omega) hdp
    have h0' := Int.emod_nonneg v (show d ≠ 0 by omega)
    refine Ev.congr (f := fun k => num_Wide_Div.j0 k d (v / 18446744073709551616) (v % 18446744073709551616) (v / 18446744073709551616) (v % 18446744073709551616)) (fun k => ?_) ?_
    · unfold num_Wide_Div.f
      rw [if_neg hd, if_neg (by omega)]
    · by_cases c : v / 18446744073709551616 ≥ d
      · have hq : 18446744073709551616 ≤ v / d := by rw [Int.le_ediv_iff_mul_le hdp]; omega
        have hf : fits (v / d) = false := by
          unfold fits; rw [decide_eq_true (by omega), decide_eq_false (by omega)]; rfl
        rw [hf]
        refine one_ev fun k => ?_
        rw [num_Wide_Div.j0, if_pos (by rw [uw, uw]; omega)]
        rfl
      · have D := div64 (hi := v / 18446744073709551616) (lo := v % 18446744073709551616) (y := d) (by omega) (by omega) (by omega) (by omega) (by omega)
        rw [show v / 18446744073709551616 * 18446744073709551616 + v % 18446744073709551616 = v by omega] at D
        have hq : v / d < 18446744073709551616 := by rw [Int.ediv_lt_iff_lt_mul hdp]; omega
        have J := wide_div_j1 (p := v / d) (r := v % d) false (h := v / 18446744073709551616) (l := v % 18446744073709551616) (by simp; omega) b.1 hq h0'
        simp only [Bool.false_eq_true, if_false] at J
        refine Ev.step (f := fun k => (bits_Div64.f k (v / 18446744073709551616) (v % 18446744073709551616) d).bind fun bt => num_Wide_Div.j1 k bt.1 bt.2 9223372036854775807 (v / 18446744073709551616) (v % 18446744073709551616)) (fun k => ?_) ?_
        · rw [num_Wide_Div.j0, uw_id (x := v / 18446744073709551616) (by omega) (by omega), uw_id (x := d) (by omega) (by omega), if_neg c]
          congr 1
          funext bt
          rw [if_neg (by omega)]
        · refine ev_fun (Ev.bind D J) ?_
          unfold fits
          by_cases y : v / d ≤ 9223372036854775807
          · rw [if_pos y, decide_eq_true (by omega), decide_eq_true (by omega)]; rfl
          · rw [if_neg y, decide_eq_true (by omega), decide_eq_false (by omega)]; rfl

theorem wide_mod {v d : Int} (h0 : -170141183460469231731687303715884105728 < v) (h1 : v < 170141183460469231731687303715884105728) (hd1 : d < 9223372036854775808) :
    Ev (fun k => num_Wide_Mod.f k (v / 18446744073709551616) (v % 18446744073709551616) d) (if d < 1 then 0 else v % d) := by
  by_cases hd : d < 1
  · rw [if_pos hd]; exact now_ev fun k => by unfold num_Wide_Mod.f; rw [if_pos hd]
  rw [if_neg hd]
  have hdp : 0 < d := by omega
  -- the upper half may be reduced first
  have red : ∀ u : Int, 0 ≤ u → u < 170141183460469231731687303715884105728 →
      Ev (fun k => bits_Div64.f k (Int.tmod (IntKind.u64.wrap (u / 18446744073709551616)) (IntKind.u64.wrap d)) (u % 18446744073709551616) (IntKind.u64.wrap d))
        ((u / 18446744073709551616 % d * 18446744073709551616 + u % 18446744073709551616) / d, u % d) := by
    intro u u0 u1
    have m0 := Int.emod_nonneg (u / 18446744073709551616) (show d ≠ 0 by omega)
    have m1 := Int.emod_lt_of_pos (u / 18446744073709551616) hdp
    have D := div64 (hi := u / 18446744073709551616 % d) (lo := u % 18446744073709551616) (y := d) m0 m1 (by omega) (by omega) (by omega)
    have e : (u / 18446744073709551616 % d * 18446744073709551616 + u % 18446744073709551616) % d = u % d := by
      have e1 := Int.emod_add_mul_ediv (u / 18446744073709551616) d
      have e2 : u = u / 18446744073709551616 % d * 18446744073709551616 + u % 18446744073709551616 + d * (u / 18446744073709551616 / d * 18446744073709551616) := by
        have : d * (u / 18446744073709551616 / d * 18446744073709551616) = d * (u / 18446744073709551616 / d) * 18446744073709551616 := by grind
        omega
      conv => rhs; rw [e2]
      rw [Int.add_mul_emod_self_left]
    rw [e] at D
    refine Ev.congr (fun k => ?_) D
    rw [uw_id (x := u / 18446744073709551616) (by omega) (by omega), uw_id (x := d) (by omega) (by omega), tmod_eq (by omega)]
  have hw : ¬ IntKind.u64.wrap d = 0 := by rw [uw]; omega
  by_cases hv : v < 0
  · have nd := neg_div (v := v) hdp
    have m0 := Int.emod_nonneg (-v) (show d ≠ 0 by omega)
    have m1 := Int.emod_lt_of_pos (-v) hdp
    refine Ev.congr (f := fun k => (bits_Div64.f k (Int.tmod (IntKind.u64.wrap (-v / 18446744073709551616)) (IntKind.u64.wrap d)) (-v % 18446744073709551616) (IntKind.u64.wrap d)).bind fun bt => if bt.2 > 0 then some (wrap64 (IntKind.u64.wrap (IntKind.u64.wrap d - bt.2))) else some (wrap64 bt.2)) (fun k => ?_) ?_
    · unfold num_Wide_Mod.f
      rw [if_neg hd, if_pos (by omega), wide_neg h0 h1]
      simp only [Option.bind_some]
      rw [if_neg hw]
    · refine Ev.bind (red (-v) (by omega) (by omega)) (now_ev fun k => ?_)
      rw [nd.2]
      by_cases z : -v % d = 0
      · rw [if_neg (by simp only; omega), if_pos z]; simp only [z]; decide +kernel
      · rw [if_pos (by simp only; omega), if_neg z]; simp only; congr 1; rw [uw_id (x := d) (by omega) (by omega), uw_wrap64, w64_id (by omega) (by omega)]
  · have m0 := Int.emod_nonneg v (show d ≠ 0 by omega)
    have m1 := Int.emod_lt_of_pos v hdp
    refine Ev.congr (f := fun k => (bits_Div64.f k (Int.tmod (IntKind.u64.wrap (v / 18446744073709551616)) (IntKind.u64.wrap d)) (v % 18446744073709551616) (IntKind.u64.wrap d)).bind fun bt => some (wrap64 bt.2)) (fun k => ?_) ?_
    · unfold num_Wide_Mod.f
      rw [if_neg hd, if_neg (by omega), if_neg hw]
    · refine Ev.bind (red v (by omega) (by omega)) (now_ev fun k => ?_)
      simp only; congr 1; rw [w64_id (by omega) (by omega)]

theorem cmp_i64 (a b : Int) : cmp_Compare_int64.f a b = some (if a < b then -1 else if a > b then 1 else 0) := by
  unfold cmp_Compare_int64.f cmp_isNaN_int64.f
  simp only [Option.bind_some, bne_self_eq_false, Bool.false_eq_true, if_false]
  split
  · rfl
  · split <;> rfl
theorem cmp_u64 (a b : Int) : cmp_Compare_uint64.f a b = some (if a < b then -1 else if a > b then 1 else 0) := by
  unfold cmp_Compare_uint64.f cmp_isNaN_uint64.f
  simp only [Option.bind_some, bne_self_eq_false, Bool.false_eq_true, if_false]
  split
  · rfl
  · split <;> rfl
theorem or_two (x y : Int) : Ev (fun k => cmp_Or_int.f k [x, y]) (if x = 0 then y else x) := by
  refine Ev.congr (f := fun k => cmp_Or_int.l0 k 0 [x, y] 2 0) (fun k => by unfold cmp_Or_int.f; rfl) ?_
  by_cases hx : x = 0
  · rw [if_pos hx]
    refine Ev.step (f := fun k => cmp_Or_int.l0 k 0 [x, y] 2 1) (fun k => ?_) ?_
    · rw [cmp_Or_int.l0, if_pos (by decide), if_pos (by decide), if_pos (by simp), if_pos (by simpa [rd] using hx), w64_id (by decide) (by decide)]; rfl
    · by_cases hy : y = 0
      · refine Ev.step (f := fun k => cmp_Or_int.l0 k 0 [x, y] 2 2) (fun k => ?_) ?_
        · rw [cmp_Or_int.l0, if_pos (by decide), if_pos (by decide), if_pos (by simp), if_pos (by simpa [rd] using hy), w64_id (by decide) (by decide)]; rfl
        · exact one_ev fun k => by rw [cmp_Or_int.l0, if_neg (by decide), hy]
      · exact one_ev fun k => by rw [cmp_Or_int.l0, if_pos (by decide), if_pos (by decide), if_pos (by simp), if_neg (by simpa [rd] using hy)]; simp [rd]
  · rw [if_neg hx]
    exact one_ev fun k => by rw [cmp_Or_int.l0, if_pos (by decide), if_pos (by decide), if_pos (by simp), if_neg (by simpa [rd] using hx)]; simp [rd]

theorem wide_cmp (u v : Int) : Ev (fun k => num_Wide_Cmp.f k (u / 18446744073709551616) (u % 18446744073709551616) (v / 18446744073709551616) (v % 18446744073709551616)) (if u < v then -1 else if u > v then 1 else 0) := by
  refine Ev.congr (f := fun k => (cmp_Or_int.f k [if u / 18446744073709551616 < v / 18446744073709551616 then -1 else if u / 18446744073709551616 > v / 18446744073709551616 then 1 else 0,
      if u % 18446744073709551616 < v % 18446744073709551616 then -1 else if u % 18446744073709551616 > v % 18446744073709551616 then 1 else 0]).bind fun t => some t) (fun k => ?_) ?_
  · unfold num_Wide_Cmp.f
    rw [cmp_i64, cmp_u64]; rfl
  · refine ev_fun (Ev.bind (or_two _ _) (Ev.now _)) ?_
    by_cases a : u / 18446744073709551616 < v / 18446744073709551616
    · rw [if_pos a, if_neg (by omega), if_pos (by omega)]
    · rw [if_neg a]
      by_cases b : u / 18446744073709551616 > v / 18446744073709551616
      · rw [if_pos b, if_neg (by omega), if_neg (by omega), if_pos (by omega)]
      · rw [if_neg b, if_pos rfl]
        by_cases c : u % 18446744073709551616 < v % 18446744073709551616
        · rw [if_pos c, if_pos (show u < v by omega)]
        · rw [if_neg c, if_neg (show ¬ u < v by omega)]
          by_cases d : u % 18446744073709551616 > v % 18446744073709551616
          · rw [if_pos d, if_pos (show u > v by omega)]
          · rw [if_neg d, if_neg (show ¬ u > v by omega)]

theorem muldiv {a b d : Int} (a0 : -9223372036854775808 ≤ a) (a1 : a < 9223372036854775808) (b0 : -9223372036854775808 ≤ b) (b1 : b < 9223372036854775808) (hd1 : d < 9223372036854775808) :
    Ev (fun k => num_MulDiv.f k a b d) (if d < 1 then (0, 1) else if fits (a * b / d) then (a * b / d, 0) else (0, 2)) := by
  have hb := prod_bd a0 a1 b0 b1
  refine Ev.congr (f := fun k => (num_Wide_Div.f k (a * b / 18446744073709551616) (a * b % 18446744073709551616) d).bind fun bt => some (bt.1, bt.2)) (fun k => ?_) ?_
  · unfold num_MulDiv.f
    rw [product a0 a1 b0 b1]; rfl
  · exact Ev.bind (wide_div (by omega) (by omega) hd1) (Ev.now _)

/-- The quotient, rounded up. -/
def upq (v d : Int) : Int := if v % d = 0 then v / d else v / d + 1

theorem muldivup {a b d : Int} (a0 : -9223372036854775808 ≤ a) (a1 : a < 9223372036854775808) (b0 : -9223372036854775808 ≤ b) (b1 : b < 9223372036854775808) (hd1 : d < 9223372036854775808) :
    Ev (fun k => num_MulDivUp.f k a b d) (if d < 1 then (0, 1) else if fits (a * b / d) then (if fits (upq (a * b) d) then (upq (a * b) d, 0) else (0, 2)) else (0, 2)) := by
  have hb := prod_bd a0 a1 b0 b1
  have hD := wide_div (v := a * b) (d := d) (by omega) (by omega) hd1
  have hM := wide_mod (v := a * b) (d := d) (by omega) (by omega) hd1
  generalize hv : a * b = v at *
  refine Ev.congr (f := fun k => (num_Wide_Div.f k (v / 18446744073709551616) (v % 18446744073709551616) d).bind fun bt => (if bt.2 = 0 then ((num_Wide_Mod.f k (v / 18446744073709551616) (v % 18446744073709551616) d).bind fun t => (num_MulDivUp.j0 k bt.1 bt.2 (t == 0))) else (num_MulDivUp.j0 k bt.1 bt.2 true))) (fun k => ?_) ?_
  · unfold num_MulDivUp.f
    rw [product a0 a1 b0 b1, hv]; rfl
  · refine Ev.bind hD ?_
    by_cases hd : d < 1
    · rw [if_pos hd, if_pos hd]
      exact one_ev fun k => by rw [if_neg (by decide), num_MulDivUp.j0, if_pos rfl]
    · rw [if_neg hd] at hM ⊢
      rw [if_neg hd]
      by_cases f : fits (v / d) = true
      · rw [if_pos f, if_pos f]
        simp only [if_true]
        refine Ev.bind hM ?_
        refine one_ev fun k => ?_
        rw [num_MulDivUp.j0]
        unfold upq
        unfold fits at f
        simp only [Bool.and_eq_true, decide_eq_true_eq] at f
        by_cases z : v % d = 0
        · rw [if_pos (by simp [z]), if_pos z]
          unfold fits
          rw [decide_eq_true f.1, decide_eq_true f.2]; rfl
        · rw [if_neg (by simp [z]), if_neg z]
          unfold fits
          by_cases y : v / d = 9223372036854775807
          · rw [if_pos y, decide_eq_true (by omega), decide_eq_false (by omega)]; rfl
          · rw [if_neg y, decide_eq_true (by omega), decide_eq_true (by omega), w64_id (by omega) (by omega)]; rfl
      · rw [if_neg f, if_neg f]
        exact one_ev fun k => by rw [if_neg (by decide), num_MulDivUp.j0, if_pos rfl]
end Go.Proofs.Ytpophefonhpnmaa.Q
end

section
/- The greatest common divisor and the square root of package num in plain numbers; the bounds stand in each statement. -/
namespace Go.Proofs.Ytpophefonhpnmaa.Q
open Go.RowKit Go.Proofs.YtpophefonhpnmaaW.PrintWords Go.Proofs.YtpophefonhpnmaaW.PrintLast Go.Proofs.YtpophefonhpnmaaW.PrintMore
set_option linter.unusedVariables false
set_option linter.unusedSimpArgs false

theorem andNot63 {x : Int} (h0 : 0 ≤ x) (h1 : x < 18446744073709551616) : Go.bits .andNot .u64 x 9223372036854775808 = x % 9223372036854775808 := by
  obtain ⟨n, rfl⟩ := Int.eq_ofNat_of_zero_le h0
  rw [Go.u64_andNot _ _ (by omega) (by omega) (by decide) (by decide)]
  rw [show (18446744073709551615 - (9223372036854775808 : Int).toNat) = 9223372036854775807 from rfl, Int.toNat_natCast, Go.nat_mask63]
  omega

theorem gcd_l0 (n : Nat) : ∀ x y : Nat, y ≤ n → x ≤ 9223372036854775808 → y ≤ 9223372036854775808 → Ev (fun k => num_Gcd.l0 k (x : Int) (y : Int)) ((Nat.gcd x y : Int) % 9223372036854775808) := by
  induction n with
  | zero =>
    intro x y hy hx hy'
    obtain rfl : y = 0 := by omega
    refine one_ev fun k => ?_
    rw [num_Gcd.l0, if_neg (by decide), andNot63 (by omega) (by omega), w64_id (by omega) (by omega), Nat.gcd_zero_right]
  | succ n ih =>
    intro x y hy hx hy'
    by_cases z : y = 0
    · subst z
      refine one_ev fun k => ?_
      rw [num_Gcd.l0, if_neg (by decide), andNot63 (by omega) (by omega), w64_id (by omega) (by omega), Nat.gcd_zero_right]
    · have hm : x % y < y := Nat.mod_lt _ (by omega)
      refine Ev.step (fun k => by rw [num_Gcd.l0, if_pos (by omega), if_neg (by omega), tmod_eq (by omega), ← Int.natCast_emod]) ?_
      rw [show Nat.gcd x y = Nat.gcd y (x % y) by rw [Nat.gcd_comm, Nat.gcd_rec, Nat.gcd_comm]]
      exact ih y (x % y) (by omega) hy' (by omega)

theorem gcd_ev {a b : Int} (a0 : -9223372036854775808 ≤ a) (a1 : a < 9223372036854775808) (b0 : -9223372036854775808 ≤ b) (b1 : b < 9223372036854775808) :
    Ev (fun k => num_Gcd.f k a b) ((Int.gcd a b : Int) % 9223372036854775808) := by
  have e : ∀ c : Int, (if c < 0 then -c else c) = (c.natAbs : Int) := fun c => by split <;> omega
  refine Ev.congr (f := fun k => num_Gcd.l0 k (a.natAbs : Int) (b.natAbs : Int)) (fun k => ?_) ?_
  · unfold num_Gcd.f
    rw [size_some a0 a1, size_some b0 b1, e, e]; rfl
  · exact gcd_l0 _ _ _ (Nat.le_refl _) (by omega) (by omega)

theorem sqrt_l0 {p : Int} (p0 : 0 ≤ p) (p1 : p < 85070591730234615865843651857942052864) (i : Nat) : ∀ r : Int, i ≤ 62 → 0 ≤ r → r % 2 ^ (i + 1) = 0 → r + 2 ^ (i + 1) ≤ 9223372036854775808 → r * r ≤ p → p < (r + 2 ^ (i + 1)) * (r + 2 ^ (i + 1)) →
    ∃ s : Int, Ev (fun k => num_SqrtMul.l0 k (p / 18446744073709551616) (p % 18446744073709551616) r (2 ^ i)) s ∧ 0 ≤ s ∧ s < 9223372036854775808 ∧ s * s ≤ p ∧ p < (s + 1) * (s + 1) := by
  have or_add : ∀ (i : Nat) (r : Int), i ≤ 62 → 0 ≤ r → r % 2 ^ (i + 1) = 0 → r + 2 ^ (i + 1) ≤ 9223372036854775808 → Go.bits .or .u64 r (2 ^ i) = r + 2 ^ i := by
    intro i r hi hr hm hb
    have hP : (0 : Int) < 2 ^ i := Int.pow_pos (by decide)
    have hP2 : (2 : Int) ^ (i + 1) = 2 ^ i * 2 := by rw [Int.pow_succ]
    exact Go.bits_join .u64 64 (by decide) (fun n h h' => by rw [uw]; omega) (i + 1) _ _ hr hm (by omega) (by omega) (by omega) (by omega)
  have step : ∀ (i : Nat) (r : Int), i ≤ 62 → 0 ≤ r → r % 2 ^ (i + 1) = 0 → r + 2 ^ (i + 1) ≤ 9223372036854775808 → ∀ {k : Nat} {nb : Int}, nb = 2 ^ i / 2 →
      num_SqrtMul.l0 (k + 1) (p / 18446744073709551616) (p % 18446744073709551616) r (2 ^ i) =
        if (r + 2 ^ i) * (r + 2 ^ i) ≤ p then num_SqrtMul.l0 k (p / 18446744073709551616) (p % 18446744073709551616) (r + 2 ^ i) nb else num_SqrtMul.l0 k (p / 18446744073709551616) (p % 18446744073709551616) r nb := by
    intro i r hi hr hm hb k nb hnb
    have hP : (0 : Int) < 2 ^ i := Int.pow_pos (by decide)
    have hP2 : (2 : Int) ^ (i + 1) = 2 ^ i * 2 := by rw [Int.pow_succ]
    rw [num_SqrtMul.l0, if_pos hP, or_add i r hi hr hm hb, mul64 (by omega) (by omega) (by omega) (by omega), Option.bind_some]
    simp only []
    rw [← hnb]
    generalize (r + 2 ^ i) * (r + 2 ^ i) = q
    by_cases h1 : q / 18446744073709551616 < p / 18446744073709551616
    · rw [if_pos h1, if_pos (by omega)]
    · rw [if_neg h1]
      by_cases h2 : q / 18446744073709551616 = p / 18446744073709551616
      · rw [if_pos h2]
        by_cases h3 : q % 18446744073709551616 ≤ p % 18446744073709551616
        · rw [if_pos h3, if_pos (by omega)]
        · rw [if_neg h3, if_neg (by omega)]
      · rw [if_neg h2, if_neg (by omega)]
  induction i with
  | zero =>
    intro r hi hr hm hb h0 h1
    have fin : ∀ s : Int, 0 ≤ s → s < 9223372036854775808 → Ev (fun k => num_SqrtMul.l0 k (p / 18446744073709551616) (p % 18446744073709551616) s 0) s := by
      intro s hs hs'
      exact one_ev fun k => by rw [num_SqrtMul.l0, if_neg (by decide), w64_id (by omega) (by omega)]
    simp only [Int.pow_zero, Nat.zero_add, Int.pow_one] at *
    have st := fun k => step 0 r hi hr hm (by simpa using hb) (k := k) (nb := 0) (by decide)
    simp only [Int.pow_zero] at st
    by_cases c : (r + 1) * (r + 1) ≤ p
    · refine ⟨r + 1, Ev.step (fun k => by rw [st, if_pos c]) (fin (r + 1) (by omega) (by omega)), by omega, by omega, c, ?_⟩
      rw [show r + 1 + 1 = r + 2 by omega]; exact h1
    · exact ⟨r, Ev.step (fun k => by rw [st, if_neg c]) (fin r hr (by omega)), hr, by omega, h0, by omega⟩
  | succ i ih =>
    intro r hi hr hm hb h0 h1
    have hP : (0 : Int) < 2 ^ i := Int.pow_pos (by decide)
    have hP2 : (2 : Int) ^ (i + 1) = 2 ^ i * 2 := by rw [Int.pow_succ]
    have hP4 : (2 : Int) ^ (i + 1 + 1) = 2 ^ (i + 1) * 2 := by rw [Int.pow_succ]
    have hd : r % 2 ^ (i + 1) = 0 := by
      have h := Int.emod_add_mul_ediv r (2 ^ (i + 1 + 1))
      rw [hm, Int.zero_add, hP4, Int.mul_assoc] at h
      rw [← h, Int.mul_emod_right]
    have st := fun k => step (i + 1) r hi hr hm hb (k := k) (nb := 2 ^ i) (by omega)
    by_cases c : (r + 2 ^ (i + 1)) * (r + 2 ^ (i + 1)) ≤ p
    · obtain ⟨s, hs, rest⟩ := ih (r + 2 ^ (i + 1)) (by omega) (by omega) (by rw [Int.add_emod_right]; exact hd) (by omega) c (by rw [show r + 2 ^ (i + 1) + 2 ^ (i + 1) = r + 2 ^ (i + 1 + 1) by omega]; exact h1)
      exact ⟨s, Ev.step (fun k => by rw [st, if_pos c]) hs, rest⟩
    · obtain ⟨s, hs, rest⟩ := ih r (by omega) hr hd (by omega) h0 (by omega)
      exact ⟨s, Ev.step (fun k => by rw [st, if_neg c]) hs, rest⟩

theorem sqrt_ev {a b : Int} (a0 : 0 ≤ a) (a1 : a < 9223372036854775808) (b0 : 0 ≤ b) (b1 : b < 9223372036854775808) :
    ∃ r : Int, Ev (fun k => num_SqrtMul.f k a b) r ∧ 0 ≤ r ∧ r < 9223372036854775808 ∧ r * r ≤ a * b ∧ a * b < (r + 1) * (r + 1) := by
  have p0 : 0 ≤ a * b := Int.mul_nonneg a0 b0
  have p1 : a * b ≤ 9223372036854775807 * 9223372036854775807 := Int.mul_le_mul (by omega) (by omega) b0 (by omega)
  obtain ⟨r, hr, rest⟩ := sqrt_l0 (p := a * b) p0 (by omega) 62 0 (by decide) (by decide) (by decide) (by decide) (by omega) (by
    rw [show ((0 : Int) + 2 ^ (62 + 1)) * (0 + 2 ^ (62 + 1)) = 85070591730234615865843651857942052864 by decide]; omega)
  refine ⟨r, ?_, rest⟩
  refine Ev.congr (f := fun k => num_SqrtMul.j0 k a b false) (fun k => by unfold num_SqrtMul.f; rw [if_neg (by omega), decide_eq_false (by omega)]) ?_
  refine Ev.step (fun k => by rw [num_SqrtMul.j0, if_neg (by decide), uw_id (x := a) a0 (by omega), uw_id (x := b) b0 (by omega), mul64 a0 (by omega) b0 (by omega), Option.bind_some]) ?_
  exact hr

theorem sqrt_neg {a b : Int} (h : a < 0 ∨ b < 0) : Ev (fun k => num_SqrtMul.f k a b) 0 := by
  refine Ev.congr (f := fun k => num_SqrtMul.j0 k a b true) (fun k => ?_) (one_ev fun k => by rw [num_SqrtMul.j0, if_pos rfl])
  unfold num_SqrtMul.f
  by_cases ha : a < 0
  · rw [if_pos ha]
  · rw [if_neg ha, decide_eq_true (by omega)]
end Go.Proofs.Ytpophefonhpnmaa.Q
end

section
/- What spymake.Below answers, in plain numbers. -/
namespace Go.Proofs.Ytpophefonhpnmaa.Q
open Go.RowKit Go.Proofs.YtpophefonhpnmaaW.PrintWords Go.Proofs.YtpophefonhpnmaaW.PrintLast Go.Proofs.YtpophefonhpnmaaW.PrintMore
set_option linter.unusedVariables false
set_option linter.unusedSimpArgs false

theorem below {a n : Int} (hn : 1 ≤ n) (hn1 : n < 9223372036854775808) : spymake_Below.f a n = some (a % n) := by
  unfold spymake_Below.f
  rw [if_neg (by omega), if_neg (by omega)]
  have m0 := Int.emod_nonneg a (show n ≠ 0 by omega)
  have m1 := Int.emod_lt_of_pos a (show 0 < n by omega)
  by_cases c : 0 ≤ a
  · rw [tmod_eq c, if_neg (by omega)]
  · have e : Int.tmod a n = -(-a % n) := by
      have := Int.neg_tmod (-a) n
      rw [Int.neg_neg] at this
      rw [this, tmod_eq (by omega)]
    rw [e, (show a % n = (if -a % n = 0 then 0 else n - -a % n) by
      have e1 := Int.emod_add_mul_ediv (-a) n
      have h0 := Int.emod_nonneg (-a) (show n ≠ 0 by omega)
      have h1 := Int.emod_lt_of_pos (-a) (show 0 < n by omega)
      split
      · exact ((Int.ediv_emod_unique (q := -(-a / n)) (show 0 < n by omega)).mpr ⟨by rw [Int.mul_neg]; omega, by omega, by omega⟩).2
      · exact ((Int.ediv_emod_unique (q := -(-a / n) - 1) (show 0 < n by omega)).mpr ⟨by rw [Int.mul_sub, Int.mul_neg]; omega, by omega, by omega⟩).2)]
    have h0 := Int.emod_nonneg (-a) (show n ≠ 0 by omega)
    have h1 := Int.emod_lt_of_pos (-a) (show 0 < n by omega)
    by_cases z : -a % n = 0
    · rw [if_neg (by omega), if_pos z, z]; rfl
    · rw [if_pos (by omega), if_neg z, w64_id (by omega) (by omega)]; congr 1; omega
end Go.Proofs.Ytpophefonhpnmaa.Q
end

section
/- The stream of numbers of package spymake in plain numbers: each answer lies in the range that was asked for; the bounds stand in each statement. -/
namespace Go.Proofs.Ytpophefonhpnmaa.Q
open Go.RowKit Go.Proofs.YtpophefonhpnmaaW.PrintWords Go.Proofs.YtpophefonhpnmaaW.PrintLast Go.Proofs.YtpophefonhpnmaaW.PrintMore
set_option linter.unusedVariables false
set_option linter.unusedSimpArgs false

theorem below_in {a n : Int} (hn : 1 ≤ n) (hn1 : n < 9223372036854775808) : ∃ v, spymake_Below.f a n = some v ∧ 0 ≤ v ∧ v < n :=
  ⟨a % n, below hn hn1, Int.emod_nonneg a (by omega), Int.emod_lt_of_pos a (by omega)⟩

/-- The next number lies from 0 to n - 1, and the place moves on by one. -/
theorem next_in (l : List Int) {at_ n : Int} (hl : l.length ≤ 9223372036854775807) (a0 : 0 ≤ at_) (a1 : at_ < 4611686018427387904) (n0 : 1 ≤ n) (n1 : n < 9223372036854775808) :
    ∃ v, spymake_Stream_Next.f l at_ n = some (v, at_ + 1) ∧ 0 ≤ v ∧ v < n := by
  unfold spymake_Stream_Next.f
  rw [w64_id (x := at_ + 1) (by omega) (by omega)]
  by_cases z : (l.length : Int) = 0
  · rw [if_pos z]
    obtain ⟨v, hv, v0, v1⟩ := below_in (a := wrap64 ((at_ + 1) * 7919)) n0 n1
    exact ⟨v, by rw [hv]; rfl, v0, v1⟩
  · rw [if_neg z, w64_id (x := at_ + 1 - 1) (by omega) (by omega), tmod_eq (by omega)]
    have m0 := Int.emod_nonneg (at_ + 1 - 1) z
    have m1 := Int.emod_lt_of_pos (at_ + 1 - 1) (show 0 < (l.length : Int) by omega)
    rw [if_pos m0, if_pos m1]
    obtain ⟨v, hv, v0, v1⟩ := below_in (a := rd l ((at_ + 1 - 1) % (l.length : Int))) (n := 1073741824) (by decide) (by decide)
    rw [hv]
    simp only [Option.bind_some]
    obtain ⟨v', hv', v0', v1'⟩ := below_in (a := wrap64 (v + (wrap64 ((wrap64 (Int.tdiv (at_ + 1 - 1) (l.length : Int))) * (wrap64 (7919 + ((at_ + 1 - 1) % (l.length : Int)))))))) n0 n1
    exact ⟨v', by rw [hv']; rfl, v0', v1'⟩

/-- A number of a range lies in it. -/
theorem range_in (l : List Int) {at_ lo hi : Int} (hl : l.length ≤ 9223372036854775807) (a0 : 0 ≤ at_) (a1 : at_ < 4611686018427387904) (h : lo ≤ hi) (h0 : -2305843009213693952 ≤ lo) (h1 : hi < 2305843009213693952) :
    ∃ v, spymake_Stream_Range.f l at_ lo hi = some (v, at_ + 1) ∧ lo ≤ v ∧ v ≤ hi := by
  unfold spymake_Stream_Range.f
  rw [if_neg (by omega), w64_id (x := hi - lo) (by omega) (by omega), w64_id (x := hi - lo + 1) (by omega) (by omega)]
  obtain ⟨v, hv, v0, v1⟩ := next_in l (n := hi - lo + 1) hl a0 a1 (by omega) (by omega)
  refine ⟨lo + v, ?_, by omega, by omega⟩
  rw [hv]
  simp only [Option.bind_some]
  rw [w64_id (by omega) (by omega)]
end Go.Proofs.Ytpophefonhpnmaa.Q
end

section
/- Quotients rounded down and up by a positive number, in plain numbers; the bounds stand in each statement. -/
namespace Go.Proofs.Ytpophefonhpnmaa.Q
open Go.RowKit Go.Proofs.YtpophefonhpnmaaW.PrintWords Go.Proofs.YtpophefonhpnmaaW.PrintLast Go.Proofs.YtpophefonhpnmaaW.PrintMore
set_option linter.unusedVariables false
set_option linter.unusedSimpArgs false

theorem floordiv {a d : Int} (h0 : -9223372036854775807 ≤ a) (h1 : a ≤ 9223372036854775807) (hd : 1 ≤ d) : num_FloorDiv.f a d = some (a / d) := by
  unfold num_FloorDiv.f
  rw [if_neg (by omega), if_neg (by omega)]
  by_cases z : 0 ≤ a
  · have q := div_bd (v := a) (d := d) z (by omega)
    have m := Int.emod_nonneg a (show d ≠ 0 by omega)
    rw [tmod_eq z, tdiv_eq z, if_neg (by omega), w64_id (by omega) (by omega)]
  · have q := div_bd (v := -a) (d := d) (by omega) (by omega)
    have m := Int.emod_nonneg (-a) (show d ≠ 0 by omega)
    have n := (neg_div (v := a) (d := d) (by omega)).1
    rw [show Int.tmod a d = -(-a % d) by rw [← tmod_eq (by omega), Int.neg_tmod, Int.neg_neg], show Int.tdiv a d = -(-a / d) by rw [← tdiv_eq (by omega), Int.neg_tdiv, Int.neg_neg]]
    rw [w64_id (x := -(-a / d)) (by omega) (by omega), w64_id (x := -(-a / d) - 1) (by omega) (by omega), n]
    by_cases c : -a % d = 0
    · rw [if_neg (by omega), if_pos c]
    · rw [if_pos (by omega), if_neg c]

theorem ceildiv {a d : Int} (h0 : -9223372036854775807 ≤ a) (h1 : a ≤ 9223372036854775806) (hd : 1 ≤ d) : num_CeilDiv.f a d = some (upq a d) := by
  unfold num_CeilDiv.f upq
  rw [if_neg (by omega), if_neg (by omega)]
  by_cases z : 0 ≤ a
  · have q := div_bd (v := a) (d := d) z (by omega)
    have m := Int.emod_nonneg a (show d ≠ 0 by omega)
    rw [tmod_eq z, tdiv_eq z, w64_id (x := a / d) (by omega) (by omega), w64_id (x := a / d + 1) (by omega) (by omega)]
    by_cases c : a % d = 0
    · rw [if_neg (by omega), if_pos c]
    · rw [if_pos (by omega), if_neg c]
  · have q := div_bd (v := -a) (d := d) (by omega) (by omega)
    have m := Int.emod_nonneg (-a) (show d ≠ 0 by omega)
    have m' := Int.emod_lt_of_pos (-a) (show 0 < d by omega)
    have n := neg_div (v := a) (d := d) (by omega)
    rw [show Int.tmod a d = -(-a % d) by rw [← tmod_eq (by omega), Int.neg_tmod, Int.neg_neg], show Int.tdiv a d = -(-a / d) by rw [← tdiv_eq (by omega), Int.neg_tdiv, Int.neg_neg]]
    rw [if_neg (by omega), w64_id (x := -(-a / d)) (by omega) (by omega), n.1, n.2]
    by_cases c : -a % d = 0
    · rw [if_pos c, if_pos c, if_pos rfl]
    · rw [if_neg c, if_neg c, if_neg (by omega)]
      congr 1; omega
end Go.Proofs.Ytpophefonhpnmaa.Q
end

section
/- Which fractions are valid, in plain numbers. -/
namespace Go.Proofs.Ytpophefonhpnmaa.Q
open Go.RowKit Go.Proofs.YtpophefonhpnmaaW.PrintWords Go.Proofs.YtpophefonhpnmaaW.PrintLast Go.Proofs.YtpophefonhpnmaaW.PrintMore
set_option linter.unusedVariables false
set_option linter.unusedSimpArgs false
/-- Whether a fraction is valid. -/
def vf (n d : Int) : Prop := -1152921504606846976 ≤ n ∧ n ≤ 1152921504606846976 ∧ 1 ≤ d ∧ d ≤ 1152921504606846976 ∧ Int.gcd n d = 1
theorem fcheck_ev {n d : Int} (n0 : -9223372036854775808 ≤ n) (n1 : n < 9223372036854775808) (d0 : -9223372036854775808 ≤ d) (d1 : d < 9223372036854775808) : ∃ e : Int, Ev (fun k => frac_Check.f k n d) e ∧ (e = 0 ↔ vf n d) ∧ (e = 0 ∨ e = 3 ∨ e = 4) := by
  have J1 : Ev (fun k => frac_Check.j0 k true n d) 4 := one_ev fun k => by rw [frac_Check.j0, if_pos rfl]
  have bad (h : ¬ (-1152921504606846976 ≤ n ∧ n ≤ 1152921504606846976 ∧ 1 ≤ d ∧ d ≤ 1152921504606846976)) : (4 : Int) = 0 ↔ vf n d := by
    constructor
    · intro h'; omega
    · rintro ⟨a, b, c, e, _⟩; exact absurd ⟨a, b, c, e⟩ h
  unfold frac_Check.f
  by_cases c0 : n < -1152921504606846976
  · exact ⟨4, pos_ev c0 J1, bad (by omega), by omega⟩
  by_cases c1 : n > 1152921504606846976
  · exact ⟨4, neg_ev c0 (pos_ev c1 J1), bad (by omega), by omega⟩
  by_cases c2 : d < 1
  · exact ⟨4, neg_ev c0 (neg_ev c1 (pos_ev c2 J1)), bad (by omega), by omega⟩
  by_cases c3 : d > 1152921504606846976
  · exact ⟨4, neg_ev c0 (neg_ev c1 (neg_ev c2 (by rw [decide_eq_true c3]; exact J1))), bad (by omega), by omega⟩
  have G := gcd_ev n0 n1 d0 d1
  have hg : (Int.gcd n d : Int) ≤ d := Int.le_of_dvd (by omega) (Int.gcd_dvd_right n d)
  have hm : (Int.gcd n d : Int) % 9223372036854775808 = (Int.gcd n d : Int) := Int.emod_eq_of_lt (by omega) (by omega)
  rw [hm] at G
  by_cases c4 : (Int.gcd n d : Int) = 1
  · refine ⟨0, neg_ev c0 (neg_ev c1 (neg_ev c2 ?_)), ⟨fun _ => ⟨by omega, by omega, by omega, by omega, by omega⟩, fun _ => rfl⟩, by omega⟩
    rw [decide_eq_false c3]
    exact Ev.step (fun k => by rw [frac_Check.j0, if_neg (by decide)]) (Ev.bind G (pos_ev c4 (Ev.now _)))
  · refine ⟨3, neg_ev c0 (neg_ev c1 (neg_ev c2 ?_)), ⟨fun h => by omega, fun h => absurd (by have := h.2.2.2.2; omega) c4⟩, by omega⟩
    rw [decide_eq_false c3]
    exact Ev.step (fun k => by rw [frac_Check.j0, if_neg (by decide)]) (Ev.bind G (neg_ev c4 (Ev.now _)))
theorem fcheck_ok {n d : Int} (h : vf n d) : Ev (fun k => frac_Check.f k n d) 0 := by
  obtain ⟨a, b, c, e, g⟩ := h
  obtain ⟨r, hr, h0, _⟩ := fcheck_ev (n := n) (d := d) (by omega) (by omega) (by omega) (by omega)
  rw [h0.mpr ⟨a, b, c, e, g⟩] at hr
  exact hr
end Go.Proofs.Ytpophefonhpnmaa.Q
end

section
/- Masks of 64-bit numbers in plain numbers. -/
namespace Go.Proofs.Ytpophefonhpnmaa.Q
open Go.RowKit Go.Proofs.YtpophefonhpnmaaW.PrintWords Go.Proofs.YtpophefonhpnmaaW.PrintLast Go.Proofs.YtpophefonhpnmaaW.PrintMore
set_option linter.unusedVariables false
set_option linter.unusedSimpArgs false

theorem i64_mask {x : Int} (h0 : -9223372036854775808 ≤ x) (h1 : x < 9223372036854775808) (i : Nat) (hi : i ≤ 62) : Go.bits .and .i64 x (2 ^ i - 1) = x % 2 ^ i := by
  have hp : (0 : Int) < 2 ^ i := Int.pow_pos (by decide)
  have hle : (2 : Int) ^ i ≤ 4611686018427387904 := by
    have h : 2 ^ i ≤ 2 ^ 62 := Nat.pow_le_pow_right (by decide) hi
    have h' : ((2 ^ i : Nat) : Int) ≤ ((2 ^ 62 : Nat) : Int) := Int.ofNat_le.mpr h
    rw [show ((2 ^ i : Nat) : Int) = 2 ^ i by simp] at h'
    exact h'
  have hpn : 0 < 2 ^ i := Nat.two_pow_pos i
  have hc : ((2 : Int) ^ i - 1) = ((2 ^ i - 1 : Nat) : Int) := by rw [Int.natCast_sub hpn]; simp
  show IntKind.i64.wrap _ = _
  rw [show IntKind.i64.bits = 64 from rfl, BitVec.toNat_and, BitVec.toNat_ofInt, BitVec.toNat_ofInt, hc]
  have h2 : ((2 ^ i - 1 : Nat) : Int) % ((2 ^ 64 : Nat) : Int) = ((2 ^ i - 1 : Nat) : Int) := by
    rw [← hc]; exact Int.emod_eq_of_lt (by omega) (by omega)
  rw [h2, Int.toNat_natCast, Nat.and_two_pow_sub_one_eq_mod, IntKind.wrap_i64]
  have h3 : (((x % ((2 ^ 64 : Nat) : Int)).toNat % 2 ^ i : Nat) : Int) = x % 2 ^ i := by
    rw [Int.natCast_emod, Int.toNat_of_nonneg (Int.emod_nonneg _ (by decide)), show ((2 ^ i : Nat) : Int) = 2 ^ i by simp, show ((2 ^ 64 : Nat) : Int) = 2 ^ 64 from rfl]
    exact Int.emod_emod_of_dvd x (by
      rw [show (2 : Int) ^ 64 = 2 ^ i * 2 ^ (64 - i) by rw [← Int.pow_add]; congr 1; omega]
      exact Int.dvd_mul_right _ _)
  rw [h3]
  have := Int.emod_nonneg x (show (2 : Int) ^ i ≠ 0 by omega)
  have := Int.emod_lt_of_pos x hp
  omega
theorem mask32 {x : Int} (h0 : -9223372036854775808 ≤ x) (h1 : x < 9223372036854775808) : Go.bits .and .i64 x 4294967295 = x % 4294967296 := i64_mask h0 h1 32 (by decide)
theorem mask30 {x : Int} (h0 : -9223372036854775808 ≤ x) (h1 : x < 9223372036854775808) : Go.bits .and .i64 x 1073741823 = x % 1073741824 := i64_mask h0 h1 30 (by decide)
end Go.Proofs.Ytpophefonhpnmaa.Q
end

section
/- Times, angles and rates out of the stream of numbers, in plain numbers; the bounds stand in each statement. -/
namespace Go.Proofs.Ytpophefonhpnmaa.Q
open Go.RowKit Go.Proofs.YtpophefonhpnmaaW.PrintWords Go.Proofs.YtpophefonhpnmaaW.PrintLast Go.Proofs.YtpophefonhpnmaaW.PrintMore
set_option linter.unusedVariables false
set_option linter.unusedSimpArgs false

theorem time_in (l : List Int) {p : Int} (hl : l.length ≤ 9223372036854775807) (p0 : 0 ≤ p) (p1 : p < 4611686018427380000) :
    ∃ t q, spymake_Stream_Time.f l p = some (t, q) ∧ p ≤ q ∧ q ≤ p + 4 ∧ -17280000120000 ≤ t ∧ t ≤ 17280000120000 := by
  unfold spymake_Stream_Time.f
  obtain ⟨a, ha, a0, a1⟩ := range_in l (at_ := p) (lo := -5000) (hi := 5000) hl p0 (by omega) (by decide) (by decide) (by decide)
  obtain ⟨b, hb, b0, b1⟩ := range_in l (at_ := p + 1) (lo := -3000) (hi := 3000) hl (by omega) (by omega) (by decide) (by decide) (by decide)
  obtain ⟨c, hc, c0, c1⟩ := next_in l (at_ := p + 1 + 1) (n := 6) hl (by omega) (by omega) (by decide) (by decide)
  rw [ha, Option.bind_some, hb, Option.bind_some, hc, Option.bind_some]
  simp only
  rw [w64_id (x := a * 86400000) (by omega) (by omega), w64_id (x := a * 86400000 + b) (by omega) (by omega)]
  by_cases z : c = 0
  · obtain ⟨d, hd, d0, d1⟩ := next_in l (at_ := p + 1 + 1 + 1) (n := 86400000) hl (by omega) (by omega) (by decide) (by decide)
    exact ⟨_, _, by rw [if_pos z, hd, Option.bind_some, w64_id (by simp only; omega) (by simp only; omega)], by omega, by omega, by simp only; omega, by simp only; omega⟩
  · rw [if_neg z]
    by_cases z1 : c = 1
    · exact ⟨_, _, by rw [if_pos z1, w64_id (by omega) (by omega)], by omega, by omega, by omega, by omega⟩
    · exact ⟨_, _, by rw [if_neg z1], by omega, by omega, by omega, by omega⟩

theorem arc_in (l : List Int) {p : Int} (hl : l.length ≤ 9223372036854775807) (p0 : 0 ≤ p) (p1 : p < 4611686018427380000) :
    ∃ t q, spymake_Stream_Arc.f l p = some (t, q) ∧ p ≤ q ∧ q ≤ p + 5 ∧ 0 ≤ t ∧ t < 4294967296 := by
  unfold spymake_Stream_Arc.f
  obtain ⟨a, ha, a0, a1⟩ := next_in l (at_ := p) (n := 1073741824) hl p0 (by omega) (by decide) (by decide)
  obtain ⟨b, hb, b0, b1⟩ := next_in l (at_ := p + 1) (n := 4) hl (by omega) (by omega) (by decide) (by decide)
  obtain ⟨c, hc, c0, c1⟩ := next_in l (at_ := p + 1 + 1) (n := 3) hl (by omega) (by omega) (by decide) (by decide)
  rw [ha, Option.bind_some, hb, Option.bind_some, hc, Option.bind_some]
  simp only
  by_cases z : c = 0
  · obtain ⟨d, hd, d0, d1⟩ := next_in l (at_ := p + 1 + 1 + 1) (n := 8) hl (by omega) (by omega) (by decide) (by decide)
    obtain ⟨e, he, e0, e1⟩ := range_in l (at_ := p + 1 + 1 + 1 + 1) (lo := -3) (hi := 3) hl (by omega) (by omega) (by decide) (by decide) (by decide)
    refine ⟨(d * 536870912 + e) % 4294967296, p + 1 + 1 + 1 + 1 + 1, ?_, by omega, by omega, by omega, by omega⟩
    rw [if_pos z, hd, Option.bind_some, he, Option.bind_some]
    simp only
    rw [w64_id (x := d * 536870912) (by omega) (by omega), w64_id (x := d * 536870912 + e) (by omega) (by omega), mask32 (by omega) (by omega)]
  · refine ⟨(a * 4 + b) % 4294967296, p + 1 + 1 + 1, ?_, by omega, by omega, by omega, by omega⟩
    rw [if_neg z, w64_id (x := a * 4) (by omega) (by omega), w64_id (x := a * 4 + b) (by omega) (by omega), mask32 (by omega) (by omega)]

theorem tdiv10 {t : Int} (h0 : -17280000120000 ≤ t) (h1 : t ≤ 17280000120000) : -1728000012000 ≤ Int.tdiv t 10 ∧ Int.tdiv t 10 ≤ 1728000012000 := by
  by_cases c : 0 ≤ t
  · rw [tdiv_eq c]; omega
  · rw [show Int.tdiv t 10 = -(-t / 10) by rw [← tdiv_eq (by omega), Int.neg_tdiv, Int.neg_neg]]; omega

/-- A valid rotation of at most 61 arcs a tick. -/
structure RateOk (t a N D : Int) : Prop where
  t0 : -1728000012000 ≤ t
  t1 : t ≤ 1728000012000
  a0 : 0 ≤ a
  a1 : a < 4294967296
  N0 : 1 ≤ N
  N1 : N < 61 * D
  D0 : 1 ≤ D
  D1 : D ≤ 1073741824
  one : Int.gcd N D = 1
  ND : D ≤ N

theorem rate_l0 (l : List Int) {p t ang q q2 : Int} {N D : Nat} (hT : spymake_Stream_Time.f l p = some (t, q)) (hA : spymake_Stream_Arc.f l q = some (ang, q2)) (hD : 1 ≤ D) (hN1 : N < 9223372036854775808) (hD1 : D < 9223372036854775808) (ht0 : -17280000120000 ≤ t) (ht1 : t ≤ 17280000120000) (n : Nat) :
    ∀ a b : Nat, b ≤ n → a ≠ 0 → Nat.gcd a b = Nat.gcd N D → a < 9223372036854775808 → b < 9223372036854775808 →
    Ev (fun k => spymake_Stream_Rate.l0 k (a : Int) (b : Int) l p (N : Int) (D : Int)) (Int.tdiv t 10, ang, ((N / Nat.gcd N D : Nat) : Int), ((D / Nat.gcd N D : Nat) : Int), q2) := by
  have last : ∀ a : Nat, a ≠ 0 → a = Nat.gcd N D → Ev (fun k => spymake_Stream_Rate.l0 k (a : Int) ((0 : Nat) : Int) l p (N : Int) (D : Int)) (Int.tdiv t 10, ang, ((N / Nat.gcd N D : Nat) : Int), ((D / Nat.gcd N D : Nat) : Int), q2) := by
    intro a ha hg
    have e1 := Nat.div_le_self N a
    have e2 := Nat.div_le_self D a
    have e3 := tdiv10 ht0 ht1
    have e4 : (0 : Int) ≤ ((N / a : Nat) : Int) := Int.natCast_nonneg _
    have e5 : (0 : Int) ≤ ((D / a : Nat) : Int) := Int.natCast_nonneg _
    refine one_ev fun k => ?_
    rw [spymake_Stream_Rate.l0, if_pos (by decide), if_neg (by omega), hT, Option.bind_some, hA, Option.bind_some, w64_id (x := Int.tdiv t 10) (by omega) (by omega), ← Int.ofNat_tdiv, ← Int.ofNat_tdiv, w64_id (x := ((N / a : Nat) : Int)) (by omega) (by omega), w64_id (x := ((D / a : Nat) : Int)) (by omega) (by omega), hg]
  induction n with
  | zero =>
    intro a b hb ha hg _ _
    obtain rfl : b = 0 := by omega
    exact last a ha (by rw [← hg, Nat.gcd_zero_right])
  | succ n ih =>
    intro a b hb ha hg h1 h2
    by_cases z : b = 0
    · subst z; exact last a ha (by rw [← hg, Nat.gcd_zero_right])
    · have hm : a % b < b := Nat.mod_lt _ (by omega)
      refine Ev.step (fun k => by rw [spymake_Stream_Rate.l0, if_neg (by omega), tmod_eq (by omega), ← Int.natCast_emod]) ?_
      exact ih b (a % b) (by omega) z (by rw [← hg, Nat.gcd_comm a b, Nat.gcd_rec b a, Nat.gcd_comm]) h2 (by omega)

theorem rate_in (l : List Int) {p : Int} (hl : l.length ≤ 9223372036854775807) (p0 : 0 ≤ p) (p1 : p < 4611686018427370000) :
    ∃ t a N D q, Ev (fun k => spymake_Stream_Rate.f k l p) (t, a, N, D, q) ∧ p ≤ q ∧ q ≤ p + 20 ∧ RateOk t a N D := by
  obtain ⟨i, hi, i0, i1⟩ := next_in l (at_ := p) (n := 4) hl p0 (by omega) (by decide) (by decide)
  obtain ⟨den, hden, d0, d1⟩ : ∃ d : Nat, rd ([1, 7, 1000, 1073741824] : List Int) i = (d : Int) ∧ 1 ≤ d ∧ d ≤ 1073741824 := by
    rcases (show i = 0 ∨ i = 1 ∨ i = 2 ∨ i = 3 by omega) with rfl | rfl | rfl | rfl
    · exact ⟨1, rfl, by decide, by decide⟩
    · exact ⟨7, rfl, by decide, by decide⟩
    · exact ⟨1000, rfl, by decide, by decide⟩
    · exact ⟨1073741824, rfl, by decide, by decide⟩
  obtain ⟨v, hv, v0, v1⟩ := next_in l (at_ := p + 1) (n := 60) hl (by omega) (by omega) (by decide) (by decide)
  obtain ⟨r, hr, r0, r1⟩ := next_in l (at_ := p + 1 + 1) (n := (den : Int)) hl (by omega) (by omega) (by omega) (by omega)
  obtain ⟨t, q, hT, q0, q1, t0, t1⟩ := time_in l (p := p + 1 + 1 + 1) hl (by omega) (by omega)
  obtain ⟨a, q2, hA, q20, q21, a0, a1⟩ := arc_in l (p := q) hl (by omega) (by omega)
  have m0 : (1 + v) * (den : Int) ≤ 60 * (den : Int) := Int.mul_le_mul_of_nonneg_right (by omega) (by omega)
  have m1 : 1 * (den : Int) ≤ (1 + v) * (den : Int) := Int.mul_le_mul_of_nonneg_right (by omega) (by omega)
  obtain ⟨N, hN⟩ : ∃ N : Nat, (1 + v) * (den : Int) + r = (N : Int) := ⟨((1 + v) * (den : Int) + r).toNat, by omega⟩
  obtain ⟨g, hg⟩ : ∃ g, g = Nat.gcd N den := ⟨_, rfl⟩
  have g0 : 0 < g := by rw [hg]; exact Nat.gcd_pos_of_pos_right _ (by omega)
  have gN : g * (N / g) = N := Nat.mul_div_cancel' (by rw [hg]; exact Nat.gcd_dvd_left _ _)
  have gD : g * (den / g) = den := Nat.mul_div_cancel' (by rw [hg]; exact Nat.gcd_dvd_right _ _)
  have L := rate_l0 l (N := N) (D := den) hT hA (by omega) (by omega) (by omega) t0 t1 den N den (Nat.le_refl _) (by omega) rfl (by omega) (by omega)
  refine ⟨Int.tdiv t 10, a, ((N / g : Nat) : Int), ((den / g : Nat) : Int), q2, ?_, by omega, by omega, ?_⟩
  · unfold spymake_Stream_Rate.f
    refine some_ev rfl (some_ev hi (pos_ev i0 (pos_ev (by simp only [List.length_cons, List.length_nil]; omega) (some_ev hv (some_ev (by rw [hden]; exact hr) ?_)))))
    simp only
    rw [hden, w64_id (x := 1 + v) (by omega) (by omega), w64_id (x := (1 + v) * (den : Int)) (by omega) (by omega), w64_id (x := (1 + v) * (den : Int) + r) (by omega) (by omega), hN, hg]
    exact L
  · have n0 : 1 ≤ N / g := by
      apply Nat.pos_of_ne_zero; intro h; rw [h] at gN; omega
    have d0' : 1 ≤ den / g := by
      apply Nat.pos_of_ne_zero; intro h; rw [h] at gD; omega
    have d1' : den / g ≤ den := Nat.div_le_self _ _
    have n1 : N / g < 61 * (den / g) := by
      apply Nat.lt_of_mul_lt_mul_left (a := g)
      rw [gN, Nat.mul_left_comm, gD]; omega
    have e3 := tdiv10 t0 t1
    have nd : den / g ≤ N / g := Nat.div_le_div_right (by omega)
    refine ⟨e3.1, e3.2, a0, a1, by omega, by omega, by omega, by omega, ?_, by omega⟩
    rw [Int.gcd_natCast_natCast, hg]
    exact Nat.gcd_div_gcd_div_gcd_of_pos_right (by omega)
end Go.Proofs.Ytpophefonhpnmaa.Q
end

section
/- Which bounds are valid, in plain numbers; definitions alone. -/
namespace Go.Proofs.Ytpophefonhpnmaa.Q
/-- Whether a bound is valid. -/
def vb (lo hi : Int) (u : Bool) : Bool := if u then lo == 0 && hi == 0 else decide (-1152921504606846976 ≤ lo) && decide (lo ≤ hi) && decide (hi ≤ 1152921504606846976)
/-- A bound itself if it is valid, else an unknown one. -/
def nb (lo hi : Int) (u : Bool) : Int × Int × Bool := if vb lo hi u = true then (lo, hi, u) else (0, 0, true)
theorem nb_ok {lo hi : Int} (h0 : -1152921504606846976 ≤ lo) (h : lo ≤ hi) (h1 : hi ≤ 1152921504606846976) : nb lo hi false = (lo, hi, false) := by
  unfold nb vb; simp [h0, h, h1]
theorem nb_none : nb 0 0 true = (0, 0, true) := by decide
end Go.Proofs.Ytpophefonhpnmaa.Q
end

section
/- Package bound at one type of numbers in plain numbers: which bounds are valid, and what the smallest functions answer; no conditions but 64 bits where they are named. -/
namespace Go.Proofs.Ytpophefonhpnmaa.Q
open Go.RowKit Go.Proofs.YtpophefonhpnmaaW.PrintWords Go.Proofs.YtpophefonhpnmaaW.PrintLast Go.Proofs.YtpophefonhpnmaaW.PrintMore
set_option linter.unusedVariables false
set_option linter.unusedSimpArgs false

theorem check_api_Tick (lo hi : Int) (u : Bool) : ∃ e : Int, Ev (fun k => bound_Check_api_Tick.f k lo hi u) e ∧ (e = 0 ↔ vb lo hi u = true) := by
  have J1 : ∀ b : Bool, ∃ e : Int, Ev (fun k => bound_Check_api_Tick.j1 k b lo hi u) e ∧ (e = 0 ↔ (b = false ∧ lo ≤ hi)) := by
    intro b
    cases b
    · by_cases c : lo > hi
      · exact ⟨11, one_ev fun k => by rw [bound_Check_api_Tick.j1, if_neg (by decide), if_pos c], by omega⟩
      · exact ⟨0, one_ev fun k => by rw [bound_Check_api_Tick.j1, if_neg (by decide), if_neg c], by simp; omega⟩
    · exact ⟨4, one_ev fun k => by rw [bound_Check_api_Tick.j1, if_pos rfl], by simp⟩
  have J0 : ∀ b : Bool, ∃ e : Int, Ev (fun k => bound_Check_api_Tick.j0 k b lo hi u) e ∧ (e = 0 ↔ (b = false ∧ -1152921504606846976 ≤ lo ∧ lo ≤ hi ∧ hi ≤ 1152921504606846976)) := by
    intro b
    cases b
    · by_cases c : mn lo hi < -1152921504606846976
      · obtain ⟨e, he, h⟩ := J1 true
        refine ⟨e, Ev.step (fun k => by rw [bound_Check_api_Tick.j0, if_neg (by decide), if_pos c]) he, ?_⟩
        unfold mn at c
        rw [h]; simp; split at c <;> omega
      · obtain ⟨e, he, h⟩ := J1 (decide ((mx lo hi) > 1152921504606846976))
        refine ⟨e, Ev.step (fun k => by rw [bound_Check_api_Tick.j0, if_neg (by decide), if_neg c]) he, ?_⟩
        unfold mn at c
        rw [h]; unfold mx; simp only [decide_eq_false_iff_not, true_and]
        split at c <;> split <;> omega
    · exact ⟨3, one_ev fun k => by rw [bound_Check_api_Tick.j0, if_pos rfl], by simp⟩
  unfold bound_Check_api_Tick.f vb
  cases u
  · obtain ⟨e, he, h⟩ := J0 false
    refine ⟨e, Ev.congr (fun k => by rw [if_neg (by decide)]) he, ?_⟩
    rw [h]; simp; omega
  · by_cases z : lo = 0
    · obtain ⟨e, he, h⟩ := J0 (hi != 0)
      refine ⟨e, Ev.congr (fun k => by rw [if_pos rfl, if_pos z]) he, ?_⟩
      rw [h]
      simp [z]
      intro h'; omega
    · obtain ⟨e, he, h⟩ := J0 true
      refine ⟨e, Ev.congr (fun k => by rw [if_pos rfl, if_neg z]) he, ?_⟩
      rw [h]; simp [z]

theorem norm_api_Tick (lo hi : Int) (u : Bool) : Ev (fun k => bound_Norm_api_Tick.f k lo hi u) (nb lo hi u) := by
  obtain ⟨e, he, h⟩ := check_api_Tick lo hi u
  unfold bound_Norm_api_Tick.f nb
  refine Ev.bind he ?_
  by_cases c : e = 0
  · rw [if_pos (h.mp c)]; exact pos_ev c (Ev.now _)
  · rw [if_neg (fun h' => c (h.mpr h'))]; exact neg_ev c (now_ev fun k => by unfold bound_None_api_Tick.f; rfl)
end Go.Proofs.Ytpophefonhpnmaa.Q
end

section
/- Package bound at one type of numbers in plain numbers: vague and Of; no other condition. -/
namespace Go.Proofs.Ytpophefonhpnmaa.Q
open Go.RowKit Go.Proofs.YtpophefonhpnmaaW.PrintWords Go.Proofs.YtpophefonhpnmaaW.PrintLast Go.Proofs.YtpophefonhpnmaaW.PrintMore
set_option linter.unusedVariables false
set_option linter.unusedSimpArgs false

theorem vague_api_Tick (lo hi : Int) (u : Bool) (lo2 hi2 : Int) (u2 : Bool) : Ev (fun k => bound_vague_api_Tick.f k lo hi u lo2 hi2 u2) ((nb lo hi u).2.2 || (nb lo2 hi2 u2).2.2) := by
  unfold bound_vague_api_Tick.f
  refine Ev.bind (norm_api_Tick lo hi u) ?_
  by_cases c : (nb lo hi u).2.2 = true
  · rw [c]; exact pos_ev rfl (Ev.now _)
  · rw [Bool.not_eq_true] at c
    rw [c]; refine neg_ev (by decide) (Ev.bind (norm_api_Tick lo2 hi2 u2) (Ev.now _))
theorem of_api_Tick (lo hi : Int) : Ev (fun k => bound_Of_api_Tick.f k lo hi) (nb lo hi false) := by
  unfold bound_Of_api_Tick.f
  exact Ev.bind (norm_api_Tick lo hi false) (Ev.now _)
theorem nbu_api_Tick {lo hi : Int} {u : Bool} (h : (nb lo hi u).2.2 = false) : u = false := by
  cases u
  · rfl
  · unfold nb at h; split at h <;> simp_all
end Go.Proofs.Ytpophefonhpnmaa.Q
end

section
/- Package bound at one type of numbers in plain numbers: Exact, Add, Neg and Sub; no other condition than those that stand in the statements. -/
namespace Go.Proofs.Ytpophefonhpnmaa.Q
open Go.RowKit Go.Proofs.YtpophefonhpnmaaW.PrintWords Go.Proofs.YtpophefonhpnmaaW.PrintLast Go.Proofs.YtpophefonhpnmaaW.PrintMore
set_option linter.unusedVariables false
set_option linter.unusedSimpArgs false

theorem exact_api_Tick {v : Int} (h0 : -1152921504606846976 ≤ v) (h1 : v ≤ 1152921504606846976) : Ev (fun k => bound_Exact_api_Tick.f k v) (v, v, false) := by
  unfold bound_Exact_api_Tick.f
  refine Ev.bind (of_api_Tick v v) ?_
  rw [nb_ok h0 (Int.le_refl v) h1]
  exact Ev.now _
theorem add_api_Tick (lo hi : Int) (u : Bool) (lo2 hi2 : Int) (u2 : Bool) : Ev (fun k => bound_Add_api_Tick.f k lo hi u lo2 hi2 u2) (if ((nb lo hi u).2.2 || (nb lo2 hi2 u2).2.2) = true then (0, 0, true) else nb (wrap64 (lo + lo2)) (wrap64 (hi + hi2)) false) := by
  unfold bound_Add_api_Tick.f
  refine Ev.bind (vague_api_Tick lo hi u lo2 hi2 u2) ?_
  by_cases c : ((nb lo hi u).2.2 || (nb lo2 hi2 u2).2.2) = true
  · rw [if_pos c]; exact pos_ev c (now_ev fun k => by unfold bound_None_api_Tick.f; rfl)
  · rw [if_neg c]; exact neg_ev c (Ev.bind (of_api_Tick _ _) (Ev.now _))
theorem addk_api_Tick {lo hi lo2 hi2 : Int} (a0 : -576460752303423488 ≤ lo) (a : lo ≤ hi) (a1 : hi ≤ 576460752303423488) (b0 : -576460752303423488 ≤ lo2) (b : lo2 ≤ hi2) (b1 : hi2 ≤ 576460752303423488) :
    Ev (fun k => bound_Add_api_Tick.f k lo hi false lo2 hi2 false) (lo + lo2, hi + hi2, false) := by
  have h := add_api_Tick lo hi false lo2 hi2 false
  rw [nb_ok (by omega) a (by omega), nb_ok (by omega) b (by omega), if_neg (by simp), w64_id (x := lo + lo2) (by omega) (by omega), w64_id (x := hi + hi2) (by omega) (by omega), nb_ok (by omega) (by omega) (by omega)] at h
  exact h
end Go.Proofs.Ytpophefonhpnmaa.Q
end

section
/- Package bound at one type of numbers in plain numbers: Neg and Sub; the bounds stand in each statement. -/
namespace Go.Proofs.Ytpophefonhpnmaa.Q
open Go.RowKit Go.Proofs.YtpophefonhpnmaaW.PrintWords Go.Proofs.YtpophefonhpnmaaW.PrintLast Go.Proofs.YtpophefonhpnmaaW.PrintMore
set_option linter.unusedVariables false
set_option linter.unusedSimpArgs false
theorem neg_api_Tick {lo hi : Int} (h0 : -1152921504606846976 ≤ lo) (h : lo ≤ hi) (h1 : hi ≤ 1152921504606846976) : Ev (fun k => bound_Neg_api_Tick.f k lo hi false) (-hi, -lo, false) := by
  unfold bound_Neg_api_Tick.f
  refine Ev.bind (norm_api_Tick lo hi false) ?_
  rw [nb_ok h0 h h1]
  exact now_ev fun k => by simp only; rw [w64_id (x := -hi) (by omega) (by omega), w64_id (x := -lo) (by omega) (by omega)]
theorem subk_api_Tick {lo hi lo2 hi2 : Int} (a0 : -576460752303423488 ≤ lo) (a : lo ≤ hi) (a1 : hi ≤ 576460752303423488) (b0 : -576460752303423488 ≤ lo2) (b : lo2 ≤ hi2) (b1 : hi2 ≤ 576460752303423488) :
    Ev (fun k => bound_Sub_api_Tick.f k lo hi false lo2 hi2 false) (lo - hi2, hi - lo2, false) := by
  unfold bound_Sub_api_Tick.f
  refine Ev.bind (neg_api_Tick (by omega) b (by omega)) (Ev.bind (addk_api_Tick a0 a a1 (by simp only; omega) (by simp only; omega) (by simp only; omega)) ?_)
  exact now_ev fun k => by simp only [Int.sub_eq_add_neg]
theorem subu_api_Tick {lo2 hi2 : Int} (b0 : -576460752303423488 ≤ lo2) (b : lo2 ≤ hi2) (b1 : hi2 ≤ 576460752303423488) :
    Ev (fun k => bound_Sub_api_Tick.f k 0 0 true lo2 hi2 false) (0, 0, true) := by
  unfold bound_Sub_api_Tick.f
  have h := add_api_Tick 0 0 true (-hi2) (-lo2) false
  rw [nb_none, if_pos (by simp)] at h
  exact Ev.bind (neg_api_Tick (by omega) b (by omega)) (Ev.bind h (Ev.now _))
end Go.Proofs.Ytpophefonhpnmaa.Q
end

section
/- Package bound at one type of numbers in plain numbers: which bounds are valid, and what the smallest functions answer; no conditions but 64 bits where they are named. -/
namespace Go.Proofs.Ytpophefonhpnmaa.Q
open Go.RowKit Go.Proofs.YtpophefonhpnmaaW.PrintWords Go.Proofs.YtpophefonhpnmaaW.PrintLast Go.Proofs.YtpophefonhpnmaaW.PrintMore
set_option linter.unusedVariables false
set_option linter.unusedSimpArgs false

theorem check_api_Arc (lo hi : Int) (u : Bool) : ∃ e : Int, Ev (fun k => bound_Check_api_Arc.f k lo hi u) e ∧ (e = 0 ↔ vb lo hi u = true) := by
  have J1 : ∀ b : Bool, ∃ e : Int, Ev (fun k => bound_Check_api_Arc.j1 k b lo hi u) e ∧ (e = 0 ↔ (b = false ∧ lo ≤ hi)) := by
    intro b
    cases b
    · by_cases c : lo > hi
      · exact ⟨11, one_ev fun k => by rw [bound_Check_api_Arc.j1, if_neg (by decide), if_pos c], by omega⟩
      · exact ⟨0, one_ev fun k => by rw [bound_Check_api_Arc.j1, if_neg (by decide), if_neg c], by simp; omega⟩
    · exact ⟨4, one_ev fun k => by rw [bound_Check_api_Arc.j1, if_pos rfl], by simp⟩
  have J0 : ∀ b : Bool, ∃ e : Int, Ev (fun k => bound_Check_api_Arc.j0 k b lo hi u) e ∧ (e = 0 ↔ (b = false ∧ -1152921504606846976 ≤ lo ∧ lo ≤ hi ∧ hi ≤ 1152921504606846976)) := by
    intro b
    cases b
    · by_cases c : mn lo hi < -1152921504606846976
      · obtain ⟨e, he, h⟩ := J1 true
        refine ⟨e, Ev.step (fun k => by rw [bound_Check_api_Arc.j0, if_neg (by decide), if_pos c]) he, ?_⟩
        unfold mn at c
        rw [h]; simp; split at c <;> omega
      · obtain ⟨e, he, h⟩ := J1 (decide ((mx lo hi) > 1152921504606846976))
        refine ⟨e, Ev.step (fun k => by rw [bound_Check_api_Arc.j0, if_neg (by decide), if_neg c]) he, ?_⟩
        unfold mn at c
        rw [h]; unfold mx; simp only [decide_eq_false_iff_not, true_and]
        split at c <;> split <;> omega
    · exact ⟨3, one_ev fun k => by rw [bound_Check_api_Arc.j0, if_pos rfl], by simp⟩
  unfold bound_Check_api_Arc.f vb
  cases u
  · obtain ⟨e, he, h⟩ := J0 false
    refine ⟨e, Ev.congr (fun k => by rw [if_neg (by decide)]) he, ?_⟩
    rw [h]; simp; omega
  · by_cases z : lo = 0
    · obtain ⟨e, he, h⟩ := J0 (hi != 0)
      refine ⟨e, Ev.congr (fun k => by rw [if_pos rfl, if_pos z]) he, ?_⟩
      rw [h]
      simp [z]
      intro h'; omega
    · obtain ⟨e, he, h⟩ := J0 true
      refine ⟨e, Ev.congr (fun k => by rw [if_pos rfl, if_neg z]) he, ?_⟩
      rw [h]; simp [z]

theorem norm_api_Arc (lo hi : Int) (u : Bool) : Ev (fun k => bound_Norm_api_Arc.f k lo hi u) (nb lo hi u) := by
  obtain ⟨e, he, h⟩ := check_api_Arc lo hi u
  unfold bound_Norm_api_Arc.f nb
  refine Ev.bind he ?_
  by_cases c : e = 0
  · rw [if_pos (h.mp c)]; exact pos_ev c (Ev.now _)
  · rw [if_neg (fun h' => c (h.mpr h'))]; exact neg_ev c (now_ev fun k => by unfold bound_None_api_Arc.f; rfl)
end Go.Proofs.Ytpophefonhpnmaa.Q
end

section
/- Package bound at one type of numbers in plain numbers: vague and Of; no other condition. -/
namespace Go.Proofs.Ytpophefonhpnmaa.Q
open Go.RowKit Go.Proofs.YtpophefonhpnmaaW.PrintWords Go.Proofs.YtpophefonhpnmaaW.PrintLast Go.Proofs.YtpophefonhpnmaaW.PrintMore
set_option linter.unusedVariables false
set_option linter.unusedSimpArgs false

theorem vague_api_Arc (lo hi : Int) (u : Bool) (lo2 hi2 : Int) (u2 : Bool) : Ev (fun k => bound_vague_api_Arc.f k lo hi u lo2 hi2 u2) ((nb lo hi u).2.2 || (nb lo2 hi2 u2).2.2) := by
  unfold bound_vague_api_Arc.f
  refine Ev.bind (norm_api_Arc lo hi u) ?_
  by_cases c : (nb lo hi u).2.2 = true
  · rw [c]; exact pos_ev rfl (Ev.now _)
  · rw [Bool.not_eq_true] at c
    rw [c]; refine neg_ev (by decide) (Ev.bind (norm_api_Arc lo2 hi2 u2) (Ev.now _))
theorem of_api_Arc (lo hi : Int) : Ev (fun k => bound_Of_api_Arc.f k lo hi) (nb lo hi false) := by
  unfold bound_Of_api_Arc.f
  exact Ev.bind (norm_api_Arc lo hi false) (Ev.now _)
theorem nbu_api_Arc {lo hi : Int} {u : Bool} (h : (nb lo hi u).2.2 = false) : u = false := by
  cases u
  · rfl
  · unfold nb at h; split at h <;> simp_all
end Go.Proofs.Ytpophefonhpnmaa.Q
end

section
/- Package bound at one type of numbers in plain numbers: Exact, Add, Neg and Sub; no other condition than those that stand in the statements. -/
namespace Go.Proofs.Ytpophefonhpnmaa.Q
open Go.RowKit Go.Proofs.YtpophefonhpnmaaW.PrintWords Go.Proofs.YtpophefonhpnmaaW.PrintLast Go.Proofs.YtpophefonhpnmaaW.PrintMore
set_option linter.unusedVariables false
set_option linter.unusedSimpArgs false

theorem exact_api_Arc {v : Int} (h0 : -1152921504606846976 ≤ v) (h1 : v ≤ 1152921504606846976) : Ev (fun k => bound_Exact_api_Arc.f k v) (v, v, false) := by
  unfold bound_Exact_api_Arc.f
  refine Ev.bind (of_api_Arc v v) ?_
  rw [nb_ok h0 (Int.le_refl v) h1]
  exact Ev.now _
theorem add_api_Arc (lo hi : Int) (u : Bool) (lo2 hi2 : Int) (u2 : Bool) : Ev (fun k => bound_Add_api_Arc.f k lo hi u lo2 hi2 u2) (if ((nb lo hi u).2.2 || (nb lo2 hi2 u2).2.2) = true then (0, 0, true) else nb (wrap64 (lo + lo2)) (wrap64 (hi + hi2)) false) := by
  unfold bound_Add_api_Arc.f
  refine Ev.bind (vague_api_Arc lo hi u lo2 hi2 u2) ?_
  by_cases c : ((nb lo hi u).2.2 || (nb lo2 hi2 u2).2.2) = true
  · rw [if_pos c]; exact pos_ev c (now_ev fun k => by unfold bound_None_api_Arc.f; rfl)
  · rw [if_neg c]; exact neg_ev c (Ev.bind (of_api_Arc _ _) (Ev.now _))
theorem addk_api_Arc {lo hi lo2 hi2 : Int} (a0 : -576460752303423488 ≤ lo) (a : lo ≤ hi) (a1 : hi ≤ 576460752303423488) (b0 : -576460752303423488 ≤ lo2) (b : lo2 ≤ hi2) (b1 : hi2 ≤ 576460752303423488) :
    Ev (fun k => bound_Add_api_Arc.f k lo hi false lo2 hi2 false) (lo + lo2, hi + hi2, false) := by
  have h := add_api_Arc lo hi false lo2 hi2 false
  rw [nb_ok (by omega) a (by omega), nb_ok (by omega) b (by omega), if_neg (by simp), w64_id (x := lo + lo2) (by omega) (by omega), w64_id (x := hi + hi2) (by omega) (by omega), nb_ok (by omega) (by omega) (by omega)] at h
  exact h
end Go.Proofs.Ytpophefonhpnmaa.Q
end

section
/- The bound of a rotation's angle, in plain numbers; the bounds stand in each statement. -/
namespace Go.Proofs.Ytpophefonhpnmaa.Q
open Go.RowKit Go.Proofs.YtpophefonhpnmaaW.PrintWords Go.Proofs.YtpophefonhpnmaaW.PrintLast Go.Proofs.YtpophefonhpnmaaW.PrintMore
set_option linter.unusedVariables false
set_option linter.unusedSimpArgs false

theorem RateOk.vf {t a N D : Int} (h : RateOk t a N D) : vf N D := ⟨by have := h.N0; omega, by have := h.N1; have := h.D1; omega, h.D0, by have := h.D1; omega, h.one⟩
theorem upq_hi {v d c : Int} (hd : 0 < d) (h : v ≤ c * d) : upq v d ≤ c := by
  have e := Int.emod_add_mul_ediv v d
  have e0 := Int.emod_nonneg v (show d ≠ 0 by omega)
  have ec : d * (v / d) = v / d * d := Int.mul_comm _ _
  unfold upq
  split
  · exact Int.le_of_mul_le_mul_right (a := d) (by omega) hd
  · have : v / d < c := Int.lt_of_mul_lt_mul_right (a := d) (by omega) (by omega)
    omega
theorem upq_lo {v d c : Int} (hd : 0 < d) (h : c * d ≤ v) : c ≤ upq v d := by
  have := (Int.le_ediv_iff_mul_le hd).mpr h
  unfold upq; split <;> omega
theorem upq_ge (v d : Int) : v / d ≤ upq v d ∧ upq v d ≤ v / d + 1 := by unfold upq; split <;> omega
theorem upq_mono {v w d : Int} (hd : 0 < d) (h : v ≤ w) : upq v d ≤ upq w d := by
  refine upq_hi hd ?_
  have e := Int.emod_add_mul_ediv w d
  have e1 := Int.emod_lt_of_pos w hd
  have ec : d * (w / d) = w / d * d := Int.mul_comm _ _
  unfold upq
  split
  · omega
  · rw [Int.add_mul]; omega

theorem ceil_ev {n d : Int} (h : vf n d) : Ev (fun k => frac_Ceil.f k n d) (upq n d) := by
  have h' := h
  obtain ⟨a, b, c, e, g⟩ := h
  unfold frac_Ceil.f frac_rounded__num_CeilDiv.f
  exact Ev.bind (Ev.bind (fcheck_ok h') (pos_ev rfl (some_ev (ceildiv (by omega) (by omega) c) (Ev.now _)))) (Ev.now _)

theorem checkrate_ev {t a N D : Int} (h : RateOk t a N D) : Ev (fun k => scale_CheckRate.f k t a N D) 0 := by
  have h0 := h.t0
  have h1 := h.t1
  have h2 := h.a0
  have h3 := h.a1
  have h4 := h.N0
  have u : upq N D ≤ 61 := upq_hi (by have := h.D0; omega) (by have := h.N1; omega)
  unfold scale_CheckRate.f
  refine Ev.bind (fcheck_ok h.vf) (neg_ev (by omega) (neg_ev (by omega) (neg_ev (by omega) ?_)))
  rw [decide_eq_false (by omega)]
  refine Ev.step (fun k => by rw [scale_CheckRate.j0, if_neg (by decide), if_pos rfl]) ?_
  refine neg_ev (by omega) (Ev.bind (ceil_ev h.vf) ?_)
  exact neg_ev (by omega) (Ev.now _)

/-- Products of a time and a rate. -/
theorem rate_bd {t a N D x : Int} (h : RateOk t a N D) (x0 : -17592186044416 ≤ x) (x1 : x ≤ 17592186044416) : -1073123348709376 ≤ x * N / D ∧ x * N / D ≤ 1073123348709376 := by
  have h4 := h.N0
  have h5 := h.N1
  have h6 := h.D0
  have m0 : x * N ≤ 17592186044416 * N := Int.mul_le_mul_of_nonneg_right x1 (by omega)
  have m1 : -17592186044416 * N ≤ x * N := Int.mul_le_mul_of_nonneg_right x0 (by omega)
  constructor
  · rw [Int.le_ediv_iff_mul_le (by omega)]; omega
  · have : x * N / D < 1073123348709377 := by rw [Int.ediv_lt_iff_lt_mul (by omega)]; omega
    omega
theorem fits_id {n : Int} (h0 : -9223372036854775808 ≤ n) (h1 : n ≤ 9223372036854775807) : fits n = true := by unfold fits; simp [h0, h1]
def sdl (t a N D lo : Int) : Int := (lo - t) * N / D + a
def sdh (t a N D hi : Int) : Int := upq ((hi - t) * N) D + a
theorem sidereal_ev {t a N D lo hi : Int} (h : RateOk t a N D) (l0 : -15000000000000 ≤ lo) (l : lo ≤ hi) (l1 : hi ≤ 15000000000000) :
    Ev (fun k => scale_Sidereal.f k t a N D lo hi false) (sdl t a N D lo, sdh t a N D hi, false) ∧ -1152921504606846976 ≤ sdl t a N D lo ∧ sdl t a N D lo ≤ sdh t a N D hi ∧ sdh t a N D hi ≤ 1152921504606846976 := by
  have h0 := h.t0
  have h1 := h.t1
  have h2 := h.a0
  have h3 := h.a1
  have h4 := h.N0
  have h5 := h.N1
  have h6 := h.D0
  have h7 := h.D1
  have x := rate_bd h (x := lo - t) (by omega) (by omega)
  have y := rate_bd h (x := hi - t) (by omega) (by omega)
  have z := upq_ge ((hi - t) * N) D
  have w : (lo - t) * N / D ≤ (hi - t) * N / D := Int.ediv_le_ediv (by omega) (Int.mul_le_mul_of_nonneg_right (by omega) (by omega))
  unfold sdl sdh
  refine ⟨?_, by omega, by omega, by omega⟩
  have A := muldiv (a := lo - t) (b := N) (d := D) (by omega) (by omega) (by omega) (by omega) (by omega)
  rw [if_neg (by omega), if_pos (fits_id (by omega) (by omega))] at A
  have B := muldivup (a := hi - t) (b := N) (d := D) (by omega) (by omega) (by omega) (by omega) (by omega)
  rw [if_neg (by omega), if_pos (fits_id (by omega) (by omega)), if_pos (fits_id (by omega) (by omega))] at B
  unfold scale_Sidereal.f
  refine Ev.bind (exact_api_Tick (by omega) (by omega)) (Ev.bind (subk_api_Tick (by omega) l (by omega) (by simp only; omega) (Int.le_refl _) (by simp only; omega)) (Ev.bind (checkrate_ev h) (pos_ev rfl ?_)))
  refine Ev.step (fun k => by rw [scale_Sidereal.j0, if_neg (by simp)]) ?_
  refine Ev.bind A (Ev.bind B (pos_ev rfl ?_))
  refine Ev.step (fun k => by rw [scale_Sidereal.j1, if_neg (by simp)]) ?_
  refine Ev.bind (of_api_Arc _ _) (Ev.bind (exact_api_Arc (by omega) (by omega)) ?_)
  rw [nb_ok (by simp only; omega) (by simp only; omega) (by simp only; omega)]
  exact Ev.bind (addk_api_Arc (by simp only; omega) (by simp only; omega) (by simp only; omega) (by simp only; omega) (Int.le_refl _) (by simp only; omega)) (Ev.now _)
theorem sidereal_none {t a N D : Int} (h : RateOk t a N D) : Ev (fun k => scale_Sidereal.f k t a N D 0 0 true) (0, 0, true) := by
  have h0 := h.t0
  have h1 := h.t1
  unfold scale_Sidereal.f
  refine Ev.bind (exact_api_Tick (by omega) (by omega)) (Ev.bind (subu_api_Tick (by simp only; omega) (Int.le_refl _) (by simp only; omega)) (Ev.bind (checkrate_ev h) (pos_ev rfl ?_)))
  exact one_ev fun k => by rw [scale_Sidereal.j0, if_pos rfl]; unfold bound_None_api_Arc.f; rfl
end Go.Proofs.Ytpophefonhpnmaa.Q
end

section
/- ScaleFirst in plain numbers: for every stream of numbers the printed function answers true; no other condition. -/
namespace Go.Proofs.Ytpophefonhpnmaa.Pure
open Go.RowKit Go.Proofs.Ytpophefonhpnmaa.Q Go.Proofs.YtpophefonhpnmaaW.PrintWords Go.Proofs.YtpophefonhpnmaaW.PrintLast
set_option linter.unusedVariables false
set_option linter.unusedSimpArgs false
namespace SF
set_option maxRecDepth 100000 in
theorem scaleFact_ev : Ev (fun k => spykeep1_scaleFact.f k) true :=
  Ev.of (fun k => spykeep1_scaleFact.mono k) (k := 30) (by decide +kernel)

theorem mod_turn {a : Int} (a0 : -9000000000000000000 ≤ a) (a1 : a ≤ 9000000000000000000) : num_Mod.f a 4294967296 = some (a % 4294967296) := by
  unfold num_Mod.f
  rw [if_neg (by decide), if_neg (by decide)]
  rcases Int.le_total 0 a with h | h
  · rw [Int.tmod_eq_emod_of_nonneg h, if_neg (by omega)]
  · have e : Int.tmod a 4294967296 = -((-a) % 4294967296) := by
      rw [← Int.tmod_eq_emod_of_nonneg (a := -a) (by omega), ← Int.neg_tmod, Int.neg_neg]
    rw [e]
    by_cases z : -((-a) % 4294967296) < 0
    · rw [if_pos z, w64_id (by omega) (by omega)]; congr 1; omega
    · rw [if_neg z]; congr 1; omega
theorem upq_le {v d : Int} (hd : 0 < d) : v ≤ upq v d * d := by
  have e := Int.emod_add_mul_ediv v d
  have e0 := Int.emod_nonneg v (show d ≠ 0 by omega)
  have e1 := Int.emod_lt_of_pos v hd
  have ec : d * (v / d) = v / d * d := Int.mul_comm _ _
  unfold upq
  split
  · omega
  · rw [Int.add_mul]; omega
theorem upq_gt {v d : Int} (hd : 0 < d) : (upq v d - 1) * d < v := by
  have e := Int.emod_add_mul_ediv v d
  have e0 := Int.emod_nonneg v (show d ≠ 0 by omega)
  have ec : d * (v / d) = v / d * d := Int.mul_comm _ _
  unfold upq
  split
  · rw [Int.sub_mul]; omega
  · rw [show v / d + 1 - 1 = v / d by omega]; omega

theorem angle_ev {t a N D x : Int} (h : RateOk t a N D) (x0 : -15000000000000 ≤ x) (x1 : x ≤ 15000000000000) : Ev (fun k => scale_angle.f k t a N D x) (sdl t a N D x) := by
  have h0 := h.t0
  have h1 := h.t1
  have h2 := h.a0
  have h3 := h.a1
  have h4 := h.N0
  have h5 := h.N1
  have h6 := h.D0
  have h7 := h.D1
  have b := rate_bd h (x := x - t) (by omega) (by omega)
  have A := muldiv (a := x - t) (b := N) (d := D) (by omega) (by omega) (by omega) (by omega) (by omega)
  rw [if_neg (by omega), if_pos (fits_id (by omega) (by omega))] at A
  unfold scale_angle.f
  rw [w64_id (x := x - t) (by omega) (by omega)]
  refine Ev.bind A ?_
  refine now_ev fun k => ?_
  unfold sdl
  rw [w64_id (by simp only; omega) (by simp only; omega)]
theorem at_ev {t a N D x : Int} (h : RateOk t a N D) (x0 : -15000000000000 ≤ x) (x1 : x ≤ 15000000000000) : Ev (fun k => spykeep1_ScaleFirst_1.f k x [(⟨t, a, (⟨N, D⟩ : S77)⟩ : S90)]) (sdl t a N D x) := by
  have e : rd_T90 [(⟨t, a, (⟨N, D⟩ : S77)⟩ : S90)] 0 = ⟨t, a, ⟨N, D⟩⟩ := rfl
  unfold spykeep1_ScaleFirst_1.f
  refine pos_ev (by simp) ?_
  simp only [e]
  exact Ev.bind (exact_api_Tick (by omega) (by omega)) (Ev.bind (sidereal_ev h x0 (Int.le_refl _) x1).1 (Ev.now _))

theorem when_ev {t a N D x b : Int} (h : RateOk t a N D) (x0 : -1728000012000 ≤ x) (x1 : x ≤ 1728000012000) (b0 : 0 ≤ b) (b1 : b < 4294967296) :
    ∃ d m, 0 ≤ m ∧ m < 4294967296 ∧ m = (b - sdl t a N D x) % 4294967296 ∧ (d - 1) * N < ((x - t) * N / D + m) * D ∧ ((x - t) * N / D + m) * D ≤ d * N ∧ -1000000000000000 * 2 ≤ d ∧ d ≤ x - t + 4294967296 ∧ Ev (fun k => scale_When.f k t a N D x b) (mx (d + t) x, 0) := by
  have h0 := h.t0
  have h1 := h.t1
  have h2 := h.a0
  have h3 := h.a1
  have h4 := h.N0
  have h5 := h.N1
  have h6 := h.D0
  have h7 := h.D1
  have h8 := h.ND
  have bd := rate_bd h (x := x - t) (by omega) (by omega)
  have AN := angle_ev h (x := x) (by omega) (by omega)
  have sd : sdl t a N D x = (x - t) * N / D + a := rfl
  have fl : (x - t) * N / D * D ≤ (x - t) * N := Int.ediv_mul_le _ (by omega)
  have Md := mod_turn (a := b - sdl t a N D x) (by omega) (by omega)
  have m0 : 0 ≤ (b - sdl t a N D x) % 4294967296 := Int.emod_nonneg _ (by decide)
  have m1 : (b - sdl t a N D x) % 4294967296 < 4294967296 := Int.emod_lt_of_pos _ (by decide)
  generalize hm : (b - sdl t a N D x) % 4294967296 = m at m0 m1 Md
  generalize hF : (x - t) * N / D = F at bd sd fl
  have mD : m * D ≤ 4294967296 * N := by
    have e1 : m * D ≤ 4294967296 * D := Int.mul_le_mul_of_nonneg_right (by omega) (by omega)
    have e2 : 4294967296 * D ≤ 4294967296 * N := Int.mul_le_mul_of_nonneg_left h8 (by decide)
    omega
  have up : upq ((F + m) * D) N ≤ x - t + 4294967296 := by
    refine upq_hi (by omega) ?_
    rw [Int.add_mul, Int.add_mul]; omega
  have lw : -1100000000000000 ≤ (F + m) * D / N := by
    rw [Int.le_ediv_iff_mul_le (by omega)]
    have e1 : -1100000000000000 * D ≤ (F + m) * D := Int.mul_le_mul_of_nonneg_right (by omega) (by omega)
    have e2 : -1100000000000000 * N ≤ -1100000000000000 * D := by omega
    omega
  have ug := upq_ge ((F + m) * D) N
  have B := muldivup (a := F + m) (b := D) (d := N) (by omega) (by omega) (by omega) (by omega) (by omega)
  rw [if_neg (by omega), if_pos (fits_id (by omega) (by omega)), if_pos (fits_id (by omega) (by omega))] at B
  have lt := upq_gt (v := (F + m) * D) (d := N) (by omega)
  have le := upq_le (v := (F + m) * D) (d := N) (by omega)
  generalize hd : upq ((F + m) * D) N = d at up ug B lt le
  have Ad : num_Add.f d t = some (d + t, true) := by
    unfold num_Add.f
    rw [w64_id (x := d + t) (by omega) (by omega)]
    by_cases c : ((decide (d < 0)) == (decide (t < 0))) = true
    · rw [if_pos c]
      rw [if_neg]
      simp only [beq_iff_eq, decide_eq_decide] at c
      simp only [bne_iff_ne, ne_eq, decide_eq_decide, Classical.not_not]
      omega
    · rw [if_neg c]
  refine ⟨d, m, m0, m1, rfl, lt, le, by omega, up, ?_⟩
  unfold scale_When.f
  refine Ev.bind (checkrate_ev h) (pos_ev rfl (neg_ev (by omega) (neg_ev (by omega) (neg_ev (by omega) ?_))))
  rw [decide_eq_false (by omega)]
  refine Ev.step (fun k => by rw [scale_When.j0, if_neg (by decide)]) ?_
  refine Ev.bind AN ?_
  rw [w64_id (x := b - sdl t a N D x) (by omega) (by omega)]
  refine some_ev Md ?_
  rw [w64_id (x := sdl t a N D x + m) (by omega) (by omega), w64_id (x := sdl t a N D x + m - a) (by omega) (by omega), show sdl t a N D x + m - a = F + m by omega]
  refine Ev.bind B (pos_ev rfl (some_ev Ad (pos_ev rfl (neg_ev (by simp only; omega) (Ev.now _)))))
end SF
open SF
theorem ScaleFirst : spykeep1_ScaleFirst.Pure := by
  intro l hm _ _
  have hl : l.length ≤ 9223372036854775807 := by have h := hm; unfold maxLen at h; omega
  refine Ev.rounds (r := true) ?_
  obtain ⟨t, a, N, D, p, hR, p0, p1, R⟩ := rate_in l hl (p := 0) (by decide) (by decide)
  obtain ⟨y, q, hT, q0, q1, t0, t1⟩ := time_in l (p := p) hl (by omega) (by omega)
  obtain ⟨b, q2, hA, q20, q21, b0, b1⟩ := arc_in l (p := q) hl (by omega) (by omega)
  have e3 := tdiv10 t0 t1
  generalize hx : Int.tdiv y 10 = x at e3
  obtain ⟨x0, x1⟩ := e3
  obtain ⟨d, m, m0, m1, me, lt, le, d0, d1, W⟩ := when_ev R x0 x1 b0 b1
  have h0 := R.t0
  have h1 := R.t1
  have h4 := R.N0
  have h6 := R.D0
  have h2 := R.a0
  have h3 := R.a1
  have bd := rate_bd R (x := x - t) (by omega) (by omega)
  have w : wrap64 x = x := w64_id (by omega) (by omega)
  have mxp : x ≤ mx (d + t) x ∧ d + t ≤ mx (d + t) x ∧ (mx (d + t) x = x ∨ mx (d + t) x = d + t) := by unfold mx; split <;> omega
  unfold spykeep1_ScaleFirst.f
  refine Ev.bind hR (some_ev hT (some_ev hA ?_))
  rw [hx, w]
  refine Ev.bind W (Ev.bind scaleFact_ev (pos_ev rfl (pos_ev rfl ?_)))
  generalize mx (d + t) x = T at mxp
  obtain ⟨T0, T1, T2⟩ := mxp
  have cT : decide (T < x) = false := decide_eq_false (by omega)
  simp only [cT]
  have Ax := at_ev R (x := x) (by omega) (by omega)
  have AT := at_ev R (x := T) (by omega) (by omega)
  have At1 := at_ev R (x := T - 1) (by omega) (by omega)
  have sd : sdl t a N D x = (x - t) * N / D + a := rfl
  have Md := mod_turn (a := b - sdl t a N D x) (by omega) (by omega)
  rw [← me] at Md
  have Mn := mod_turn (a := sdl t a N D x) (by omega) (by omega)
  have An : Ev (fun k => scale_Angle.f k t a N D x) (sdl t a N D x % 4294967296) := by
    unfold scale_Angle.f
    refine Ev.bind (checkrate_ev R) (pos_ev rfl (neg_ev (by omega) ?_))
    rw [decide_eq_false (by omega)]
    refine Ev.step (fun k => by rw [scale_Angle.j0, if_neg (by decide)]) ?_
    exact Ev.bind (angle_ev R (by omega) (by omega)) (some_ev Mn (Ev.now _))
  have g : sdl t a N D x + m ≤ sdl t a N D T := by
    have e1 : (x - t) * N / D + m ≤ d * N / D := (Int.le_ediv_iff_mul_le (by omega)).mpr le
    have e2 : d * N / D ≤ (T - t) * N / D := Int.ediv_le_ediv (by omega) (Int.mul_le_mul_of_nonneg_right (by omega) (by omega))
    unfold sdl; omega
  refine Ev.step (fun k => by rw [spykeep1_ScaleFirst.j0, if_neg (by decide)]) ?_
  refine Ev.bind Ax (Ev.bind Ax ?_)
  rw [w64_id (x := b - sdl t a N D x) (by omega) (by omega)]
  refine some_ev Md (Ev.bind AT ?_)
  rw [w64_id (x := sdl t a N D x + m) (by omega) (by omega)]
  refine pos_ev g ?_
  by_cases c : T = x
  · refine pos_ev c (Ev.bind An (Ev.bind Ax (some_ev Mn (now_ev fun k => by simp))))
  · refine neg_ev c ?_
    rw [w64_id (x := T - 1) (by omega) (by omega)]
    have g2 : sdl t a N D (T - 1) < sdl t a N D x + m := by
      have e1 : (d - 1) * N / D < (x - t) * N / D + m := (Int.ediv_lt_iff_lt_mul (by omega)).mpr lt
      have e2 : T - 1 - t = d - 1 := by omega
      unfold sdl; rw [e2]; omega
    refine Ev.bind At1 (pos_ev g2 (Ev.bind An (Ev.bind Ax (some_ev Mn (now_ev fun k => by simp)))))
end Go.Proofs.Ytpophefonhpnmaa.Pure
end
