/- This session's own texts KHorizonAimedM1 KHorizonAimedM2 KHorizonAimedM3 KHorizonAimedM4 KHorizonAimedM5 KHorizonAimedM6 KHorizonAimedMK1 KHorizonAimedBL1 KHorizonAimedST1 KHorizonAimedFD1 KHorizonAimedT1 KHorizonAimedT2 KHorizonAimedT3 KHorizonAimedT4 KHorizonAimedT5 KHorizonAimedT6 KHorizonAimedT7 KHorizonAimedT8 KHorizonAimedW1 KHorizonAimedW2 KHorizonAimedBD0 KHorizonAimedBDArc KHorizonAimedBDArc2 KHorizonAimedBDArc3 KHorizonAimedBDFix KHorizonAimedBDFix2 KHorizonAimedBDFix3 KHorizonAimedBDFix4 KHorizonAimedBDFixH KHorizonAimedBO1 KHorizonAimedMN1 KHorizonAimedBDFixI KHorizonAimedBO2Mul KHorizonAimedBO2Div KHorizonAimedBO3 KHorizonAimedHB1 KHorizonAimedWaSin KHorizonAimedWaCos KHorizonAimedHA1 KHorizonAimedHA2 KHorizonAimedHA3 KHorizonAimedHA4 KHorizonAimedHA5 KHorizonAimedPureHorizonAimed, one after the other. -/
import Derived.Test.YtjgikgbolacikaaKHorizonAimedQx33
import Derived.Test.YtjgikgbolacikaaKHorizonAimedQx32
import Derived.Test.YtjgikgbolacikaaKHorizonAimedQx7
import Derived.Test.YtjgikgbolacikaaKHorizonAimedQx5
import Derived.Test.YtjgikgbolacikaaKHorizonAimedQx6
import Derived.Test.YtjgikgbolacikaaKHorizonAimedQx9
import Derived.Test.YtjgikgbolacikaaKHorizonAimedQx4
import Derived.Test.YtjgikgbolacikaaKHorizonAimedQx8
import Derived.Test.YtjgikgbolacikaaKHorizonAimedQx16
import Derived.Test.YtjgikgbolacikaaKHorizonAimedQx17
import Derived.Test.YtjgikgbolacikaaKHorizonAimedQx19
import Derived.Test.YtjgikgbolacikaaKHorizonAimedQx22
import Derived.Test.YtjgikgbolacikaaKHorizonAimedQx20
import Derived.Test.YtjgikgbolacikaaKHorizonAimedQx21
import Derived.Test.YtjgikgbolacikaaKHorizonAimedQx30
import Derived.Test.YtjgikgbolacikaaKHorizonAimedQx28
import Derived.Test.YtjgikgbolacikaaKHorizonAimedQx29
import Derived.Test.YtjgikgbolacikaaKHorizonAimedQx23
import Derived.Test.YtjgikgbolacikaaKHorizonAimedQx31
import Derived.Test.YtjgikgbolacikaaKHorizonAimedQx26
import Derived.Test.YtjgikgbolacikaaKHorizonAimedQx27
import Derived.Test.YtjgikgbolacikaaKHorizonAimedQx24
import Derived.Test.YtjgikgbolacikaaKHorizonAimedQx25
import Derived.Test.YtjgikgbolacikaaKHorizonAimedQx12
import Derived.Test.YtjgikgbolacikaaKHorizonAimedQx10
import Derived.Test.YtjgikgbolacikaaKHorizonAimedQx15
import Derived.Test.YtjgikgbolacikaaKHorizonAimedQx13
import Derived.Test.YtjgikgbolacikaaKHorizonAimedQx14
import Derived.Test.YtjgikgbolacikaaKHorizonAimedQx11
import Derived.Test.YtjgikgbolacikaaKHorizonAimedQx18

section
/- Wrapping, shifts and products of 64 bits: what the printed functions of math/bits compute; no other condition than those that each statement names. -/
namespace Go.Proofs.Ytjgikgbolacikaa.Q
open Go.RowKit Go.Proofs.YtjgikgbolacikaaW.PrintWords Go.Proofs.YtjgikgbolacikaaW.PrintLast Go.Proofs.YtjgikgbolacikaaW.PrintMore
set_option linter.unusedVariables false
set_option linter.unusedSimpArgs false

theorem uw (x : Int) : IntKind.u64.wrap x = x % 18446744073709551616 := u64_wrap_eq x
theorem uw_id {x : Int} (h0 : 0 ≤ x) (h1 : x < 18446744073709551616) : IntKind.u64.wrap x = x := by rw [uw]; omega
theorem w64_id {x : Int} (h0 : -9223372036854775808 ≤ x) (h1 : x < 9223372036854775808) : wrap64 x = x := by unfold wrap64; omega
theorem uw_wrap64 (x : Int) : wrap64 (IntKind.u64.wrap x) = wrap64 x := by rw [uw]; unfold wrap64; omega

theorem u64_mask32 {x : Int} (h0 : 0 ≤ x) (h1 : x < 18446744073709551616) : Go.bits .and .u64 x 4294967295 = x % 4294967296 :=
  Go.bits_mask .u64 64 (by decide) (fun n h h' => by rw [uw]; omega) 32 (by decide) x h0 h1

theorem mul64 {a b : Int} (a0 : 0 ≤ a) (a1 : a < 18446744073709551616) (b0 : 0 ≤ b) (b1 : b < 18446744073709551616) :
    bits_Mul64.f a b = some (a * b / 18446744073709551616, a * b % 18446744073709551616) := by
  unfold bits_Mul64.f
  rw [u64_mask32 a0 a1, u64_mask32 b0 b1]
  generalize hx1 : a / 4294967296 = x1
  generalize hx0 : a % 4294967296 = x0
  generalize hy1 : b / 4294967296 = y1
  generalize hy0 : b % 4294967296 = y0
  have hx : a = x1 * 4294967296 + x0 := by omega
  have hy : b = y1 * 4294967296 + y0 := by omega
  have p : ∀ {u v : Int}, 0 ≤ u → u ≤ 4294967295 → 0 ≤ v → v ≤ 4294967295 → 0 ≤ u * v ∧ u * v ≤ 18446744065119617025 := by
    intro u v hu0 hu1 hv0 hv1
    refine ⟨Int.mul_nonneg hu0 hv0, ?_⟩
    have := Int.mul_le_mul hu1 hv1 hv0 (by omega)
    omega
  have q11 := p (u := x1) (v := y1) (by omega) (by omega) (by omega) (by omega)
  have q10 := p (u := x1) (v := y0) (by omega) (by omega) (by omega) (by omega)
  have q01 := p (u := x0) (v := y1) (by omega) (by omega) (by omega) (by omega)
  have q00 := p (u := x0) (v := y0) (by omega) (by omega) (by omega) (by omega)
  have e : a * b = x1 * y1 * 18446744073709551616 + (x1 * y0 + x0 * y1) * 4294967296 + x0 * y0 := by
    rw [hx, hy]; grind
  rw [e]
  generalize x1 * y1 = P at *
  generalize x1 * y0 = Q at *
  generalize x0 * y1 = R at *
  generalize x0 * y0 = S at *
  rw [uw_id (x := S) (by omega) (by omega), uw_id (x := Q) (by omega) (by omega), uw_id (x := R) (by omega) (by omega), uw_id (x := P) (by omega) (by omega),
    uw_id (x := Q + S / 4294967296) (by omega) (by omega), u64_mask32 (by omega) (by omega), uw, uw, uw]
  congr 2 <;> omega

theorem size_some {a : Int} (h0 : -9223372036854775808 ≤ a) (h1 : a < 9223372036854775808) : num_size.f a = some (if a < 0 then -a else a) := by
  unfold num_size.f
  split
  · rw [uw, uw]; congr 1; omega
  · rw [uw]; congr 1; omega
end Go.Proofs.Ytjgikgbolacikaa.Q
end

section
/- The number of leading zeros of a number of 64 bits, and the quotient of 128 by 64 bits: what the printed functions of math/bits compute, for every divisor greater than the upper half. -/
namespace Go.Proofs.Ytjgikgbolacikaa.Q
open Go.RowKit Go.Proofs.YtjgikgbolacikaaW.PrintWords Go.Proofs.YtjgikgbolacikaaW.PrintLast Go.Proofs.YtjgikgbolacikaaW.PrintMore
set_option linter.unusedVariables false
set_option linter.unusedSimpArgs false

set_option maxRecDepth 100000 in
def len8 : ByteArray := ⟨#[0, 1, 2, 2, 3, 3, 3, 3, 4, 4, 4, 4, 4, 4, 4, 4, 5, 5, 5, 5, 5, 5, 5, 5, 5, 5, 5, 5, 5, 5, 5, 5, 6, 6, 6, 6, 6, 6, 6, 6, 6, 6, 6, 6, 6, 6, 6, 6, 6, 6, 6, 6, 6, 6, 6, 6, 6, 6, 6, 6, 6, 6, 6, 6, 7, 7, 7, 7, 7, 7, 7, 7, 7, 7, 7, 7, 7, 7, 7, 7, 7, 7, 7, 7, 7, 7, 7, 7, 7, 7, 7, 7, 7, 7, 7, 7, 7, 7, 7, 7, 7, 7, 7, 7, 7, 7, 7, 7, 7, 7, 7, 7, 7, 7, 7, 7, 7, 7, 7, 7, 7, 7, 7, 7, 7, 7, 7, 7, 8, 8, 8, 8, 8, 8, 8, 8, 8, 8, 8, 8, 8, 8, 8, 8, 8, 8, 8, 8, 8, 8, 8, 8, 8, 8, 8, 8, 8, 8, 8, 8, 8, 8, 8, 8, 8, 8, 8, 8, 8, 8, 8, 8, 8, 8, 8, 8, 8, 8, 8, 8, 8, 8, 8, 8, 8, 8, 8, 8, 8, 8, 8, 8, 8, 8, 8, 8, 8, 8, 8, 8, 8, 8, 8, 8, 8, 8, 8, 8, 8, 8, 8, 8, 8, 8, 8, 8, 8, 8, 8, 8, 8, 8, 8, 8, 8, 8, 8, 8, 8, 8, 8, 8, 8, 8, 8, 8, 8, 8, 8, 8, 8, 8, 8, 8, 8, 8, 8, 8, 8, 8, 8, 8, 8, 8, 8, 8]⟩
set_option maxRecDepth 100000 in
theorem len8_eq : (⟨#[0, 1, 2, 2, 3, 3, 3, 3, 4, 4, 4, 4, 4, 4, 4, 4, 5, 5, 5, 5, 5, 5, 5, 5, 5, 5, 5, 5, 5, 5, 5, 5, 6, 6, 6, 6, 6, 6, 6, 6, 6, 6, 6, 6, 6, 6, 6, 6, 6, 6, 6, 6, 6, 6, 6, 6, 6, 6, 6, 6, 6, 6, 6, 6, 7, 7, 7, 7, 7, 7, 7, 7, 7, 7, 7, 7, 7, 7, 7, 7, 7, 7, 7, 7, 7, 7, 7, 7, 7, 7, 7, 7, 7, 7, 7, 7, 7, 7, 7, 7, 7, 7, 7, 7, 7, 7, 7, 7, 7, 7, 7, 7, 7, 7, 7, 7, 7, 7, 7, 7, 7, 7, 7, 7, 7, 7, 7, 7, 8, 8, 8, 8, 8, 8, 8, 8, 8, 8, 8, 8, 8, 8, 8, 8, 8, 8, 8, 8, 8, 8, 8, 8, 8, 8, 8, 8, 8, 8, 8, 8, 8, 8, 8, 8, 8, 8, 8, 8, 8, 8, 8, 8, 8, 8, 8, 8, 8, 8, 8, 8, 8, 8, 8, 8, 8, 8, 8, 8, 8, 8, 8, 8, 8, 8, 8, 8, 8, 8, 8, 8, 8, 8, 8, 8, 8, 8, 8, 8, 8, 8, 8, 8, 8, 8, 8, 8, 8, 8, 8, 8, 8, 8, 8, 8, 8, 8, 8, 8, 8, 8, 8, 8, 8, 8, 8, 8, 8, 8, 8, 8, 8, 8, 8, 8, 8, 8, 8, 8, 8, 8, 8, 8, 8, 8, 8, 8]⟩ : ByteArray) = len8 := rfl
def len8ok (i : Nat) : Bool := let n := bt len8 (i : Int); decide (0 ≤ n) && decide (n ≤ 8) && decide ((i : Int) < 2 ^ n.toNat) && (i == 0 || decide ((2 : Int) ^ n.toNat ≤ 2 * i))
theorem len8_all : (List.range 256).all len8ok = true := by decide +kernel
theorem len8_at {i : Int} (h0 : 0 ≤ i) (h1 : i < 256) : ∃ m : Nat, m ≤ 8 ∧ bt len8 i = m ∧ i < 2 ^ m ∧ (0 < i → (2 : Int) ^ m ≤ 2 * i) := by
  obtain ⟨n, rfl⟩ := Int.eq_ofNat_of_zero_le h0
  have h := List.all_eq_true.mp len8_all n (by simp; omega)
  unfold len8ok at h
  simp only [Bool.and_eq_true, Bool.or_eq_true, decide_eq_true_eq, beq_iff_eq] at h
  obtain ⟨⟨⟨a, b⟩, c⟩, d⟩ := h
  refine ⟨(bt len8 (n : Int)).toNat, by omega, by omega, c, fun hp => ?_⟩
  rcases d with d | d
  · omega
  · exact d

set_option maxRecDepth 100000 in
theorem len64_j0 {x n : Int} (h0 : 0 ≤ x) (h1 : x < 4294967296) (n0 : 0 ≤ n) (n1 : n ≤ 32) (k : Nat) :
    ∃ m : Nat, m ≤ 32 ∧ bits_Len64.j0 (k + 1) x n = some (n + m) ∧ x < 2 ^ m ∧ (0 < x → (2 : Int) ^ m ≤ 2 * x) := by
  rw [bits_Len64.j0.eq_2, len8_eq]
  by_cases a : x ≥ 65536
  · rw [if_pos a]
    by_cases b : x / 65536 ≥ 256
    · rw [if_pos b, if_pos (by omega), if_pos (by omega)]
      obtain ⟨m, m1, m2, m3, m4⟩ := len8_at (i := ((x / 65536) / 256) % 256) (by omega) (by omega)
      refine ⟨m + 24, by omega, ?_, ?_, ?_⟩
      · rw [m2]; congr 1; unfold wrap64; omega
      · rw [Int.pow_add]; generalize (2 : Int) ^ m = P at *; omega
      · intro _; rw [Int.pow_add]; generalize (2 : Int) ^ m = P at *; omega
    · rw [if_neg b, if_pos (by omega), if_pos (by omega)]
      obtain ⟨m, m1, m2, m3, m4⟩ := len8_at (i := (x / 65536) % 256) (by omega) (by omega)
      refine ⟨m + 16, by omega, ?_, ?_, ?_⟩
      · rw [m2]; congr 1; unfold wrap64; omega
      · rw [Int.pow_add]; generalize (2 : Int) ^ m = P at *; omega
      · intro _; rw [Int.pow_add]; generalize (2 : Int) ^ m = P at *; omega
  · rw [if_neg a]
    by_cases b : x ≥ 256
    · rw [if_pos b, if_pos (by omega), if_pos (by omega)]
      obtain ⟨m, m1, m2, m3, m4⟩ := len8_at (i := (x / 256) % 256) (by omega) (by omega)
      refine ⟨m + 8, by omega, ?_, ?_, ?_⟩
      · rw [m2]; congr 1; unfold wrap64; omega
      · rw [Int.pow_add]; generalize (2 : Int) ^ m = P at *; omega
      · intro _; rw [Int.pow_add]; generalize (2 : Int) ^ m = P at *; omega
    · rw [if_neg b, if_pos (by omega), if_pos (by omega)]
      obtain ⟨m, m1, m2, m3, m4⟩ := len8_at (i := x % 256) (by omega) (by omega)
      refine ⟨m, by omega, ?_, ?_, ?_⟩
      · rw [m2]; congr 1; unfold wrap64; omega
      · generalize (2 : Int) ^ m = P at *; omega
      · intro _; generalize (2 : Int) ^ m = P at *; omega

theorem len64 {x : Int} (h0 : 0 ≤ x) (h1 : x < 18446744073709551616) (k : Nat) :
    ∃ m : Nat, m ≤ 64 ∧ bits_Len64.f (k + 1) x = some (m : Int) ∧ x < 2 ^ m ∧ (0 < x → (2 : Int) ^ m ≤ 2 * x) := by
  unfold bits_Len64.f
  by_cases a : x ≥ 4294967296
  · rw [if_pos a]
    obtain ⟨m, m1, m2, m3, m4⟩ := len64_j0 (x := x / 4294967296) (n := 32) (by omega) (by omega) (by omega) (by omega) k
    refine ⟨m + 32, by omega, ?_, ?_, ?_⟩
    · rw [m2]; congr 1; omega
    · rw [Int.pow_add]; generalize (2 : Int) ^ m = P at *; omega
    · intro _; rw [Int.pow_add]; generalize (2 : Int) ^ m = P at *; omega
  · rw [if_neg a]
    obtain ⟨m, m1, m2, m3, m4⟩ := len64_j0 (x := x) (n := 0) (by omega) (by omega) (by omega) (by omega) k
    refine ⟨m, by omega, ?_, m3, m4⟩
    rw [m2]; congr 1; omega

/-- The leading zeros: shifted by them, a number fills 64 bits. -/
theorem lz64 {y : Int} (h0 : 0 < y) (h1 : y < 18446744073709551616) (k : Nat) :
    ∃ s : Nat, s ≤ 63 ∧ bits_LeadingZeros64.f (k + 1) y = some (s : Int) ∧ 9223372036854775808 ≤ y * 2 ^ s ∧ y * 2 ^ s < 18446744073709551616 := by
  obtain ⟨m, m1, m2, m3, m4⟩ := len64 (by omega) h1 k
  have hm : 1 ≤ m := by
    rcases m with _ | m
    · simp at m3; omega
    · omega
  refine ⟨64 - m, by omega, ?_, ?_, ?_⟩
  · unfold bits_LeadingZeros64.f
    rw [m2]; simp only [Option.bind_some]; congr 1; unfold wrap64; omega
  · have e : (2 : Int) ^ m * 2 ^ (64 - m) = 18446744073709551616 := by rw [← Int.pow_add, show m + (64 - m) = 64 by omega]; decide
    have p : (0 : Int) < 2 ^ (64 - m) := Int.pow_pos (by decide)
    have := Int.mul_le_mul_of_nonneg_right (m4 h0) (Int.le_of_lt p)
    rw [e, Int.mul_assoc] at this
    omega
  · have e : (2 : Int) ^ m * 2 ^ (64 - m) = 18446744073709551616 := by rw [← Int.pow_add, show m + (64 - m) = 64 by omega]; decide
    have p : (0 : Int) < 2 ^ (64 - m) := Int.pow_pos (by decide)
    have := Int.mul_lt_mul_of_pos_right m3 p
    omega
end Go.Proofs.Ytjgikgbolacikaa.Q
end

section
/- The quotient and the remainder of a number of 128 bits by one of 64 bits: math/bits.Div64 as printed, for every divisor greater than the upper half. -/
namespace Go.Proofs.Ytjgikgbolacikaa.Q
open Go.RowKit Go.Proofs.YtjgikgbolacikaaW.PrintWords Go.Proofs.YtjgikgbolacikaaW.PrintLast Go.Proofs.YtjgikgbolacikaaW.PrintMore
set_option linter.unusedVariables false
set_option linter.unusedSimpArgs false

theorem ev_fun {α : Type} {g : Nat → Option α} {r r' : α} (h : Ev g r) (e : r = r') : Ev g r' := e ▸ h

/-- One step of the search for a digit, in plain numbers. -/
theorem digit_facts {Y y1 y0 u A n1 q r : Int} (hY : Y = y1 * 4294967296 + y0) (h1 : 2147483648 ≤ y1) (h2 : y1 < 4294967296) (h3 : 0 ≤ y0) (h4 : y0 < 4294967296)
    (hn : 0 ≤ n1) (hn' : n1 < 4294967296) (hA : A = u * 4294967296 + n1) (hu : 0 ≤ u) (huY : u < Y) (hr : r = u - q * y1) (hr0 : 0 ≤ r) (hq1 : q ≤ 4294967297) (hq : A / Y ≤ q) :
    (q ≥ 4294967296 → A / Y ≤ q - 1) ∧ (q * y0 > 4294967296 * r + n1 → A / Y ≤ q - 1) ∧ (q < 4294967296 → ¬ q * y0 > 4294967296 * r + n1 → A / Y = q)
    ∧ (A / Y ≤ q - 1 → r + y1 ≥ 4294967296 → A / Y = q - 1) ∧ 0 ≤ A / Y ∧ A / Y < 4294967296 := by
  have hYp : 0 < Y := by omega
  have hA0 : 0 ≤ A := by omega
  have hQ0 : 0 ≤ A / Y := Int.ediv_nonneg hA0 (by omega)
  have hQ1 : A / Y < 4294967296 := by
    rw [Int.ediv_lt_iff_lt_mul hYp]; omega
  have eU : q * Y = A - n1 - r * 4294967296 + q * y0 := by
    rw [hY, hA, hr]; grind
  have k := Int.le_ediv_iff_mul_le (a := q) (b := A) hYp
  have k' := Int.le_ediv_iff_mul_le (a := q - 1) (b := A) hYp
  have eU' : (q - 1) * Y = q * Y - Y := by grind
  refine ⟨by omega, fun h => ?_, fun _ h => ?_, fun hle hr1 => ?_, hQ0, hQ1⟩
  · rcases Int.lt_or_le (A / Y) q with h' | h'
    · omega
    · have := k.mp h'; omega
  · have : q * Y ≤ A := by omega
    have := k.mpr this; omega
  · have b : (q - 1) * y0 ≤ 4294967296 * 4294967295 := Int.mul_le_mul (by omega) (by omega) h3 (by omega)
    have e : (q - 1) * y0 = q * y0 - y0 := by grind
    have : (q - 1) * Y ≤ A := by omega
    have := k'.mpr this; omega

theorem div_l0 {Y s y1 y0 u n1 n0 : Int} {R : Int × Int} (hY : Y = y1 * 4294967296 + y0) (h1 : 2147483648 ≤ y1) (h2 : y1 < 4294967296) (h3 : 0 ≤ y0) (h4 : y0 < 4294967296)
    (hn : 0 ≤ n1) (hn' : n1 < 4294967296) (hu : 0 ≤ u) (huY : u < Y) (H : Ev (fun k => bits_Div64.j2 k Y s y1 y0 u n1 n0 ((u * 4294967296 + n1) / Y)) R) (n : Nat) :
    ∀ q r : Int, r = u - q * y1 → 0 ≤ r → r < 4294967296 → q ≤ 4294967297 → (u * 4294967296 + n1) / Y ≤ q → 4294967296 - r ≤ n → Ev (fun k => bits_Div64.l0 k Y s y1 y0 u n1 n0 q r) R := by
  induction n with
  | zero => intro q r _ _ _ _ _ _; omega
  | succ n ih =>
    intro q r hr hr0 hr1 hq1 hq hm
    obtain ⟨f1, f2, f3, f4, f5, f6⟩ := digit_facts hY h1 h2 h3 h4 hn hn' rfl hu huY hr hr0 hq1 hq
    generalize hA : (u * 4294967296 + n1) / Y = Q at *
    have go : Q ≤ q - 1 → Ev (fun k => bits_Div64.j1 k Y s y1 y0 u n1 n0 q r true) R := by
      intro hle
      by_cases c : r + y1 ≥ 4294967296
      · refine Ev.step (fun k => by rw [bits_Div64.j1, if_pos rfl, uw_id (x := r + y1) (by omega) (by omega), if_pos c, uw_id (x := q - 1) (by omega) (by omega)]) ?_
        rw [← f4 hle c]; exact H
      · refine Ev.step (fun k => by rw [bits_Div64.j1, if_pos rfl, uw_id (x := r + y1) (by omega) (by omega), if_neg c, uw_id (x := q - 1) (by omega) (by omega)]) ?_
        exact ih (q - 1) (r + y1) (by rw [hr]; grind) (by omega) (by omega) (by omega) hle (by omega)
    by_cases c : q ≥ 4294967296
    · exact Ev.step (fun k => by rw [bits_Div64.l0, if_pos c]) (go (f1 c))
    · have b0 : 0 ≤ q * y0 := Int.mul_nonneg (by omega) h3
      have b1 : q * y0 ≤ 4294967295 * 4294967295 := Int.mul_le_mul (by omega) (by omega) h3 (by omega)
      have e : decide ((IntKind.u64.wrap (q * y0)) > (IntKind.u64.wrap ((IntKind.u64.wrap (4294967296 * r)) + n1))) = decide (q * y0 > 4294967296 * r + n1) := by
        rw [uw_id (x := q * y0) b0 (by omega), uw_id (x := 4294967296 * r) (by omega) (by omega), uw_id (by omega) (by omega)]
      by_cases d : q * y0 > 4294967296 * r + n1
      · exact Ev.step (fun k => by rw [bits_Div64.l0, if_neg c, e, decide_eq_true d]) (go (f2 d))
      · refine Ev.step (fun k => by rw [bits_Div64.l0, if_neg c, e, decide_eq_false d]) ?_
        refine Ev.step (fun k => by rw [bits_Div64.j1, if_neg (by decide)]) ?_
        rw [← f3 (by omega) d]; exact H

theorem div_end {Y y1 u n0 q1 s A : Int} (hY0 : 0 < Y) (hY1 : Y < 18446744073709551616) (hA : A = u * 4294967296 + n0) (hq1 : 0 ≤ q1) (hq1' : q1 < 4294967296) (hQ : 0 ≤ A / Y) (hQ1 : A / Y < 4294967296) :
    (IntKind.u64.wrap ((IntKind.u64.wrap (q1 * 4294967296)) + A / Y), shr .u64 (IntKind.u64.wrap ((IntKind.u64.wrap ((IntKind.u64.wrap (u * 4294967296)) + n0)) - (IntKind.u64.wrap ((A / Y) * Y)))) s)
      = (q1 * 4294967296 + A / Y, shr .u64 (A % Y) s) := by
  have h := Int.emod_add_mul_ediv A Y
  have h0 := Int.emod_nonneg A (show Y ≠ 0 by omega)
  have h1 := Int.emod_lt_of_pos A hY0
  have hc : Y * (A / Y) = A / Y * Y := Int.mul_comm _ _
  rw [hc] at h
  generalize A / Y * Y = P at *
  generalize A / Y = Q at *
  have e : (u * 4294967296 % 18446744073709551616 + n0) % 18446744073709551616 = A % 18446744073709551616 := by rw [hA]; omega
  rw [uw, uw, uw, uw, uw, uw, e]
  congr 1
  · omega
  · congr 1; omega

theorem div_l1 {Y s y1 y0 u n0 q1 : Int} (hY : Y = y1 * 4294967296 + y0) (h1 : 2147483648 ≤ y1) (h2 : y1 < 4294967296) (h3 : 0 ≤ y0) (h4 : y0 < 4294967296)
    (hn : 0 ≤ n0) (hn' : n0 < 4294967296) (hu : 0 ≤ u) (huY : u < Y) (hq1 : 0 ≤ q1) (hq1' : q1 < 4294967296) (hs : 0 ≤ s) (n : Nat) :
    ∀ q r : Int, r = u - q * y1 → 0 ≤ r → r < 4294967296 → q ≤ 4294967297 → (u * 4294967296 + n0) / Y ≤ q → 4294967296 - r ≤ n →
      Ev (fun k => bits_Div64.l1 k Y s y1 y0 n0 q1 r u q) (q1 * 4294967296 + (u * 4294967296 + n0) / Y, shr .u64 ((u * 4294967296 + n0) % Y) s) := by
  induction n with
  | zero => intro q r _ _ _ _ _ _; omega
  | succ n ih =>
    intro q r hr hr0 hr1 hq1 hq hm
    obtain ⟨f1, f2, f3, f4, f5, f6⟩ := digit_facts hY h1 h2 h3 h4 hn hn' rfl hu huY hr hr0 hq1 hq
    have fin := div_end (Y := Y) (y1 := y1) (u := u) (n0 := n0) (q1 := q1) (s := s) (by omega) (by omega) rfl (by omega) (by omega) f5 f6
    generalize hA : u * 4294967296 + n0 = A at *
    have go : A / Y ≤ q - 1 → Ev (fun k => bits_Div64.j4 k Y s y1 y0 n0 q1 r u q true) (q1 * 4294967296 + A / Y, shr .u64 (A % Y) s) := by
      intro hle
      by_cases c : r + y1 ≥ 4294967296
      · have e := f4 hle c
        refine Ev.step (f := fun _ => some (q1 * 4294967296 + A / Y, shr .u64 (A % Y) s)) (fun k => ?_) (Ev.now _)
        rw [bits_Div64.j4, if_pos rfl, uw_id (x := r + y1) (by omega) (by omega), if_pos c, uw_id (x := q - 1) (by omega) (by omega), if_pos hs, ← e]
        rw [fin]
      · refine Ev.step (fun k => by rw [bits_Div64.j4, if_pos rfl, uw_id (x := r + y1) (by omega) (by omega), if_neg c, uw_id (x := q - 1) (by omega) (by omega)]) ?_
        exact ih (q - 1) (r + y1) (by rw [hr]; grind) (by omega) (by omega) (by omega) hle (by omega)
    by_cases c : q ≥ 4294967296
    · exact Ev.step (fun k => by rw [bits_Div64.l1, if_pos c]) (go (f1 c))
    · have b0 : 0 ≤ q * y0 := Int.mul_nonneg (by omega) h3
      have b1 : q * y0 ≤ 4294967295 * 4294967295 := Int.mul_le_mul (by omega) (by omega) h3 (by omega)
      have e : decide ((IntKind.u64.wrap (q * y0)) > (IntKind.u64.wrap ((IntKind.u64.wrap (4294967296 * r)) + n0))) = decide (q * y0 > 4294967296 * r + n0) := by
        rw [uw_id (x := q * y0) b0 (by omega), uw_id (x := 4294967296 * r) (by omega) (by omega), uw_id (by omega) (by omega)]
      by_cases d : q * y0 > 4294967296 * r + n0
      · exact Ev.step (fun k => by rw [bits_Div64.l1, if_neg c, e, decide_eq_true d]) (go (f2 d))
      · refine Ev.step (fun k => by rw [bits_Div64.l1, if_neg c, e, decide_eq_false d]) ?_
        have e := f3 (by omega) d
        refine Ev.step (f := fun _ => some (q1 * 4294967296 + A / Y, shr .u64 (A % Y) s)) (fun k => ?_) (Ev.now _)
        rw [bits_Div64.j4, if_neg (by decide), if_pos hs, ← e]
        rw [fin]

theorem tdiv_eq {a b : Int} (ha : 0 ≤ a) : Int.tdiv a b = a / b := Int.tdiv_eq_ediv_of_nonneg ha
theorem tmod_eq {a b : Int} (ha : 0 ≤ a) : Int.tmod a b = a % b := Int.tmod_eq_emod_of_nonneg ha

/-- The first guess of a digit. -/
theorem guess {Y y1 y0 u A n1 : Int} (hY : Y = y1 * 4294967296 + y0) (h1 : 2147483648 ≤ y1) (h2 : y1 < 4294967296) (h3 : 0 ≤ y0) (h4 : y0 < 4294967296)
    (hn : 0 ≤ n1) (hn' : n1 < 4294967296) (hA : A = u * 4294967296 + n1) (hu : 0 ≤ u) (huY : u < Y) :
    0 ≤ u / y1 ∧ u / y1 ≤ 4294967297 ∧ A / Y ≤ u / y1 ∧ u - u / y1 * y1 = u % y1 ∧ 0 ≤ u % y1 ∧ u % y1 < 4294967296 := by
  have e := Int.emod_add_mul_ediv u y1
  have e0 := Int.emod_nonneg u (show y1 ≠ 0 by omega)
  have e1 := Int.emod_lt_of_pos u (show 0 < y1 by omega)
  have e2 : y1 * (u / y1) = u / y1 * y1 := Int.mul_comm _ _
  refine ⟨Int.ediv_nonneg hu (by omega), ?_, ?_, by omega, e0, by omega⟩
  · have : u / y1 < 4294967298 := by rw [Int.ediv_lt_iff_lt_mul (by omega)]; omega
    omega
  · -- (A / Y) * Y ≤ A, hence (A / Y) * y1 * 2^32 ≤ A, hence (A / Y) * y1 ≤ u
    have hYp : 0 < Y := by omega
    have k := (Int.le_ediv_iff_mul_le (a := A / Y) (b := A) hYp).mp (Int.le_refl _)
    have hQ0 : 0 ≤ A / Y := Int.ediv_nonneg (by omega) (by omega)
    have m0 : 0 ≤ A / Y * y0 := Int.mul_nonneg hQ0 h3
    have eU : A / Y * Y = A / Y * y1 * 4294967296 + A / Y * y0 := by
      generalize A / Y = Q; rw [hY]; grind
    rw [Int.le_ediv_iff_mul_le (by omega)]
    omega

theorem div_j2 {Y s y1 y0 u n1 n0 : Int} (hY : Y = y1 * 4294967296 + y0) (h1 : 2147483648 ≤ y1) (h2 : y1 < 4294967296) (h3 : 0 ≤ y0) (h4 : y0 < 4294967296)
    (hn : 0 ≤ n1) (hn' : n1 < 4294967296) (hm : 0 ≤ n0) (hm' : n0 < 4294967296) (hu : 0 ≤ u) (huY : u < Y) (hs : 0 ≤ s) :
    Ev (fun k => bits_Div64.j2 k Y s y1 y0 u n1 n0 ((u * 4294967296 + n1) / Y))
      ((u * 18446744073709551616 + n1 * 4294967296 + n0) / Y, shr .u64 ((u * 18446744073709551616 + n1 * 4294967296 + n0) % Y) s) := by
  have hYp : 0 < Y := by omega
  have h := Int.emod_add_mul_ediv (u * 4294967296 + n1) Y
  have h0 := Int.emod_nonneg (u * 4294967296 + n1) (show Y ≠ 0 by omega)
  have h1' := Int.emod_lt_of_pos (u * 4294967296 + n1) hYp
  have hc : Y * ((u * 4294967296 + n1) / Y) = (u * 4294967296 + n1) / Y * Y := Int.mul_comm _ _
  have hQ0 : 0 ≤ (u * 4294967296 + n1) / Y := Int.ediv_nonneg (by omega) (by omega)
  have hQ1 : (u * 4294967296 + n1) / Y < 4294967296 := by rw [Int.ediv_lt_iff_lt_mul hYp]; omega
  generalize hQ : (u * 4294967296 + n1) / Y = Q1 at *
  generalize hV : (u * 4294967296 + n1) % Y = V at *
  have eV : IntKind.u64.wrap ((IntKind.u64.wrap ((IntKind.u64.wrap (u * 4294967296)) + n1)) - (IntKind.u64.wrap (Q1 * Y))) = V := by
    rw [uw, uw, uw, uw]; omega
  obtain ⟨g0, g1, g2, g3, g4, g5⟩ := guess (A := V * 4294967296 + n0) hY h1 h2 h3 h4 hm hm' rfl h0 h1'
  have eN : u * 18446744073709551616 + n1 * 4294967296 + n0 = V * 4294967296 + n0 + (Q1 * 4294967296) * Y := by
    have : (Q1 * 4294967296) * Y = Q1 * Y * 4294967296 := by grind
    omega
  have eD : (u * 18446744073709551616 + n1 * 4294967296 + n0) / Y = Q1 * 4294967296 + (V * 4294967296 + n0) / Y := by
    rw [eN, Int.add_mul_ediv_right _ _ (by omega)]; omega
  have eM : (u * 18446744073709551616 + n1 * 4294967296 + n0) % Y = (V * 4294967296 + n0) % Y := by
    rw [eN, Int.add_mul_emod_self_right]
  rw [eD, eM]
  refine Ev.step (f := fun k => bits_Div64.l1 k Y s y1 y0 n0 Q1 (V % y1) V (V / y1)) (fun k => ?_) ?_
  · rw [bits_Div64.j2, if_neg (by omega), eV, tdiv_eq h0, uw_id (x := V / y1) g0 (by omega)]
    rw [uw, uw]
    congr 1
    omega
  · exact div_l1 hY h1 h2 h3 h4 hm hm' h0 h1' hQ0 hQ1 hs 4294967296 _ _ g3.symm g4 g5 g1 g2 (by omega)
end Go.Proofs.Ytjgikgbolacikaa.Q
end

section
/- math/bits.Div64 as printed returns the quotient and the remainder of hi * 2^64 + lo by y, for every y greater than hi. -/
namespace Go.Proofs.Ytjgikgbolacikaa.Q
open Go.RowKit Go.Proofs.YtjgikgbolacikaaW.PrintWords Go.Proofs.YtjgikgbolacikaaW.PrintLast Go.Proofs.YtjgikgbolacikaaW.PrintMore
set_option linter.unusedVariables false
set_option linter.unusedSimpArgs false

theorem shl64 {x : Int} {s : Nat} (hs : s ≤ 64) : shl .u64 x (s : Int) = (x * 2 ^ s) % 18446744073709551616 := by
  unfold shl; rw [uw, Int.toNat_natCast, show IntKind.u64.bits = 64 from rfl, Nat.min_eq_left hs]
theorem shr64 {x : Int} {s : Nat} (hs : s ≤ 64) : shr .u64 x (s : Int) = x / 2 ^ s := by
  unfold shr; rw [Int.toNat_natCast, show IntKind.u64.bits = 64 from rfl, Nat.min_eq_left hs]

theorem div64 {hi lo y : Int} (h0 : 0 ≤ hi) (h1 : hi < y) (h2 : y < 18446744073709551616) (l0 : 0 ≤ lo) (l1 : lo < 18446744073709551616) :
    Ev (fun k => bits_Div64.f k hi lo y) ((hi * 18446744073709551616 + lo) / y, (hi * 18446744073709551616 + lo) % y) := by
  by_cases hz : hi = 0
  · subst hz
    refine Ev.congr (f := fun _ => some (lo / y, lo % y)) (fun k => ?_) ?_
    · unfold bits_Div64.f
      rw [if_neg (by omega), if_neg (by omega), if_pos rfl, tdiv_eq l0, tmod_eq l0, uw_id (Int.ediv_nonneg l0 (by omega))]
      have := Int.ediv_le_self y l0
      omega
    · rw [show 0 * 18446744073709551616 + lo = lo by omega]; exact Ev.now _
  · obtain ⟨K, hK⟩ : ∃ K, ∀ k, K ≤ k → bits_Div64.f k hi lo y = some ((hi * 18446744073709551616 + lo) / y, (hi * 18446744073709551616 + lo) % y) := by
      obtain ⟨s, hs, hsv, hY0, hY1⟩ := lz64 (y := y) (by omega) h2 0
      have hsE : Ev (fun k => bits_LeadingZeros64.f k y) (s : Int) := Ev.of (fun k => bits_LeadingZeros64.mono _ _) hsv
      have hP : (0 : Int) < 2 ^ s := Int.pow_pos (by decide)
      have hPP : (2 : Int) ^ s * 2 ^ (64 - s) = 18446744073709551616 := by rw [← Int.pow_add, show s + (64 - s) = 64 by omega]; decide
      have hP' : (0 : Int) < 2 ^ (64 - s) := Int.pow_pos (by decide)
      have hb : hi * 2 ^ s < y * 2 ^ s := Int.mul_lt_mul_of_pos_right h1 hP
      have hb0 : 0 ≤ hi * 2 ^ s := Int.mul_nonneg h0 (by omega)
      have hlo0 : 0 ≤ lo * 2 ^ s := Int.mul_nonneg l0 (by omega)
      -- the low part of the dividend that moves up
      have hdl : lo / 2 ^ (64 - s) = lo * 2 ^ s / 18446744073709551616 := by
        rw [← hPP, Int.mul_comm lo, Int.mul_ediv_mul_of_pos _ _ hP]
      have hlt : lo * 2 ^ s < 18446744073709551616 * 2 ^ s := Int.mul_lt_mul_of_pos_right l1 hP
      have hdlt : lo * 2 ^ s / 18446744073709551616 < 2 ^ s := by
        rw [Int.ediv_lt_iff_lt_mul (by decide), Int.mul_comm (2 ^ s)]; exact hlt
      have hd0 : 0 ≤ lo * 2 ^ s / 18446744073709551616 := Int.ediv_nonneg hlo0 (by decide)
      have e1 : shl .u64 y (s : Int) = y * 2 ^ s := by rw [shl64 (by omega)]; omega
      have e2 : shl .u64 hi (s : Int) = hi * 2 ^ s := by rw [shl64 (by omega)]; omega
      have e3 : shl .u64 lo (s : Int) = lo * 2 ^ s % 18446744073709551616 := shl64 (by omega)
      have e4 : shr .u64 lo (IntKind.u64.wrap (64 - IntKind.u64.wrap (s : Int))) = lo * 2 ^ s / 18446744073709551616 := by
        rw [uw_id (x := (s : Int)) (by omega) (by omega), uw_id (by omega) (by omega), show (64 : Int) - (s : Int) = ((64 - s : Nat) : Int) by omega, shr64 (by omega), hdl]
      have hle : hi * 2 ^ s + 2 ^ s ≤ y * 2 ^ s := by
        have := Int.mul_le_mul_of_nonneg_right (show hi + 1 ≤ y by omega) (Int.le_of_lt hP)
        rw [Int.add_mul, Int.one_mul] at this; exact this
      have e5 : Go.bits .or .u64 (hi * 2 ^ s) (lo * 2 ^ s / 18446744073709551616) = hi * 2 ^ s + lo * 2 ^ s / 18446744073709551616 :=
        Go.bits_join .u64 64 (by decide) (fun n h h' => by rw [uw]; omega) s _ _ hb0 (Int.mul_emod_left _ _) (by omega) hd0 hdlt (by omega)
      -- the whole
      have key := div_j2 (Y := y * 2 ^ s) (s := (s : Int)) (y1 := y * 2 ^ s / 4294967296) (y0 := y * 2 ^ s % 4294967296) (u := hi * 2 ^ s + lo * 2 ^ s / 18446744073709551616)
        (n1 := lo * 2 ^ s % 18446744073709551616 / 4294967296) (n0 := lo * 2 ^ s % 18446744073709551616 % 4294967296)
        (by omega) (by omega) (by omega) (by omega) (by omega) (by omega) (by omega) (by omega) (by omega) (by omega) (by omega) (by omega)
      have hN : (hi * 2 ^ s + lo * 2 ^ s / 18446744073709551616) * 18446744073709551616 + lo * 2 ^ s % 18446744073709551616 / 4294967296 * 4294967296 + lo * 2 ^ s % 18446744073709551616 % 4294967296
          = (hi * 18446744073709551616 + lo) * 2 ^ s := by
        have : (hi * 18446744073709551616 + lo) * 2 ^ s = hi * 2 ^ s * 18446744073709551616 + lo * 2 ^ s := by grind
        omega
      have eM : (hi * 18446744073709551616 + lo) * 2 ^ s % (y * 2 ^ s) = (hi * 18446744073709551616 + lo) % y * 2 ^ s := by
        rw [Int.mul_comm _ (2 ^ s), Int.mul_comm y, Int.mul_emod_mul_of_pos _ _ hP, Int.mul_comm]
      rw [hN, Int.mul_ediv_mul_of_pos_left _ _ hP, eM, shr64 (by omega), Int.mul_ediv_cancel _ (by omega)] at key
      obtain ⟨g0, g1, g2, g3, g4, g5⟩ := guess (Y := y * 2 ^ s) (y1 := y * 2 ^ s / 4294967296) (y0 := y * 2 ^ s % 4294967296) (u := hi * 2 ^ s + lo * 2 ^ s / 18446744073709551616)
        (A := (hi * 2 ^ s + lo * 2 ^ s / 18446744073709551616) * 4294967296 + lo * 2 ^ s % 18446744073709551616 / 4294967296) (n1 := lo * 2 ^ s % 18446744073709551616 / 4294967296)
        (by omega) (by omega) (by omega) (by omega) (by omega) (by omega) (by omega) rfl (by omega) (by omega)
      have key2 := div_l0 (Y := y * 2 ^ s) (s := (s : Int)) (y1 := y * 2 ^ s / 4294967296) (y0 := y * 2 ^ s % 4294967296) (u := hi * 2 ^ s + lo * 2 ^ s / 18446744073709551616)
        (n1 := lo * 2 ^ s % 18446744073709551616 / 4294967296) (n0 := lo * 2 ^ s % 18446744073709551616 % 4294967296)
        (by omega) (by omega) (by omega) (by omega) (by omega) (by omega) (by omega) (by omega) (by omega) key 4294967296 _ _ g3.symm g4 g5 g1 g2 (by omega)
      obtain ⟨K1, h1'⟩ := hsE
      obtain ⟨K2, h2'⟩ := key2
      refine ⟨max K1 K2, fun k hk => ?_⟩
      unfold bits_Div64.f
      rw [if_neg (by omega), if_neg (by omega), if_neg hz, show bits_LeadingZeros64.f k y = some (s : Int) from h1' k (by omega)]
      simp only [Option.bind_some]
      rw [e4, uw_id (x := (s : Int)) (by omega) (by omega), if_pos (by omega), uw_id (x := 64 - (s : Int)) (by omega) (by omega), if_pos (by omega), e1, e2, e3, e5,
        if_neg (by omega), u64_mask32 (by omega) (by omega), u64_mask32 (by omega) (by omega), tdiv_eq (by omega), uw_id (x := _ / _) g0 (by omega), uw, uw]
      have hmm : ((hi * 2 ^ s + lo * 2 ^ s / 18446744073709551616) - (hi * 2 ^ s + lo * 2 ^ s / 18446744073709551616) / (y * 2 ^ s / 4294967296) * (y * 2 ^ s / 4294967296) % 18446744073709551616) % 18446744073709551616
          = (hi * 2 ^ s + lo * 2 ^ s / 18446744073709551616) % (y * 2 ^ s / 4294967296) := by omega
      rw [hmm]
      exact h2' k (by omega)
    exact ⟨K, hK⟩
end Go.Proofs.Ytjgikgbolacikaa.Q
end

section
/- Package num of the program in plain numbers: products of 128 bits, their sums, order, quotients and remainders; the bounds stand in each statement. -/
-- AUTO
namespace Go.Proofs.Ytjgikgbolacikaa.Q
open Go.RowKit Go.Proofs.YtjgikgbolacikaaW.PrintWords Go.Proofs.YtjgikgbolacikaaW.PrintLast Go.Proofs.YtjgikgbolacikaaW.PrintMore
set_option linter.unusedVariables false
set_option linter.unusedSimpArgs false

/-- What a product of two numbers of 64 bits lies between. -/
theorem prod_bd {a b : Int} (a0 : -9223372036854775808 ≤ a) (a1 : a < 9223372036854775808) (b0 : -9223372036854775808 ≤ b) (b1 : b < 9223372036854775808) :
    -85070591730234615865843651857942052864 ≤ a * b ∧ a * b ≤ 85070591730234615865843651857942052864 := by
  have h : (a * b).natAbs ≤ 9223372036854775808 * 9223372036854775808 := by
    rw [Int.natAbs_mul]; exact Nat.mul_le_mul (by omega) (by omega)
  omega

theorem wide_neg {v : Int} (h0 : -170141183460469231731687303715884105728 < v) (h1 : v < 170141183460469231731687303715884105728) :
    num_Wide_Neg.f (v / 18446744073709551616) (v % 18446744073709551616) = some (-v / 18446744073709551616, -v % 18446744073709551616) := by
  unfold num_Wide_Neg.f
  rw [if_pos (by omega), if_pos (by omega)]
  congr 2
  · unfold wrap64; omega
  · omega

theorem product {a b : Int} (a0 : -9223372036854775808 ≤ a) (a1 : a < 9223372036854775808) (b0 : -9223372036854775808 ≤ b) (b1 : b < 9223372036854775808) :
    num_Product.f a b = some (a * b / 18446744073709551616, a * b % 18446744073709551616) := by
  have hb := prod_bd a0 a1 b0 b1
  unfold num_Product.f
  rw [size_some a0 a1, size_some b0 b1]
  simp only [Option.bind_some]
  rw [mul64 (by split <;> omega) (by split <;> omega) (by split <;> omega) (by split <;> omega)]
  simp only [Option.bind_some]
  by_cases ha : a < 0 <;> by_cases hc : b < 0
  · rw [if_pos ha, if_pos hc, if_neg (by simp [ha, hc]), Int.neg_mul_neg]
    congr 2
    unfold wrap64; omega
  · rw [if_pos ha, if_neg hc, if_pos (by simp [ha]; omega), Int.neg_mul, w64_id (by omega) (by omega), wide_neg (by omega) (by omega)]
    simp only [Option.bind_some, Int.neg_neg]
  · rw [if_neg ha, if_pos hc, if_pos (by simp [hc]; omega), Int.mul_neg, w64_id (by omega) (by omega), wide_neg (by omega) (by omega)]
    simp only [Option.bind_some, Int.neg_neg]
  · rw [if_neg ha, if_neg hc, if_neg (by simp [ha, hc])]
    congr 2
    unfold wrap64; omega

/-- Division of a negative number: by that of the opposite one. -/
theorem neg_div {v d : Int} (hd : 0 < d) : v / d = (if -v % d = 0 then -(-v / d) else -(-v / d) - 1) ∧ v % d = (if -v % d = 0 then 0 else d - -v % d) := by
  have e := Int.emod_add_mul_ediv (-v) d
  have h0 := Int.emod_nonneg (-v) (show d ≠ 0 by omega)
  have h1 := Int.emod_lt_of_pos (-v) hd
  split
  · exact (Int.ediv_emod_unique hd).mpr ⟨by rw [Int.mul_neg]; omega, by omega, by omega⟩
  · exact (Int.ediv_emod_unique hd).mpr ⟨by rw [Int.mul_sub, Int.mul_neg]; omega, by omega, by omega⟩

theorem div_bd {v d : Int} (h0 : 0 ≤ v) (hd : 0 < d) : 0 ≤ v / d ∧ v / d ≤ v := ⟨Int.ediv_nonneg h0 (by omega), Int.ediv_le_self d h0⟩

theorem one_ev {α : Type} {g : Nat → Option α} {r : α} (h : ∀ k, g (k + 1) = some r) : Ev g r := Ev.step (f := fun _ => some r) h (Ev.now _)
theorem now_ev {α : Type} {g : Nat → Option α} {r : α} (h : ∀ k, g k = some r) : Ev g r := Ev.congr (f := fun _ => some r) h (Ev.now _)

theorem wide_div_j1 {p r : Int} (neg : Bool) {h l : Int} (hn : (h < 0) = (neg = true)) (hp0 : 0 ≤ p) (hp1 : p < 18446744073709551616) (hr : 0 ≤ r) :
    Ev (fun k => num_Wide_Div.j1 k p r (if neg then (if r > 0 then 9223372036854775807 else 9223372036854775808) else 9223372036854775807) h l)
      (if neg then (if r = 0 then (if p ≤ 9223372036854775808 then (-p, 0) else (0, 2)) else (if p ≤ 9223372036854775807 then (-p - 1, 0) else (0, 2)))
        else (if p ≤ 9223372036854775807 then (p, 0) else (0, 2))) := by
  refine one_ev fun k => ?_
  rw [num_Wide_Div.j1]
  cases neg
  · have hh : ¬ h < 0 := by rw [hn]; decide
    simp only [Bool.false_eq_true, if_false]
    by_cases c : p ≤ 9223372036854775807
    · rw [if_neg (by omega), if_pos (by omega), if_pos c, w64_id (by omega) (by omega)]
    · rw [if_pos (by omega), if_neg c]
  · have hh : h < 0 := by rw [hn]
    simp only [if_true]
    by_cases z : r = 0
    · rw [if_neg (show ¬ r > 0 by omega), if_pos z]
      by_cases c : p ≤ 9223372036854775808
      · rw [if_neg (by omega), if_neg (by omega), if_neg (by omega), if_pos c, uw_wrap64, w64_id (by omega) (by omega)]
      · rw [if_pos (by omega), if_neg c]
    · rw [if_pos (show r > 0 by omega), if_neg z]
      by_cases c : p ≤ 9223372036854775807
      · rw [if_neg (by omega), if_neg (by omega), if_pos (by omega), if_pos c, uw_wrap64, w64_id (x := -p) (by omega) (by omega), w64_id (by omega) (by omega)]
      · rw [if_pos (by omega), if_neg c]

theorem some_ev {α β : Type} {g : Option α} {f : Nat → α → Option β} {a : α} {r : β} (h : g = some a) (k : Ev (fun n => f n a) r) : Ev (fun n => g.bind (f n)) r := by
  subst h; exact k
theorem pos_ev {α : Type} {c : Prop} [Decidable c] {g f : Nat → Option α} {r : α} (h : c) (k : Ev g r) : Ev (fun n => if c then g n else f n) r := by
  simp only [if_pos h]; exact k
theorem neg_ev {α : Type} {c : Prop} [Decidable c] {g f : Nat → Option α} {r : α} (h : ¬ c) (k : Ev f r) : Ev (fun n => if c then g n else f n) r := by
  simp only [if_neg h]; exact k

/-- Whether a number has 64 bits, with sign. -/
def fits (n : Int) : Bool := decide (-9223372036854775808 ≤ n) && decide (n ≤ 9223372036854775807)

theorem wide_div {v d : Int} (h0 : -170141183460469231731687303715884105728 ≤ v) (h1 : v < 170141183460469231731687303715884105728) (hd1 : d < 9223372036854775808) :
    Ev (fun k => num_Wide_Div.f k (v / 18446744073709551616) (v % 18446744073709551616) d) (if d < 1 then (0, 1) else if fits (v / d) then (v / d, 0) else (0, 2)) := by
  by_cases hd : d < 1
  · rw [if_pos hd]; exact now_ev fun k => by unfold num_Wide_Div.f; rw [if_pos hd]
  rw [if_neg hd]
  have hdp : 0 < d := by omega
  by_cases hv : v < 0
  · by_cases hm : v = -170141183460469231731687303715884105728
    · subst hm
      have hf : fits (-170141183460469231731687303715884105728 / d) = false := by
        have : -170141183460469231731687303715884105728 / d < -9223372036854775808 := by rw [Int.ediv_lt_iff_lt_mul hdp]; omega
        unfold fits; rw [decide_eq_false (by omega)]; rfl
      rw [hf]
      refine Ev.congr (f := fun k => num_Wide_Div.j0 k d (-9223372036854775808) 0 (-9223372036854775808) 0) (fun k => ?_) ?_
      · unfold num_Wide_Div.f
        rw [if_neg hd, if_pos (by omega)]
        have : num_Wide_Neg.f (-170141183460469231731687303715884105728 / 18446744073709551616) (-170141183460469231731687303715884105728 % 18446744073709551616) = some (-9223372036854775808, 0) := by decide +kernel
        rw [this]
        rfl
      · refine one_ev fun k => ?_
        rw [num_Wide_Div.j0, if_pos (by rw [uw, uw]; omega)]
        rfl
    · have b := div_bd (v := -v) (d := d) (by omega) hdp
      have nd := neg_div (v := v) hdp
      have h0' := Int.emod_nonneg (-v) (show d ≠ 0 by omega)
      refine Ev.congr (f := fun k => num_Wide_Div.j0 k d (v / 18446744073709551616) (v % 18446744073709551616) (-v / 18446744073709551616) (-v % 18446744073709551616)) (fun k => ?_) ?_
      · unfold num_Wide_Div.f
        rw [if_neg hd, if_pos (by omega), wide_neg (by omega) (by omega)]
        rfl
      · by_cases c : -v / 18446744073709551616 ≥ d
        · have hq : 18446744073709551616 ≤ -v / d := by rw [Int.le_ediv_iff_mul_le hdp]; omega
          have hf : fits (v / d) = false := by
            unfold fits; rw [decide_eq_false (by rw [nd.1]; split <;> omega)]; rfl
          rw [hf]
          refine one_ev fun k => ?_
          rw [num_Wide_Div.j0, if_pos (by rw [uw, uw]; omega)]
          rfl
        · have D := div64 (hi := -v / 18446744073709551616) (lo := -v % 18446744073709551616) (y := d) (by omega) (by omega) (by omega) (by omega) (by omega)
          rw [show -v / 18446744073709551616 * 18446744073709551616 + -v % 18446744073709551616 = -v by omega] at D
          have hq : -v / d < 18446744073709551616 := by rw [Int.ediv_lt_iff_lt_mul hdp]; omega
          have J := wide_div_j1 (p := -v / d) (r := -v % d) true (h := v / 18446744073709551616) (l := v % 18446744073709551616) (by simp; omega) b.1 hq h0'
          simp only [if_true] at J
          refine Ev.step (f := fun k => (bits_Div64.f k (-v / 18446744073709551616) (-v % 18446744073709551616) d).bind fun bt => num_Wide_Div.j1 k bt.1 bt.2 (if bt.2 > 0 then 9223372036854775807 else 9223372036854775808) (v / 18446744073709551616) (v % 18446744073709551616)) (fun k => ?_) ?_
          · rw [num_Wide_Div.j0, uw_id (x := -v / 18446744073709551616) (by omega) (by omega), uw_id (x := d) (by omega) (by omega), if_neg c]
            congr 1
            funext bt
            rw [if_pos (by omega)]
            split <;> rfl
          · refine ev_fun (Ev.bind D J) ?_
            rw [nd.1]
            unfold fits
            by_cases z : -v % d = 0
            · rw [if_pos z, if_pos z]
              by_cases y : -v / d ≤ 9223372036854775808
              · rw [if_pos y, decide_eq_true (by omega), decide_eq_true (by omega)]; rfl
              · rw [if_neg y, decide_eq_false (by omega)]; rfl
            · rw [if_neg z, if_neg z]
              by_cases y : -v / d ≤ 9223372036854775807
              · rw [if_pos y, decide_eq_true (by omega), decide_eq_true (by omega)]; rfl
              · rw [if_neg y, decide_eq_false (by omega)]; rfl
  · have b := div_bd (v := v) (d := d) (by omega) hdp
    have h0' := Int.emod_nonneg v (show d ≠ 0 by omega)
    refine Ev.congr (f := fun k => num_Wide_Div.j0 k d (v / 18446744073709551616) (v % 18446744073709551616) (v / 18446744073709551616) (v % 18446744073709551616)) (fun k => ?_) ?_
    · unfold num_Wide_Div.f
      rw [if_neg hd, if_neg (by omega)]
    · by_cases c : v / 18446744073709551616 ≥ d
      · have hq : 18446744073709551616 ≤ v / d := by rw [Int.le_ediv_iff_mul_le hdp]; omega
        have hf : fits (v / d) = false := by
          unfold fits; rw [decide_eq_true (by omega), decide_eq_false (by omega)]; rfl
        rw [hf]
        refine one_ev fun k => ?_
        rw [num_Wide_Div.j0, if_pos (by rw [uw, uw]; omega)]
        rfl
      · have D := div64 (hi := v / 18446744073709551616) (lo := v % 18446744073709551616) (y := d) (by omega) (by omega) (by omega) (by omega) (by omega)
        rw [show v / 18446744073709551616 * 18446744073709551616 + v % 18446744073709551616 = v by omega] at D
        have hq : v / d < 18446744073709551616 := by rw [Int.ediv_lt_iff_lt_mul hdp]; omega
        have J := wide_div_j1 (p := v / d) (r := v % d) false (h := v / 18446744073709551616) (l := v % 18446744073709551616) (by simp; omega) b.1 hq h0'
        simp only [Bool.false_eq_true, if_false] at J
        refine Ev.step (f := fun k => (bits_Div64.f k (v / 18446744073709551616) (v % 18446744073709551616) d).bind fun bt => num_Wide_Div.j1 k bt.1 bt.2 9223372036854775807 (v / 18446744073709551616) (v % 18446744073709551616)) (fun k => ?_) ?_
        · rw [num_Wide_Div.j0, uw_id (x := v / 18446744073709551616) (by omega) (by omega), uw_id (x := d) (by omega) (by omega), if_neg c]
          congr 1
          funext bt
          rw [if_neg (by omega)]
        · refine ev_fun (Ev.bind D J) ?_
          unfold fits
          by_cases y : v / d ≤ 9223372036854775807
          · rw [if_pos y, decide_eq_true (by omega), decide_eq_true (by omega)]; rfl
          · rw [if_neg y, decide_eq_true (by omega), decide_eq_false (by omega)]; rfl

theorem wide_mod {v d : Int} (h0 : -170141183460469231731687303715884105728 < v) (h1 : v < 170141183460469231731687303715884105728) (hd1 : d < 9223372036854775808) :
    Ev (fun k => num_Wide_Mod.f k (v / 18446744073709551616) (v % 18446744073709551616) d) (if d < 1 then 0 else v % d) := by
  by_cases hd : d < 1
  · rw [if_pos hd]; exact now_ev fun k => by unfold num_Wide_Mod.f; rw [if_pos hd]
  rw [if_neg hd]
  have hdp : 0 < d := by omega
  -- the upper half may be reduced first
  have red : ∀ u : Int, 0 ≤ u → u < 170141183460469231731687303715884105728 →
      Ev (fun k => bits_Div64.f k (Int.tmod (IntKind.u64.wrap (u / 18446744073709551616)) (IntKind.u64.wrap d)) (u % 18446744073709551616) (IntKind.u64.wrap d))
        ((u / 18446744073709551616 % d * 18446744073709551616 + u % 18446744073709551616) / d, u % d) := by
    intro u u0 u1
    have m0 := Int.emod_nonneg (u / 18446744073709551616) (show d ≠ 0 by omega)
    have m1 := Int.emod_lt_of_pos (u / 18446744073709551616) hdp
    have D := div64 (hi := u / 18446744073709551616 % d) (lo := u % 18446744073709551616) (y := d) m0 m1 (by omega) (by omega) (by omega)
    have e : (u / 18446744073709551616 % d * 18446744073709551616 + u % 18446744073709551616) % d = u % d := by
      have e1 := Int.emod_add_mul_ediv (u / 18446744073709551616) d
      have e2 : u = u / 18446744073709551616 % d * 18446744073709551616 + u % 18446744073709551616 + d * (u / 18446744073709551616 / d * 18446744073709551616) := by
        have : d * (u / 18446744073709551616 / d * 18446744073709551616) = d * (u / 18446744073709551616 / d) * 18446744073709551616 := by grind
        omega
      conv => rhs; rw [e2]
      rw [Int.add_mul_emod_self_left]
    rw [e] at D
    refine Ev.congr (fun k => ?_) D
    rw [uw_id (x := u / 18446744073709551616) (by omega) (by omega), uw_id (x := d) (by omega) (by omega), tmod_eq (by omega)]
  have hw : ¬ IntKind.u64.wrap d = 0 := by rw [uw]; omega
  by_cases hv : v < 0
  · have nd := neg_div (v := v) hdp
    have m0 := Int.emod_nonneg (-v) (show d ≠ 0 by omega)
    have m1 := Int.emod_lt_of_pos (-v) hdp
    refine Ev.congr (f := fun k => (bits_Div64.f k (Int.tmod (IntKind.u64.wrap (-v / 18446744073709551616)) (IntKind.u64.wrap d)) (-v % 18446744073709551616) (IntKind.u64.wrap d)).bind fun bt => if bt.2 > 0 then some (wrap64 (IntKind.u64.wrap (IntKind.u64.wrap d - bt.2))) else some (wrap64 bt.2)) (fun k => ?_) ?_
    · unfold num_Wide_Mod.f
      rw [if_neg hd, if_pos (by omega), wide_neg h0 h1]
      simp only [Option.bind_some]
      rw [if_neg hw]
    · refine Ev.bind (red (-v) (by omega) (by omega)) (now_ev fun k => ?_)
      rw [nd.2]
      by_cases z : -v % d = 0
      · rw [if_neg (by simp only; omega), if_pos z]; simp only [z]; decide +kernel
      · rw [if_pos (by simp only; omega), if_neg z]; simp only; congr 1; rw [uw_id (x := d) (by omega) (by omega), uw_wrap64, w64_id (by omega) (by omega)]
  · have m0 := Int.emod_nonneg v (show d ≠ 0 by omega)
    have m1 := Int.emod_lt_of_pos v hdp
    refine Ev.congr (f := fun k => (bits_Div64.f k (Int.tmod (IntKind.u64.wrap (v / 18446744073709551616)) (IntKind.u64.wrap d)) (v % 18446744073709551616) (IntKind.u64.wrap d)).bind fun bt => some (wrap64 bt.2)) (fun k => ?_) ?_
    · unfold num_Wide_Mod.f
      rw [if_neg hd, if_neg (by omega), if_neg hw]
    · refine Ev.bind (red v (by omega) (by omega)) (now_ev fun k => ?_)
      simp only; congr 1; rw [w64_id (by omega) (by omega)]

theorem cmp_i64 (a b : Int) : cmp_Compare_int64.f a b = some (if a < b then -1 else if a > b then 1 else 0) := by
  unfold cmp_Compare_int64.f cmp_isNaN_int64.f
  simp only [Option.bind_some, bne_self_eq_false, Bool.false_eq_true, if_false]
  split
  · rfl
  · split <;> rfl
theorem cmp_u64 (a b : Int) : cmp_Compare_uint64.f a b = some (if a < b then -1 else if a > b then 1 else 0) := by
  unfold cmp_Compare_uint64.f cmp_isNaN_uint64.f
  simp only [Option.bind_some, bne_self_eq_false, Bool.false_eq_true, if_false]
  split
  · rfl
  · split <;> rfl
theorem or_two (x y : Int) : Ev (fun k => cmp_Or_int.f k [x, y]) (if x = 0 then y else x) := by
  refine Ev.congr (f := fun k => cmp_Or_int.l0 k 0 [x, y] 2 0) (fun k => by unfold cmp_Or_int.f; rfl) ?_
  by_cases hx : x = 0
  · rw [if_pos hx]
    refine Ev.step (f := fun k => cmp_Or_int.l0 k 0 [x, y] 2 1) (fun k => ?_) ?_
    · rw [cmp_Or_int.l0, if_pos (by decide), if_pos (by decide), if_pos (by simp), if_pos (by simpa [rd] using hx), w64_id (by decide) (by decide)]; rfl
    · by_cases hy : y = 0
      · refine Ev.step (f := fun k => cmp_Or_int.l0 k 0 [x, y] 2 2) (fun k => ?_) ?_
        · rw [cmp_Or_int.l0, if_pos (by decide), if_pos (by decide), if_pos (by simp), if_pos (by simpa [rd] using hy), w64_id (by decide) (by decide)]; rfl
        · exact one_ev fun k => by rw [cmp_Or_int.l0, if_neg (by decide), hy]
      · exact one_ev fun k => by rw [cmp_Or_int.l0, if_pos (by decide), if_pos (by decide), if_pos (by simp), if_neg (by simpa [rd] using hy)]; simp [rd]
  · rw [if_neg hx]
    exact one_ev fun k => by rw [cmp_Or_int.l0, if_pos (by decide), if_pos (by decide), if_pos (by simp), if_neg (by simpa [rd] using hx)]; simp [rd]

theorem wide_cmp (u v : Int) : Ev (fun k => num_Wide_Cmp.f k (u / 18446744073709551616) (u % 18446744073709551616) (v / 18446744073709551616) (v % 18446744073709551616)) (if u < v then -1 else if u > v then 1 else 0) := by
  refine Ev.congr (f := fun k => (cmp_Or_int.f k [if u / 18446744073709551616 < v / 18446744073709551616 then -1 else if u / 18446744073709551616 > v / 18446744073709551616 then 1 else 0,
      if u % 18446744073709551616 < v % 18446744073709551616 then -1 else if u % 18446744073709551616 > v % 18446744073709551616 then 1 else 0]).bind fun t => some t) (fun k => ?_) ?_
  · unfold num_Wide_Cmp.f
    rw [cmp_i64, cmp_u64]; rfl
  · refine ev_fun (Ev.bind (or_two _ _) (Ev.now _)) ?_
    by_cases a : u / 18446744073709551616 < v / 18446744073709551616
    · rw [if_pos a, if_neg (by omega), if_pos (by omega)]
    · rw [if_neg a]
      by_cases b : u / 18446744073709551616 > v / 18446744073709551616
      · rw [if_pos b, if_neg (by omega), if_neg (by omega), if_pos (by omega)]
      · rw [if_neg b, if_pos rfl]
        by_cases c : u % 18446744073709551616 < v % 18446744073709551616
        · rw [if_pos c, if_pos (show u < v by omega)]
        · rw [if_neg c, if_neg (show ¬ u < v by omega)]
          by_cases d : u % 18446744073709551616 > v % 18446744073709551616
          · rw [if_pos d, if_pos (show u > v by omega)]
          · rw [if_neg d, if_neg (show ¬ u > v by omega)]

/-- The quotient, rounded up. -/
def upq (v d : Int) : Int := if v % d = 0 then v / d else v / d + 1
theorem muldiv {a b d : Int} (a0 : -9223372036854775808 ≤ a) (a1 : a < 9223372036854775808) (b0 : -9223372036854775808 ≤ b) (b1 : b < 9223372036854775808) (hd1 : d < 9223372036854775808) :
    Ev (fun k => num_MulDiv.f k a b d) (if d < 1 then (0, 1) else if fits (a * b / d) then (a * b / d, 0) else (0, 2)) := by
  have hb := prod_bd a0 a1 b0 b1
  refine Ev.congr (f := fun k => (num_Wide_Div.f k (a * b / 18446744073709551616) (a * b % 18446744073709551616) d).bind fun bt => some (bt.1, bt.2)) (fun k => ?_) ?_
  · unfold num_MulDiv.f
    rw [product a0 a1 b0 b1]; rfl
  · exact Ev.bind (wide_div (by omega) (by omega) hd1) (Ev.now _)


theorem muldivup {a b d : Int} (a0 : -9223372036854775808 ≤ a) (a1 : a < 9223372036854775808) (b0 : -9223372036854775808 ≤ b) (b1 : b < 9223372036854775808) (hd1 : d < 9223372036854775808) :
    Ev (fun k => num_MulDivUp.f k a b d) (if d < 1 then (0, 1) else if fits (a * b / d) then (if fits (upq (a * b) d) then (upq (a * b) d, 0) else (0, 2)) else (0, 2)) := by
  have hb := prod_bd a0 a1 b0 b1
  have hD := wide_div (v := a * b) (d := d) (by omega) (by omega) hd1
  have hM := wide_mod (v := a * b) (d := d) (by omega) (by omega) hd1
  generalize hv : a * b = v at *
  refine Ev.congr (f := fun k => (num_Wide_Div.f k (v / 18446744073709551616) (v % 18446744073709551616) d).bind fun bt => (if bt.2 = 0 then ((num_Wide_Mod.f k (v / 18446744073709551616) (v % 18446744073709551616) d).bind fun t => (num_MulDivUp.j0 k bt.1 bt.2 (t == 0))) else (num_MulDivUp.j0 k bt.1 bt.2 true))) (fun k => ?_) ?_
  · unfold num_MulDivUp.f
    rw [product a0 a1 b0 b1, hv]; rfl
  · refine Ev.bind hD ?_
    by_cases hd : d < 1
    · rw [if_pos hd, if_pos hd]
      exact one_ev fun k => by rw [if_neg (by decide), num_MulDivUp.j0, if_pos rfl]
    · rw [if_neg hd] at hM ⊢
      rw [if_neg hd]
      by_cases f : fits (v / d) = true
      · rw [if_pos f, if_pos f]
        simp only [if_true]
        refine Ev.bind hM ?_
        refine one_ev fun k => ?_
        rw [num_MulDivUp.j0]
        unfold upq
        unfold fits at f
        simp only [Bool.and_eq_true, decide_eq_true_eq] at f
        by_cases z : v % d = 0
        · rw [if_pos (by simp [z]), if_pos z]
          unfold fits
          rw [decide_eq_true f.1, decide_eq_true f.2]; rfl
        · rw [if_neg (by simp [z]), if_neg z]
          unfold fits
          by_cases y : v / d = 9223372036854775807
          · rw [if_pos y, decide_eq_true (by omega), decide_eq_false (by omega)]; rfl
          · rw [if_neg y, decide_eq_true (by omega), decide_eq_true (by omega), w64_id (by omega) (by omega)]; rfl
      · rw [if_neg f, if_neg f]
        exact one_ev fun k => by rw [if_neg (by decide), num_MulDivUp.j0, if_pos rfl]
end Go.Proofs.Ytjgikgbolacikaa.Q
end

section
/- The greatest common divisor and the square root of package num in plain numbers; the bounds stand in each statement. -/
-- AUTO
namespace Go.Proofs.Ytjgikgbolacikaa.Q
open Go.RowKit Go.Proofs.YtjgikgbolacikaaW.PrintWords Go.Proofs.YtjgikgbolacikaaW.PrintLast Go.Proofs.YtjgikgbolacikaaW.PrintMore
set_option linter.unusedVariables false
set_option linter.unusedSimpArgs false

theorem sqrt_l0 {p : Int} (p0 : 0 ≤ p) (p1 : p < 85070591730234615865843651857942052864) (i : Nat) : ∀ r : Int, i ≤ 62 → 0 ≤ r → r % 2 ^ (i + 1) = 0 → r + 2 ^ (i + 1) ≤ 9223372036854775808 → r * r ≤ p → p < (r + 2 ^ (i + 1)) * (r + 2 ^ (i + 1)) →
    ∃ s : Int, Ev (fun k => num_SqrtMul.l0 k (p / 18446744073709551616) (p % 18446744073709551616) r (2 ^ i)) s ∧ 0 ≤ s ∧ s < 9223372036854775808 ∧ s * s ≤ p ∧ p < (s + 1) * (s + 1) := by
  have or_add : ∀ (i : Nat) (r : Int), i ≤ 62 → 0 ≤ r → r % 2 ^ (i + 1) = 0 → r + 2 ^ (i + 1) ≤ 9223372036854775808 → Go.bits .or .u64 r (2 ^ i) = r + 2 ^ i := by
    intro i r hi hr hm hb
    have hP : (0 : Int) < 2 ^ i := Int.pow_pos (by decide)
    have hP2 : (2 : Int) ^ (i + 1) = 2 ^ i * 2 := by rw [Int.pow_succ]
    exact Go.bits_join .u64 64 (by decide) (fun n h h' => by rw [uw]; omega) (i + 1) _ _ hr hm (by omega) (by omega) (by omega) (by omega)
  have step : ∀ (i : Nat) (r : Int), i ≤ 62 → 0 ≤ r → r % 2 ^ (i + 1) = 0 → r + 2 ^ (i + 1) ≤ 9223372036854775808 → ∀ {k : Nat} {nb : Int}, nb = 2 ^ i / 2 →
      num_SqrtMul.l0 (k + 1) (p / 18446744073709551616) (p % 18446744073709551616) r (2 ^ i) =
        if (r + 2 ^ i) * (r + 2 ^ i) ≤ p then num_SqrtMul.l0 k (p / 18446744073709551616) (p % 18446744073709551616) (r + 2 ^ i) nb else num_SqrtMul.l0 k (p / 18446744073709551616) (p % 18446744073709551616) r nb := by
    intro i r hi hr hm hb k nb hnb
    have hP : (0 : Int) < 2 ^ i := Int.pow_pos (by decide)
    have hP2 : (2 : Int) ^ (i + 1) = 2 ^ i * 2 := by rw [Int.pow_succ]
    rw [num_SqrtMul.l0, if_pos hP, or_add i r hi hr hm hb, mul64 (by omega) (by omega) (by omega) (by omega), Option.bind_some]
    simp only []
    rw [← hnb]
    generalize (r + 2 ^ i) * (r + 2 ^ i) = q
    by_cases h1 : q / 18446744073709551616 < p / 18446744073709551616
    · rw [if_pos h1, if_pos (by omega)]
    · rw [if_neg h1]
      by_cases h2 : q / 18446744073709551616 = p / 18446744073709551616
      · rw [if_pos h2]
        by_cases h3 : q % 18446744073709551616 ≤ p % 18446744073709551616
        · rw [if_pos h3, if_pos (by omega)]
        · rw [if_neg h3, if_neg (by omega)]
      · rw [if_neg h2, if_neg (by omega)]
  induction i with
  | zero =>
    intro r hi hr hm hb h0 h1
    have fin : ∀ s : Int, 0 ≤ s → s < 9223372036854775808 → Ev (fun k => num_SqrtMul.l0 k (p / 18446744073709551616) (p % 18446744073709551616) s 0) s := by
      intro s hs hs'
      exact one_ev fun k => by rw [num_SqrtMul.l0, if_neg (by decide), w64_id (by omega) (by omega)]
    simp only [Int.pow_zero, Nat.zero_add, Int.pow_one] at *
    have st := fun k => step 0 r hi hr hm (by simpa using hb) (k := k) (nb := 0) (by decide)
    simp only [Int.pow_zero] at st
    by_cases c : (r + 1) * (r + 1) ≤ p
    · refine ⟨r + 1, Ev.step (fun k => by rw [st, if_pos c]) (fin (r + 1) (by omega) (by omega)), by omega, by omega, c, ?_⟩
      rw [show r + 1 + 1 = r + 2 by omega]; exact h1
    · exact ⟨r, Ev.step (fun k => by rw [st, if_neg c]) (fin r hr (by omega)), hr, by omega, h0, by omega⟩
  | succ i ih =>
    intro r hi hr hm hb h0 h1
    have hP : (0 : Int) < 2 ^ i := Int.pow_pos (by decide)
    have hP2 : (2 : Int) ^ (i + 1) = 2 ^ i * 2 := by rw [Int.pow_succ]
    have hP4 : (2 : Int) ^ (i + 1 + 1) = 2 ^ (i + 1) * 2 := by rw [Int.pow_succ]
    have hd : r % 2 ^ (i + 1) = 0 := by
      have h := Int.emod_add_mul_ediv r (2 ^ (i + 1 + 1))
      rw [hm, Int.zero_add, hP4, Int.mul_assoc] at h
      rw [← h, Int.mul_emod_right]
    have st := fun k => step (i + 1) r hi hr hm hb (k := k) (nb := 2 ^ i) (by omega)
    by_cases c : (r + 2 ^ (i + 1)) * (r + 2 ^ (i + 1)) ≤ p
    · obtain ⟨s, hs, rest⟩ := ih (r + 2 ^ (i + 1)) (by omega) (by omega) (by rw [Int.add_emod_right]; exact hd) (by omega) c (by rw [show r + 2 ^ (i + 1) + 2 ^ (i + 1) = r + 2 ^ (i + 1 + 1) by omega]; exact h1)
      exact ⟨s, Ev.step (fun k => by rw [st, if_pos c]) hs, rest⟩
    · obtain ⟨s, hs, rest⟩ := ih r (by omega) hr hd (by omega) h0 (by omega)
      exact ⟨s, Ev.step (fun k => by rw [st, if_neg c]) hs, rest⟩

theorem sqrt_ev {a b : Int} (a0 : 0 ≤ a) (a1 : a < 9223372036854775808) (b0 : 0 ≤ b) (b1 : b < 9223372036854775808) :
    ∃ r : Int, Ev (fun k => num_SqrtMul.f k a b) r ∧ 0 ≤ r ∧ r < 9223372036854775808 ∧ r * r ≤ a * b ∧ a * b < (r + 1) * (r + 1) := by
  have p0 : 0 ≤ a * b := Int.mul_nonneg a0 b0
  have p1 : a * b ≤ 9223372036854775807 * 9223372036854775807 := Int.mul_le_mul (by omega) (by omega) b0 (by omega)
  obtain ⟨r, hr, rest⟩ := sqrt_l0 (p := a * b) p0 (by omega) 62 0 (by decide) (by decide) (by decide) (by decide) (by omega) (by
    rw [show ((0 : Int) + 2 ^ (62 + 1)) * (0 + 2 ^ (62 + 1)) = 85070591730234615865843651857942052864 by decide]; omega)
  refine ⟨r, ?_, rest⟩
  refine Ev.congr (f := fun k => num_SqrtMul.j0 k a b false) (fun k => by unfold num_SqrtMul.f; rw [if_neg (by omega), decide_eq_false (by omega)]) ?_
  refine Ev.step (fun k => by rw [num_SqrtMul.j0, if_neg (by decide), uw_id (x := a) a0 (by omega), uw_id (x := b) b0 (by omega), mul64 a0 (by omega) b0 (by omega), Option.bind_some]) ?_
  exact hr

end Go.Proofs.Ytjgikgbolacikaa.Q
end

section
/- Masks of 64-bit numbers in plain numbers. -/
namespace Go.Proofs.Ytjgikgbolacikaa.Q
open Go.RowKit Go.Proofs.YtjgikgbolacikaaW.PrintWords Go.Proofs.YtjgikgbolacikaaW.PrintLast Go.Proofs.YtjgikgbolacikaaW.PrintMore
set_option linter.unusedVariables false
set_option linter.unusedSimpArgs false

theorem i64_mask {x : Int} (h0 : -9223372036854775808 ≤ x) (h1 : x < 9223372036854775808) (i : Nat) (hi : i ≤ 62) : Go.bits .and .i64 x (2 ^ i - 1) = x % 2 ^ i := by
  have hp : (0 : Int) < 2 ^ i := Int.pow_pos (by decide)
  have hle : (2 : Int) ^ i ≤ 4611686018427387904 := by
    have h : 2 ^ i ≤ 2 ^ 62 := Nat.pow_le_pow_right (by decide) hi
    have h' : ((2 ^ i : Nat) : Int) ≤ ((2 ^ 62 : Nat) : Int) := Int.ofNat_le.mpr h
    rw [show ((2 ^ i : Nat) : Int) = 2 ^ i by simp] at h'
    exact h'
  have hpn : 0 < 2 ^ i := Nat.two_pow_pos i
  have hc : ((2 : Int) ^ i - 1) = ((2 ^ i - 1 : Nat) : Int) := by rw [Int.natCast_sub hpn]; simp
  show IntKind.i64.wrap _ = _
  rw [show IntKind.i64.bits = 64 from rfl, BitVec.toNat_and, BitVec.toNat_ofInt, BitVec.toNat_ofInt, hc]
  have h2 : ((2 ^ i - 1 : Nat) : Int) % ((2 ^ 64 : Nat) : Int) = ((2 ^ i - 1 : Nat) : Int) := by
    rw [← hc]; exact Int.emod_eq_of_lt (by omega) (by omega)
  rw [h2, Int.toNat_natCast, Nat.and_two_pow_sub_one_eq_mod, IntKind.wrap_i64]
  have h3 : (((x % ((2 ^ 64 : Nat) : Int)).toNat % 2 ^ i : Nat) : Int) = x % 2 ^ i := by
    rw [Int.natCast_emod, Int.toNat_of_nonneg (Int.emod_nonneg _ (by decide)), show ((2 ^ i : Nat) : Int) = 2 ^ i by simp, show ((2 ^ 64 : Nat) : Int) = 2 ^ 64 from rfl]
    exact Int.emod_emod_of_dvd x (by
      rw [show (2 : Int) ^ 64 = 2 ^ i * 2 ^ (64 - i) by rw [← Int.pow_add]; congr 1; omega]
      exact Int.dvd_mul_right _ _)
  rw [h3]
  have := Int.emod_nonneg x (show (2 : Int) ^ i ≠ 0 by omega)
  have := Int.emod_lt_of_pos x hp
  omega
theorem mask32 {x : Int} (h0 : -9223372036854775808 ≤ x) (h1 : x < 9223372036854775808) : Go.bits .and .i64 x 4294967295 = x % 4294967296 := i64_mask h0 h1 32 (by decide)
theorem mask30 {x : Int} (h0 : -9223372036854775808 ≤ x) (h1 : x < 9223372036854775808) : Go.bits .and .i64 x 1073741823 = x % 1073741824 := i64_mask h0 h1 30 (by decide)
end Go.Proofs.Ytjgikgbolacikaa.Q
end

section
/- What spymake.Below answers, in plain numbers. -/
namespace Go.Proofs.Ytjgikgbolacikaa.Q
open Go.RowKit Go.Proofs.YtjgikgbolacikaaW.PrintWords Go.Proofs.YtjgikgbolacikaaW.PrintLast Go.Proofs.YtjgikgbolacikaaW.PrintMore
set_option linter.unusedVariables false
set_option linter.unusedSimpArgs false

theorem below {a n : Int} (hn : 1 ≤ n) (hn1 : n < 9223372036854775808) : spymake_Below.f a n = some (a % n) := by
  unfold spymake_Below.f
  rw [if_neg (by omega), if_neg (by omega)]
  have m0 := Int.emod_nonneg a (show n ≠ 0 by omega)
  have m1 := Int.emod_lt_of_pos a (show 0 < n by omega)
  by_cases c : 0 ≤ a
  · rw [tmod_eq c, if_neg (by omega)]
  · have e : Int.tmod a n = -(-a % n) := by
      have := Int.neg_tmod (-a) n
      rw [Int.neg_neg] at this
      rw [this, tmod_eq (by omega)]
    rw [e, (show a % n = (if -a % n = 0 then 0 else n - -a % n) by
      have e1 := Int.emod_add_mul_ediv (-a) n
      have h0 := Int.emod_nonneg (-a) (show n ≠ 0 by omega)
      have h1 := Int.emod_lt_of_pos (-a) (show 0 < n by omega)
      split
      · exact ((Int.ediv_emod_unique (q := -(-a / n)) (show 0 < n by omega)).mpr ⟨by rw [Int.mul_neg]; omega, by omega, by omega⟩).2
      · exact ((Int.ediv_emod_unique (q := -(-a / n) - 1) (show 0 < n by omega)).mpr ⟨by rw [Int.mul_sub, Int.mul_neg]; omega, by omega, by omega⟩).2)]
    have h0 := Int.emod_nonneg (-a) (show n ≠ 0 by omega)
    have h1 := Int.emod_lt_of_pos (-a) (show 0 < n by omega)
    by_cases z : -a % n = 0
    · rw [if_neg (by omega), if_pos z, z]; rfl
    · rw [if_pos (by omega), if_neg z, w64_id (by omega) (by omega)]; congr 1; omega
end Go.Proofs.Ytjgikgbolacikaa.Q
end

section
/- The stream of numbers of package spymake in plain numbers: each answer lies in the range that was asked for; the bounds stand in each statement. -/
namespace Go.Proofs.Ytjgikgbolacikaa.Q
open Go.RowKit Go.Proofs.YtjgikgbolacikaaW.PrintWords Go.Proofs.YtjgikgbolacikaaW.PrintLast Go.Proofs.YtjgikgbolacikaaW.PrintMore
set_option linter.unusedVariables false
set_option linter.unusedSimpArgs false

theorem below_in {a n : Int} (hn : 1 ≤ n) (hn1 : n < 9223372036854775808) : ∃ v, spymake_Below.f a n = some v ∧ 0 ≤ v ∧ v < n :=
  ⟨a % n, below hn hn1, Int.emod_nonneg a (by omega), Int.emod_lt_of_pos a (by omega)⟩

/-- The next number lies from 0 to n - 1, and the place moves on by one. -/
theorem next_in (l : List Int) {at_ n : Int} (hl : l.length ≤ 9223372036854775807) (a0 : 0 ≤ at_) (a1 : at_ < 4611686018427387904) (n0 : 1 ≤ n) (n1 : n < 9223372036854775808) :
    ∃ v, spymake_Stream_Next.f l at_ n = some (v, at_ + 1) ∧ 0 ≤ v ∧ v < n := by
  unfold spymake_Stream_Next.f
  rw [w64_id (x := at_ + 1) (by omega) (by omega)]
  by_cases z : (l.length : Int) = 0
  · rw [if_pos z]
    obtain ⟨v, hv, v0, v1⟩ := below_in (a := wrap64 ((at_ + 1) * 7919)) n0 n1
    exact ⟨v, by rw [hv]; rfl, v0, v1⟩
  · rw [if_neg z, w64_id (x := at_ + 1 - 1) (by omega) (by omega), tmod_eq (by omega)]
    have m0 := Int.emod_nonneg (at_ + 1 - 1) z
    have m1 := Int.emod_lt_of_pos (at_ + 1 - 1) (show 0 < (l.length : Int) by omega)
    rw [if_pos m0, if_pos m1]
    obtain ⟨v, hv, v0, v1⟩ := below_in (a := rd l ((at_ + 1 - 1) % (l.length : Int))) (n := 1073741824) (by decide) (by decide)
    rw [hv]
    simp only [Option.bind_some]
    obtain ⟨v', hv', v0', v1'⟩ := below_in (a := wrap64 (v + (wrap64 ((wrap64 (Int.tdiv (at_ + 1 - 1) (l.length : Int))) * (wrap64 (7919 + ((at_ + 1 - 1) % (l.length : Int)))))))) n0 n1
    exact ⟨v', by rw [hv']; rfl, v0', v1'⟩

/-- A number of a range lies in it. -/
theorem range_in (l : List Int) {at_ lo hi : Int} (hl : l.length ≤ 9223372036854775807) (a0 : 0 ≤ at_) (a1 : at_ < 4611686018427387904) (h : lo ≤ hi) (h0 : -2305843009213693952 ≤ lo) (h1 : hi < 2305843009213693952) :
    ∃ v, spymake_Stream_Range.f l at_ lo hi = some (v, at_ + 1) ∧ lo ≤ v ∧ v ≤ hi := by
  unfold spymake_Stream_Range.f
  rw [if_neg (by omega), w64_id (x := hi - lo) (by omega) (by omega), w64_id (x := hi - lo + 1) (by omega) (by omega)]
  obtain ⟨v, hv, v0, v1⟩ := next_in l (n := hi - lo + 1) hl a0 a1 (by omega) (by omega)
  refine ⟨lo + v, ?_, by omega, by omega⟩
  rw [hv]
  simp only [Option.bind_some]
  rw [w64_id (by omega) (by omega)]
end Go.Proofs.Ytjgikgbolacikaa.Q
end

section
/- Quotients rounded down and up by a positive number, in plain numbers; the bounds stand in each statement. -/
namespace Go.Proofs.Ytjgikgbolacikaa.Q
open Go.RowKit Go.Proofs.YtjgikgbolacikaaW.PrintWords Go.Proofs.YtjgikgbolacikaaW.PrintLast Go.Proofs.YtjgikgbolacikaaW.PrintMore
set_option linter.unusedVariables false
set_option linter.unusedSimpArgs false

theorem floordiv {a d : Int} (h0 : -9223372036854775807 ≤ a) (h1 : a ≤ 9223372036854775807) (hd : 1 ≤ d) : num_FloorDiv.f a d = some (a / d) := by
  unfold num_FloorDiv.f
  rw [if_neg (by omega), if_neg (by omega)]
  by_cases z : 0 ≤ a
  · have q := div_bd (v := a) (d := d) z (by omega)
    have m := Int.emod_nonneg a (show d ≠ 0 by omega)
    rw [tmod_eq z, tdiv_eq z, if_neg (by omega), w64_id (by omega) (by omega)]
  · have q := div_bd (v := -a) (d := d) (by omega) (by omega)
    have m := Int.emod_nonneg (-a) (show d ≠ 0 by omega)
    have n := (neg_div (v := a) (d := d) (by omega)).1
    rw [show Int.tmod a d = -(-a % d) by rw [← tmod_eq (by omega), Int.neg_tmod, Int.neg_neg], show Int.tdiv a d = -(-a / d) by rw [← tdiv_eq (by omega), Int.neg_tdiv, Int.neg_neg]]
    rw [w64_id (x := -(-a / d)) (by omega) (by omega), w64_id (x := -(-a / d) - 1) (by omega) (by omega), n]
    by_cases c : -a % d = 0
    · rw [if_neg (by omega), if_pos c]
    · rw [if_pos (by omega), if_neg c]

theorem ceildiv {a d : Int} (h0 : -9223372036854775807 ≤ a) (h1 : a ≤ 9223372036854775806) (hd : 1 ≤ d) : num_CeilDiv.f a d = some (upq a d) := by
  unfold num_CeilDiv.f upq
  rw [if_neg (by omega), if_neg (by omega)]
  by_cases z : 0 ≤ a
  · have q := div_bd (v := a) (d := d) z (by omega)
    have m := Int.emod_nonneg a (show d ≠ 0 by omega)
    rw [tmod_eq z, tdiv_eq z, w64_id (x := a / d) (by omega) (by omega), w64_id (x := a / d + 1) (by omega) (by omega)]
    by_cases c : a % d = 0
    · rw [if_neg (by omega), if_pos c]
    · rw [if_pos (by omega), if_neg c]
  · have q := div_bd (v := -a) (d := d) (by omega) (by omega)
    have m := Int.emod_nonneg (-a) (show d ≠ 0 by omega)
    have m' := Int.emod_lt_of_pos (-a) (show 0 < d by omega)
    have n := neg_div (v := a) (d := d) (by omega)
    rw [show Int.tmod a d = -(-a % d) by rw [← tmod_eq (by omega), Int.neg_tmod, Int.neg_neg], show Int.tdiv a d = -(-a / d) by rw [← tdiv_eq (by omega), Int.neg_tdiv, Int.neg_neg]]
    rw [if_neg (by omega), w64_id (x := -(-a / d)) (by omega) (by omega), n.1, n.2]
    by_cases c : -a % d = 0
    · rw [if_pos c, if_pos c, if_pos rfl]
    · rw [if_neg c, if_neg c, if_neg (by omega)]
      congr 1; omega
end Go.Proofs.Ytjgikgbolacikaa.Q
end

section
/- Package trig in plain numbers: sines and cosines as functions of whole numbers, and that the printed functions compute them; no condition but 64 bits. -/
namespace Go.Proofs.Ytjgikgbolacikaa.Q
open Go.RowKit Go.Proofs.YtjgikgbolacikaaW.PrintWords Go.Proofs.YtjgikgbolacikaaW.PrintLast Go.Proofs.YtjgikgbolacikaaW.PrintMore
set_option linter.unusedVariables false
set_option linter.unusedSimpArgs false


/-- A product where 2^60 means 1. -/
def tm (a b : Int) : Int := a * b / 1152921504606846976
/-- 1 - u/k1*(1 - u/k2*(..)), from within. -/
def ser (u : Int) : Int → List Int → Int
  | s, [] => s
  | s, k :: l => ser u (1152921504606846976 - tm u s / k) l
/-- To the nearest multiple of 2^30. -/
def rnd (a : Int) : Int := (a + 536870912) / 1073741824
def xof (t : Int) : Int := t * 1811004864519280710 / 1073741824
def cosL : List Int := [182, 132, 90, 56, 30, 12, 2]
def sinL : List Int := [156, 110, 72, 42, 20, 6]
def qt (t : Int) : Int :=
  if t > 536870912 then rnd (ser (tm (xof (1073741824 - t)) (xof (1073741824 - t))) 1152921504606846976 cosL)
  else rnd (tm (xof t) (ser (tm (xof t) (xof t)) 1152921504606846976 sinL))
/-- The sine of an angle. -/
def sn (a : Int) : Int :=
  if a % 4294967296 / 1073741824 = 0 then qt (a % 1073741824)
  else if a % 4294967296 / 1073741824 = 1 then qt (1073741824 - a % 1073741824)
  else if a % 4294967296 / 1073741824 = 2 then -qt (a % 1073741824)
  else -qt (1073741824 - a % 1073741824)
/-- The cosine of an angle. -/
def cs (a : Int) : Int := sn (a % 4294967296 + 1073741824)

theorem times_ev {a b : Int} (a0 : 0 ≤ a) (a1 : a ≤ 1152921504606846976) (b0 : 0 ≤ b) (b1 : b ≤ 1152921504606846976) : Ev (fun k => trig_times.f k a b) (tm a b) := by
  have p0 : 0 ≤ a * b := Int.mul_nonneg a0 b0
  have p1 : a * b ≤ 1152921504606846976 * 1152921504606846976 := Int.mul_le_mul a1 b1 b0 (by decide)
  have h := muldiv (a := a) (b := b) (d := 1152921504606846976) (by omega) (by omega) (by omega) (by omega) (by decide)
  rw [if_neg (by decide), if_pos (by unfold fits; rw [decide_eq_true (by omega), decide_eq_true (by omega)]; rfl)] at h
  unfold trig_times.f
  exact Ev.bind h (Ev.now _)
theorem tm_bd {a b : Int} (a0 : 0 ≤ a) (a1 : a ≤ 1152921504606846976) (b0 : 0 ≤ b) (b1 : b ≤ 1152921504606846976) : 0 ≤ tm a b ∧ tm a b ≤ a ∧ tm a b ≤ b := by
  have p0 : 0 ≤ a * b := Int.mul_nonneg a0 b0
  have p1 : a * b ≤ a * 1152921504606846976 := Int.mul_le_mul_of_nonneg_left b1 a0
  have p2 : a * b ≤ 1152921504606846976 * b := Int.mul_le_mul_of_nonneg_right a1 b0
  unfold tm; omega

theorem ser_step {u s k : Int} (u0 : 0 ≤ u) (u1 : u ≤ 1152921504606846976) (s0 : 0 ≤ s) (s1 : s ≤ 1152921504606846976) (hk : 1 ≤ k) :
    0 ≤ 1152921504606846976 - tm u s / k ∧ 1152921504606846976 - tm u s / k ≤ 1152921504606846976 ∧ 0 ≤ tm u s / k ∧ tm u s / k ≤ tm u s := by
  have b := tm_bd u0 u1 s0 s1
  have d := div_bd (v := tm u s) (d := k) b.1 (by omega)
  omega

theorem series_l0 {u : Int} (u0 : 0 ≤ u) (u1 : u ≤ 1152921504606846976) (l : List Int) (hl : l.length < 1000) (hk : ∀ k ∈ l, 2 ≤ k ∧ k < 1000) (n : Nat) :
    ∀ (i : Nat) (s : Int), l.length - i = n → i ≤ l.length → 0 ≤ s → s ≤ 1152921504606846976 → Ev (fun k => trig_series.l0 k u s l (l.length : Int) (i : Int)) (ser u s (l.drop i)) := by
  induction n with
  | zero =>
    intro i s hn hi s0 s1
    obtain rfl : i = l.length := by omega
    refine one_ev fun k => ?_
    rw [trig_series.l0, if_neg (by omega), List.drop_length]; rfl
  | succ n ih =>
    intro i s hn hi s0 s1
    have hlt : i < l.length := by omega
    have hg : rd l (i : Int) = l[i] := by
      unfold rd; rw [Int.toNat_natCast, List.getD_eq_getElem?_getD, List.getElem?_eq_getElem hlt]; rfl
    obtain ⟨k0, k1⟩ := hk l[i] (List.getElem_mem hlt)
    have st := ser_step u0 u1 s0 s1 (k := l[i]) (by omega)
    have b := tm_bd u0 u1 s0 s1
    refine Ev.step (f := fun k => (trig_times.f k u s).bind fun t => (if (rd l (i : Int)) = 0 then none else trig_series.l0 k u (wrap64 (1152921504606846976 - (wrap64 (Int.tdiv t (rd l (i : Int)))))) l (l.length : Int) (wrap64 ((i : Int) + 1)))) (fun k => ?_) ?_
    · rw [trig_series.l0, if_pos (by omega), if_pos (by omega), if_pos (by omega)]
    · refine Ev.bind (times_ev u0 u1 s0 s1) (neg_ev (by rw [hg]; omega) ?_)
      rw [hg, tdiv_eq b.1, w64_id (x := tm u s / l[i]) (by omega) (by omega), w64_id (x := 1152921504606846976 - tm u s / l[i]) (by omega) (by omega), w64_id (x := (i : Int) + 1) (by omega) (by omega),
        show ((i : Int) + 1) = ((i + 1 : Nat) : Int) by omega, List.drop_eq_getElem_cons hlt]
      exact ih (i + 1) _ (by omega) (by omega) st.1 st.2.1

theorem series_ev {u : Int} (u0 : 0 ≤ u) (u1 : u ≤ 1152921504606846976) (l : List Int) (hl : l.length < 1000) (hk : ∀ k ∈ l, 2 ≤ k ∧ k < 1000) : Ev (fun k => trig_series.f k u l) (ser u 1152921504606846976 l) := by
  have := series_l0 u0 u1 l hl hk l.length 0 1152921504606846976 (by omega) (by omega) (by decide) (by decide)
  rw [List.drop_zero] at this
  exact Ev.congr (fun k => by unfold trig_series.f; rfl) this

theorem ser_bd {u : Int} (u0 : 0 ≤ u) (u1 : u ≤ 1152921504606846976) (l : List Int) : ∀ s : Int, (∀ k ∈ l, 2 ≤ k) → 0 ≤ s → s ≤ 1152921504606846976 → 0 ≤ ser u s l ∧ ser u s l ≤ 1152921504606846976 := by
  induction l with
  | nil => intro s _ s0 s1; exact ⟨s0, s1⟩
  | cons k l ih =>
    intro s hk s0 s1
    have st := ser_step u0 u1 s0 s1 (k := k) (by have := hk k (by simp); omega)
    exact ih _ (fun k h => hk k (by simp [h])) st.1 st.2.1

theorem round_ev {a : Int} (a0 : 0 ≤ a) (a1 : a < 4611686018427387904) : Ev (fun k => num_RoundDiv.f k a 1073741824) (rnd a) := by
  unfold num_RoundDiv.f rnd
  refine neg_ev (by decide) (neg_ev (by decide) ?_)
  rw [tdiv_eq a0, tmod_eq a0, w64_id (x := a / 1073741824) (by omega) (by omega), w64_id (x := 1073741824 - a % 1073741824) (by omega) (by omega)]
  by_cases c : a % 1073741824 ≥ 1073741824 - a % 1073741824
  · refine pos_ev c (one_ev fun k => ?_)
    rw [decide_eq_true (by omega), num_RoundDiv.j0, if_pos rfl, w64_id (by omega) (by omega)]
    congr 1; omega
  · refine neg_ev c (one_ev fun k => ?_)
    rw [num_RoundDiv.j0, if_neg (by decide), if_neg (by omega)]
    congr 1; omega

theorem xof_bd {t : Int} (h0 : 0 ≤ t) (h1 : t ≤ 536870912) : 0 ≤ xof t ∧ xof t ≤ 905502432259640355 := by unfold xof; omega

theorem xof_ev {t : Int} (h0 : 0 ≤ t) (h1 : t ≤ 1073741824) : Ev (fun k => num_MulDiv.f k t 1811004864519280710 1073741824) (xof t, 0) := by
  have h := muldiv (a := t) (b := 1811004864519280710) (d := 1073741824) (by omega) (by omega) (by decide) (by decide) (by decide)
  rw [if_neg (by decide), if_pos (by unfold fits; rw [decide_eq_true (by omega), decide_eq_true (by omega)]; rfl)] at h
  exact h

theorem quarter_ev {t : Int} (h0 : 0 ≤ t) (h1 : t ≤ 1073741824) : Ev (fun k => trig_quarter.f k t) (qt t) := by
  unfold trig_quarter.f qt
  by_cases c : t > 536870912
  · refine pos_ev c ?_
    rw [if_pos c, w64_id (x := 1073741824 - t) (by omega) (by omega)]
    have b := xof_bd (t := 1073741824 - t) (by omega) (by omega)
    refine Ev.bind (xof_ev (t := 1073741824 - t) (by omega) (by omega)) ?_
    generalize xof (1073741824 - t) = x at *
    have b2 := tm_bd (a := x) (b := x) b.1 (by omega) b.1 (by omega)
    refine Ev.bind (times_ev b.1 (by omega) b.1 (by omega)) ?_
    have sb := ser_bd (u := tm x x) b2.1 (by omega) cosL 1152921504606846976 (by decide) (by decide) (by decide)
    refine Ev.bind (series_ev b2.1 (by omega) cosL (by decide) (by decide)) ?_
    exact Ev.bind (round_ev sb.1 (by omega)) (Ev.now _)
  · refine neg_ev c ?_
    rw [if_neg c]
    have b := xof_bd (t := t) (by omega) (by omega)
    refine Ev.bind (xof_ev (t := t) (by omega) (by omega)) ?_
    generalize xof t = x at *
    have b2 := tm_bd (a := x) (b := x) b.1 (by omega) b.1 (by omega)
    refine Ev.bind (times_ev b.1 (by omega) b.1 (by omega)) ?_
    have sb := ser_bd (u := tm x x) b2.1 (by omega) sinL 1152921504606846976 (by decide) (by decide) (by decide)
    refine Ev.bind (series_ev b2.1 (by omega) sinL (by decide) (by decide)) ?_
    have b3 := tm_bd (a := x) (b := ser (tm x x) 1152921504606846976 sinL) b.1 (by omega) sb.1 sb.2
    refine Ev.bind (times_ev b.1 (by omega) sb.1 sb.2) ?_
    exact Ev.bind (round_ev (a := tm x (ser (tm x x) 1152921504606846976 sinL)) b3.1 (by omega)) (Ev.now _)

theorem qt_bd {t : Int} (h0 : 0 ≤ t) (h1 : t ≤ 1073741824) : 0 ≤ qt t ∧ qt t ≤ 1073741824 := by
  unfold qt
  split
  · have b := xof_bd (t := 1073741824 - t) (by omega) (by omega)
    generalize xof (1073741824 - t) = x at *
    have b2 := tm_bd (a := x) (b := x) b.1 (by omega) b.1 (by omega)
    have sb := ser_bd (u := tm x x) b2.1 (by omega) cosL 1152921504606846976 (by decide) (by decide) (by decide)
    unfold rnd; omega
  · have b := xof_bd (t := t) (by omega) (by omega)
    generalize xof t = x at *
    have b2 := tm_bd (a := x) (b := x) b.1 (by omega) b.1 (by omega)
    have sb := ser_bd (u := tm x x) b2.1 (by omega) sinL 1152921504606846976 (by decide) (by decide) (by decide)
    have b3 := tm_bd (a := x) (b := ser (tm x x) 1152921504606846976 sinL) b.1 (by omega) sb.1 sb.2
    unfold rnd; omega

theorem sn_bd (a : Int) : -1073741824 ≤ sn a ∧ sn a ≤ 1073741824 := by
  have q1 := qt_bd (t := a % 1073741824) (by omega) (by omega)
  have q2 := qt_bd (t := 1073741824 - a % 1073741824) (by omega) (by omega)
  unfold sn
  split
  · omega
  · split
    · omega
    · split <;> omega
theorem cs_bd (a : Int) : -1073741824 ≤ cs a ∧ cs a ≤ 1073741824 := sn_bd _

theorem sin_ev {a : Int} (h0 : -9223372036854775808 ≤ a) (h1 : a < 9223372036854775808) : Ev (fun k => trig_Sin.f k a) (sn a) := by
  have q1 := qt_bd (t := a % 1073741824) (by omega) (by omega)
  have q2 := qt_bd (t := 1073741824 - a % 1073741824) (by omega) (by omega)
  unfold trig_Sin.f sn
  rw [mask32 h0 h1, mask30 (by omega) (by omega), tdiv_eq (by omega), w64_id (x := a % 4294967296 / 1073741824) (by omega) (by omega), show a % 4294967296 % 1073741824 = a % 1073741824 by omega, w64_id (x := 1073741824 - a % 1073741824) (by omega) (by omega)]
  by_cases c0 : a % 4294967296 / 1073741824 = 0
  · rw [if_pos c0]; exact pos_ev c0 (Ev.bind (quarter_ev (by omega) (by omega)) (Ev.now _))
  · rw [if_neg c0]
    refine neg_ev c0 ?_
    by_cases c1 : a % 4294967296 / 1073741824 = 1
    · rw [if_pos c1]; exact pos_ev c1 (Ev.bind (quarter_ev (by omega) (by omega)) (Ev.now _))
    · rw [if_neg c1]
      refine neg_ev c1 ?_
      by_cases c2 : a % 4294967296 / 1073741824 = 2
      · rw [if_pos c2]; exact pos_ev c2 (Ev.bind (quarter_ev (by omega) (by omega)) (now_ev fun k => by rw [w64_id (by omega) (by omega)]))
      · rw [if_neg c2]; exact neg_ev c2 (Ev.bind (quarter_ev (by omega) (by omega)) (now_ev fun k => by rw [w64_id (by omega) (by omega)]))

theorem cos_ev {a : Int} (h0 : -9223372036854775808 ≤ a) (h1 : a < 9223372036854775808) : Ev (fun k => trig_Cos.f k a) (cs a) := by
  unfold trig_Cos.f cs
  rw [mask32 h0 h1, w64_id (by omega) (by omega)]
  exact Ev.bind (sin_ev (by omega) (by omega)) (Ev.now _)
end Go.Proofs.Ytjgikgbolacikaa.Q
end

section
/- The sine of the first quarter grows, by at most 3 from one angle to the next, and by at least 1 from an angle of the first eighth to the third one after it; no conditions but the quarter's bounds. -/
namespace Go.Proofs.Ytjgikgbolacikaa.Q
open Go.RowKit Go.Proofs.YtjgikgbolacikaaW.PrintWords Go.Proofs.YtjgikgbolacikaaW.PrintLast Go.Proofs.YtjgikgbolacikaaW.PrintMore
set_option linter.unusedVariables false
set_option linter.unusedSimpArgs false

theorem div_half {X k : Int} (hX : 0 ≤ X) (hk : 2 ≤ k) : X / k ≤ X / 2 := by
  have h := Int.ediv_mul_le X (show k ≠ 0 by omega)
  have p : 0 ≤ X / k := Int.ediv_nonneg hX (by omega)
  have m : X / k * 2 ≤ X / k * k := Int.mul_le_mul_of_nonneg_left hk p
  omega
theorem div_grow {X d k : Int} (hd : 0 ≤ d) (hk : 1 ≤ k) : (X + d) / k ≤ X / k + d := by
  have m : d * 1 ≤ d * k := Int.mul_le_mul_of_nonneg_left hk hd
  have h : (X + d) / k ≤ (X + d * k) / k := Int.ediv_le_ediv (by omega) (by omega)
  rw [Int.add_mul_ediv_right _ _ (by omega)] at h
  exact h

theorem tm_two {u u' s s' : Int} (h0 : 0 ≤ u) (h : u ≤ u') (hs : s' ≤ s) (s1 : s ≤ 1152921504606846976) (hu : u ≤ s') (hd : s - s' ≤ u' - u) (hs0 : 0 ≤ s') :
    tm u s ≤ tm u' s' ∧ tm u' s' ≤ tm u s + (u' - u) := by
  have e1 : u' * s' - u * s = (u' - u) * s' - u * (s - s') := by grind
  have e2 : u * (s - s') ≤ u * (u' - u) := Int.mul_le_mul_of_nonneg_left hd h0
  have e3 : (u' - u) * u ≤ (u' - u) * s' := Int.mul_le_mul_of_nonneg_left hu (by omega)
  have e4 : u * (u' - u) = (u' - u) * u := Int.mul_comm _ _
  have f1 : u' * s' ≤ u' * s := Int.mul_le_mul_of_nonneg_left hs (by omega)
  have f2 : u' * s = u * s + (u' - u) * s := by grind
  have f3 : (u' - u) * s ≤ (u' - u) * 1152921504606846976 := Int.mul_le_mul_of_nonneg_left s1 (by omega)
  unfold tm
  constructor
  · omega
  · omega

theorem ser_two {u u' : Int} (h0 : 0 ≤ u) (h : u ≤ u') (h1 : u' ≤ 711500000000000000) (l : List Int) : ∀ s s' : Int, (∀ k ∈ l, 2 ≤ k) → s' ≤ s → s ≤ 1152921504606846976 → 711500000000000000 ≤ s' → s - s' ≤ u' - u →
    ser u' s' l ≤ ser u s l ∧ ser u s l - ser u' s' l ≤ u' - u ∧ 711500000000000000 ≤ ser u' s' l ∧ ser u s l ≤ 1152921504606846976 := by
  induction l with
  | nil => intro s s' _ a b c d; exact ⟨a, d, c, b⟩
  | cons k l ih =>
    intro s s' hk a b c d
    have k2 := hk k (by simp)
    obtain ⟨t1, t2⟩ := tm_two h0 h a b (by omega) d (by omega)
    have b1 := tm_bd (a := u) (b := s) h0 (by omega) (by omega) b
    have b2 := tm_bd (a := u') (b := s') (by omega) (by omega) (by omega) (by omega)
    have m1 : tm u s / k ≤ tm u' s' / k := Int.ediv_le_ediv (by omega) t1
    have m2 : tm u' s' / k ≤ tm u s / k + (u' - u) := by
      have := Int.ediv_le_ediv (a := tm u' s') (b := tm u s + (u' - u)) (c := k) (by omega) t2
      have := div_grow (X := tm u s) (d := u' - u) (k := k) (by omega) (by omega)
      omega
    have m3 := div_half (X := tm u' s') (k := k) b2.1 k2
    have m4 : 0 ≤ tm u s / k := Int.ediv_nonneg b1.1 (by omega)
    exact ih _ _ (fun k h => hk k (by simp [h])) (by omega) (by omega) (by omega) (by omega)

theorem ser_app (u : Int) (k : Int) (l : List Int) : ∀ s, ser u s (l ++ [k]) = 1152921504606846976 - tm u (ser u s l) / k := by
  induction l with
  | nil => intro s; rfl
  | cons a l ih => intro s; exact ih _

/-- Squares of neighbouring numbers. -/
theorem sq_two {x e : Int} (x0 : 0 ≤ x) (x1 : x + e ≤ 905502432259640355) (e0 : 0 ≤ e) (e1 : e ≤ 6000000000) :
    tm x x ≤ tm (x + e) (x + e) ∧ 10 * (tm (x + e) (x + e) - tm x x) ≤ 16 * e + 400 ∧ 0 ≤ tm x x ∧ tm (x + e) (x + e) ≤ 711500000000000000 := by
  have q : (x + e) * (x + e) = x * x + 2 * (x * e) + e * e := by grind
  have p1 : 0 ≤ x * e := Int.mul_nonneg x0 e0
  have p2 : 0 ≤ e * e := Int.mul_nonneg e0 e0
  have p3 : x * e ≤ 905502432259640355 * e := Int.mul_le_mul_of_nonneg_right (by omega) e0
  have p4 : e * e ≤ 6000000000 * 6000000000 := Int.mul_le_mul e1 e1 e0 (by decide)
  have p5 : 0 ≤ x * x := Int.mul_nonneg x0 x0
  have p6 : (x + e) * (x + e) ≤ 905502432259640355 * 905502432259640355 := Int.mul_le_mul x1 x1 (by omega) (by decide)
  unfold tm
  refine ⟨by omega, by omega, by omega, by omega⟩

/-- The value of the sine before it is rounded. -/
def vs (x : Int) : Int := tm x (ser (tm x x) 1152921504606846976 sinL)
theorem vs_two {x e : Int} (x0 : 0 ≤ x) (x1 : x + e ≤ 905502432259640355) (e0 : 20 ≤ e) (e1 : e ≤ 6000000000) :
    vs x ≤ vs (x + e) ∧ vs (x + e) ≤ vs x + e ∧ 10 * (vs (x + e) - vs x) ≥ 4 * e - 100 := by
  obtain ⟨q1, q2, q3, q4⟩ := sq_two x0 x1 (by omega) e1
  have S := ser_two q3 q1 q4 [156, 110, 72, 42, 20] 1152921504606846976 1152921504606846976 (by decide) (by decide) (by decide) (by decide) (by omega)
  have hs : ∀ u, ser u 1152921504606846976 sinL = 1152921504606846976 - tm u (ser u 1152921504606846976 [156, 110, 72, 42, 20]) / 6 := fun u => ser_app u 6 [156, 110, 72, 42, 20] _
  unfold vs
  rw [hs, hs]
  generalize tm x x = u at *
  generalize tm (x + e) (x + e) = u' at *
  obtain ⟨t1, t2⟩ := tm_two q3 q1 S.1 S.2.2.2 (by omega) S.2.1 (by omega)
  have b1 := tm_bd (a := u) (b := ser u 1152921504606846976 [156, 110, 72, 42, 20]) q3 (by omega) (by omega) (by omega)
  have b2 := tm_bd (a := u') (b := ser u' 1152921504606846976 [156, 110, 72, 42, 20]) (by omega) (by omega) (by omega) (by omega)
  generalize tm u (ser u 1152921504606846976 [156, 110, 72, 42, 20]) = X at *
  generalize tm u' (ser u' 1152921504606846976 [156, 110, 72, 42, 20]) = X' at *
  obtain ⟨s, hs1⟩ : ∃ s, s = 1152921504606846976 - X / 6 := ⟨_, rfl⟩
  obtain ⟨s', hs2⟩ : ∃ s', s' = 1152921504606846976 - X' / 6 := ⟨_, rfl⟩
  rw [← hs1, ← hs2]
  have dl : 60 * (s - s') ≤ 16 * e + 1000 := by omega
  have dl0 : s' ≤ s := by omega
  have lo : 711500000000000000 ≤ s' := by omega
  have up : s ≤ 1152921504606846976 := by omega
  have g1 : (x + e) * s' = x * s + e * s' - x * (s - s') := by grind
  have g2 : e * 711500000000000000 ≤ e * s' := Int.mul_le_mul_of_nonneg_left lo (by omega)
  have g3 : x * (s - s') ≤ 905502432259640355 * (s - s') := Int.mul_le_mul_of_nonneg_right (by omega) (by omega)
  have g4 : 0 ≤ x * (s - s') := Int.mul_nonneg x0 (by omega)
  have g5 : e * s' ≤ e * 1152921504606846976 := Int.mul_le_mul_of_nonneg_left (by omega) (by omega)
  unfold tm
  generalize (x + e) * s' = P' at *
  generalize x * s = P at *
  generalize e * s' = R at *
  generalize x * (s - s') = T at *
  refine ⟨by omega, by omega, by omega⟩

/-- The value of the cosine before it is rounded. -/
def vc (x : Int) : Int := ser (tm x x) 1152921504606846976 cosL
theorem vc_two {x e : Int} (x0 : 0 ≤ x) (x1 : x + e ≤ 905502432259640355) (e0 : 0 ≤ e) (e1 : e ≤ 6000000000) :
    vc (x + e) ≤ vc x ∧ 10 * (vc x - vc (x + e)) ≤ 16 * e + 400 := by
  obtain ⟨q1, q2, q3, q4⟩ := sq_two x0 x1 (by omega) e1
  have S := ser_two q3 q1 q4 cosL 1152921504606846976 1152921504606846976 (by decide) (by decide) (by decide) (by decide) (by omega)
  unfold vc
  omega

theorem qt_lo {t : Int} (h : t ≤ 536870912) : qt t = rnd (vs (xof t)) := by unfold qt vs; rw [if_neg (by omega)]
theorem qt_hi {t : Int} (h : t > 536870912) : qt t = rnd (vc (xof (1073741824 - t))) := by unfold qt vc; rw [if_pos h]

theorem qt_mid : qt 536870912 ≤ qt 536870913 ∧ qt 536870913 ≤ qt 536870912 + 3 := by decide +kernel

theorem qt_next {t : Int} (h0 : 0 ≤ t) (h1 : t < 1073741824) : qt t ≤ qt (t + 1) ∧ qt (t + 1) ≤ qt t + 3 := by
  by_cases c : t < 536870912
  · rw [qt_lo (by omega), qt_lo (by omega)]
    have b := xof_bd (t := t) h0 (by omega)
    have b' := xof_bd (t := t + 1) (by omega) (by omega)
    obtain ⟨e, he⟩ : ∃ e, xof (t + 1) = xof t + e := ⟨xof (t + 1) - xof t, by omega⟩
    have he0 : 1686629700 ≤ e ∧ e ≤ 1686629800 := by unfold xof at he; omega
    rw [he] at b' ⊢
    obtain ⟨v1, v2, v3⟩ := vs_two (x := xof t) (e := e) b.1 b'.2 (by omega) (by omega)
    unfold rnd; omega
  · by_cases d : t = 536870912
    · subst d; exact qt_mid
    · rw [qt_hi (by omega), qt_hi (by omega)]
      have b := xof_bd (t := 1073741824 - t) (by omega) (by omega)
      have b' := xof_bd (t := 1073741824 - (t + 1)) (by omega) (by omega)
      obtain ⟨e, he⟩ : ∃ e, xof (1073741824 - t) = xof (1073741824 - (t + 1)) + e := ⟨xof (1073741824 - t) - xof (1073741824 - (t + 1)), by omega⟩
      have he0 : 1686629700 ≤ e ∧ e ≤ 1686629800 := by unfold xof at he; omega
      rw [he] at b ⊢
      obtain ⟨v1, v2⟩ := vc_two (x := xof (1073741824 - (t + 1))) (e := e) b'.1 b.2 (by omega) (by omega)
      unfold rnd; omega

theorem qt_mono_nat (n : Nat) : ∀ t : Int, 0 ≤ t → t + n ≤ 1073741824 → qt t ≤ qt (t + n) := by
  induction n with
  | zero => intro t _ _; simp
  | succ n ih =>
    intro t h0 h1
    have a := ih t h0 (by omega)
    have b := (qt_next (t := t + n) (by omega) (by omega)).1
    rw [show t + ((n + 1 : Nat) : Int) = t + n + 1 by omega]
    omega
theorem qt_mono {t t' : Int} (h0 : 0 ≤ t) (h : t ≤ t') (h1 : t' ≤ 1073741824) : qt t ≤ qt t' := by
  have := qt_mono_nat (t' - t).toNat t h0 (by omega)
  rw [show t + ((t' - t).toNat : Int) = t' by omega] at this
  exact this

theorem qt_three {t : Int} (h0 : 0 ≤ t) (h1 : t + 3 ≤ 536870912) : qt t + 1 ≤ qt (t + 3) := by
  rw [qt_lo (by omega), qt_lo (by omega)]
  have b := xof_bd (t := t) h0 (by omega)
  have b' := xof_bd (t := t + 3) (by omega) (by omega)
  obtain ⟨e, he⟩ : ∃ e, xof (t + 3) = xof t + e := ⟨xof (t + 3) - xof t, by omega⟩
  have he0 : 5059889100 ≤ e ∧ e ≤ 5059889200 := by unfold xof at he; omega
  rw [he] at b' ⊢
  obtain ⟨v1, v2, v3⟩ := vs_two (x := xof t) (e := e) b.1 b'.2 (by omega) (by omega)
  unfold rnd; omega

theorem qt_zero : qt 0 = 0 := by decide +kernel
end Go.Proofs.Ytjgikgbolacikaa.Q
end

section
/- Package trig in plain numbers: the angle of a direction by halving, and that the printed functions compute it, for components up to 2^32, not both 0; the fact of package trig holds. -/
namespace Go.Proofs.Ytjgikgbolacikaa.Q
open Go.RowKit Go.Proofs.YtjgikgbolacikaaW.PrintWords Go.Proofs.YtjgikgbolacikaaW.PrintLast Go.Proofs.YtjgikgbolacikaaW.PrintMore
set_option linter.unusedVariables false
set_option linter.unusedSimpArgs false

/-- The greatest angle with a sine that is not too great, by halving. -/
def octp (y x : Int) : Nat → Int → Int → Int
  | 0, lo, _ => lo
  | n + 1, lo, hi => if hi - lo > 1 then (if sn ((lo + hi) / 2) * x ≤ cs ((lo + hi) / 2) * y then octp y x n ((lo + hi) / 2) hi else octp y x n lo ((lo + hi) / 2)) else lo
def oct (y x : Int) : Int := octp y x 40 0 536870913

theorem mul_bd {s x : Int} (s0 : -1073741824 ≤ s) (s1 : s ≤ 1073741824) (x0 : 0 ≤ x) (x1 : x ≤ 4294967296) : -4611686018427387904 ≤ s * x ∧ s * x ≤ 4611686018427387904 := by
  have a : s * x ≤ 1073741824 * x := Int.mul_le_mul_of_nonneg_right s1 x0
  have b : -1073741824 * x ≤ s * x := Int.mul_le_mul_of_nonneg_right s0 x0
  omega

theorem octant_l0 {y x : Int} (y0 : 0 ≤ y) (y1 : y ≤ 4294967296) (x0 : 0 ≤ x) (x1 : x ≤ 4294967296) (n : Nat) :
    ∀ lo hi : Int, 0 ≤ lo → lo ≤ hi → hi ≤ 536870913 → hi - lo ≤ 2 ^ n → Ev (fun k => trig_octant.l0 k y x lo hi) (octp y x n lo hi) := by
  induction n with
  | zero =>
    intro lo hi h0 hl h1 h2
    rw [Int.pow_zero] at h2
    exact one_ev fun k => by rw [trig_octant.l0, w64_id (by omega) (by omega), if_neg (by omega)]; rfl
  | succ n ih =>
    intro lo hi h0 hl h1 h2
    rw [Int.pow_succ] at h2
    by_cases c : hi - lo > 1
    · have e : wrap64 (Int.tdiv (wrap64 (lo + hi)) 2) = (lo + hi) / 2 := by
        rw [w64_id (x := lo + hi) (by omega) (by omega), tdiv_eq (by omega), w64_id (by omega) (by omega)]
      have m1 := sn_bd ((lo + hi) / 2)
      have m2 := cs_bd ((lo + hi) / 2)
      have p1 := mul_bd m1.1 m1.2 x0 x1
      have p2 := mul_bd m2.1 m2.2 y0 y1
      refine Ev.step (f := fun k => (trig_Sin.f k ((lo + hi) / 2)).bind fun t101 => ((trig_Cos.f k ((lo + hi) / 2)).bind fun t102 => (if (wrap64 (t101 * x)) ≤ (wrap64 (t102 * y)) then (trig_octant.l0 k y x ((lo + hi) / 2) hi) else (trig_octant.l0 k y x lo ((lo + hi) / 2))))) (fun k => ?_) ?_
      · rw [trig_octant.l0, w64_id (x := hi - lo) (by omega) (by omega), if_pos c, e]
      · refine Ev.bind (sin_ev (by omega) (by omega)) (Ev.bind (cos_ev (by omega) (by omega)) ?_)
        rw [w64_id (x := sn ((lo + hi) / 2) * x) (by omega) (by omega), w64_id (x := cs ((lo + hi) / 2) * y) (by omega) (by omega)]
        unfold octp
        rw [if_pos c]
        by_cases d : sn ((lo + hi) / 2) * x ≤ cs ((lo + hi) / 2) * y
        · rw [if_pos d]; exact pos_ev d (ih _ _ (by omega) (by omega) h1 (by omega))
        · rw [if_neg d]; exact neg_ev d (ih _ _ h0 (by omega) (by omega) (by omega))
    · refine one_ev fun k => ?_
      rw [trig_octant.l0, w64_id (x := hi - lo) (by omega) (by omega), if_neg c]
      unfold octp; rw [if_neg c]

theorem octant_ev {y x : Int} (y0 : 0 ≤ y) (y1 : y ≤ 4294967296) (x0 : 0 ≤ x) (x1 : x ≤ 4294967296) : Ev (fun k => trig_octant.f k y x) (oct y x) := by
  unfold trig_octant.f oct
  exact octant_l0 y0 y1 x0 x1 40 0 536870913 (by decide) (by decide) (by decide) (by decide)

theorem octp_is (y x : Int) (n : Nat) : ∀ lo hi : Int, 0 ≤ lo → lo < hi → hi ≤ 536870913 → hi - lo ≤ 2 ^ n → (lo = 0 ∨ sn lo * x ≤ cs lo * y) → (hi = 536870913 ∨ ¬ sn hi * x ≤ cs hi * y) →
    0 ≤ octp y x n lo hi ∧ octp y x n lo hi ≤ 536870912 ∧ (octp y x n lo hi = 0 ∨ sn (octp y x n lo hi) * x ≤ cs (octp y x n lo hi) * y) ∧ (octp y x n lo hi = 536870912 ∨ ¬ sn (octp y x n lo hi + 1) * x ≤ cs (octp y x n lo hi + 1) * y) := by
  induction n with
  | zero =>
    intro lo hi h0 hl h1 h2 a b
    rw [Int.pow_zero] at h2
    have e : hi = lo + 1 := by omega
    subst e
    unfold octp
    exact ⟨h0, by omega, a, by rcases b with b | b; · left; omega
                               · exact .inr b⟩
  | succ n ih =>
    intro lo hi h0 hl h1 h2 a b
    rw [Int.pow_succ] at h2
    unfold octp
    by_cases c : hi - lo > 1
    · rw [if_pos c]
      by_cases d : sn ((lo + hi) / 2) * x ≤ cs ((lo + hi) / 2) * y
      · rw [if_pos d]; exact ih _ _ (by omega) (by omega) h1 (by omega) (.inr d) b
      · rw [if_neg d]; exact ih _ _ h0 (by omega) (by omega) (by omega) a (.inr d)
    · rw [if_neg c]
      have e : hi = lo + 1 := by omega
      subst e
      exact ⟨h0, by omega, a, by rcases b with b | b; · left; omega
                                 · exact .inr b⟩
theorem oct_is (y x : Int) : 0 ≤ oct y x ∧ oct y x ≤ 536870912 ∧ (oct y x = 0 ∨ sn (oct y x) * x ≤ cs (oct y x) * y) ∧ (oct y x = 536870912 ∨ ¬ sn (oct y x + 1) * x ≤ cs (oct y x + 1) * y) :=
  octp_is y x 40 0 536870913 (by decide) (by decide) (by decide) (by decide) (.inl rfl) (.inl rfl)

/-- The angle of a direction. -/
def at1 (y x : Int) : Int := if mx y (-y) ≤ mx x (-x) then oct (mx y (-y)) (mx x (-x)) else 1073741824 - oct (mx x (-x)) (mx y (-y))
def at2 (y x : Int) : Int := (if y < 0 then 4294967296 - (if x < 0 then 2147483648 - at1 y x else at1 y x) else if x < 0 then 2147483648 - at1 y x else at1 y x) % 4294967296

theorem at1_bd (y x : Int) : 0 ≤ at1 y x ∧ at1 y x ≤ 1073741824 := by
  have a := oct_is (mx y (-y)) (mx x (-x))
  have b := oct_is (mx x (-x)) (mx y (-y))
  unfold at1; split <;> omega

theorem mx_abs {x : Int} (x0 : -4294967296 ≤ x) (x1 : x ≤ 4294967296) : 0 ≤ mx x (-x) ∧ mx x (-x) ≤ 4294967296 := by unfold mx; split <;> omega

theorem atan2_ev {y x : Int} (y0 : -4294967296 ≤ y) (y1 : y ≤ 4294967296) (x0 : -4294967296 ≤ x) (x1 : x ≤ 4294967296) (h : x ≠ 0 ∨ y ≠ 0) : Ev (fun k => trig_Atan2.f k y x) (at2 y x, 0) := by
  have bx := mx_abs x0 x1
  have bY := mx_abs y0 y1
  have b1 := at1_bd y x
  have J2 : Ev (fun k => trig_Atan2.j2 k y x (at1 y x)) (at2 y x, 0) := by
    refine one_ev fun k => ?_
    rw [trig_Atan2.j2]
    unfold at2
    by_cases c : x < 0
    · by_cases d : y < 0
      · rw [if_pos c, if_pos d, if_pos d, if_pos c, w64_id (x := 2147483648 - at1 y x) (by omega) (by omega), w64_id (by omega) (by omega), tmod_eq (by omega)]
      · rw [if_pos c, if_neg d, if_neg d, if_pos c, w64_id (x := 2147483648 - at1 y x) (by omega) (by omega), tmod_eq (by omega)]
    · by_cases d : y < 0
      · rw [if_neg c, if_pos d, if_pos d, if_neg c, w64_id (by omega) (by omega), tmod_eq (by omega)]
      · rw [if_neg c, if_neg d, if_neg d, if_neg c, tmod_eq (by omega)]
  have J1 : Ev (fun k => trig_Atan2.j1 k y x) (at2 y x, 0) := by
    refine Ev.step (f := fun k => if (mx y (-y)) ≤ (mx x (-x)) then ((trig_octant.f k (mx y (-y)) (mx x (-x))).bind fun t101 => (trig_Atan2.j2 k y x t101)) else ((trig_octant.f k (mx x (-x)) (mx y (-y))).bind fun t102 => (trig_Atan2.j2 k y x (wrap64 (1073741824 - t102))))) (fun k => by
      rw [trig_Atan2.j1, w64_id (x := -x) (by omega) (by omega), w64_id (x := -y) (by omega) (by omega)]) ?_
    by_cases c : mx y (-y) ≤ mx x (-x)
    · refine pos_ev c (Ev.bind (octant_ev bY.1 bY.2 bx.1 bx.2) ?_)
      have e : at1 y x = oct (mx y (-y)) (mx x (-x)) := by unfold at1; rw [if_pos c]
      rw [← e]; exact J2
    · refine neg_ev c (Ev.bind (octant_ev bx.1 bx.2 bY.1 bY.2) ?_)
      have e : at1 y x = 1073741824 - oct (mx x (-x)) (mx y (-y)) := by unfold at1; rw [if_neg c]
      rw [← e, w64_id (by omega) (by omega)]; exact J2
  have J0 : Ev (fun k => trig_Atan2.j0 k y x false) (at2 y x, 0) := by
    refine Ev.step (f := fun k => if x = 0 then (if y = 0 then (some (0, 8)) else (trig_Atan2.j1 k y x)) else (trig_Atan2.j1 k y x)) (fun k => by rw [trig_Atan2.j0, if_neg (by decide)]) ?_
    by_cases c : x = 0
    · exact pos_ev c (neg_ev (by omega) J1)
    · exact neg_ev c J1
  refine Ev.congr (fun k => ?_) J0
  unfold trig_Atan2.f
  rw [if_neg (by omega), if_neg (by omega), if_neg (by omega), decide_eq_false (by omega)]

/-- A sine by its quarter and its place in it. -/
theorem sn_at {a q t : Int} (hq : a % 4294967296 / 1073741824 = q) (ht : a % 1073741824 = t) : sn a = (if q = 0 then qt t else if q = 1 then qt (1073741824 - t) else if q = 2 then -qt t else -qt (1073741824 - t)) := by
  unfold sn; rw [hq, ht]
end Go.Proofs.Ytjgikgbolacikaa.Q
end

section
/- The symmetries of the sine in plain numbers: of opposite and supplementary angles and of neighbours; no conditions. -/
namespace Go.Proofs.Ytjgikgbolacikaa.Q
open Go.RowKit Go.Proofs.YtjgikgbolacikaaW.PrintWords Go.Proofs.YtjgikgbolacikaaW.PrintLast Go.Proofs.YtjgikgbolacikaaW.PrintMore
set_option linter.unusedVariables false
set_option linter.unusedSimpArgs false

theorem sn_mod {a b : Int} (h : a % 4294967296 = b % 4294967296) : sn a = sn b := by
  unfold sn; rw [h, show a % 1073741824 = b % 1073741824 by omega]

theorem quad (a : Int) : (a % 4294967296 / 1073741824 = 0 ∨ a % 4294967296 / 1073741824 = 1 ∨ a % 4294967296 / 1073741824 = 2 ∨ a % 4294967296 / 1073741824 = 3) ∧ 0 ≤ a % 1073741824 ∧ a % 1073741824 < 1073741824 := by omega

theorem sn_neg (a : Int) : sn (-a) = -sn a := by
  obtain ⟨hq, ht0, ht1⟩ := quad a
  generalize ht : a % 1073741824 = t at *
  by_cases z : t = 0
  · subst z
    rcases hq with hq | hq | hq | hq
    · rw [sn_at hq ht, sn_at (a := -a) (q := 0) (t := 0) (by omega) (by omega)]; simp [qt_zero]
    · rw [sn_at hq ht, sn_at (a := -a) (q := 3) (t := 0) (by omega) (by omega)]; simp
    · rw [sn_at hq ht, sn_at (a := -a) (q := 2) (t := 0) (by omega) (by omega)]; simp [qt_zero]
    · rw [sn_at hq ht, sn_at (a := -a) (q := 1) (t := 0) (by omega) (by omega)]; simp
  · have e : 1073741824 - (1073741824 - t) = t := by omega
    rcases hq with hq | hq | hq | hq
    · rw [sn_at hq ht, sn_at (a := -a) (q := 3) (t := 1073741824 - t) (by omega) (by omega)]; simp [e]
    · rw [sn_at hq ht, sn_at (a := -a) (q := 2) (t := 1073741824 - t) (by omega) (by omega)]; simp
    · rw [sn_at hq ht, sn_at (a := -a) (q := 1) (t := 1073741824 - t) (by omega) (by omega)]; simp [e]
    · rw [sn_at hq ht, sn_at (a := -a) (q := 0) (t := 1073741824 - t) (by omega) (by omega)]; simp

theorem sn_half (a : Int) : sn (a + 2147483648) = -sn a := by
  obtain ⟨hq, ht0, ht1⟩ := quad a
  generalize ht : a % 1073741824 = t at *
  rcases hq with hq | hq | hq | hq
  · rw [sn_at hq ht, sn_at (a := a + 2147483648) (q := 2) (t := t) (by omega) (by omega)]; simp
  · rw [sn_at hq ht, sn_at (a := a + 2147483648) (q := 3) (t := t) (by omega) (by omega)]; simp
  · rw [sn_at hq ht, sn_at (a := a + 2147483648) (q := 0) (t := t) (by omega) (by omega)]; simp
  · rw [sn_at hq ht, sn_at (a := a + 2147483648) (q := 1) (t := t) (by omega) (by omega)]; simp

theorem sn_supp (a : Int) : sn (2147483648 - a) = sn a := by
  rw [show 2147483648 - a = -a + 2147483648 by omega, sn_half, sn_neg, Int.neg_neg]

theorem cs_sn (a : Int) : cs a = sn (a + 1073741824) := sn_mod (by omega)
theorem cs_neg (a : Int) : cs (-a) = cs a := by
  rw [cs_sn, cs_sn, show -a + 1073741824 = 2147483648 - (a + 1073741824) by omega, sn_supp]

end Go.Proofs.Ytjgikgbolacikaa.Q
end

section
/- The angle of a direction in plain numbers: it depends on the direction alone, and grows when the direction turns to the left, in the first quarter; no conditions but the components' signs. -/
namespace Go.Proofs.Ytjgikgbolacikaa.Q
open Go.RowKit Go.Proofs.YtjgikgbolacikaaW.PrintWords Go.Proofs.YtjgikgbolacikaaW.PrintLast Go.Proofs.YtjgikgbolacikaaW.PrintMore
set_option linter.unusedVariables false
set_option linter.unusedSimpArgs false

theorem sn_q1 {m : Int} (h0 : 0 ≤ m) (h1 : m ≤ 1073741824) : sn m = qt m := by
  by_cases c : m = 1073741824
  · subst c; rw [sn_at (q := 1) (t := 0) (by decide) (by decide)]; simp
  · rw [sn_at (q := 0) (t := m) (by omega) (by omega)]; simp
theorem cs_q1 {m : Int} (h0 : 0 ≤ m) (h1 : m ≤ 1073741824) : cs m = qt (1073741824 - m) := by
  rw [cs_sn]
  by_cases c : m = 1073741824
  · subst c; rw [sn_at (q := 2) (t := 0) (by decide) (by decide)]; simp [qt_zero]
  · rw [sn_at (q := 1) (t := m) (by omega) (by omega)]; simp

theorem sn_up {m m' : Int} (h0 : 0 ≤ m) (h : m ≤ m') (h1 : m' ≤ 1073741824) : sn m ≤ sn m' := by
  rw [sn_q1 h0 (by omega), sn_q1 (by omega) h1]; exact qt_mono h0 h h1
theorem cs_pos {m : Int} (h0 : 0 ≤ m) (h1 : m ≤ 1073741824) : 0 ≤ cs m := by
  rw [cs_q1 h0 h1]; exact (qt_bd (by omega) (by omega)).1

/-- The angle within the first quarter. -/
def at0 (y x : Int) : Int := if y ≤ x then oct y x else 1073741824 - oct x y
theorem at1_abs (y x : Int) : at1 y x = at0 (mx y (-y)) (mx x (-x)) := rfl
theorem at0_bd (y x : Int) : 0 ≤ at0 y x ∧ at0 y x ≤ 1073741824 := by
  have a := oct_is y x
  have b := oct_is x y
  unfold at0; split <;> omega

theorem mx_pos {x : Int} (h : 0 ≤ x) : mx x (-x) = x := by unfold mx; split <;> omega
theorem mx_neg {x : Int} (h : x < 0) : mx x (-x) = -x := by unfold mx; split <;> omega

theorem at2_up {y x : Int} (y0 : 0 ≤ y) : at2 y x = (if x < 0 then 2147483648 - at0 y (-x) else at0 y x) := by
  unfold at2
  have b1 := at0_bd y (-x)
  have b2 := at0_bd y x
  rw [if_neg (by omega), at1_abs, mx_pos y0]
  by_cases c : x < 0
  · rw [if_pos c, if_pos c, mx_neg c]; omega
  · rw [if_neg c, if_neg c, mx_pos (by omega)]; omega

end Go.Proofs.Ytjgikgbolacikaa.Q
end

section
/- The angle of the cosine and the sine of an angle is this angle, up to 2, in plain numbers; no conditions. -/
namespace Go.Proofs.Ytjgikgbolacikaa.Q
open Go.RowKit Go.Proofs.YtjgikgbolacikaaW.PrintWords Go.Proofs.YtjgikgbolacikaaW.PrintLast Go.Proofs.YtjgikgbolacikaaW.PrintMore
set_option linter.unusedVariables false
set_option linter.unusedSimpArgs false

theorem qt_near : 1 ≤ qt 1 ∧ 1 ≤ qt 536870912 ∧ qt 536870911 < qt 536870913 ∧ qt 536870910 < qt 536870914 := by decide +kernel
theorem qt_pos {t : Int} (h0 : 1 ≤ t) (h1 : t ≤ 1073741824) : 1 ≤ qt t := by
  have := qt_mono (t := 1) (t' := t) (by decide) h0 h1
  have := qt_near.1
  omega

theorem oct_there {t : Int} (h0 : 0 ≤ t) (h1 : t ≤ 536870912) : t ≤ oct (qt t) (qt (1073741824 - t)) ∧ oct (qt t) (qt (1073741824 - t)) ≤ t + 2 := by
  obtain ⟨m0, m1, m2, m3⟩ := oct_is (qt t) (qt (1073741824 - t))
  have y0 := qt_bd (t := t) h0 (by omega)
  have x0 := qt_bd (t := 1073741824 - t) (by omega) (by omega)
  have xp := qt_pos (t := 1073741824 - t) (by omega) (by omega)
  generalize oct (qt t) (qt (1073741824 - t)) = m at *
  constructor
  · rcases Int.lt_or_le m t with c | c
    · exfalso
      rcases m3 with h | h
      · omega
      · apply h
        rw [sn_q1 (by omega) (by omega), cs_q1 (by omega) (by omega)]
        have a := qt_mono (t := m + 1) (t' := t) (by omega) (by omega) (by omega)
        have b := qt_mono (t := 1073741824 - t) (t' := 1073741824 - (m + 1)) (by omega) (by omega) (by omega)
        have a' := Int.mul_le_mul_of_nonneg_right a x0.1
        have b' := Int.mul_le_mul_of_nonneg_right b y0.1
        have e := Int.mul_comm (qt t) (qt (1073741824 - t))
        omega
    · exact c
  · rcases Int.lt_or_le (t + 2) m with c | c
    · exfalso
      rcases m2 with h | h
      · omega
      · rw [sn_q1 (by omega) (by omega), cs_q1 (by omega) (by omega)] at h
        have a := qt_three (t := t) h0 (by omega)
        have a2 := qt_mono (t := t + 3) (t' := m) (by omega) (by omega) (by omega)
        have b := qt_mono (t := 1073741824 - m) (t' := 1073741824 - t) (by omega) (by omega) (by omega)
        have a' := Int.mul_le_mul_of_nonneg_right (show qt t + 1 ≤ qt m by omega) x0.1
        have b' := Int.mul_le_mul_of_nonneg_right b y0.1
        have e := Int.mul_comm (qt t) (qt (1073741824 - t))
        rw [Int.add_mul, Int.one_mul] at a'
        omega
    · exact c

theorem at0_there {t : Int} (h0 : 0 ≤ t) (h1 : t ≤ 1073741824) : t - 2 ≤ at0 (qt t) (qt (1073741824 - t)) ∧ at0 (qt t) (qt (1073741824 - t)) ≤ t + 2 := by
  by_cases c : t ≤ 536870912
  · have m := qt_mono (t := t) (t' := 1073741824 - t) h0 (by omega) (by omega)
    have o := oct_there h0 c
    unfold at0
    rw [if_pos m]; omega
  · have m := qt_mono (t := 1073741824 - t) (t' := t) (by omega) (by omega) h1
    have o := oct_there (t := 1073741824 - t) (by omega) (by omega)
    rw [show 1073741824 - (1073741824 - t) = t by omega] at o
    unfold at0
    by_cases d : qt t ≤ qt (1073741824 - t)
    · exfalso
      by_cases f : t = 536870913
      · subst f; have := qt_near.2.2.1; simp at d; omega
      · by_cases g : t = 536870914
        · subst g; have := qt_near.2.2.2; simp at d; omega
        · have a := qt_three (t := 1073741824 - t) (by omega) (by omega)
          have b := qt_mono (t := 1073741824 - t + 3) (t' := t) (by omega) (by omega) h1
          omega
    · rw [if_neg d]; omega

theorem there (a : Int) : (at2 (sn a) (cs a) - a + 2) % 4294967296 ≤ 4 := by
  obtain ⟨hq, ht0, ht1⟩ := quad a
  generalize ht : a % 1073741824 = t at *
  have o1 := at0_there (t := t) ht0 (by omega)
  have o2 := at0_there (t := 1073741824 - t) (by omega) (by omega)
  rw [show 1073741824 - (1073741824 - t) = t by omega] at o2
  have b1 := qt_bd (t := t) ht0 (by omega)
  have b2 := qt_bd (t := 1073741824 - t) (by omega) (by omega)
  have p2 := qt_pos (t := 1073741824 - t) (by omega) (by omega)
  have p1 : 1 ≤ t → 1 ≤ qt t := fun h => qt_pos h (by omega)
  have z0 : t = 0 → qt t = 0 := fun h => by rw [h]; exact qt_zero
  rw [cs_sn]
  rcases hq with hq | hq | hq | hq
  · rw [sn_at hq ht, sn_at (a := a + 1073741824) (q := 1) (t := t) (by omega) (by omega)]
    simp only [if_pos]
    simp
    rw [at2_up b1.1, if_neg (by omega)]
    omega
  · rw [sn_at hq ht, sn_at (a := a + 1073741824) (q := 2) (t := t) (by omega) (by omega)]
    simp
    rw [at2_up b2.1]
    by_cases z : t = 0
    · rw [if_neg (by have := z0 z; omega)]
      have e := z0 z
      rw [e] at o2 ⊢
      simp
      omega
    · rw [if_pos (by have := p1 (by omega); omega), Int.neg_neg]
      omega
  · rw [sn_at hq ht, sn_at (a := a + 1073741824) (q := 3) (t := t) (by omega) (by omega)]
    simp
    by_cases z : t = 0
    · have e := z0 z
      rw [e] at o1 ⊢
      simp
      rw [at2_up (by decide), if_pos (by omega), Int.neg_neg]
      omega
    · have p := p1 (by omega)
      unfold at2
      rw [if_pos (by omega), if_pos (by omega), at1_abs, mx_neg (by omega), mx_neg (by omega), Int.neg_neg, Int.neg_neg]
      omega
  · rw [sn_at hq ht, sn_at (a := a + 1073741824) (q := 0) (t := t) (by omega) (by omega)]
    simp
    unfold at2
    rw [if_pos (by omega), if_neg (by omega), at1_abs, mx_neg (by omega), mx_pos b1.1, Int.neg_neg]
    omega
end Go.Proofs.Ytjgikgbolacikaa.Q
end

section
/- The squares of sine and cosine of an angle of the first eighth add up to 1, up to 2 units: by rational polynomials and their rounding; no other condition. -/
namespace Go.Proofs.Ytjgikgbolacikaa.Q
open Go.RowKit Go.Proofs.YtjgikgbolacikaaW.PrintWords Go.Proofs.YtjgikgbolacikaaW.PrintLast Go.Proofs.YtjgikgbolacikaaW.PrintMore
set_option linter.unusedVariables false
set_option linter.unusedSimpArgs false

/-- The series without rounding. -/
def hr (z : Rat) : Rat → List Int → Rat
  | e, [] => e
  | e, k :: l => hr z (1 - z * e / (k : Rat)) l

theorem rat_le_of_mul {a b c : Rat} (hc : 0 < c) (h : a * c ≤ b * c) : a ≤ b := Rat.le_of_mul_le_mul_right h hc

theorem ser_err {u : Int} (u0 : 0 ≤ u) (u1 : u ≤ 1152921504606846976) {z : Rat} (hz : z * 1152921504606846976 = (u : Rat)) (l : List Int) :
    ∀ (S : Int) (e : Rat), (∀ k ∈ l, 2 ≤ k) → 0 ≤ S → S ≤ 1152921504606846976 → (S : Rat) - 2 ≤ e * 1152921504606846976 → e * 1152921504606846976 ≤ (S : Rat) + 2 →
      (ser u S l : Rat) - 2 ≤ hr z e l * 1152921504606846976 ∧ hr z e l * 1152921504606846976 ≤ (ser u S l : Rat) + 2 := by
  induction l with
  | nil => intro S e _ _ _ h1 h2; exact ⟨h1, h2⟩
  | cons k l ih =>
    intro S e hk s0 s1 h1 h2
    have k2 := hk k (by simp)
    have st := ser_step u0 u1 s0 s1 (k := k) (by omega)
    refine ih _ _ (fun k h => hk k (by simp [h])) st.1 st.2.1 ?_ ?_
    all_goals
      -- the rounding of one step, in whole numbers
      have f1 : tm u S / k * k ≤ tm u S := Int.ediv_mul_le _ (by omega)
      have f2 : tm u S < (tm u S / k + 1) * k := Int.lt_ediv_add_one_mul_self _ (by omega)
      have f3 : tm u S * 1152921504606846976 ≤ u * S := by unfold tm; omega
      have f4 : u * S < tm u S * 1152921504606846976 + 1152921504606846976 := by unfold tm; omega
      generalize tm u S / k = F at *
      generalize tm u S = T at *
      have g1 : F * k * 1152921504606846976 ≤ u * S := by omega
      have g2 : u * S ≤ (F + 1) * k * 1152921504606846976 := by omega
      have g1' : (F : Rat) * k * 1152921504606846976 ≤ u * S := by
        have := Rat.intCast_le_intCast.mpr g1
        rw [Rat.intCast_mul, Rat.intCast_mul, Rat.intCast_mul, Rat.intCast_ofNat] at this; exact this
      have g2' : (u : Rat) * S ≤ (F + 1) * k * 1152921504606846976 := by
        have := Rat.intCast_le_intCast.mpr g2
        rw [Rat.intCast_mul, Rat.intCast_mul, Rat.intCast_mul, Rat.intCast_ofNat, Rat.intCast_add, Rat.intCast_one] at this; exact this
      have k2' : (2 : Rat) ≤ (k : Rat) := by
        have := Rat.intCast_le_intCast.mpr k2
        rw [Rat.intCast_ofNat] at this; exact this
      have u0' : (0 : Rat) ≤ (u : Rat) := by
        have := Rat.intCast_le_intCast.mpr u0
        exact this
      have u1' : (u : Rat) ≤ 1152921504606846976 := by
        have := Rat.intCast_le_intCast.mpr u1
        rw [Rat.intCast_ofNat] at this; exact this
      have m1 : (u : Rat) * (e * 1152921504606846976) ≤ u * (S + 2) := Rat.mul_le_mul_of_nonneg_left h2 u0'
      have m2 : (u : Rat) * (S - 2) ≤ u * (e * 1152921504606846976) := Rat.mul_le_mul_of_nonneg_left h1 u0'
      obtain ⟨q, hq⟩ : ∃ q : Rat, q = z * e / (k : Rat) * 1152921504606846976 := ⟨_, rfl⟩
      have hqk : q * (k : Rat) * 1152921504606846976 = (u : Rat) * (e * 1152921504606846976) := by
        rw [hq, ← hz]
        have : (k : Rat) ≠ 0 := by grind
        grind
      have kp : (0 : Rat) < (k : Rat) * 1152921504606846976 := by grind
      rw [Rat.intCast_sub, Rat.intCast_ofNat]
      have e1 : (1 - z * e / (k : Rat)) * 1152921504606846976 = 1152921504606846976 - q := by rw [hq]; grind
      rw [e1]
    · have : q ≤ (F : Rat) + 2 := rat_le_of_mul kp (by grind)
      grind
    · have : (F : Rat) - 2 ≤ q := rat_le_of_mul kp (by grind)
      grind

theorem pow01 {z : Rat} (h0 : 0 ≤ z) (h1 : z ≤ 1) (n : Nat) : 0 ≤ z ^ n ∧ z ^ n ≤ 1 := by
  induction n with
  | zero => rw [Rat.pow_zero]; exact ⟨by decide, by decide⟩
  | succ n ih =>
    rw [Rat.pow_succ]
    have a := Rat.mul_le_mul_of_nonneg_left h1 ih.1
    have b := Rat.mul_le_mul_of_nonneg_left h0 ih.1
    grind

theorem id14 (z : Rat) : z * (hr z 1 sinL * hr z 1 sinL) + hr z 1 cosL * hr z 1 cosL = 1 + ((1/697426329600 : Rat)*z^8 + (-(1/4707627724800 : Rat))*z^9 + (1/104613949440000 : Rat)*z^10 + (-(1/4833164464128000 : Rat))*z^11 + (1/379623099727872000 : Rat)*z^12 + (-(1/45238419384238080000 : Rat))*z^13 + (1/7600054456551997440000 : Rat)*z^14) := by
  simp only [hr, sinL, cosL, Rat.intCast_ofNat]
  grind

theorem near1 {z : Rat} (h0 : 0 ≤ z) (h1 : z ≤ 1) : z * (hr z 1 sinL * hr z 1 sinL) + hr z 1 cosL * hr z 1 cosL ≤ 1 + 1/100000000000 ∧ 1 - 1/100000000000 ≤ z * (hr z 1 sinL * hr z 1 sinL) + hr z 1 cosL * hr z 1 cosL := by
  rw [id14]
  have p8 := pow01 h0 h1 8
  have p9 := pow01 h0 h1 9
  have p10 := pow01 h0 h1 10
  have p11 := pow01 h0 h1 11
  have p12 := pow01 h0 h1 12
  have p13 := pow01 h0 h1 13
  have p14 := pow01 h0 h1 14
  generalize z ^ 8 = y8 at *
  generalize z ^ 9 = y9 at *
  generalize z ^ 10 = y10 at *
  generalize z ^ 11 = y11 at *
  generalize z ^ 12 = y12 at *
  generalize z ^ 13 = y13 at *
  generalize z ^ 14 = y14 at *
  constructor <;> grind

/-- Products of numbers between 0 and 1, and of their neighbours. -/
theorem sq_near {a b e : Rat} (a0 : 0 ≤ a) (a1 : a ≤ 1) (e0 : 0 ≤ e) (e1 : e ≤ 1) (h1 : a - e ≤ b) (h2 : b ≤ a + e) : b * b ≤ a * a + 3 * e ∧ a * a - 3 * e ≤ b * b := by
  obtain ⟨d, hd⟩ : ∃ d, d = b - a := ⟨_, rfl⟩
  have hb : b = a + d := by grind
  have d1 : d ≤ e := by grind
  have d2 : -e ≤ d := by grind
  have k1 : a * d ≤ a * e := Rat.mul_le_mul_of_nonneg_left d1 a0
  have k2 : a * (-e) ≤ a * d := Rat.mul_le_mul_of_nonneg_left d2 a0
  have k3 : e * a ≤ e * 1 := Rat.mul_le_mul_of_nonneg_left a1 e0
  have k4 : e * e ≤ e * 1 := Rat.mul_le_mul_of_nonneg_left e1 e0
  have k5 : 0 ≤ (e - d) * (e + d) := Rat.mul_nonneg (by grind) (by grind)
  have k6 : 0 ≤ d * d := by
    rcases Rat.le_total (a := 0) (b := d) with h | h
    · exact Rat.mul_nonneg h h
    · have := Rat.mul_nonneg (a := -d) (b := -d) (by grind) (by grind)
      grind
  rw [hb]
  constructor <;> grind
end Go.Proofs.Ytjgikgbolacikaa.Q
end

section
/- The squares of sine and cosine of every angle add up to 1, up to 2 units, in plain numbers; no conditions. -/
namespace Go.Proofs.Ytjgikgbolacikaa.Q
open Go.RowKit Go.Proofs.YtjgikgbolacikaaW.PrintWords Go.Proofs.YtjgikgbolacikaaW.PrintLast Go.Proofs.YtjgikgbolacikaaW.PrintMore
set_option linter.unusedVariables false
set_option linter.unusedSimpArgs false

theorem cast_le {a b : Int} (h : a ≤ b) : (a : Rat) ≤ (b : Rat) := Rat.intCast_le_intCast.mpr h

/-- The estimates in rational numbers: what is left of the rounding. -/
theorem circ_rat {v k p q m : Rat} (v0 : 0 ≤ v) (k0 : 0 ≤ k) (h1 : v * v + k * k ≤ 1 + 2/100000000000) (h2 : 1 - 2/100000000000 ≤ v * v + k * k)
    (p1 : p ≤ v + 1/2147483648) (p2 : v - 1/2147483648 ≤ p) (q1 : q ≤ k + 1/2147483648) (q2 : k - 1/2147483648 ≤ q) :
    p * p + q * q ≤ 1 + 1/536870912 ∧ 1 - 1/536870912 ≤ p * p + q * q := by
  have hs : v + k ≤ 3/2 := by
    rcases Rat.le_total (a := v + k) (b := 3/2) with h | h
    · exact h
    · exfalso
      have a := Rat.mul_le_mul_of_nonneg_left (c := v + k) h (by grind)
      have b := Rat.mul_le_mul_of_nonneg_left (c := 3/2) h (by grind)
      have c : 0 ≤ (v - k) * (v - k) := by
        rcases Rat.le_total (a := 0) (b := v - k) with h | h
        · exact Rat.mul_nonneg h h
        · have := Rat.mul_nonneg (a := k - v) (b := k - v) (by grind) (by grind)
          grind
      grind
  obtain ⟨e, he⟩ : ∃ e, e = p - v := ⟨_, rfl⟩
  obtain ⟨f, hf⟩ : ∃ f, f = q - k := ⟨_, rfl⟩
  have hp : p = v + e := by grind
  have hq : q = k + f := by grind
  have a1 : v * e ≤ v * (1/2147483648) := Rat.mul_le_mul_of_nonneg_left (by grind) v0
  have a2 : v * (-(1/2147483648)) ≤ v * e := Rat.mul_le_mul_of_nonneg_left (by grind) v0
  have a3 : k * f ≤ k * (1/2147483648) := Rat.mul_le_mul_of_nonneg_left (by grind) k0
  have a4 : k * (-(1/2147483648)) ≤ k * f := Rat.mul_le_mul_of_nonneg_left (by grind) k0
  have sq : ∀ d : Rat, d ≤ 1/2147483648 → -(1/2147483648) ≤ d → 0 ≤ d * d ∧ d * d ≤ 1/2147483648 * (1/2147483648) := by
    intro d d1 d2
    have k5 : 0 ≤ (1/2147483648 - d) * (1/2147483648 + d) := Rat.mul_nonneg (by grind) (by grind)
    refine ⟨?_, by grind⟩
    rcases Rat.le_total (a := 0) (b := d) with h | h
    · exact Rat.mul_nonneg h h
    · have := Rat.mul_nonneg (a := -d) (b := -d) (by grind) (by grind)
      grind
  have b1 := sq e (by grind) (by grind)
  have b2 := sq f (by grind) (by grind)
  rw [hp, hq]
  constructor <;> grind

theorem circ0 {t : Int} (h0 : 0 ≤ t) (h1 : t < 536870912) :
    qt t * qt t + qt (1073741824 - t) * qt (1073741824 - t) - 1152921504606846976 ≤ 2147483648 ∧ -2147483648 ≤ qt t * qt t + qt (1073741824 - t) * qt (1073741824 - t) - 1152921504606846976 := by
  rw [qt_lo (by omega), qt_hi (by omega), show 1073741824 - (1073741824 - t) = t by omega]
  have bx := xof_bd (t := t) h0 (by omega)
  generalize xof t = x at *
  unfold vs vc
  have bu := tm_bd (a := x) (b := x) bx.1 (by omega) bx.1 (by omega)
  have ux : tm x x * 1152921504606846976 ≤ x * x ∧ x * x ≤ tm x x * 1152921504606846976 + 1152921504606846976 := by unfold tm; omega
  generalize tm x x = u at *
  have bS := ser_bd (u := u) bu.1 (by omega) sinL 1152921504606846976 (by decide) (by decide) (by decide)
  have bC := ser_bd (u := u) bu.1 (by omega) cosL 1152921504606846976 (by decide) (by decide) (by decide)
  obtain ⟨z, hz⟩ : ∃ z : Rat, z * 1152921504606846976 = (u : Rat) := ⟨(u : Rat) / 1152921504606846976, by grind⟩
  have eS := ser_err bu.1 (by omega) hz sinL 1152921504606846976 1 (by decide) (by decide) (by decide) (by rw [Rat.intCast_ofNat]; grind) (by rw [Rat.intCast_ofNat]; grind)
  have eC := ser_err bu.1 (by omega) hz cosL 1152921504606846976 1 (by decide) (by decide) (by decide) (by rw [Rat.intCast_ofNat]; grind) (by rw [Rat.intCast_ofNat]; grind)
  generalize ser u 1152921504606846976 sinL = S at *
  generalize ser u 1152921504606846976 cosL = C at *
  have bV := tm_bd (a := x) (b := S) bx.1 (by omega) bS.1 bS.2
  have Vx : tm x S * 1152921504606846976 ≤ x * S ∧ x * S ≤ tm x S * 1152921504606846976 + 1152921504606846976 := by unfold tm; omega
  generalize tm x S = V at *
  have rV : rnd V * 1073741824 ≤ V + 536870912 ∧ V ≤ rnd V * 1073741824 + 536870912 := by unfold rnd; omega
  have rC : rnd C * 1073741824 ≤ C + 536870912 ∧ C ≤ rnd C * 1073741824 + 536870912 := by unfold rnd; omega
  generalize rnd V = a at *
  generalize rnd C = b at *
  -- all in parts of 1
  obtain ⟨ξ, hξ⟩ : ∃ r : Rat, r * 1152921504606846976 = (x : Rat) := ⟨(x : Rat) / 1152921504606846976, by grind⟩
  obtain ⟨σ, hσ⟩ : ∃ r : Rat, r * 1152921504606846976 = (S : Rat) := ⟨(S : Rat) / 1152921504606846976, by grind⟩
  obtain ⟨κ, hκ⟩ : ∃ r : Rat, r * 1152921504606846976 = (C : Rat) := ⟨(C : Rat) / 1152921504606846976, by grind⟩
  obtain ⟨v, hv⟩ : ∃ r : Rat, r * 1152921504606846976 = (V : Rat) := ⟨(V : Rat) / 1152921504606846976, by grind⟩
  obtain ⟨p, hp⟩ : ∃ r : Rat, r * 1073741824 = (a : Rat) := ⟨(a : Rat) / 1073741824, by grind⟩
  obtain ⟨q, hq⟩ : ∃ r : Rat, r * 1073741824 = (b : Rat) := ⟨(b : Rat) / 1073741824, by grind⟩
  have c0 : ∀ {n : Int} {r : Rat}, r * 1152921504606846976 = (n : Rat) → 0 ≤ n → n ≤ 1152921504606846976 → 0 ≤ r ∧ r ≤ 1 := by
    intro n r h n0 n1
    have a := cast_le n0
    have b := cast_le n1
    rw [Rat.intCast_ofNat] at b
    have a' : (0 : Rat) ≤ (n : Rat) := a
    constructor <;> grind
  have z01 := c0 hz bu.1 (by omega)
  have x01 := c0 hξ bx.1 (by omega)
  have s01 := c0 hσ bS.1 bS.2
  have k01 := c0 hκ bC.1 bC.2
  have v01 := c0 hv bV.1 (by omega)
  have i1 := cast_le ux.1
  have i2 := cast_le ux.2
  have i3 := cast_le Vx.1
  have i4 := cast_le Vx.2
  have i5 := cast_le rV.1
  have i6 := cast_le rV.2
  have i7 := cast_le rC.1
  have i8 := cast_le rC.2
  simp only [Rat.intCast_mul, Rat.intCast_add, Rat.intCast_ofNat] at i1 i2 i3 i4 i5 i6 i7 i8
  rw [← hz, ← hξ] at i1 i2
  rw [← hv, ← hξ, ← hσ] at i3 i4
  rw [← hv, ← hp] at i5 i6
  rw [← hκ, ← hq] at i7 i8
  rw [← hσ] at eS
  rw [← hκ] at eC
  have WW : (0 : Rat) < 1152921504606846976 * 1152921504606846976 := by decide +kernel
  have j1 : z ≤ ξ * ξ := rat_le_of_mul WW (by grind)
  have j2 : ξ * ξ ≤ z + 1/1152921504606846976 := rat_le_of_mul WW (by grind)
  have j3 : v ≤ ξ * σ := rat_le_of_mul WW (by grind)
  have j4 : ξ * σ ≤ v + 1/1152921504606846976 := rat_le_of_mul WW (by grind)
  have N := near1 z01.1 z01.2
  generalize hr z 1 sinL = s at *
  generalize hr z 1 cosL = c at *
  have n1 := sq_near (a := σ) (b := s) (e := 2/1152921504606846976) s01.1 s01.2 (by decide +kernel) (by decide +kernel) (by grind) (by grind)
  have n2 := sq_near (a := κ) (b := c) (e := 2/1152921504606846976) k01.1 k01.2 (by decide +kernel) (by decide +kernel) (by grind) (by grind)
  have n3 := sq_near (a := v) (b := ξ * σ) (e := 1/1152921504606846976) v01.1 v01.2 (by decide +kernel) (by decide +kernel) (by grind) (by grind)
  have m1 : z * (s * s) ≤ z * (σ * σ + 3 * (2/1152921504606846976)) := Rat.mul_le_mul_of_nonneg_left n1.1 z01.1
  have m2 : z * (σ * σ - 3 * (2/1152921504606846976)) ≤ z * (s * s) := Rat.mul_le_mul_of_nonneg_left n1.2 z01.1
  have ss0 : 0 ≤ σ * σ := Rat.mul_nonneg s01.1 s01.1
  have ss1 : σ * σ ≤ σ * 1 := Rat.mul_le_mul_of_nonneg_left s01.2 s01.1
  have m3 : (σ * σ) * z ≤ (σ * σ) * (ξ * ξ) := Rat.mul_le_mul_of_nonneg_left j1 ss0
  have m4 : (σ * σ) * (ξ * ξ) ≤ (σ * σ) * (z + 1/1152921504606846976) := Rat.mul_le_mul_of_nonneg_left j2 ss0
  have e1 : ξ * σ * (ξ * σ) = (σ * σ) * (ξ * ξ) := by grind
  rw [e1] at n3
  have F1 : v * v + κ * κ ≤ 1 + 2/100000000000 := by grind
  have F2 : 1 - 2/100000000000 ≤ v * v + κ * κ := by grind
  have R := circ_rat (v := v) (k := κ) (p := p) (q := q) (m := 0) v01.1 k01.1 F1 F2 (by grind) (by grind) (by grind) (by grind)
  have fin1 : ((a * a + b * b : Int) : Rat) ≤ ((1152921504606846976 + 2147483648 : Int) : Rat) := by
    simp only [Rat.intCast_mul, Rat.intCast_add, Rat.intCast_ofNat]
    rw [← hp, ← hq]; grind
  have fin2 : ((1152921504606846976 - 2147483648 : Int) : Rat) ≤ ((a * a + b * b : Int) : Rat) := by
    simp only [Rat.intCast_mul, Rat.intCast_add, Rat.intCast_sub, Rat.intCast_ofNat]
    rw [← hp, ← hq]; grind
  have g1 := Rat.intCast_le_intCast.mp fin1
  have g2 := Rat.intCast_le_intCast.mp fin2
  omega

theorem circ_mid : qt 536870912 * qt 536870912 + qt 536870912 * qt 536870912 - 1152921504606846976 ≤ 2147483648 ∧ -2147483648 ≤ qt 536870912 * qt 536870912 + qt 536870912 * qt 536870912 - 1152921504606846976 := by decide +kernel

theorem circ1 {t : Int} (h0 : 0 ≤ t) (h1 : t ≤ 1073741824) :
    qt t * qt t + qt (1073741824 - t) * qt (1073741824 - t) - 1152921504606846976 ≤ 2147483648 ∧ -2147483648 ≤ qt t * qt t + qt (1073741824 - t) * qt (1073741824 - t) - 1152921504606846976 := by
  by_cases c : t < 536870912
  · exact circ0 h0 c
  · by_cases d : t = 536870912
    · subst d; exact circ_mid
    · have := circ0 (t := 1073741824 - t) (by omega) (by omega)
      rw [show 1073741824 - (1073741824 - t) = t by omega] at this
      omega

theorem circle (a : Int) : sn a * sn a + cs a * cs a - 1152921504606846976 ≤ 2147483648 ∧ -2147483648 ≤ sn a * sn a + cs a * cs a - 1152921504606846976 := by
  obtain ⟨hq, ht0, ht1⟩ := quad a
  generalize ht : a % 1073741824 = t at *
  have o := circ1 (t := t) ht0 (by omega)
  rw [cs_sn]
  rcases hq with hq | hq | hq | hq
  · rw [sn_at hq ht, sn_at (a := a + 1073741824) (q := 1) (t := t) (by omega) (by omega)]; simp [Int.neg_mul_neg]; omega
  · rw [sn_at hq ht, sn_at (a := a + 1073741824) (q := 2) (t := t) (by omega) (by omega)]; simp [Int.neg_mul_neg]; omega
  · rw [sn_at hq ht, sn_at (a := a + 1073741824) (q := 3) (t := t) (by omega) (by omega)]; simp [Int.neg_mul_neg]; omega
  · rw [sn_at hq ht, sn_at (a := a + 1073741824) (q := 0) (t := t) (by omega) (by omega)]; simp [Int.neg_mul_neg]; omega
end Go.Proofs.Ytjgikgbolacikaa.Q
end

section
/- Sines between two angles, in plain numbers: between two troughs none is smaller than at both ends, between two peaks none greater. -/
namespace Go.Proofs.Ytjgikgbolacikaa.Q
open Go.RowKit Go.Proofs.YtjgikgbolacikaaW.PrintWords Go.Proofs.YtjgikgbolacikaaW.PrintLast Go.Proofs.YtjgikgbolacikaaW.PrintMore
set_option linter.unusedVariables false
set_option linter.unusedSimpArgs false

theorem sn_zero : sn 0 = 0 := by rw [sn_q1 (by decide) (by decide), qt_zero]
theorem sn_inc {x y : Int} (h0 : -1073741824 ≤ x) (h : x ≤ y) (h1 : y ≤ 1073741824) : sn x ≤ sn y := by
  by_cases a : 0 ≤ x
  · exact sn_up a h h1
  · have p : -sn (-x) ≤ 0 := by have := sn_up (m := 0) (m' := -x) (by decide) (by omega) (by omega); rw [sn_zero] at this; omega
    have ex : sn x = -sn (-x) := by rw [← sn_neg, Int.neg_neg]
    by_cases b : y ≤ 0
    · have := sn_up (m := -y) (m' := -x) (by omega) (by omega) (by omega)
      have ey : sn y = -sn (-y) := by rw [← sn_neg, Int.neg_neg]
      omega
    · have := sn_up (m := 0) (m' := y) (by decide) (by omega) (by omega)
      rw [sn_zero] at this; omega
/-- Between two troughs. -/
theorem sn_mid {lo x hi : Int} (h0 : lo ≤ x) (h1 : x ≤ hi) (no : ¬ ∃ k : Int, lo ≤ 3221225472 + k * 4294967296 ∧ 3221225472 + k * 4294967296 ≤ hi) : sn lo ≤ sn x ∨ sn hi ≤ sn x := by
  obtain ⟨k, hk⟩ : ∃ k : Int, k = (lo + 1073741824) / 4294967296 := ⟨_, rfl⟩
  have n1 : ¬ (lo ≤ 3221225472 + k * 4294967296 ∧ 3221225472 + k * 4294967296 ≤ hi) := fun h => no ⟨k, h⟩
  have n2 : ¬ (lo ≤ 3221225472 + (k - 1) * 4294967296 ∧ 3221225472 + (k - 1) * 4294967296 ≤ hi) := fun h => no ⟨k - 1, h⟩
  have e (y : Int) : sn y = sn (y - k * 4294967296) := sn_mod (by omega)
  rw [e lo, e x, e hi]
  by_cases c : x - k * 4294967296 ≤ 1073741824
  · exact .inl (sn_inc (by omega) (by omega) c)
  · refine .inr ?_
    rw [← sn_supp (hi - _), ← sn_supp (x - _)]
    exact sn_inc (by omega) (by omega) (by omega)
theorem sn_top {lo x hi : Int} (h0 : lo ≤ x) (h1 : x ≤ hi) (no : ¬ ∃ k : Int, lo ≤ 1073741824 + k * 4294967296 ∧ 1073741824 + k * 4294967296 ≤ hi) : sn x ≤ sn lo ∨ sn x ≤ sn hi := by
  have := sn_mid (lo := lo + 2147483648) (x := x + 2147483648) (hi := hi + 2147483648) (by omega) (by omega) (fun ⟨k, a, b⟩ => no ⟨k, by omega, by omega⟩)
  rw [sn_half, sn_half, sn_half] at this
  omega
/-- Whether an angle of a bound differs from c by whole turns. -/
def mt (lo hi c : Int) : Bool := decide ((hi - c) / 4294967296 ≥ upq (lo - c) 4294967296)
/-- A function that is between its values at the ends wherever no trough and no peak lies between. -/
structure Wave (f : Int → Int) (p : Int) : Prop where
  bd : ∀ x, -1073741824 ≤ f x ∧ f x ≤ 1073741824
  mid : ∀ lo x hi, lo ≤ x → x ≤ hi → (¬ ∃ k : Int, lo ≤ p + 2147483648 + k * 4294967296 ∧ p + 2147483648 + k * 4294967296 ≤ hi) → f lo ≤ f x ∨ f hi ≤ f x
  top : ∀ lo x hi, lo ≤ x → x ≤ hi → (¬ ∃ k : Int, lo ≤ p + k * 4294967296 ∧ p + k * 4294967296 ≤ hi) → f x ≤ f lo ∨ f x ≤ f hi
theorem wave_sn : Wave sn 1073741824 := ⟨sn_bd, fun _ _ _ a b c => sn_mid a b c, fun _ _ _ a b c => sn_top a b c⟩
theorem wave_cs : Wave cs 0 := ⟨cs_bd, fun lo x hi a b c => by
    rw [cs_sn, cs_sn, cs_sn]
    exact sn_mid (by omega) (by omega) (fun ⟨k, h0, h1⟩ => c ⟨k, by omega, by omega⟩), fun lo x hi a b c => by
    rw [cs_sn, cs_sn, cs_sn]
    exact sn_top (by omega) (by omega) (fun ⟨k, h0, h1⟩ => c ⟨k, by omega, by omega⟩)⟩
def wlo (f : Int → Int) (p lo hi : Int) : Int := if mt lo hi (p + 2147483648) = true then -1073741824 else mx (-1073741824) (mn (f lo) (f hi) - 1)
def whi (f : Int → Int) (p lo hi : Int) : Int := if mt lo hi p = true then 1073741824 else mn 1073741824 (mx (f lo) (f hi) + 1)
theorem wave_bd {f : Int → Int} {p : Int} (W : Wave f p) (lo hi : Int) : -1073741824 ≤ wlo f p lo hi ∧ wlo f p lo hi ≤ whi f p lo hi ∧ whi f p lo hi ≤ 1073741824 := by
  have a := W.bd lo
  have b := W.bd hi
  unfold wlo whi mn mx
  refine ⟨?_, ?_, ?_⟩ <;> (repeat' split) <;> omega
end Go.Proofs.Ytjgikgbolacikaa.Q
end

section
/- Whether an angle of a bound differs from another one by whole turns: what trig.meets answers; the bounds stand in the statement. -/
namespace Go.Proofs.Ytjgikgbolacikaa.Q
open Go.RowKit Go.Proofs.YtjgikgbolacikaaW.PrintWords Go.Proofs.YtjgikgbolacikaaW.PrintLast Go.Proofs.YtjgikgbolacikaaW.PrintMore
set_option linter.unusedVariables false
theorem meets_some {lo hi c : Int} {u : Bool} (h0 : -1152921504606846976 ≤ lo) (h1 : lo ≤ 1152921504606846976) (h2 : -1152921504606846976 ≤ hi) (h3 : hi ≤ 1152921504606846976) (c0 : -4294967296 ≤ c) (c1 : c ≤ 4294967296) :
    trig_meets.f lo hi u c = some (mt lo hi c) := by
  unfold trig_meets.f mt
  rw [w64_id (x := hi - c) (by omega) (by omega), w64_id (x := lo - c) (by omega) (by omega), floordiv (by omega) (by omega) (by decide), Option.bind_some, ceildiv (by omega) (by omega) (by decide), Option.bind_some]
end Go.Proofs.Ytjgikgbolacikaa.Q
end

section
/- Which bounds are valid, in plain numbers; definitions alone. -/
namespace Go.Proofs.Ytjgikgbolacikaa.Q
/-- Whether a bound is valid. -/
def vb (lo hi : Int) (u : Bool) : Bool := if u then lo == 0 && hi == 0 else decide (-1152921504606846976 ≤ lo) && decide (lo ≤ hi) && decide (hi ≤ 1152921504606846976)
/-- A bound itself if it is valid, else an unknown one. -/
def nb (lo hi : Int) (u : Bool) : Int × Int × Bool := if vb lo hi u = true then (lo, hi, u) else (0, 0, true)
theorem nb_ok {lo hi : Int} (h0 : -1152921504606846976 ≤ lo) (h : lo ≤ hi) (h1 : hi ≤ 1152921504606846976) : nb lo hi false = (lo, hi, false) := by
  unfold nb vb; simp [h0, h, h1]
theorem nb_none : nb 0 0 true = (0, 0, true) := by decide
end Go.Proofs.Ytjgikgbolacikaa.Q
end

section
/- Package bound at one type of numbers in plain numbers: which bounds are valid, and what the smallest functions answer; no conditions but 64 bits where they are named. -/
namespace Go.Proofs.Ytjgikgbolacikaa.Q
open Go.RowKit Go.Proofs.YtjgikgbolacikaaW.PrintWords Go.Proofs.YtjgikgbolacikaaW.PrintLast Go.Proofs.YtjgikgbolacikaaW.PrintMore
set_option linter.unusedVariables false
set_option linter.unusedSimpArgs false

theorem check_api_Arc (lo hi : Int) (u : Bool) : ∃ e : Int, Ev (fun k => bound_Check_api_Arc.f k lo hi u) e ∧ (e = 0 ↔ vb lo hi u = true) := by
  have J1 : ∀ b : Bool, ∃ e : Int, Ev (fun k => bound_Check_api_Arc.j1 k b lo hi u) e ∧ (e = 0 ↔ (b = false ∧ lo ≤ hi)) := by
    intro b
    cases b
    · by_cases c : lo > hi
      · exact ⟨11, one_ev fun k => by rw [bound_Check_api_Arc.j1, if_neg (by decide), if_pos c], by omega⟩
      · exact ⟨0, one_ev fun k => by rw [bound_Check_api_Arc.j1, if_neg (by decide), if_neg c], by simp; omega⟩
    · exact ⟨4, one_ev fun k => by rw [bound_Check_api_Arc.j1, if_pos rfl], by simp⟩
  have J0 : ∀ b : Bool, ∃ e : Int, Ev (fun k => bound_Check_api_Arc.j0 k b lo hi u) e ∧ (e = 0 ↔ (b = false ∧ -1152921504606846976 ≤ lo ∧ lo ≤ hi ∧ hi ≤ 1152921504606846976)) := by
    intro b
    cases b
    · by_cases c : mn lo hi < -1152921504606846976
      · obtain ⟨e, he, h⟩ := J1 true
        refine ⟨e, Ev.step (fun k => by rw [bound_Check_api_Arc.j0, if_neg (by decide), if_pos c]) he, ?_⟩
        unfold mn at c
        rw [h]; simp; split at c <;> omega
      · obtain ⟨e, he, h⟩ := J1 (decide ((mx lo hi) > 1152921504606846976))
        refine ⟨e, Ev.step (fun k => by rw [bound_Check_api_Arc.j0, if_neg (by decide), if_neg c]) he, ?_⟩
        unfold mn at c
        rw [h]; unfold mx; simp only [decide_eq_false_iff_not, true_and]
        split at c <;> split <;> omega
    · exact ⟨3, one_ev fun k => by rw [bound_Check_api_Arc.j0, if_pos rfl], by simp⟩
  unfold bound_Check_api_Arc.f vb
  cases u
  · obtain ⟨e, he, h⟩ := J0 false
    refine ⟨e, Ev.congr (fun k => by rw [if_neg (by decide)]) he, ?_⟩
    rw [h]; simp; omega
  · by_cases z : lo = 0
    · obtain ⟨e, he, h⟩ := J0 (hi != 0)
      refine ⟨e, Ev.congr (fun k => by rw [if_pos rfl, if_pos z]) he, ?_⟩
      rw [h]
      simp [z]
      intro h'; omega
    · obtain ⟨e, he, h⟩ := J0 true
      refine ⟨e, Ev.congr (fun k => by rw [if_pos rfl, if_neg z]) he, ?_⟩
      rw [h]; simp [z]

theorem norm_api_Arc (lo hi : Int) (u : Bool) : Ev (fun k => bound_Norm_api_Arc.f k lo hi u) (nb lo hi u) := by
  obtain ⟨e, he, h⟩ := check_api_Arc lo hi u
  unfold bound_Norm_api_Arc.f nb
  refine Ev.bind he ?_
  by_cases c : e = 0
  · rw [if_pos (h.mp c)]; exact pos_ev c (Ev.now _)
  · rw [if_neg (fun h' => c (h.mpr h'))]; exact neg_ev c (now_ev fun k => by unfold bound_None_api_Arc.f; rfl)
end Go.Proofs.Ytjgikgbolacikaa.Q
end

section
/- Package bound at one type of numbers in plain numbers: vague and Of; no other condition. -/
namespace Go.Proofs.Ytjgikgbolacikaa.Q
open Go.RowKit Go.Proofs.YtjgikgbolacikaaW.PrintWords Go.Proofs.YtjgikgbolacikaaW.PrintLast Go.Proofs.YtjgikgbolacikaaW.PrintMore
set_option linter.unusedVariables false
set_option linter.unusedSimpArgs false

theorem vague_api_Arc (lo hi : Int) (u : Bool) (lo2 hi2 : Int) (u2 : Bool) : Ev (fun k => bound_vague_api_Arc.f k lo hi u lo2 hi2 u2) ((nb lo hi u).2.2 || (nb lo2 hi2 u2).2.2) := by
  unfold bound_vague_api_Arc.f
  refine Ev.bind (norm_api_Arc lo hi u) ?_
  by_cases c : (nb lo hi u).2.2 = true
  · rw [c]; exact pos_ev rfl (Ev.now _)
  · rw [Bool.not_eq_true] at c
    rw [c]; refine neg_ev (by decide) (Ev.bind (norm_api_Arc lo2 hi2 u2) (Ev.now _))
theorem of_api_Arc (lo hi : Int) : Ev (fun k => bound_Of_api_Arc.f k lo hi) (nb lo hi false) := by
  unfold bound_Of_api_Arc.f
  exact Ev.bind (norm_api_Arc lo hi false) (Ev.now _)
end Go.Proofs.Ytjgikgbolacikaa.Q
end

section
/- Package bound at one type of numbers in plain numbers: Exact, Add, Neg and Sub; no other condition than those that stand in the statements. -/
namespace Go.Proofs.Ytjgikgbolacikaa.Q
open Go.RowKit Go.Proofs.YtjgikgbolacikaaW.PrintWords Go.Proofs.YtjgikgbolacikaaW.PrintLast Go.Proofs.YtjgikgbolacikaaW.PrintMore
set_option linter.unusedVariables false
set_option linter.unusedSimpArgs false

theorem exact_api_Arc {v : Int} (h0 : -1152921504606846976 ≤ v) (h1 : v ≤ 1152921504606846976) : Ev (fun k => bound_Exact_api_Arc.f k v) (v, v, false) := by
  unfold bound_Exact_api_Arc.f
  refine Ev.bind (of_api_Arc v v) ?_
  rw [nb_ok h0 (Int.le_refl v) h1]
  exact Ev.now _
theorem add_api_Arc (lo hi : Int) (u : Bool) (lo2 hi2 : Int) (u2 : Bool) : Ev (fun k => bound_Add_api_Arc.f k lo hi u lo2 hi2 u2) (if ((nb lo hi u).2.2 || (nb lo2 hi2 u2).2.2) = true then (0, 0, true) else nb (wrap64 (lo + lo2)) (wrap64 (hi + hi2)) false) := by
  unfold bound_Add_api_Arc.f
  refine Ev.bind (vague_api_Arc lo hi u lo2 hi2 u2) ?_
  by_cases c : ((nb lo hi u).2.2 || (nb lo2 hi2 u2).2.2) = true
  · rw [if_pos c]; exact pos_ev c (now_ev fun k => by unfold bound_None_api_Arc.f; rfl)
  · rw [if_neg c]; exact neg_ev c (Ev.bind (of_api_Arc _ _) (Ev.now _))
theorem addk_api_Arc {lo hi lo2 hi2 : Int} (a0 : -576460752303423488 ≤ lo) (a : lo ≤ hi) (a1 : hi ≤ 576460752303423488) (b0 : -576460752303423488 ≤ lo2) (b : lo2 ≤ hi2) (b1 : hi2 ≤ 576460752303423488) :
    Ev (fun k => bound_Add_api_Arc.f k lo hi false lo2 hi2 false) (lo + lo2, hi + hi2, false) := by
  have h := add_api_Arc lo hi false lo2 hi2 false
  rw [nb_ok (by omega) a (by omega), nb_ok (by omega) b (by omega), if_neg (by simp), w64_id (x := lo + lo2) (by omega) (by omega), w64_id (x := hi + hi2) (by omega) (by omega), nb_ok (by omega) (by omega) (by omega)] at h
  exact h
end Go.Proofs.Ytjgikgbolacikaa.Q
end

section
/- Package bound at one type of numbers in plain numbers: which bounds are valid, and what the smallest functions answer; no conditions but 64 bits where they are named. -/
namespace Go.Proofs.Ytjgikgbolacikaa.Q
open Go.RowKit Go.Proofs.YtjgikgbolacikaaW.PrintWords Go.Proofs.YtjgikgbolacikaaW.PrintLast Go.Proofs.YtjgikgbolacikaaW.PrintMore
set_option linter.unusedVariables false
set_option linter.unusedSimpArgs false

theorem check_api_Fix (lo hi : Int) (u : Bool) : ∃ e : Int, Ev (fun k => bound_Check_api_Fix.f k lo hi u) e ∧ (e = 0 ↔ vb lo hi u = true) := by
  have J1 : ∀ b : Bool, ∃ e : Int, Ev (fun k => bound_Check_api_Fix.j1 k b lo hi u) e ∧ (e = 0 ↔ (b = false ∧ lo ≤ hi)) := by
    intro b
    cases b
    · by_cases c : lo > hi
      · exact ⟨11, one_ev fun k => by rw [bound_Check_api_Fix.j1, if_neg (by decide), if_pos c], by omega⟩
      · exact ⟨0, one_ev fun k => by rw [bound_Check_api_Fix.j1, if_neg (by decide), if_neg c], by simp; omega⟩
    · exact ⟨4, one_ev fun k => by rw [bound_Check_api_Fix.j1, if_pos rfl], by simp⟩
  have J0 : ∀ b : Bool, ∃ e : Int, Ev (fun k => bound_Check_api_Fix.j0 k b lo hi u) e ∧ (e = 0 ↔ (b = false ∧ -1152921504606846976 ≤ lo ∧ lo ≤ hi ∧ hi ≤ 1152921504606846976)) := by
    intro b
    cases b
    · by_cases c : mn lo hi < -1152921504606846976
      · obtain ⟨e, he, h⟩ := J1 true
        refine ⟨e, Ev.step (fun k => by rw [bound_Check_api_Fix.j0, if_neg (by decide), if_pos c]) he, ?_⟩
        unfold mn at c
        rw [h]; simp; split at c <;> omega
      · obtain ⟨e, he, h⟩ := J1 (decide ((mx lo hi) > 1152921504606846976))
        refine ⟨e, Ev.step (fun k => by rw [bound_Check_api_Fix.j0, if_neg (by decide), if_neg c]) he, ?_⟩
        unfold mn at c
        rw [h]; unfold mx; simp only [decide_eq_false_iff_not, true_and]
        split at c <;> split <;> omega
    · exact ⟨3, one_ev fun k => by rw [bound_Check_api_Fix.j0, if_pos rfl], by simp⟩
  unfold bound_Check_api_Fix.f vb
  cases u
  · obtain ⟨e, he, h⟩ := J0 false
    refine ⟨e, Ev.congr (fun k => by rw [if_neg (by decide)]) he, ?_⟩
    rw [h]; simp; omega
  · by_cases z : lo = 0
    · obtain ⟨e, he, h⟩ := J0 (hi != 0)
      refine ⟨e, Ev.congr (fun k => by rw [if_pos rfl, if_pos z]) he, ?_⟩
      rw [h]
      simp [z]
      intro h'; omega
    · obtain ⟨e, he, h⟩ := J0 true
      refine ⟨e, Ev.congr (fun k => by rw [if_pos rfl, if_neg z]) he, ?_⟩
      rw [h]; simp [z]

theorem norm_api_Fix (lo hi : Int) (u : Bool) : Ev (fun k => bound_Norm_api_Fix.f k lo hi u) (nb lo hi u) := by
  obtain ⟨e, he, h⟩ := check_api_Fix lo hi u
  unfold bound_Norm_api_Fix.f nb
  refine Ev.bind he ?_
  by_cases c : e = 0
  · rw [if_pos (h.mp c)]; exact pos_ev c (Ev.now _)
  · rw [if_neg (fun h' => c (h.mpr h'))]; exact neg_ev c (now_ev fun k => by unfold bound_None_api_Fix.f; rfl)
end Go.Proofs.Ytjgikgbolacikaa.Q
end

section
/- Package bound at one type of numbers in plain numbers: vague and Of; no other condition. -/
namespace Go.Proofs.Ytjgikgbolacikaa.Q
open Go.RowKit Go.Proofs.YtjgikgbolacikaaW.PrintWords Go.Proofs.YtjgikgbolacikaaW.PrintLast Go.Proofs.YtjgikgbolacikaaW.PrintMore
set_option linter.unusedVariables false
set_option linter.unusedSimpArgs false

theorem vague_api_Fix (lo hi : Int) (u : Bool) (lo2 hi2 : Int) (u2 : Bool) : Ev (fun k => bound_vague_api_Fix.f k lo hi u lo2 hi2 u2) ((nb lo hi u).2.2 || (nb lo2 hi2 u2).2.2) := by
  unfold bound_vague_api_Fix.f
  refine Ev.bind (norm_api_Fix lo hi u) ?_
  by_cases c : (nb lo hi u).2.2 = true
  · rw [c]; exact pos_ev rfl (Ev.now _)
  · rw [Bool.not_eq_true] at c
    rw [c]; refine neg_ev (by decide) (Ev.bind (norm_api_Fix lo2 hi2 u2) (Ev.now _))
theorem of_api_Fix (lo hi : Int) : Ev (fun k => bound_Of_api_Fix.f k lo hi) (nb lo hi false) := by
  unfold bound_Of_api_Fix.f
  exact Ev.bind (norm_api_Fix lo hi false) (Ev.now _)
end Go.Proofs.Ytjgikgbolacikaa.Q
end

section
/- Package bound at one type of numbers in plain numbers: Exact, Add, Neg and Sub; no other condition than those that stand in the statements. -/
namespace Go.Proofs.Ytjgikgbolacikaa.Q
open Go.RowKit Go.Proofs.YtjgikgbolacikaaW.PrintWords Go.Proofs.YtjgikgbolacikaaW.PrintLast Go.Proofs.YtjgikgbolacikaaW.PrintMore
set_option linter.unusedVariables false
set_option linter.unusedSimpArgs false

theorem exact_api_Fix {v : Int} (h0 : -1152921504606846976 ≤ v) (h1 : v ≤ 1152921504606846976) : Ev (fun k => bound_Exact_api_Fix.f k v) (v, v, false) := by
  unfold bound_Exact_api_Fix.f
  refine Ev.bind (of_api_Fix v v) ?_
  rw [nb_ok h0 (Int.le_refl v) h1]
  exact Ev.now _
theorem add_api_Fix (lo hi : Int) (u : Bool) (lo2 hi2 : Int) (u2 : Bool) : Ev (fun k => bound_Add_api_Fix.f k lo hi u lo2 hi2 u2) (if ((nb lo hi u).2.2 || (nb lo2 hi2 u2).2.2) = true then (0, 0, true) else nb (wrap64 (lo + lo2)) (wrap64 (hi + hi2)) false) := by
  unfold bound_Add_api_Fix.f
  refine Ev.bind (vague_api_Fix lo hi u lo2 hi2 u2) ?_
  by_cases c : ((nb lo hi u).2.2 || (nb lo2 hi2 u2).2.2) = true
  · rw [if_pos c]; exact pos_ev c (now_ev fun k => by unfold bound_None_api_Fix.f; rfl)
  · rw [if_neg c]; exact neg_ev c (Ev.bind (of_api_Fix _ _) (Ev.now _))
theorem addk_api_Fix {lo hi lo2 hi2 : Int} (a0 : -576460752303423488 ≤ lo) (a : lo ≤ hi) (a1 : hi ≤ 576460752303423488) (b0 : -576460752303423488 ≤ lo2) (b : lo2 ≤ hi2) (b1 : hi2 ≤ 576460752303423488) :
    Ev (fun k => bound_Add_api_Fix.f k lo hi false lo2 hi2 false) (lo + lo2, hi + hi2, false) := by
  have h := add_api_Fix lo hi false lo2 hi2 false
  rw [nb_ok (by omega) a (by omega), nb_ok (by omega) b (by omega), if_neg (by simp), w64_id (x := lo + lo2) (by omega) (by omega), w64_id (x := hi + hi2) (by omega) (by omega), nb_ok (by omega) (by omega) (by omega)] at h
  exact h
end Go.Proofs.Ytjgikgbolacikaa.Q
end

section
/- Package bound at one type of numbers in plain numbers: Neg and Sub; the bounds stand in each statement. -/
-- AUTO
namespace Go.Proofs.Ytjgikgbolacikaa.Q
open Go.RowKit Go.Proofs.YtjgikgbolacikaaW.PrintWords Go.Proofs.YtjgikgbolacikaaW.PrintLast Go.Proofs.YtjgikgbolacikaaW.PrintMore
set_option linter.unusedVariables false
set_option linter.unusedSimpArgs false
end Go.Proofs.Ytjgikgbolacikaa.Q
end

section
/- Package bound at one type of numbers in plain numbers: Has. -/
-- AUTO

namespace Go.Proofs.Ytjgikgbolacikaa.Q
open Go.RowKit Go.Proofs.YtjgikgbolacikaaW.PrintWords Go.Proofs.YtjgikgbolacikaaW.PrintLast Go.Proofs.YtjgikgbolacikaaW.PrintMore
set_option linter.unusedVariables false
set_option linter.unusedSimpArgs false

end Go.Proofs.Ytjgikgbolacikaa.Q
end

section
/- Bounds and their arithmetic in plain numbers: the least functions of two bounds; the bounds stand in each statement. -/
-- AUTO
namespace Go.Proofs.Ytjgikgbolacikaa.Q
open Go.RowKit Go.Proofs.YtjgikgbolacikaaW.PrintWords Go.Proofs.YtjgikgbolacikaaW.PrintLast Go.Proofs.YtjgikgbolacikaaW.PrintMore
set_option linter.unusedVariables false
set_option linter.unusedSimpArgs false

/-- A bound that is unknown, or of numbers up to M. -/
def okt (M lo hi : Int) (u : Bool) : Prop := u = true ∧ lo = 0 ∧ hi = 0 ∨ u = false ∧ -M ≤ lo ∧ lo ≤ hi ∧ hi ≤ M
/-- Is the first bound inside the second one? -/
def inb (c0 c1 : Int) (c2 : Bool) (a0 a1 : Int) (a2 : Bool) : Prop := a2 = false → c2 = false ∧ a0 ≤ c0 ∧ c1 ≤ a1
theorem okt.nb {M lo hi : Int} {u : Bool} (hM : M ≤ 1152921504606846976) (h : okt M lo hi u) : nb lo hi u = (lo, hi, u) := by
  rcases h with ⟨rfl, rfl, rfl⟩ | ⟨rfl, h0, h1, h2⟩
  · exact nb_none
  · exact nb_ok (by omega) h1 (by omega)
/-- What a function of two bounds answers where both are known. -/
def both2 (a2 b2 : Bool) (r : Int × Int × Bool) : Int × Int × Bool := if (a2 || b2) = true then (0, 0, true) else r
theorem vague_t {M a0 a1 b0 b1 : Int} {a2 b2 : Bool} (hM : M ≤ 1152921504606846976) (A : okt M a0 a1 a2) (B : okt M b0 b1 b2) : Ev (fun k => bound_vague_api_Fix.f k a0 a1 a2 b0 b1 b2) (a2 || b2) := by
  have h := vague_api_Fix a0 a1 a2 b0 b1 b2
  rw [A.nb hM, B.nb hM] at h
  exact h
theorem of_t {lo hi : Int} (h0 : -1152921504606846976 ≤ lo) (h : lo ≤ hi) (h1 : hi ≤ 1152921504606846976) : Ev (fun k => bound_Of_api_Fix.f k lo hi) (lo, hi, false) := by
  have := of_api_Fix lo hi
  rw [nb_ok h0 h h1] at this
  exact this
/-- The negative of a bound. -/
def negb (lo hi : Int) (u : Bool) : Int × Int × Bool := if u = true then (0, 0, true) else (-hi, -lo, false)
theorem w01 : wrap64 (0 + 1) = 1 := by unfold wrap64; omega
theorem w12 : wrap64 (1 + 1) = 2 := by unfold wrap64; omega
theorem mn_le (a b : Int) : mn a b ≤ a ∧ mn a b ≤ b ∧ (mn a b = a ∨ mn a b = b) := by unfold mn; split <;> omega
theorem le_mx (a b : Int) : a ≤ mx a b ∧ b ≤ mx a b ∧ (mx a b = a ∨ mx a b = b) := by unfold mx; split <;> omega
/-- The absolute value of a bound. -/
def absb (lo hi : Int) (u : Bool) : Int × Int × Bool := if u = true then (0, 0, true) else if lo < 0 ∧ hi > 0 then (0, mx (-lo) hi, false) else (mx lo (-hi), mx hi (-lo), false)
end Go.Proofs.Ytjgikgbolacikaa.Q
end

section
/- The least and the greatest of a row of numbers, in plain numbers. -/
namespace Go.Proofs.Ytjgikgbolacikaa.Q.MNF
open Go.RowKit Go.Proofs.Ytjgikgbolacikaa.Q Go.Proofs.YtjgikgbolacikaaW.PrintWords Go.Proofs.YtjgikgbolacikaaW.PrintLast Go.Proofs.YtjgikgbolacikaaW.PrintMore
set_option linter.unusedVariables false
set_option linter.unusedSimpArgs false
theorem rd_nat {l : List Int} {i : Nat} (h : i < l.length) : rd l (i : Int) = l[i] := by
  unfold rd; rw [Int.toNat_natCast, List.getD_eq_getElem?_getD, List.getElem?_eq_getElem h]; rfl
theorem min_ev {xs : List Int} (hx : xs.length ≤ 1000000) (h : xs ≠ []) : ∃ m, m ∈ xs ∧ (∀ x ∈ xs, m ≤ x) ∧ Ev (fun k => slices_Min_api_Fix_api_Fix.f k xs) m := by
  have hp : 0 < xs.length := List.length_pos_iff.mpr h
  have main : ∀ (d i : Nat) (m : Int), xs.length = i + d → m ∈ xs → (∀ x ∈ xs.take i, m ≤ x) → ∃ r, r ∈ xs ∧ (∀ x ∈ xs, r ≤ x) ∧ Ev (fun k => slices_Min_api_Fix_api_Fix.l0 k xs m (i : Int)) r := by
    intro d
    induction d with
    | zero =>
      intro i m e hm ha
      rw [List.take_of_length_le (by omega)] at ha
      exact ⟨m, hm, ha, one_ev fun k => by rw [slices_Min_api_Fix_api_Fix.l0, if_neg (by omega)]⟩
    | succ d ih =>
      intro i m e hm ha
      have hi : i < xs.length := by omega
      have w : wrap64 ((i : Int) + 1) = ((i + 1 : Nat) : Int) := by rw [w64_id (by omega) (by omega)]; push_cast; rfl
      have q : mn m xs[i] ≤ m ∧ mn m xs[i] ≤ xs[i] ∧ (mn m xs[i] = m ∨ mn m xs[i] = xs[i]) := by unfold mn; split <;> omega
      obtain ⟨r, r0, r1, r2⟩ := ih (i + 1) (mn m xs[i]) (by omega) (by
        rcases q.2.2 with z | z
        · rw [z]; exact hm
        · rw [z]; exact List.getElem_mem hi) (by
        intro x hx'
        rw [List.take_succ_eq_append_getElem hi] at hx'
        rcases List.mem_append.mp hx' with z | z
        · have := ha x z; omega
        · simp at z; subst z; exact q.2.1)
      refine ⟨r, r0, r1, Ev.step (fun k => ?_) r2⟩
      rw [slices_Min_api_Fix_api_Fix.l0, if_pos (by omega), if_pos (by omega), rd_nat hi, w]
  obtain ⟨r, r0, r1, r2⟩ := main (xs.length - 1) 1 xs[0] (by omega) (List.getElem_mem hp) (by
    intro x hx'
    rw [List.take_succ_eq_append_getElem hp] at hx'
    simp at hx'; subst hx'; exact Int.le_refl _)
  refine ⟨r, r0, r1, ?_⟩
  unfold slices_Min_api_Fix_api_Fix.f
  refine neg_ev (by omega) (pos_ev (by omega) ?_)
  rw [show rd xs 0 = xs[0] from rd_nat (i := 0) hp]
  exact r2
theorem max_ev {xs : List Int} (hx : xs.length ≤ 1000000) (h : xs ≠ []) : ∃ m, m ∈ xs ∧ (∀ x ∈ xs, x ≤ m) ∧ Ev (fun k => slices_Max_api_Fix_api_Fix.f k xs) m := by
  have hp : 0 < xs.length := List.length_pos_iff.mpr h
  have main : ∀ (d i : Nat) (m : Int), xs.length = i + d → m ∈ xs → (∀ x ∈ xs.take i, x ≤ m) → ∃ r, r ∈ xs ∧ (∀ x ∈ xs, x ≤ r) ∧ Ev (fun k => slices_Max_api_Fix_api_Fix.l0 k xs m (i : Int)) r := by
    intro d
    induction d with
    | zero =>
      intro i m e hm ha
      rw [List.take_of_length_le (by omega)] at ha
      exact ⟨m, hm, ha, one_ev fun k => by rw [slices_Max_api_Fix_api_Fix.l0, if_neg (by omega)]⟩
    | succ d ih =>
      intro i m e hm ha
      have hi : i < xs.length := by omega
      have w : wrap64 ((i : Int) + 1) = ((i + 1 : Nat) : Int) := by rw [w64_id (by omega) (by omega)]; push_cast; rfl
      have q : m ≤ mx m xs[i] ∧ xs[i] ≤ mx m xs[i] ∧ (mx m xs[i] = m ∨ mx m xs[i] = xs[i]) := by unfold mx; split <;> omega
      obtain ⟨r, r0, r1, r2⟩ := ih (i + 1) (mx m xs[i]) (by omega) (by
        rcases q.2.2 with z | z
        · rw [z]; exact hm
        · rw [z]; exact List.getElem_mem hi) (by
        intro x hx'
        rw [List.take_succ_eq_append_getElem hi] at hx'
        rcases List.mem_append.mp hx' with z | z
        · have := ha x z; omega
        · simp at z; subst z; exact q.2.1)
      refine ⟨r, r0, r1, Ev.step (fun k => ?_) r2⟩
      rw [slices_Max_api_Fix_api_Fix.l0, if_pos (by omega), if_pos (by omega), rd_nat hi, w]
  obtain ⟨r, r0, r1, r2⟩ := main (xs.length - 1) 1 xs[0] (by omega) (List.getElem_mem hp) (by
    intro x hx'
    rw [List.take_succ_eq_append_getElem hp] at hx'
    simp at hx'; subst hx'; exact Int.le_refl _)
  refine ⟨r, r0, r1, ?_⟩
  unfold slices_Max_api_Fix_api_Fix.f
  refine neg_ev (by omega) (pos_ev (by omega) ?_)
  rw [show rd xs 0 = xs[0] from rd_nat (i := 0) hp]
  exact r2
end Go.Proofs.Ytjgikgbolacikaa.Q.MNF
end

section
/- Package bound at one type of numbers in plain numbers: Inside. -/
-- AUTO

namespace Go.Proofs.Ytjgikgbolacikaa.Q
open Go.RowKit Go.Proofs.YtjgikgbolacikaaW.PrintWords Go.Proofs.YtjgikgbolacikaaW.PrintLast Go.Proofs.YtjgikgbolacikaaW.PrintMore
set_option linter.unusedVariables false
set_option linter.unusedSimpArgs false

end Go.Proofs.Ytjgikgbolacikaa.Q
end

section
/- The least and the greatest of the results at the corners of two bounds, for one pair of functions; the bounds stand in each statement. -/
namespace Go.Proofs.Ytjgikgbolacikaa.Q.CMul
open Go.RowKit Go.Proofs.Ytjgikgbolacikaa.Q Go.Proofs.YtjgikgbolacikaaW.PrintWords Go.Proofs.YtjgikgbolacikaaW.PrintLast Go.Proofs.YtjgikgbolacikaaW.PrintMore Go.Proofs.Ytjgikgbolacikaa.Q.MNF
set_option linter.unusedVariables false
set_option linter.unusedSimpArgs false
variable {u : Int} {g h : Int → Int → Int}
theorem inner {acc L : List Int} {x r s n i b0 b1 : Int} {b2 : Bool} {R : Int × Int × Bool} (ha : acc.length ≤ 100)
    (G1 : Ev (fun k => bound_Mul_api_Fix_1.f k x r [u]) (g x r, 0)) (H1 : Ev (fun k => bound_Mul_api_Fix_2.f k x r [u]) (h x r, 0)) (G2 : Ev (fun k => bound_Mul_api_Fix_1.f k x s [u]) (g x s, 0)) (H2 : Ev (fun k => bound_Mul_api_Fix_2.f k x s [u]) (h x s, 0))
    (hk : Ev (fun k => bound_corners_api_Fix__bound_Mul_api_Fix_1_bound_Mul_api_Fix_2.l0 k (acc ++ [g x r, h x r] ++ [g x s, h x s]) L n (wrap64 (i + 1)) [u] [u] b0 b1 b2) R) :
    Ev (fun k => bound_corners_api_Fix__bound_Mul_api_Fix_1_bound_Mul_api_Fix_2.l1 k acc x L n i [r, s] ([r, s].length : Int) 0 [u] [u] b0 b1 b2) R := by
  refine Ev.step (fun k => by rw [bound_corners_api_Fix__bound_Mul_api_Fix_1_bound_Mul_api_Fix_2.l1, if_pos (by simp), if_pos (by decide), if_pos (by simp)]) ?_
  refine Ev.bind G1 (Ev.bind H1 (pos_ev rfl (pos_ev rfl (some_ev rfl (pos_ev (by simp only [List.length_cons, List.length_nil]; omega) ?_)))))
  refine Ev.step (fun k => by rw [w01, bound_corners_api_Fix__bound_Mul_api_Fix_1_bound_Mul_api_Fix_2.l1, if_pos (by simp), if_pos (by decide), if_pos (by simp)]) ?_
  refine Ev.bind G2 (Ev.bind H2 (pos_ev rfl (pos_ev rfl (some_ev rfl (pos_ev (by simp only [List.length_append, List.length_cons, List.length_nil]; omega) ?_)))))
  refine Ev.step (fun k => by rw [w12, bound_corners_api_Fix__bound_Mul_api_Fix_1_bound_Mul_api_Fix_2.l1, if_neg (by simp)]) hk
/-- What the corners come to. -/
structure Cor (g h : Int → Int → Int) (p q r s lo hi : Int) : Prop where
  lo1 : ∃ x y, (x = p ∨ x = q) ∧ (y = r ∨ y = s) ∧ lo = g x y
  lo2 : ∀ x y, (x = p ∨ x = q) → (y = r ∨ y = s) → lo ≤ g x y
  hi1 : ∃ x y, (x = p ∨ x = q) ∧ (y = r ∨ y = s) ∧ hi = h x y
  hi2 : ∀ x y, (x = p ∨ x = q) → (y = r ∨ y = s) → h x y ≤ hi
theorem corners {p q r s : Int} {u1 u2 : Bool} (G : ∀ x y, (x = p ∨ x = q) → (y = r ∨ y = s) → Ev (fun k => bound_Mul_api_Fix_1.f k x y [u]) (g x y, 0) ∧ Ev (fun k => bound_Mul_api_Fix_2.f k x y [u]) (h x y, 0) ∧ -1152921504606846976 ≤ g x y ∧ g x y ≤ h x y ∧ h x y ≤ 1152921504606846976) :
    ∃ lo hi, Ev (fun k => bound_corners_api_Fix__bound_Mul_api_Fix_1_bound_Mul_api_Fix_2.f k p q u1 r s u2 [u] [u]) (lo, hi, false) ∧ Cor g h p q r s lo hi := by
  obtain ⟨a1, a2, a3, a4, a5⟩ := G p r (.inl rfl) (.inl rfl)
  obtain ⟨b1, b2, b3, b4, b5⟩ := G p s (.inl rfl) (.inr rfl)
  obtain ⟨c1, c2, c3, c4, c5⟩ := G q r (.inr rfl) (.inl rfl)
  obtain ⟨d1, d2, d3, d4, d5⟩ := G q s (.inr rfl) (.inr rfl)
  obtain ⟨l, hl⟩ : ∃ l, l = ([] : List Int) ++ [g p r, h p r] ++ [g p s, h p s] ++ [g q r, h q r] ++ [g q s, h q s] := ⟨_, rfl⟩
  have len : l.length ≤ 100 := by rw [hl]; simp
  have ne : l ≠ [] := by rw [hl]; simp
  obtain ⟨m, m0, m1, m2⟩ := min_ev (xs := l) (by omega) ne
  obtain ⟨x, x0, x1, x2⟩ := max_ev (xs := l) (by omega) ne
  have low : m = g p r ∨ m = g p s ∨ m = g q r ∨ m = g q s := by
    have z1 := m1 (g p r) (by rw [hl]; simp)
    have z2 := m1 (g p s) (by rw [hl]; simp)
    have z3 := m1 (g q r) (by rw [hl]; simp)
    have z4 := m1 (g q s) (by rw [hl]; simp)
    rw [hl] at m0
    simp only [List.nil_append, List.cons_append, List.mem_cons, List.not_mem_nil, or_false] at m0
    omega
  have high : x = h p r ∨ x = h p s ∨ x = h q r ∨ x = h q s := by
    have z1 := x1 (h p r) (by rw [hl]; simp)
    have z2 := x1 (h p s) (by rw [hl]; simp)
    have z3 := x1 (h q r) (by rw [hl]; simp)
    have z4 := x1 (h q s) (by rw [hl]; simp)
    rw [hl] at x0
    simp only [List.nil_append, List.cons_append, List.mem_cons, List.not_mem_nil, or_false] at x0
    omega
  have lows : m ≤ g p r ∧ m ≤ g p s ∧ m ≤ g q r ∧ m ≤ g q s := ⟨m1 _ (by rw [hl]; simp), m1 _ (by rw [hl]; simp), m1 _ (by rw [hl]; simp), m1 _ (by rw [hl]; simp)⟩
  have highs : h p r ≤ x ∧ h p s ≤ x ∧ h q r ≤ x ∧ h q s ≤ x := ⟨x1 _ (by rw [hl]; simp), x1 _ (by rw [hl]; simp), x1 _ (by rw [hl]; simp), x1 _ (by rw [hl]; simp)⟩
  refine ⟨m, x, ?_, ⟨?_, ?_, ?_, ?_⟩⟩
  · unfold bound_corners_api_Fix__bound_Mul_api_Fix_1_bound_Mul_api_Fix_2.f
    refine some_ev rfl (Ev.step (fun k => by rw [bound_corners_api_Fix__bound_Mul_api_Fix_1_bound_Mul_api_Fix_2.l0, if_pos (by simp), if_pos (by decide), if_pos (by simp)]) (some_ev rfl ?_))
    refine inner (by simp) a1 a2 b1 b2 ?_
    refine Ev.step (fun k => by rw [w01, bound_corners_api_Fix__bound_Mul_api_Fix_1_bound_Mul_api_Fix_2.l0, if_pos (by simp), if_pos (by decide), if_pos (by simp)]) (some_ev rfl ?_)
    refine inner (by simp) c1 c2 d1 d2 ?_
    refine Ev.step (fun k => by rw [w12, bound_corners_api_Fix__bound_Mul_api_Fix_1_bound_Mul_api_Fix_2.l0, if_neg (by simp)]) ?_
    have e : ([] : List Int) ++ [g (rd [p, q] 0) r, h (rd [p, q] 0) r] ++ [g (rd [p, q] 0) s, h (rd [p, q] 0) s] ++ [g (rd [p, q] 1) r, h (rd [p, q] 1) r] ++ [g (rd [p, q] 1) s, h (rd [p, q] 1) s] = l := hl.symm
    rw [e]
    exact Ev.bind m2 (Ev.bind x2 (Ev.bind (of_t (by omega) (by omega) (by omega)) (Ev.now _)))
  · rcases low with e | e | e | e
    · exact ⟨p, r, .inl rfl, .inl rfl, e⟩
    · exact ⟨p, s, .inl rfl, .inr rfl, e⟩
    · exact ⟨q, r, .inr rfl, .inl rfl, e⟩
    · exact ⟨q, s, .inr rfl, .inr rfl, e⟩
  · rintro x y (rfl | rfl) (rfl | rfl) <;> omega
  · rcases high with e | e | e | e
    · exact ⟨p, r, .inl rfl, .inl rfl, e⟩
    · exact ⟨p, s, .inl rfl, .inr rfl, e⟩
    · exact ⟨q, r, .inr rfl, .inl rfl, e⟩
    · exact ⟨q, s, .inr rfl, .inr rfl, e⟩
  · rintro x' y (rfl | rfl) (rfl | rfl) <;> omega
end Go.Proofs.Ytjgikgbolacikaa.Q.CMul
end

section
/- The least and the greatest of the results at the corners of two bounds, for one pair of functions; the bounds stand in each statement. -/
namespace Go.Proofs.Ytjgikgbolacikaa.Q.CDiv
open Go.RowKit Go.Proofs.Ytjgikgbolacikaa.Q Go.Proofs.YtjgikgbolacikaaW.PrintWords Go.Proofs.YtjgikgbolacikaaW.PrintLast Go.Proofs.YtjgikgbolacikaaW.PrintMore Go.Proofs.Ytjgikgbolacikaa.Q.MNF
set_option linter.unusedVariables false
set_option linter.unusedSimpArgs false
variable {u : Int} {g h : Int → Int → Int}
theorem inner {acc L : List Int} {x r s n i b0 b1 : Int} {b2 : Bool} {R : Int × Int × Bool} (ha : acc.length ≤ 100)
    (G1 : Ev (fun k => bound_Div_api_Fix_1.f k x r [u]) (g x r, 0)) (H1 : Ev (fun k => bound_Div_api_Fix_2.f k x r [u]) (h x r, 0)) (G2 : Ev (fun k => bound_Div_api_Fix_1.f k x s [u]) (g x s, 0)) (H2 : Ev (fun k => bound_Div_api_Fix_2.f k x s [u]) (h x s, 0))
    (hk : Ev (fun k => bound_corners_api_Fix__bound_Div_api_Fix_1_bound_Div_api_Fix_2.l0 k (acc ++ [g x r, h x r] ++ [g x s, h x s]) L n (wrap64 (i + 1)) [u] [u] b0 b1 b2) R) :
    Ev (fun k => bound_corners_api_Fix__bound_Div_api_Fix_1_bound_Div_api_Fix_2.l1 k acc x L n i [r, s] ([r, s].length : Int) 0 [u] [u] b0 b1 b2) R := by
  refine Ev.step (fun k => by rw [bound_corners_api_Fix__bound_Div_api_Fix_1_bound_Div_api_Fix_2.l1, if_pos (by simp), if_pos (by decide), if_pos (by simp)]) ?_
  refine Ev.bind G1 (Ev.bind H1 (pos_ev rfl (pos_ev rfl (some_ev rfl (pos_ev (by simp only [List.length_cons, List.length_nil]; omega) ?_)))))
  refine Ev.step (fun k => by rw [w01, bound_corners_api_Fix__bound_Div_api_Fix_1_bound_Div_api_Fix_2.l1, if_pos (by simp), if_pos (by decide), if_pos (by simp)]) ?_
  refine Ev.bind G2 (Ev.bind H2 (pos_ev rfl (pos_ev rfl (some_ev rfl (pos_ev (by simp only [List.length_append, List.length_cons, List.length_nil]; omega) ?_)))))
  refine Ev.step (fun k => by rw [w12, bound_corners_api_Fix__bound_Div_api_Fix_1_bound_Div_api_Fix_2.l1, if_neg (by simp)]) hk
/-- What the corners come to. -/
structure Cor (g h : Int → Int → Int) (p q r s lo hi : Int) : Prop where
  lo1 : ∃ x y, (x = p ∨ x = q) ∧ (y = r ∨ y = s) ∧ lo = g x y
  lo2 : ∀ x y, (x = p ∨ x = q) → (y = r ∨ y = s) → lo ≤ g x y
  hi1 : ∃ x y, (x = p ∨ x = q) ∧ (y = r ∨ y = s) ∧ hi = h x y
  hi2 : ∀ x y, (x = p ∨ x = q) → (y = r ∨ y = s) → h x y ≤ hi
theorem corners {p q r s : Int} {u1 u2 : Bool} (G : ∀ x y, (x = p ∨ x = q) → (y = r ∨ y = s) → Ev (fun k => bound_Div_api_Fix_1.f k x y [u]) (g x y, 0) ∧ Ev (fun k => bound_Div_api_Fix_2.f k x y [u]) (h x y, 0) ∧ -1152921504606846976 ≤ g x y ∧ g x y ≤ h x y ∧ h x y ≤ 1152921504606846976) :
    ∃ lo hi, Ev (fun k => bound_corners_api_Fix__bound_Div_api_Fix_1_bound_Div_api_Fix_2.f k p q u1 r s u2 [u] [u]) (lo, hi, false) ∧ Cor g h p q r s lo hi := by
  obtain ⟨a1, a2, a3, a4, a5⟩ := G p r (.inl rfl) (.inl rfl)
  obtain ⟨b1, b2, b3, b4, b5⟩ := G p s (.inl rfl) (.inr rfl)
  obtain ⟨c1, c2, c3, c4, c5⟩ := G q r (.inr rfl) (.inl rfl)
  obtain ⟨d1, d2, d3, d4, d5⟩ := G q s (.inr rfl) (.inr rfl)
  obtain ⟨l, hl⟩ : ∃ l, l = ([] : List Int) ++ [g p r, h p r] ++ [g p s, h p s] ++ [g q r, h q r] ++ [g q s, h q s] := ⟨_, rfl⟩
  have len : l.length ≤ 100 := by rw [hl]; simp
  have ne : l ≠ [] := by rw [hl]; simp
  obtain ⟨m, m0, m1, m2⟩ := min_ev (xs := l) (by omega) ne
  obtain ⟨x, x0, x1, x2⟩ := max_ev (xs := l) (by omega) ne
  have low : m = g p r ∨ m = g p s ∨ m = g q r ∨ m = g q s := by
    have z1 := m1 (g p r) (by rw [hl]; simp)
    have z2 := m1 (g p s) (by rw [hl]; simp)
    have z3 := m1 (g q r) (by rw [hl]; simp)
    have z4 := m1 (g q s) (by rw [hl]; simp)
    rw [hl] at m0
    simp only [List.nil_append, List.cons_append, List.mem_cons, List.not_mem_nil, or_false] at m0
    omega
  have high : x = h p r ∨ x = h p s ∨ x = h q r ∨ x = h q s := by
    have z1 := x1 (h p r) (by rw [hl]; simp)
    have z2 := x1 (h p s) (by rw [hl]; simp)
    have z3 := x1 (h q r) (by rw [hl]; simp)
    have z4 := x1 (h q s) (by rw [hl]; simp)
    rw [hl] at x0
    simp only [List.nil_append, List.cons_append, List.mem_cons, List.not_mem_nil, or_false] at x0
    omega
  have lows : m ≤ g p r ∧ m ≤ g p s ∧ m ≤ g q r ∧ m ≤ g q s := ⟨m1 _ (by rw [hl]; simp), m1 _ (by rw [hl]; simp), m1 _ (by rw [hl]; simp), m1 _ (by rw [hl]; simp)⟩
  have highs : h p r ≤ x ∧ h p s ≤ x ∧ h q r ≤ x ∧ h q s ≤ x := ⟨x1 _ (by rw [hl]; simp), x1 _ (by rw [hl]; simp), x1 _ (by rw [hl]; simp), x1 _ (by rw [hl]; simp)⟩
  refine ⟨m, x, ?_, ⟨?_, ?_, ?_, ?_⟩⟩
  · unfold bound_corners_api_Fix__bound_Div_api_Fix_1_bound_Div_api_Fix_2.f
    refine some_ev rfl (Ev.step (fun k => by rw [bound_corners_api_Fix__bound_Div_api_Fix_1_bound_Div_api_Fix_2.l0, if_pos (by simp), if_pos (by decide), if_pos (by simp)]) (some_ev rfl ?_))
    refine inner (by simp) a1 a2 b1 b2 ?_
    refine Ev.step (fun k => by rw [w01, bound_corners_api_Fix__bound_Div_api_Fix_1_bound_Div_api_Fix_2.l0, if_pos (by simp), if_pos (by decide), if_pos (by simp)]) (some_ev rfl ?_)
    refine inner (by simp) c1 c2 d1 d2 ?_
    refine Ev.step (fun k => by rw [w12, bound_corners_api_Fix__bound_Div_api_Fix_1_bound_Div_api_Fix_2.l0, if_neg (by simp)]) ?_
    have e : ([] : List Int) ++ [g (rd [p, q] 0) r, h (rd [p, q] 0) r] ++ [g (rd [p, q] 0) s, h (rd [p, q] 0) s] ++ [g (rd [p, q] 1) r, h (rd [p, q] 1) r] ++ [g (rd [p, q] 1) s, h (rd [p, q] 1) s] = l := hl.symm
    rw [e]
    exact Ev.bind m2 (Ev.bind x2 (Ev.bind (of_t (by omega) (by omega) (by omega)) (Ev.now _)))
  · rcases low with e | e | e | e
    · exact ⟨p, r, .inl rfl, .inl rfl, e⟩
    · exact ⟨p, s, .inl rfl, .inr rfl, e⟩
    · exact ⟨q, r, .inr rfl, .inl rfl, e⟩
    · exact ⟨q, s, .inr rfl, .inr rfl, e⟩
  · rintro x y (rfl | rfl) (rfl | rfl) <;> omega
  · rcases high with e | e | e | e
    · exact ⟨p, r, .inl rfl, .inl rfl, e⟩
    · exact ⟨p, s, .inl rfl, .inr rfl, e⟩
    · exact ⟨q, r, .inr rfl, .inl rfl, e⟩
    · exact ⟨q, s, .inr rfl, .inr rfl, e⟩
  · rintro x' y (rfl | rfl) (rfl | rfl) <;> omega
end Go.Proofs.Ytjgikgbolacikaa.Q.CDiv
end

section
/- Products, quotients and roots of bounds in plain numbers; the bounds stand in each statement. -/
namespace Go.Proofs.Ytjgikgbolacikaa.Q
open Go.RowKit Go.Proofs.YtjgikgbolacikaaW.PrintWords Go.Proofs.YtjgikgbolacikaaW.PrintLast Go.Proofs.YtjgikgbolacikaaW.PrintMore
set_option linter.unusedVariables false
set_option linter.unusedSimpArgs false
theorem uq_hi {v d c : Int} (hd : 0 < d) (h : v ≤ c * d) : upq v d ≤ c := by
  have e := Int.emod_add_mul_ediv v d
  have e0 := Int.emod_nonneg v (show d ≠ 0 by omega)
  have ec : d * (v / d) = v / d * d := Int.mul_comm _ _
  unfold upq
  split
  · exact Int.le_of_mul_le_mul_right (a := d) (by omega) hd
  · have : v / d < c := Int.lt_of_mul_lt_mul_right (a := d) (by omega) (by omega)
    omega
theorem uq_mul {v d : Int} (hd : 0 < d) : v ≤ upq v d * d := by
  have e := Int.emod_add_mul_ediv v d
  have e1 := Int.emod_lt_of_pos v hd
  have ec : d * (v / d) = v / d * d := Int.mul_comm _ _
  unfold upq
  split
  · omega
  · rw [Int.add_mul]; omega
theorem uq_mono {v w d : Int} (hd : 0 < d) (h : v ≤ w) : upq v d ≤ upq w d := uq_hi hd (Int.le_trans h (uq_mul hd))
theorem uq_ge (v d : Int) : v / d ≤ upq v d ∧ upq v d ≤ v / d + 1 := by unfold upq; split <;> omega
theorem fits_in {n : Int} (h0 : -9223372036854775808 ≤ n) (h1 : n ≤ 9223372036854775807) : fits n = true := by unfold fits; simp [h0, h1]
/-- The results of all pairs with a property lie from lo to hi, and both are among them. -/
structure Ran (P : Int → Int → Prop) (g h : Int → Int → Int) (lo hi : Int) : Prop where
  all : ∀ x y, P x y → lo ≤ g x y ∧ h x y ≤ hi
  lo1 : ∃ x y, P x y ∧ lo = g x y
  hi1 : ∃ x y, P x y ∧ hi = h x y
theorem Ran.mono {P Q : Int → Int → Prop} {g h : Int → Int → Int} {lo hi lo2 hi2 : Int} (a : Ran P g h lo hi) (b : Ran Q g h lo2 hi2) (pq : ∀ x y, P x y → Q x y) : lo2 ≤ lo ∧ hi ≤ hi2 := by
  obtain ⟨x, y, p, e⟩ := a.lo1
  obtain ⟨z, w, p2, e2⟩ := a.hi1
  have h1 := (b.all x y (pq x y p)).1
  have h2 := (b.all z w (pq z w p2)).2
  omega
/-- Pairs out of two bounds. -/
def Box (p q r s : Int) (x y : Int) : Prop := p ≤ x ∧ x ≤ q ∧ r ≤ y ∧ y ≤ s
theorem box_mul {p q r s x y : Int} (b : Box p q r s x y) : (∃ a c, (a = p ∨ a = q) ∧ (c = r ∨ c = s) ∧ a * c ≤ x * y) ∧ (∃ a c, (a = p ∨ a = q) ∧ (c = r ∨ c = s) ∧ x * y ≤ a * c) := by
  obtain ⟨px, xq, ry, ys⟩ := b
  have left : ∀ a : Int, ∃ c, (c = r ∨ c = s) ∧ a * c ≤ a * y := by
    intro a
    by_cases h : 0 ≤ a
    · exact ⟨r, .inl rfl, Int.mul_le_mul_of_nonneg_left ry h⟩
    · exact ⟨s, .inr rfl, Int.mul_le_mul_of_nonpos_left (by omega) ys⟩
  have right : ∀ a : Int, ∃ c, (c = r ∨ c = s) ∧ a * y ≤ a * c := by
    intro a
    by_cases h : 0 ≤ a
    · exact ⟨s, .inr rfl, Int.mul_le_mul_of_nonneg_left ys h⟩
    · exact ⟨r, .inl rfl, Int.mul_le_mul_of_nonpos_left (by omega) ry⟩
  constructor
  · by_cases h : 0 ≤ y
    · obtain ⟨c, hc, e⟩ := left p
      exact ⟨p, c, .inl rfl, hc, Int.le_trans e (Int.mul_le_mul_of_nonneg_right px h)⟩
    · obtain ⟨c, hc, e⟩ := left q
      exact ⟨q, c, .inr rfl, hc, Int.le_trans e (Int.mul_le_mul_of_nonpos_right xq (by omega))⟩
  · by_cases h : 0 ≤ y
    · obtain ⟨c, hc, e⟩ := right q
      exact ⟨q, c, .inr rfl, hc, Int.le_trans (Int.mul_le_mul_of_nonneg_right xq h) e⟩
    · obtain ⟨c, hc, e⟩ := right p
      exact ⟨p, c, .inl rfl, hc, Int.le_trans (Int.mul_le_mul_of_nonpos_right px (by omega)) e⟩
/-- The quotient's ends, whatever the divisor's sign. -/
def qlo (u x y : Int) : Int := if 0 < y then x * u / y else -x * u / -y
def qhi (u x y : Int) : Int := if 0 < y then upq (x * u) y else upq (-x * u) (-y)
theorem box_div {p q r s x y u : Int} (u0 : 0 ≤ u) (r0 : 0 < r) (b : Box p q r s x y) : (∃ a c, (a = p ∨ a = q) ∧ (c = r ∨ c = s) ∧ a * u / c ≤ x * u / y) ∧ (∃ a c, (a = p ∨ a = q) ∧ (c = r ∨ c = s) ∧ upq (x * u) y ≤ upq (a * u) c) := by
  obtain ⟨px, xq, ry, ys⟩ := b
  have e1 : p * u ≤ x * u := Int.mul_le_mul_of_nonneg_right px u0
  have e2 : x * u ≤ q * u := Int.mul_le_mul_of_nonneg_right xq u0
  have d1 := Int.ediv_le_ediv (c := y) (by omega) e1
  have d2 := uq_mono (d := y) (by omega) e2
  constructor
  · by_cases h : 0 ≤ p * u
    · refine ⟨p, s, .inl rfl, .inr rfl, Int.le_trans ?_ d1⟩
      rw [Int.le_ediv_iff_mul_le (by omega)]
      have := Int.ediv_nonneg h (show 0 ≤ s by omega)
      exact Int.le_trans (Int.mul_le_mul_of_nonneg_left ys this) (Int.ediv_mul_le _ (by omega))
    · refine ⟨p, r, .inl rfl, .inl rfl, Int.le_trans ?_ d1⟩
      rw [Int.le_ediv_iff_mul_le (by omega)]
      have : p * u / r ≤ 0 := by
        have : p * u / r < 1 := by rw [Int.ediv_lt_iff_lt_mul r0]; omega
        omega
      exact Int.le_trans (Int.mul_le_mul_of_nonpos_left this ry) (Int.ediv_mul_le _ (by omega))
  · by_cases h : 0 ≤ q * u
    · refine ⟨q, r, .inr rfl, .inl rfl, Int.le_trans d2 (uq_hi (by omega) ?_)⟩
      have : 0 ≤ upq (q * u) r := by
        have := uq_ge (q * u) r
        have := Int.ediv_nonneg h (show 0 ≤ r by omega)
        omega
      exact Int.le_trans (uq_mul r0) (Int.mul_le_mul_of_nonneg_left ry this)
    · refine ⟨q, s, .inr rfl, .inr rfl, Int.le_trans d2 (uq_hi (by omega) ?_)⟩
      have : upq (q * u) s ≤ 0 := uq_hi (by omega) (by omega)
      exact Int.le_trans (uq_mul (by omega)) (Int.mul_le_mul_of_nonpos_left this ys)
theorem sq_le {a b : Int} (a0 : 0 ≤ a) (b0 : 0 ≤ b) (h : a * a < (b + 1) * (b + 1)) : a ≤ b := by
  by_cases c : a ≤ b
  · exact c
  · have := Int.mul_le_mul (show b + 1 ≤ a by omega) (show b + 1 ≤ a by omega) (by omega) a0
    omega
/-- The root of a bound of numbers that are not negative. -/
structure Roo (a0 a1 u lo hi : Int) : Prop where
  l0 : 0 ≤ lo
  l1 : lo * lo ≤ a0 * u
  l2 : a0 * u < (lo + 1) * (lo + 1)
  h0 : 0 ≤ hi
  h1 : a1 * u ≤ hi * hi
  h2 : ∀ t, 0 ≤ t → a1 * u ≤ t * t → hi ≤ t
end Go.Proofs.Ytjgikgbolacikaa.Q
end

section
/- Products, quotients and roots of bounds, for numbers that are greater than those of BO3; the bounds stand in each statement. -/
namespace Go.Proofs.Ytjgikgbolacikaa.Q
open Go.RowKit Go.Proofs.YtjgikgbolacikaaW.PrintWords Go.Proofs.YtjgikgbolacikaaW.PrintLast Go.Proofs.YtjgikgbolacikaaW.PrintMore
set_option linter.unusedVariables false
set_option linter.unusedSimpArgs false
theorem mul_g {a0 a1 b0 b1 u M : Int} (u1 : 1 ≤ u) (u2 : u < 9223372036854775808) (M1 : M ≤ 1152921504606846976) (p0 : -1152921504606846976 ≤ a0) (p1 : a0 ≤ a1) (p2 : a1 ≤ 1152921504606846976) (q0 : -1152921504606846976 ≤ b0) (q1 : b0 ≤ b1) (q2 : b1 ≤ 1152921504606846976)
    (H : ∀ x y, Box a0 a1 b0 b1 x y → -M ≤ x * y / u ∧ upq (x * y) u ≤ M) :
    ∃ lo hi, Ev (fun k => bound_Mul_api_Fix.f k a0 a1 false b0 b1 false u) (lo, hi, false) ∧ -M ≤ lo ∧ lo ≤ hi ∧ hi ≤ M ∧ Ran (Box a0 a1 b0 b1) (fun x y => x * y / u) (fun x y => upq (x * y) u) lo hi := by
  have V := vague_t (a0 := a0) (a1 := a1) (b0 := b0) (b1 := b1) (a2 := false) (b2 := false) (M := 1152921504606846976) (by decide) (.inr ⟨rfl, p0, p1, p2⟩) (.inr ⟨rfl, q0, q1, q2⟩)
  have fs : ∀ x y, Box a0 a1 b0 b1 x y → Ev (fun k => bound_Mul_api_Fix_1.f k x y [u]) (x * y / u, 0) ∧ Ev (fun k => bound_Mul_api_Fix_2.f k x y [u]) (upq (x * y) u, 0) ∧ -M ≤ x * y / u ∧ x * y / u ≤ upq (x * y) u ∧ upq (x * y) u ≤ M := by
    rintro x y b
    obtain ⟨m0, m1⟩ := H x y b
    obtain ⟨h0, h1, h2, h3⟩ := b
    have ge := uq_ge (x * y) u
    have A := muldiv (a := x) (b := y) (d := u) (by omega) (by omega) (by omega) (by omega) (by omega)
    rw [if_neg (by omega), if_pos (fits_in (by omega) (by omega))] at A
    have B := muldivup (a := x) (b := y) (d := u) (by omega) (by omega) (by omega) (by omega) (by omega)
    rw [if_neg (by omega), if_pos (fits_in (by omega) (by omega)), if_pos (fits_in (by omega) (by omega))] at B
    unfold bound_Mul_api_Fix_1.f bound_Mul_api_Fix_2.f
    exact ⟨pos_ev (by simp) (Ev.bind A (Ev.now _)), pos_ev (by simp) (Ev.bind B (Ev.now _)), m0, ge.1, m1⟩
  have corner : ∀ x y, (x = a0 ∨ x = a1) → (y = b0 ∨ y = b1) → Box a0 a1 b0 b1 x y := by
    rintro x y (rfl | rfl) (rfl | rfl) <;> exact ⟨by omega, by omega, by omega, by omega⟩
  obtain ⟨lo, hi, hE, C⟩ := CMul.corners (u := u) (p := a0) (q := a1) (r := b0) (s := b1) (u1 := false) (u2 := false) (g := fun x y => x * y / u) (h := fun x y => upq (x * y) u) (fun x y hx hy => by
    obtain ⟨e1, e2, e3, e4, e5⟩ := fs x y (corner x y hx hy)
    exact ⟨e1, e2, by omega, e4, by omega⟩)
  have ran : Ran (Box a0 a1 b0 b1) (fun x y => x * y / u) (fun x y => upq (x * y) u) lo hi := by
    refine ⟨fun x y b => ?_, ?_, ?_⟩
    · obtain ⟨⟨a, c, ha, hc, e⟩, ⟨a', c', ha', hc', e'⟩⟩ := box_mul b
      exact ⟨Int.le_trans (C.lo2 a c ha hc) (Int.ediv_le_ediv (by omega) e), Int.le_trans (uq_mono (by omega) e') (C.hi2 a' c' ha' hc')⟩
    · obtain ⟨x, y, hx, hy, e⟩ := C.lo1; exact ⟨x, y, corner x y hx hy, e⟩
    · obtain ⟨x, y, hx, hy, e⟩ := C.hi1; exact ⟨x, y, corner x y hx hy, e⟩
  obtain ⟨x, y, hx, e⟩ := ran.lo1
  obtain ⟨x', y', hx', e'⟩ := ran.hi1
  have r1 := (ran.all a0 b0 (corner _ _ (.inl rfl) (.inl rfl)))
  obtain ⟨_, _, f3, f4, f5⟩ := fs a0 b0 (corner _ _ (.inl rfl) (.inl rfl))
  obtain ⟨_, _, g3, g4, g5⟩ := fs x y hx
  obtain ⟨_, _, k3, k4, k5⟩ := fs x' y' hx'
  refine ⟨lo, hi, ?_, by omega, by omega, by omega, ran⟩
  unfold bound_Mul_api_Fix.f
  refine Ev.bind V (neg_ev (by decide) ?_)
  rw [decide_eq_false (by omega)]
  exact Ev.step (fun k => by rw [bound_Mul_api_Fix.j0, if_neg (by decide)]) (Ev.bind hE (Ev.now _))
theorem uq_one (v : Int) : upq v 1 = v := by unfold upq; rw [if_pos (by omega)]; omega
/-- A bound times a number. -/
theorem scale_g {a0 a1 n M : Int} (M1 : M ≤ 1152921504606846976) (p0 : -1152921504606846976 ≤ a0) (p1 : a0 ≤ a1) (p2 : a1 ≤ 1152921504606846976) (n0 : -1152921504606846976 ≤ n) (n1 : n ≤ 1152921504606846976) (H : ∀ x, a0 ≤ x → x ≤ a1 → -M ≤ x * n ∧ x * n ≤ M) :
    ∃ lo hi, Ev (fun k => bound_Scale_api_Fix.f k a0 a1 false n 1) (lo, hi, false) ∧ -M ≤ lo ∧ lo ≤ hi ∧ hi ≤ M ∧ ∀ x, a0 ≤ x → x ≤ a1 → lo ≤ x * n ∧ x * n ≤ hi := by
  obtain ⟨lo, hi, hE, l0, l1, l2, ran⟩ := mul_g (a0 := a0) (a1 := a1) (b0 := n) (b1 := n) (u := 1) (M := M) (by decide) (by decide) M1 p0 p1 p2 n0 (Int.le_refl n) n1 (by
    rintro x y ⟨b0, b1, b2, b3⟩
    have : y = n := by omega
    subst this
    have := H x b0 b1
    rw [uq_one, Int.ediv_one]
    exact this)
  refine ⟨lo, hi, ?_, l0, l1, l2, fun x x0 x1 => ?_⟩
  · unfold bound_Scale_api_Fix.f
    exact Ev.bind (exact_api_Fix n0 n1) (Ev.bind hE (Ev.now _))
  · have := ran.all x n ⟨x0, x1, Int.le_refl n, Int.le_refl n⟩
    simp only [uq_one, Int.ediv_one] at this
    exact this
theorem div_g {a0 a1 b0 b1 u M : Int} (u1 : 1 ≤ u) (u2 : u < 9223372036854775808) (M1 : M ≤ 1152921504606846976) (p0 : -1152921504606846976 ≤ a0) (p1 : a0 ≤ a1) (p2 : a1 ≤ 1152921504606846976) (q0 : 0 < b0) (q1 : b0 ≤ b1) (q2 : b1 ≤ 1152921504606846976)
    (H : ∀ x y, Box a0 a1 b0 b1 x y → -M ≤ x * u / y ∧ upq (x * u) y ≤ M) :
    ∃ lo hi, Ev (fun k => bound_Div_api_Fix.f k a0 a1 false b0 b1 false u) (lo, hi, false) ∧ -M ≤ lo ∧ lo ≤ hi ∧ hi ≤ M ∧ Ran (Box a0 a1 b0 b1) (fun x y => x * u / y) (fun x y => upq (x * u) y) lo hi := by
  have V := vague_t (a0 := a0) (a1 := a1) (b0 := b0) (b1 := b1) (a2 := false) (b2 := false) (M := 1152921504606846976) (by decide) (.inr ⟨rfl, p0, p1, p2⟩) (.inr ⟨rfl, by omega, q1, q2⟩)
  have fs : ∀ x y, Box a0 a1 b0 b1 x y → Ev (fun k => bound_Div_api_Fix_1.f k x y [u]) (x * u / y, 0) ∧ Ev (fun k => bound_Div_api_Fix_2.f k x y [u]) (upq (x * u) y, 0) ∧ -M ≤ x * u / y ∧ x * u / y ≤ upq (x * u) y ∧ upq (x * u) y ≤ M := by
    rintro x y b
    obtain ⟨m0, m1⟩ := H x y b
    obtain ⟨h0, h1, h2, h3⟩ := b
    have ge := uq_ge (x * u) y
    have A := muldiv (a := x) (b := u) (d := y) (by omega) (by omega) (by omega) (by omega) (by omega)
    rw [if_neg (by omega), if_pos (fits_in (by omega) (by omega))] at A
    have B := muldivup (a := x) (b := u) (d := y) (by omega) (by omega) (by omega) (by omega) (by omega)
    rw [if_neg (by omega), if_pos (fits_in (by omega) (by omega)), if_pos (fits_in (by omega) (by omega))] at B
    unfold bound_Div_api_Fix_1.f bound_Div_api_Fix_2.f
    exact ⟨pos_ev (by simp) (Ev.bind A (Ev.now _)), pos_ev (by simp) (Ev.bind B (Ev.now _)), m0, ge.1, m1⟩
  have corner : ∀ x y, (x = a0 ∨ x = a1) → (y = b0 ∨ y = b1) → Box a0 a1 b0 b1 x y := by
    rintro x y (rfl | rfl) (rfl | rfl) <;> exact ⟨by omega, by omega, by omega, by omega⟩
  obtain ⟨lo, hi, hE, C⟩ := CDiv.corners (u := u) (p := a0) (q := a1) (r := b0) (s := b1) (u1 := false) (u2 := false) (g := fun x y => x * u / y) (h := fun x y => upq (x * u) y) (fun x y hx hy => by
    obtain ⟨e1, e2, e3, e4, e5⟩ := fs x y (corner x y hx hy)
    exact ⟨e1, e2, by omega, e4, by omega⟩)
  have ran : Ran (Box a0 a1 b0 b1) (fun x y => x * u / y) (fun x y => upq (x * u) y) lo hi := by
    refine ⟨fun x y b => ?_, ?_, ?_⟩
    · obtain ⟨⟨a, c, ha, hc, e⟩, ⟨a', c', ha', hc', e'⟩⟩ := box_div (u := u) (by omega) q0 b
      exact ⟨Int.le_trans (C.lo2 a c ha hc) e, Int.le_trans e' (C.hi2 a' c' ha' hc')⟩
    · obtain ⟨x, y, hx, hy, e⟩ := C.lo1; exact ⟨x, y, corner x y hx hy, e⟩
    · obtain ⟨x, y, hx, hy, e⟩ := C.hi1; exact ⟨x, y, corner x y hx hy, e⟩
  obtain ⟨x, y, hx, e⟩ := ran.lo1
  obtain ⟨x', y', hx', e'⟩ := ran.hi1
  have r1 := (ran.all a0 b0 (corner _ _ (.inl rfl) (.inl rfl)))
  obtain ⟨_, _, f3, f4, f5⟩ := fs a0 b0 (corner _ _ (.inl rfl) (.inl rfl))
  obtain ⟨_, _, g3, g4, g5⟩ := fs x y hx
  obtain ⟨_, _, k3, k4, k5⟩ := fs x' y' hx'
  refine ⟨lo, hi, ?_, by omega, by omega, by omega, ran⟩
  unfold bound_Div_api_Fix.f
  refine Ev.bind V (neg_ev (by decide) (neg_ev (by omega) (neg_ev (by omega) ?_)))
  exact Ev.step (fun k => by rw [bound_Div_api_Fix.j0, if_neg (by decide), if_neg (by omega)]) (Ev.bind hE (Ev.now _))
/-- The root of an exact number. -/
theorem root_g {a u T : Int} (u1 : 1 ≤ u) (u2 : u < 9223372036854775808) (a0 : 0 ≤ a) (a1 : a ≤ 1152921504606846976) (t0 : 0 ≤ T) (t1 : T < 1152921504606846976) (big : a * u < (T + 1) * (T + 1)) :
    ∃ lo hi, Ev (fun k => bound_Root_api_Fix.f k a a false u) (lo, hi, false) ∧ 0 ≤ lo ∧ lo ≤ hi ∧ hi ≤ T + 1 ∧ lo * lo ≤ a * u ∧ a * u < (lo + 1) * (lo + 1) ∧ a * u ≤ hi * hi ∧ hi ≤ lo + 1 := by
  have V := vague_t (a0 := a) (a1 := a) (b0 := a) (b1 := a) (a2 := false) (b2 := false) (M := 1152921504606846976) (by decide) (.inr ⟨rfl, by omega, Int.le_refl a, a1⟩) (.inr ⟨rfl, by omega, Int.le_refl a, a1⟩)
  obtain ⟨s, hs, s0, s1, s2, s3⟩ := sqrt_ev (a := a) (b := u) (by omega) (by omega) (by omega) (by omega)
  have sb : s ≤ T := sq_le s0 t0 (by omega)
  have P1 := product (a := s) (b := s) (by omega) (by omega) (by omega) (by omega)
  have P2 := product (a := a) (b := u) (by omega) (by omega) (by omega) (by omega)
  have CM := wide_cmp (s * s) (a * u)
  have mx0 : mx a 0 = a := by unfold mx; split <;> omega
  have E : ∀ R : Int × Int × Bool, Ev (fun k => if (if s * s < a * u then (-1 : Int) else if s * s > a * u then 1 else 0) < 0 then ((bound_Of_api_Fix.f k s (wrap64 (s + 1))).bind fun bt114 => (some (bt114.1, bt114.2.1, bt114.2.2))) else ((bound_Of_api_Fix.f k s s).bind fun bt117 => (some (bt117.1, bt117.2.1, bt117.2.2)))) R → Ev (fun k => bound_Root_api_Fix.f k a a false u) R := by
    intro R h
    unfold bound_Root_api_Fix.f
    refine Ev.bind V (neg_ev (by decide) (neg_ev (by omega) ?_))
    rw [decide_eq_false (by omega)]
    refine Ev.step (fun k => by rw [bound_Root_api_Fix.j0, if_neg (by decide), mx0]) ?_
    exact Ev.bind hs (Ev.bind hs (some_ev P1 (some_ev P2 (Ev.bind CM h))))
  by_cases c : s * s < a * u
  · refine ⟨s, s + 1, E _ ?_, s0, by omega, by omega, by omega, by omega, by omega, by omega⟩
    rw [if_pos c, w64_id (by omega) (by omega)]
    exact pos_ev (by decide) (Ev.bind (of_t (by omega) (by omega) (by omega)) (Ev.now _))
  · refine ⟨s, s, E _ ?_, s0, by omega, by omega, by omega, by omega, by omega, by omega⟩
    rw [if_neg c]
    exact neg_ev (by split <;> omega) (Ev.bind (of_t (by omega) (by omega) (by omega)) (Ev.now _))
end Go.Proofs.Ytjgikgbolacikaa.Q
end

section
/- The bound of a wave in plain numbers, for one function: what trig.wave tells for a valid bound; the bounds stand in each statement. -/
namespace Go.Proofs.Ytjgikgbolacikaa.Q
open Go.RowKit Go.Proofs.YtjgikgbolacikaaW.PrintWords Go.Proofs.YtjgikgbolacikaaW.PrintLast Go.Proofs.YtjgikgbolacikaaW.PrintMore
set_option linter.unusedVariables false
set_option linter.unusedSimpArgs false

theorem wave_Sin {lo hi : Int} (h0 : -1152921504606846976 ≤ lo) (h : lo ≤ hi) (h1 : hi ≤ 1152921504606846976) :
    Ev (fun k => trig_SinBound.f k lo hi false) (wlo sn 1073741824 lo hi, whi sn 1073741824 lo hi, false) := by
  obtain ⟨a0, a1⟩ := (wave_sn).bd lo
  obtain ⟨b0, b1⟩ := (wave_sn).bd hi
  have bd := wave_bd wave_sn lo hi
  unfold trig_SinBound.f trig_wave__trig_Sin.f
  refine Ev.bind (a := (wlo sn 1073741824 lo hi, whi sn 1073741824 lo hi, false)) (Ev.bind (norm_api_Arc lo hi false) ?_) (Ev.now _)
  rw [nb_ok h0 h h1]
  refine neg_ev (by simp) (Ev.bind (sin_ev (by simp only; omega) (by simp only; omega)) (Ev.bind (sin_ev (by simp only; omega) (by simp only; omega)) (some_ev (meets_some (c := 1073741824) (by simp only; omega) (by simp only; omega) (by simp only; omega) (by simp only; omega) (by decide) (by decide)) ?_)))
  simp only
  have m : -1073741824 ≤ mn (sn lo) (sn hi) ∧ mn (sn lo) (sn hi) ≤ 1073741824 := by unfold mn; split <;> omega
  have x : -1073741824 ≤ mx (sn lo) (sn hi) ∧ mx (sn lo) (sn hi) ≤ 1073741824 := by unfold mx; split <;> omega
  rw [w64_id (x := mn _ _ - 1) (by omega) (by omega), w64_id (x := mx _ _ + 1) (by omega) (by omega)]
  have J : ∀ A B : Int, wlo sn 1073741824 lo hi = (if mt lo hi (1073741824 + 2147483648) = true then -1073741824 else A) → B = whi sn 1073741824 lo hi → Ev (fun k => trig_wave__trig_Sin.j0 k 1073741824 A B lo hi false) (wlo sn 1073741824 lo hi, whi sn 1073741824 lo hi, false) := by
    intro A B hA hB
    have step : ∀ k, trig_wave__trig_Sin.j0 (k + 1) 1073741824 A B lo hi false = (bound_Of_api_Fix.f k (wlo sn 1073741824 lo hi) (whi sn 1073741824 lo hi)).bind fun b => some (b.1, b.2.1, b.2.2) := by
      intro k
      rw [trig_wave__trig_Sin.j0, w64_id (x := 1073741824 + 2147483648) (by decide) (by decide), meets_some (c := 1073741824 + 2147483648) (by omega) (by omega) (by omega) (by omega) (by decide) (by decide), Option.bind_some, hA, hB]
      by_cases c : mt lo hi (1073741824 + 2147483648) = true
      · rw [if_pos c, if_pos c]
      · rw [if_neg c, if_neg c]
    refine Ev.step step (Ev.bind (of_api_Fix _ _) ?_)
    rw [nb_ok (by omega) (by omega) (by omega)]
    exact Ev.now _
  by_cases c : mt lo hi 1073741824 = true
  · exact pos_ev c (J _ _ rfl (by unfold whi; rw [if_pos c]))
  · exact neg_ev c (J _ _ rfl (by unfold whi; rw [if_neg c]))
end Go.Proofs.Ytjgikgbolacikaa.Q
end

section
/- The bound of a wave in plain numbers, for one function: what trig.wave tells for a valid bound; the bounds stand in each statement. -/
namespace Go.Proofs.Ytjgikgbolacikaa.Q
open Go.RowKit Go.Proofs.YtjgikgbolacikaaW.PrintWords Go.Proofs.YtjgikgbolacikaaW.PrintLast Go.Proofs.YtjgikgbolacikaaW.PrintMore
set_option linter.unusedVariables false
set_option linter.unusedSimpArgs false

theorem wave_Cos {lo hi : Int} (h0 : -1152921504606846976 ≤ lo) (h : lo ≤ hi) (h1 : hi ≤ 1152921504606846976) :
    Ev (fun k => trig_CosBound.f k lo hi false) (wlo cs 0 lo hi, whi cs 0 lo hi, false) := by
  obtain ⟨a0, a1⟩ := (wave_cs).bd lo
  obtain ⟨b0, b1⟩ := (wave_cs).bd hi
  have bd := wave_bd wave_cs lo hi
  unfold trig_CosBound.f trig_wave__trig_Cos.f
  refine Ev.bind (a := (wlo cs 0 lo hi, whi cs 0 lo hi, false)) (Ev.bind (norm_api_Arc lo hi false) ?_) (Ev.now _)
  rw [nb_ok h0 h h1]
  refine neg_ev (by simp) (Ev.bind (cos_ev (by simp only; omega) (by simp only; omega)) (Ev.bind (cos_ev (by simp only; omega) (by simp only; omega)) (some_ev (meets_some (c := 0) (by simp only; omega) (by simp only; omega) (by simp only; omega) (by simp only; omega) (by decide) (by decide)) ?_)))
  simp only
  have m : -1073741824 ≤ mn (cs lo) (cs hi) ∧ mn (cs lo) (cs hi) ≤ 1073741824 := by unfold mn; split <;> omega
  have x : -1073741824 ≤ mx (cs lo) (cs hi) ∧ mx (cs lo) (cs hi) ≤ 1073741824 := by unfold mx; split <;> omega
  rw [w64_id (x := mn _ _ - 1) (by omega) (by omega), w64_id (x := mx _ _ + 1) (by omega) (by omega)]
  have J : ∀ A B : Int, wlo cs 0 lo hi = (if mt lo hi (0 + 2147483648) = true then -1073741824 else A) → B = whi cs 0 lo hi → Ev (fun k => trig_wave__trig_Cos.j0 k 0 A B lo hi false) (wlo cs 0 lo hi, whi cs 0 lo hi, false) := by
    intro A B hA hB
    have step : ∀ k, trig_wave__trig_Cos.j0 (k + 1) 0 A B lo hi false = (bound_Of_api_Fix.f k (wlo cs 0 lo hi) (whi cs 0 lo hi)).bind fun b => some (b.1, b.2.1, b.2.2) := by
      intro k
      rw [trig_wave__trig_Cos.j0, w64_id (x := 0 + 2147483648) (by decide) (by decide), meets_some (c := 0 + 2147483648) (by omega) (by omega) (by omega) (by omega) (by decide) (by decide), Option.bind_some, hA, hB]
      by_cases c : mt lo hi (0 + 2147483648) = true
      · rw [if_pos c, if_pos c]
      · rw [if_neg c, if_neg c]
    refine Ev.step step (Ev.bind (of_api_Fix _ _) ?_)
    rw [nb_ok (by omega) (by omega) (by omega)]
    exact Ev.now _
  by_cases c : mt lo hi 0 = true
  · exact pos_ev c (J _ _ rfl (by unfold whi; rw [if_pos c]))
  · exact neg_ev c (J _ _ rfl (by unfold whi; rw [if_neg c]))
end Go.Proofs.Ytjgikgbolacikaa.Q
end

section
/- The error of a pose in plain whole numbers: the sine of the altitude that a search has found, against the exact height; the bounds stand in each statement. -/
namespace Go.Proofs.Ytjgikgbolacikaa.Q
set_option linter.unusedVariables false
set_option linter.unusedSimpArgs false
theorem sq0 (x : Int) : 0 ≤ x * x := by
  rcases Int.le_total 0 x with h | h
  · exact Int.mul_nonneg h h
  · exact Int.mul_nonneg_of_nonpos_of_nonpos h h
/-- What is at most b in size has a product with x of at most b * |x|. -/
theorem pr_bd {x a b : Int} (h1 : -b ≤ a) (h2 : a ≤ b) : x * a ≤ b * x.natAbs ∧ -(b * x.natAbs) ≤ x * a := by
  rcases Int.le_total 0 x with h | h
  · have e : (x.natAbs : Int) = x := by omega
    rw [e]
    have p := Int.mul_le_mul_of_nonneg_left h1 h
    have q := Int.mul_le_mul_of_nonneg_left h2 h
    constructor <;> grind
  · have e : (x.natAbs : Int) = -x := by omega
    rw [e]
    have h' : 0 ≤ -x := by omega
    have p := Int.mul_le_mul_of_nonneg_left h1 h'
    have q := Int.mul_le_mul_of_nonneg_left h2 h'
    constructor <;> grind
theorem le_of_sq {a b : Int} (hb : 0 ≤ b) (h : a * a ≤ b * b) : -b ≤ a ∧ a ≤ b := by
  have h' : a.natAbs * a.natAbs ≤ b.natAbs * b.natAbs := by
    have e1 : ((a.natAbs * a.natAbs : Nat) : Int) = (a * a) := by rw [Int.natCast_mul]; exact Int.natAbs_mul_self
    have e2 : ((b.natAbs * b.natAbs : Nat) : Int) = (b * b) := by rw [Int.natCast_mul]; exact Int.natAbs_mul_self
    omega
  have := Nat.mul_self_le_mul_self_iff.1 h'
  omega
theorem ab_sq (x : Int) : (x.natAbs : Int) * x.natAbs = x * x := Int.natAbs_mul_self

theorem slim {A y Y R B : Int} (A0 : 0 ≤ A) (y0 : 0 ≤ y) (B0 : 0 ≤ B) (R0 : 0 ≤ R) (hy : y * y = Y) (yR : Y * 1024 ≤ 1025 * 1048576 * R) (ay : A * y * 2048 ≤ 1048576 * R + Y) (E1 : B * 1024 ≤ 27 * Y) : B * A ≤ 28 * (y * R) := by
  have ay' : A * y * 2048 * 1024 ≤ 1048576 * 2049 * R := by omega
  have BA : B * A * 1024 ≤ 27 * (Y * A) := by have := Int.mul_le_mul_of_nonneg_right E1 A0; grind
  have YA : Y * A * 2048 * 1024 ≤ 1048576 * 2049 * (y * R) := by
    have := Int.mul_le_mul_of_nonneg_left ay' y0
    have e : y * (A * y * 2048 * 1024) = Y * A * 2048 * 1024 := by rw [← hy]; grind
    have e2 : y * (1048576 * 2049 * R) = 1048576 * 2049 * (y * R) := by grind
    rw [e, e2] at this
    exact this
  have yR0 : 0 ≤ y * R := Int.mul_nonneg y0 R0
  generalize B * A = t1 at *
  generalize Y * A = t2 at *
  generalize y * R = t3 at *
  omega

/-- The sine of an angle that a search has found, against the exact direction. R = u*u + w*w, D = K*w + s*u. -/
theorem angle_near {s K u w y : Int} (w0 : 0 ≤ w) (y0 : 549755813888 ≤ y) (R0 : 0 < u * u + w * w)
    (D0 : 0 ≤ K * w + s * u)
    (p1 : s * s + K * K ≤ 1152921504606846976 + 2147483648) (p2 : 1152921504606846976 - 2147483648 ≤ s * s + K * K)
    (d1 : K * u - s * w ≤ 3 * (u.natAbs + w)) (d2 : -(3 * (u.natAbs + w)) ≤ K * u - s * w)
    (r1 : (1048576 * (u * u + w * w) - y * y) * 1073741824 ≤ 24 * (y * y)) (r2 : -(24 * (y * y)) ≤ (1048576 * (u * u + w * w) - y * y) * 1073741824) :
    s * y - u * 1099511627776 ≤ 33 * y ∧ -(33 * y) ≤ s * y - u * 1099511627776 := by
  have su := sq0 u
  have sw := sq0 w
  have sy := sq0 y
  have au := ab_sq u
  generalize hA : (u.natAbs : Int) = A at *
  have A0 : 0 ≤ A := by omega
  generalize hR : u * u + w * w = R at *
  generalize hD : K * w + s * u = D at *
  generalize hd : K * u - s * w = d at *
  generalize hy : y * y = Y at *
  -- 2 A w ≤ R
  have aw : 2 * (A * w) ≤ R := by have := sq0 (A - w); grind
  have aw0 : 0 ≤ A * w := Int.mul_nonneg A0 w0
  -- d squared
  have dd : d * d ≤ 18 * R := by
    have h : d * d ≤ (3 * (A + w)) * (3 * (A + w)) := by
      have h1 : 0 ≤ (3 * (A + w) - d) * (3 * (A + w) + d) := Int.mul_nonneg (by omega) (by omega)
      grind
    grind
  -- w d
  have wd := Int.mul_le_mul_of_nonneg_left d1 w0
  have wd' := Int.mul_le_mul_of_nonneg_left d2 w0
  have wb1 : w * d ≤ 5 * R := by grind
  have wb2 : -(5 * R) ≤ w * d := by grind
  -- the two squares
  have id1 : D * D = (s * s + K * K) * R - d * d := by grind
  have id2 : s * R = u * D - w * d := by grind
  generalize hP : s * s + K * K = P at *
  -- Q = D y, T = 2^40 R
  have T0 : 0 ≤ 1099511627776 * R := by omega
  have Q0 : 0 ≤ D * y := Int.mul_nonneg D0 (by omega)
  have id3 : (D * y - 1099511627776 * R) * (D * y + 1099511627776 * R) = R * ((P - 1152921504606846976) * Y - 1152921504606846976 * (1048576 * R - Y)) - d * d * Y := by grind
  have Y0 : 0 ≤ Y := sy
  have f1 : (P - 1152921504606846976) * Y ≤ 2147483648 * Y := Int.mul_le_mul_of_nonneg_right (by omega) Y0
  have f2 : -2147483648 * Y ≤ (P - 1152921504606846976) * Y := Int.mul_le_mul_of_nonneg_right (by omega) Y0
  generalize hF : (P - 1152921504606846976) * Y - 1152921504606846976 * (1048576 * R - Y) = F at *
  have F1 : F ≤ 26 * 1073741824 * Y := by omega
  have F2 : -(26 * 1073741824 * Y) ≤ F := by omega
  have RF1 := Int.mul_le_mul_of_nonneg_left F1 (Int.le_of_lt R0)
  have RF2 := Int.mul_le_mul_of_nonneg_left F2 (Int.le_of_lt R0)
  have dY0 : 0 ≤ d * d * Y := Int.mul_nonneg (sq0 d) Y0
  have dY1 : d * d * Y ≤ 18 * R * Y := Int.mul_le_mul_of_nonneg_right dd Y0
  have RY0 : 0 ≤ R * Y := Int.mul_nonneg (Int.le_of_lt R0) Y0
  generalize hE : D * y - 1099511627776 * R = E at *
  have eD : D * y = E + 1099511627776 * R := by omega
  rw [eD] at id3 Q0
  have G1 : E * (E + 1099511627776 * R + 1099511627776 * R) ≤ 27 * 1073741824 * (R * Y) := by rw [id3]; grind
  have G2 : -(27 * 1073741824 * (R * Y)) ≤ E * (E + 1099511627776 * R + 1099511627776 * R) := by rw [id3]; grind
  have ae := ab_sq E
  have E1 : (E.natAbs : Int) * 1024 ≤ 27 * Y := by
    have : (E.natAbs : Int) * (1099511627776 * R) ≤ 27 * 1073741824 * (R * Y) := by
      rcases Int.le_total 0 E with h | h
      · have e : (E.natAbs : Int) = E := by omega
        rw [e]
        have := Int.mul_nonneg h Q0
        grind
      · have e : (E.natAbs : Int) = -E := by omega
        rw [e]
        have := Int.mul_nonneg (by omega : 0 ≤ -E) Q0
        grind
    have : R * ((E.natAbs : Int) * 1024) ≤ R * (27 * Y) := by grind
    exact Int.le_of_mul_le_mul_left this R0
  generalize hE' : (E.natAbs : Int) = B at *
  have B0 : 0 ≤ B := by omega
  have ub := pr_bd (x := u) (a := E) (b := B) (by omega) (by omega)
  rw [hA] at ub
  have BA' : B * A ≤ 28 * (y * R) := slim A0 (by omega) B0 (Int.le_of_lt R0) hy (by omega) (by have := sq0 (1024 * A - y); grind) E1
  have y0' : 0 ≤ y := by omega
  have wy1 := Int.mul_le_mul_of_nonneg_left wb1 y0'
  have wy2 := Int.mul_le_mul_of_nonneg_left wb2 y0'
  have fin : R * (s * y - u * 1099511627776) = u * E - y * (w * d) := by grind
  constructor
  · have : R * (s * y - u * 1099511627776) ≤ R * (33 * y) := by rw [fin]; grind
    exact Int.le_of_mul_le_mul_left this R0
  · have : R * (-(33 * y)) ≤ R * (s * y - u * 1099511627776) := by rw [fin]; grind
    exact Int.le_of_mul_le_mul_left this R0

/-- The size of a part of a direction whose square is known. -/
theorem size_of {a N y : Int} (y0 : 549755813888 ≤ y) (h1 : N * 1099511627776 ≤ (y + 1) * (y + 1)) (h : a * a ≤ (1329227995784915872903807060280344576 + 9903520314283042199192993792) * N) : 8 * (a.natAbs : Int) ≤ 9 * 1099511627776 * y := by
  have yy : 549755813888 * y ≤ y * y := Int.mul_le_mul_of_nonneg_right y0 (by omega)
  have e : (y + 1) * (y + 1) = y * y + 2 * y + 1 := by grind
  rw [e] at h1
  have aa := ab_sq a
  have k : (8 * (a.natAbs : Int)) * (8 * (a.natAbs : Int)) ≤ (9 * 1099511627776 * y) * (9 * 1099511627776 * y) := by
    have e1 : (8 * (a.natAbs : Int)) * (8 * (a.natAbs : Int)) = 64 * (a * a) := by grind
    have e2 : (9 * 1099511627776 * y) * (9 * 1099511627776 * y) = 81 * 1208925819614629174706176 * (y * y) := by grind
    rw [e1, e2]
    generalize y * y = Y at *
    generalize a * a = A at *
    omega
  exact (le_of_sq (by omega) k).2
theorem rot_err {X Y Z c d S C o E : Int} (ho : o = X * c + Y * d) (hE : E = Y * c - X * d)
    (p1 : c * c + d * d ≤ 1152921504606846976 + 2147483648) (p2 : 1152921504606846976 - 2147483648 ≤ c * c + d * d)
    (q1 : S * S + C * C ≤ 1152921504606846976 + 2147483648) (q2 : 1152921504606846976 - 2147483648 ≤ S * S + C * C) :
    (Z * 1073741824 * S + C * o) * (Z * 1073741824 * S + C * o) + (Z * 1073741824 * C - S * o) * (Z * 1073741824 * C - S * o) + 1152921504606846976 * (E * E) ≤ (1329227995784915872903807060280344576 + 4951760157141521099596496896 + 4611686018427387904) * (X * X + Y * Y + Z * Z) ∧
    (1329227995784915872903807060280344576 - 4951760157141521099596496896 - 4611686018427387904) * (X * X + Y * Y + Z * Z) ≤ (Z * 1073741824 * S + C * o) * (Z * 1073741824 * S + C * o) + (Z * 1073741824 * C - S * o) * (Z * 1073741824 * C - S * o) + 1152921504606846976 * (E * E) := by
  have i1 : (Z * 1073741824 * S + C * o) * (Z * 1073741824 * S + C * o) + (Z * 1073741824 * C - S * o) * (Z * 1073741824 * C - S * o) = (S * S + C * C) * (1152921504606846976 * (Z * Z) + o * o) := by grind
  have i2 : o * o + E * E = (c * c + d * d) * (X * X + Y * Y) := by rw [ho, hE]; grind
  have oo := sq0 o
  have EE := sq0 E
  have ZZ := sq0 Z
  have XX := sq0 X
  have YY := sq0 Y
  rw [i1]
  generalize S * S + C * C = q at *
  generalize c * c + d * d = p at *
  generalize Z * Z = z at *
  generalize hH : X * X + Y * Y = H at *
  have H0 : 0 ≤ H := by omega
  have w1 : p * H ≤ (1152921504606846976 + 2147483648) * H := Int.mul_le_mul_of_nonneg_right p1 H0
  have w2 : (1152921504606846976 - 2147483648) * H ≤ p * H := Int.mul_le_mul_of_nonneg_right p2 H0
  have V0 : 0 ≤ 1152921504606846976 * z + o * o := by omega
  have v1 : q * (1152921504606846976 * z + o * o) ≤ (1152921504606846976 + 2147483648) * (1152921504606846976 * z + o * o) := Int.mul_le_mul_of_nonneg_right q1 V0
  have v2 : (1152921504606846976 - 2147483648) * (1152921504606846976 * z + o * o) ≤ q * (1152921504606846976 * z + o * o) := Int.mul_le_mul_of_nonneg_right q2 V0
  generalize q * (1152921504606846976 * z + o * o) = G at *
  generalize p * H = F at *
  generalize o * o = O at *
  generalize E * E = J at *
  constructor <;> omega
theorem le_sq {a b : Int} (h1 : -b ≤ a) (h2 : a ≤ b) : a * a ≤ b * b ∧ 0 ≤ a * a := by
  have := Int.mul_nonneg (by omega : 0 ≤ b - a) (by omega : 0 ≤ b + a)
  exact ⟨by grind, sq0 a⟩
theorem sum_near {U V E u n e w y N : Int}
    (b1 : U * U + V * V + 1152921504606846976 * (E * E) ≤ (1329227995784915872903807060280344576 + 4951760157141521099596496896 + 4611686018427387904) * N) (b2 : (1329227995784915872903807060280344576 - 4951760157141521099596496896 - 4611686018427387904) * N ≤ U * U + V * V + 1152921504606846976 * (E * E))
    (u1 : u * 1125899906842624 - U ≤ 1125899906842624) (u2 : -1125899906842624 ≤ u * 1125899906842624 - U) (n1 : n * 1125899906842624 - V ≤ 1125899906842624) (n2 : -1125899906842624 ≤ n * 1125899906842624 - V) (e1 : e * 1048576 - E ≤ 524288) (e2 : -524288 ≤ e * 1048576 - E)
    (w0 : 0 ≤ w) (w1 : w * w ≤ n * n + e * e) (w2 : n * n + e * e < (w + 1) * (w + 1))
    (y0 : 549755813888 ≤ y) (y1 : y * y ≤ N * 1099511627776) (y2 : N * 1099511627776 ≤ (y + 1) * (y + 1)) :
    (1048576 * (u * u + w * w) - y * y) * 1073741824 ≤ 24 * (y * y) ∧ -(24 * (y * y)) ≤ (1048576 * (u * u + w * w) - y * y) * 1073741824 := by
  have UU := sq0 U
  have VV := sq0 V
  have EE := sq0 E
  have yy := sq0 y
  have N0 : 0 ≤ N := by omega
  have yb : 549755813888 * y ≤ y * y := Int.mul_le_mul_of_nonneg_right y0 (by omega)
  have sU := size_of (a := U) y0 y2 (by omega)
  have sV := size_of (a := V) y0 y2 (by omega)
  have fE : 1073741824 * E * (1073741824 * E) = 1152921504606846976 * (E * E) := by grind
  have sE := size_of (a := 1073741824 * E) y0 y2 (by omega)
  obtain ⟨cU1, cU2⟩ := pr_bd (x := U) u2 u1
  obtain ⟨cV1, cV2⟩ := pr_bd (x := V) n2 n1
  obtain ⟨cE1, cE2⟩ := pr_bd (x := 1073741824 * E) e2 e1
  have qU := le_sq u2 u1
  have qV := le_sq n2 n1
  have qE := le_sq e2 e1
  have iu : 1267650600228229401496703205376 * (u * u) = U * U + 2 * (U * (u * 1125899906842624 - U)) + (u * 1125899906842624 - U) * (u * 1125899906842624 - U) := by grind
  have iv : 1267650600228229401496703205376 * (n * n) = V * V + 2 * (V * (n * 1125899906842624 - V)) + (n * 1125899906842624 - V) * (n * 1125899906842624 - V) := by grind
  have ie : 1267650600228229401496703205376 * (e * e) = 1152921504606846976 * (E * E) + 2147483648 * (1073741824 * E * (e * 1048576 - E)) + 1152921504606846976 * ((e * 1048576 - E) * (e * 1048576 - E)) := by grind
  have iw : (w + 1) * (w + 1) = w * w + 2 * w + 1 := by grind
  have iy : (y + 1) * (y + 1) = y * y + 2 * y + 1 := by grind
  rw [iw] at w2
  rw [iy] at y2
  -- the size of w
  have aw : w * w * 1267650600228229401496703205376 ≤ (1329227995784915872903807060280344576 + 9903520314283042199192993792) * N + 6 * 1237940039285380274899124224 * y + 3 * 1267650600228229401496703205376 := by
    have uu := sq0 u
    generalize U * (u * 1125899906842624 - U) = t1 at *
    generalize (u * 1125899906842624 - U) * (u * 1125899906842624 - U) = t2 at *
    generalize V * (n * 1125899906842624 - V) = t3 at *
    generalize (n * 1125899906842624 - V) * (n * 1125899906842624 - V) = t4 at *
    generalize 1073741824 * E * (e * 1048576 - E) = t5 at *
    generalize (e * 1048576 - E) * (e * 1048576 - E) = t6 at *
    generalize (U.natAbs : Int) = t7 at *
    generalize (V.natAbs : Int) = t8 at *
    generalize ((1073741824 * E).natAbs : Int) = t9 at *
    generalize U * U = t10 at *
    generalize V * V = t11 at *
    generalize E * E = t12 at *
    generalize u * u = t13 at *
    generalize n * n = t14 at *
    generalize e * e = t15 at *
    generalize w * w = t16 at *
    generalize y * y = t17 at *
    omega
  have ww : 8192 * w ≤ 9 * y := by
    refine (le_of_sq (by omega) ?_).2
    have e1 : 8192 * w * (8192 * w) = 67108864 * (w * w) := by grind
    have e2 : 9 * y * (9 * y) = 81 * (y * y) := by grind
    rw [e1, e2]
    generalize w * w = t16 at *
    generalize y * y = t17 at *
    omega
  have uu := sq0 u
  generalize U * (u * 1125899906842624 - U) = t1 at *
  generalize (u * 1125899906842624 - U) * (u * 1125899906842624 - U) = t2 at *
  generalize V * (n * 1125899906842624 - V) = t3 at *
  generalize (n * 1125899906842624 - V) * (n * 1125899906842624 - V) = t4 at *
  generalize 1073741824 * E * (e * 1048576 - E) = t5 at *
  generalize (e * 1048576 - E) * (e * 1048576 - E) = t6 at *
  generalize (U.natAbs : Int) = t7 at *
  generalize (V.natAbs : Int) = t8 at *
  generalize ((1073741824 * E).natAbs : Int) = t9 at *
  generalize U * U = t10 at *
  generalize V * V = t11 at *
  generalize E * E = t12 at *
  generalize u * u = t13 at *
  generalize n * n = t14 at *
  generalize e * e = t15 at *
  generalize w * w = t16 at *
  generalize y * y = t17 at *
  constructor <;> omega
theorem rot_near {X Y Z c d S C o E out e u n w y : Int} (ho : o = X * c + Y * d) (hE : E = Y * c - X * d)
    (p1 : c * c + d * d ≤ 1152921504606846976 + 2147483648) (p2 : 1152921504606846976 - 2147483648 ≤ c * c + d * d)
    (q1 : S * S + C * C ≤ 1152921504606846976 + 2147483648) (q2 : 1152921504606846976 - 2147483648 ≤ S * S + C * C)
    (S1 : -1073741824 ≤ S) (S2 : S ≤ 1073741824) (C1 : -1073741824 ≤ C) (C2 : C ≤ 1073741824)
    (o1 : out * 1048576 - o ≤ 524288) (o2 : -524288 ≤ out * 1048576 - o) (e1 : e * 1048576 - E ≤ 524288) (e2 : -524288 ≤ e * 1048576 - E)
    (u1 : u * 1073741824 - (Z * 1024 * S + out * C) ≤ 536870912) (u2 : -536870912 ≤ u * 1073741824 - (Z * 1024 * S + out * C))
    (n1 : n * 1073741824 - (Z * 1024 * C - out * S) ≤ 536870912) (n2 : -536870912 ≤ n * 1073741824 - (Z * 1024 * C - out * S))
    (w0 : 0 ≤ w) (w1 : w * w ≤ n * n + e * e) (w2 : n * n + e * e < (w + 1) * (w + 1))
    (y0 : 549755813888 ≤ y) (y1 : y * y ≤ (X * X + Y * Y + Z * Z) * 1099511627776) (y2 : (X * X + Y * Y + Z * Z) * 1099511627776 ≤ (y + 1) * (y + 1)) :
    (1048576 * (u * u + w * w) - y * y) * 1073741824 ≤ 24 * (y * y) ∧ -(24 * (y * y)) ≤ (1048576 * (u * u + w * w) - y * y) * 1073741824 ∧
    u * 1125899906842624 - (Z * 1073741824 * S + C * o) ≤ 1125899906842624 ∧ -1125899906842624 ≤ u * 1125899906842624 - (Z * 1073741824 * S + C * o) := by
  obtain ⟨b1, b2⟩ := rot_err (Z := Z) ho hE p1 p2 q1 q2
  have gc := pr_bd (x := out * 1048576 - o) C1 C2
  have gs := pr_bd (x := out * 1048576 - o) S1 S2
  have iu : u * 1125899906842624 - (Z * 1073741824 * S + C * o) = 1048576 * (u * 1073741824 - (Z * 1024 * S + out * C)) + (out * 1048576 - o) * C := by grind
  have jn : n * 1125899906842624 - (Z * 1073741824 * C - S * o) = 1048576 * (n * 1073741824 - (Z * 1024 * C - out * S)) - (out * 1048576 - o) * S := by grind
  have ga : ((out * 1048576 - o).natAbs : Int) ≤ 524288 := by omega
  generalize ((out * 1048576 - o).natAbs : Int) = t0 at *
  have a1 : u * 1125899906842624 - (Z * 1073741824 * S + C * o) ≤ 1125899906842624 := by
    rw [iu]
    generalize (out * 1048576 - o) * C = t1 at *
    generalize u * 1073741824 - (Z * 1024 * S + out * C) = t2 at *
    omega
  have a2 : -1125899906842624 ≤ u * 1125899906842624 - (Z * 1073741824 * S + C * o) := by
    rw [iu]
    generalize (out * 1048576 - o) * C = t1 at *
    generalize u * 1073741824 - (Z * 1024 * S + out * C) = t2 at *
    omega
  have a3 : n * 1125899906842624 - (Z * 1073741824 * C - S * o) ≤ 1125899906842624 := by
    rw [jn]
    generalize (out * 1048576 - o) * S = t1 at *
    generalize n * 1073741824 - (Z * 1024 * C - out * S) = t2 at *
    omega
  have a4 : -1125899906842624 ≤ n * 1125899906842624 - (Z * 1073741824 * C - S * o) := by
    rw [jn]
    generalize (out * 1048576 - o) * S = t1 at *
    generalize n * 1073741824 - (Z * 1024 * C - out * S) = t2 at *
    omega
  have r := sum_near b1 b2 a1 a2 a3 a4 e1 e2 w0 w1 w2 y0 y1 y2
  exact ⟨r.1, r.2, a1, a2⟩
/-- The sine that a pose has, against the exact one: the length y of the direction, and U = the exact height times y. -/
theorem pose_near {X Y Z c d S C o E out e u n w y s K : Int} (ho : o = X * c + Y * d) (hE : E = Y * c - X * d)
    (p1 : c * c + d * d ≤ 1152921504606846976 + 2147483648) (p2 : 1152921504606846976 - 2147483648 ≤ c * c + d * d)
    (q1 : S * S + C * C ≤ 1152921504606846976 + 2147483648) (q2 : 1152921504606846976 - 2147483648 ≤ S * S + C * C)
    (S1 : -1073741824 ≤ S) (S2 : S ≤ 1073741824) (C1 : -1073741824 ≤ C) (C2 : C ≤ 1073741824)
    (o1 : out * 1048576 - o ≤ 524288) (o2 : -524288 ≤ out * 1048576 - o) (e1 : e * 1048576 - E ≤ 524288) (e2 : -524288 ≤ e * 1048576 - E)
    (u1 : u * 1073741824 - (Z * 1024 * S + out * C) ≤ 536870912) (u2 : -536870912 ≤ u * 1073741824 - (Z * 1024 * S + out * C))
    (n1 : n * 1073741824 - (Z * 1024 * C - out * S) ≤ 536870912) (n2 : -536870912 ≤ n * 1073741824 - (Z * 1024 * C - out * S))
    (w0 : 0 ≤ w) (w1 : w * w ≤ n * n + e * e) (w2 : n * n + e * e < (w + 1) * (w + 1))
    (y0 : 549755813888 ≤ y) (y1 : y * y ≤ (X * X + Y * Y + Z * Z) * 1099511627776) (y2 : (X * X + Y * Y + Z * Z) * 1099511627776 ≤ (y + 1) * (y + 1))
    (k1 : s * s + K * K ≤ 1152921504606846976 + 2147483648) (k2 : 1152921504606846976 - 2147483648 ≤ s * s + K * K) (D0 : 0 ≤ K * w + s * u)
    (d1 : K * u - s * w ≤ 3 * (u.natAbs + w)) (d2 : -(3 * (u.natAbs + w)) ≤ K * u - s * w) :
    s * y * 1024 ≤ Z * 1073741824 * S + C * o + 40 * 1024 * y ∧ Z * 1073741824 * S + C * o - 40 * 1024 * y ≤ s * y * 1024 := by
  obtain ⟨r1, r2, a1, a2⟩ := rot_near ho hE p1 p2 q1 q2 S1 S2 C1 C2 o1 o2 e1 e2 u1 u2 n1 n2 w0 w1 w2 y0 y1 y2
  have yb : 549755813888 * y ≤ y * y := Int.mul_le_mul_of_nonneg_right y0 (by omega)
  have R0 : 0 < u * u + w * w := by
    have uu := sq0 u
    have ww := sq0 w
    generalize u * u = t1 at *
    generalize w * w = t2 at *
    generalize y * y = t3 at *
    omega
  have a := angle_near w0 y0 R0 D0 k1 k2 d1 d2 r1 r2
  generalize Z * 1073741824 * S + C * o = U at *
  generalize s * y = t1 at *
  omega
end Go.Proofs.Ytjgikgbolacikaa.Q
end

section
/- The sine of the altitude that a search finds, and a point of the circle near each angle; no condition but the signs. -/
namespace Go.Proofs.Ytjgikgbolacikaa.Q
open Go.RowKit Go.Proofs.YtjgikgbolacikaaW.PrintWords Go.Proofs.YtjgikgbolacikaaW.PrintLast Go.Proofs.YtjgikgbolacikaaW.PrintMore
set_option linter.unusedVariables false
set_option linter.unusedSimpArgs false
/-- Near each point that is nearly on the circle there is one within it. -/
theorem in_circle {c d : Int} (c1 : -1073741824 ≤ c) (c2 : c ≤ 1073741824) (d1 : -1073741824 ≤ d) (d2 : d ≤ 1073741824) (p1 : c * c + d * d - 1152921504606846976 ≤ 2147483648) (p2 : -2147483648 ≤ c * c + d * d - 1152921504606846976) :
    ∃ c' d', c - 1 ≤ c' ∧ c' ≤ c + 1 ∧ -1073741824 ≤ c' ∧ c' ≤ 1073741824 ∧ d - 1 ≤ d' ∧ d' ≤ d + 1 ∧ -1073741824 ≤ d' ∧ d' ≤ 1073741824 ∧ c' * c' + d' * d' ≤ 1152921504606846976 := by
  -- one number nearer to 0
  have near : ∀ x : Int, x ≠ 0 → ∃ x', x - 1 ≤ x' ∧ x' ≤ x + 1 ∧ (x'.natAbs : Int) = x.natAbs - 1 ∧ x' * x' = x * x - 2 * x.natAbs + 1 := by
    intro x hx
    rcases Int.lt_or_gt_of_ne hx with h | h
    · have e : (x.natAbs : Int) = -x := by omega
      exact ⟨x + 1, by omega, by omega, by omega, by rw [e]; grind⟩
    · have e : (x.natAbs : Int) = x := by omega
      exact ⟨x - 1, by omega, by omega, by omega, by rw [e]; grind⟩
  have ac := ab_sq c
  have ad := ab_sq d
  have small : ∀ x : Int, (x.natAbs : Int) ≤ 3 → x * x ≤ 9 := by
    intro x h
    have := le_sq (a := x) (b := 3) (by omega) (by omega)
    omega
  by_cases hd : (d.natAbs : Int) ≤ 3
  · have dd := small d hd
    have hc : c ≠ 0 := by intro e; rw [e] at p2; omega
    obtain ⟨c', h1, h2, h3, h4⟩ := near c hc
    refine ⟨c', d, h1, h2, by omega, by omega, by omega, by omega, d1, d2, ?_⟩
    have := le_sq (a := c') (b := 1073741823) (by omega) (by omega)
    omega
  by_cases hc : (c.natAbs : Int) ≤ 3
  · have cc := small c hc
    obtain ⟨d', h1, h2, h3, h4⟩ := near d (by omega)
    refine ⟨c, d', by omega, by omega, c1, c2, h1, h2, by omega, by omega, ?_⟩
    have := le_sq (a := d') (b := 1073741823) (by omega) (by omega)
    omega
  obtain ⟨c', h1, h2, h3, h4⟩ := near c (by omega)
  obtain ⟨d', k1, k2, k3, k4⟩ := near d (by omega)
  refine ⟨c', d', h1, h2, by omega, by omega, k1, k2, by omega, by omega, ?_⟩
  rw [h4, k4]
  generalize (c.natAbs : Int) = a at *
  generalize (d.natAbs : Int) = b at *
  by_cases big : 1073741825 ≤ a + b
  · omega
  · exfalso
    have m := Int.mul_nonneg (show 0 ≤ a - 4 by omega) (show 0 ≤ b - 4 by omega)
    have t := Int.mul_nonneg (show 0 ≤ 1073741824 - (a + b) by omega) (show 0 ≤ a + b by omega)
    have e1 : (a - 4) * (b - 4) = a * b - 4 * a - 4 * b + 16 := by grind
    have e2 : (1073741824 - (a + b)) * (a + b) = 1073741824 * a + 1073741824 * b - (a * a + b * b) - 2 * (a * b) := by grind
    rw [e1] at m
    rw [e2] at t
    generalize a * b = ab at *
    generalize a * a = aa at *
    generalize b * b = bb at *
    omega
theorem sn_pos {m : Int} (h0 : 0 ≤ m) (h1 : m ≤ 1073741824) : 0 ≤ sn m := by rw [sn_q1 h0 h1]; exact (qt_bd h0 h1).1
/-- The direction that a search finds is near the one that was sought. -/
theorem oct_cross {y x : Int} (y0 : 0 ≤ y) (x0 : 0 ≤ x) (h : y ≤ x) : 0 ≤ cs (oct y x) * y - sn (oct y x) * x ∧ cs (oct y x) * y - sn (oct y x) * x ≤ 3 * (y + x) ∨ (cs (oct y x) * y - sn (oct y x) * x ≤ 0 ∧ cs (oct y x) * y - sn (oct y x) * x = 0 - qt 536870912 * (x - y) ∧ 0 ≤ cs (oct y x) * y - sn (oct y x) * x) := by
  obtain ⟨t0, t1, t2, t3⟩ := oct_is y x
  generalize oct y x = t at *
  left
  have low : 0 ≤ cs t * y - sn t * x := by
    rcases t2 with e | e
    · subst e
      have a : sn 0 = 0 := sn_zero
      have b : 0 ≤ cs 0 := cs_pos (by decide) (by decide)
      have := Int.mul_nonneg b y0
      rw [a]; omega
    · omega
  refine ⟨low, ?_⟩
  rcases t3 with e | e
  · subst e
    have a : sn 536870912 = qt 536870912 := sn_q1 (by decide) (by decide)
    have b : cs 536870912 = qt 536870912 := by rw [cs_q1 (by decide) (by decide)]; rfl
    rw [a, b]
    have q : 0 ≤ qt 536870912 := (qt_bd (by decide) (by decide)).1
    have := Int.mul_le_mul_of_nonneg_left h q
    omega
  · by_cases c : t = 536870912
    · subst c
      have a : sn 536870912 = qt 536870912 := sn_q1 (by decide) (by decide)
      have b : cs 536870912 = qt 536870912 := by rw [cs_q1 (by decide) (by decide)]; rfl
      rw [a, b]
      have q : 0 ≤ qt 536870912 := (qt_bd (by decide) (by decide)).1
      have := Int.mul_le_mul_of_nonneg_left h q
      omega
    · have a := (qt_next (t := t) t0 (by omega)).2
      have b := (qt_next (t := 1073741824 - (t + 1)) (by omega) (by omega)).2
      rw [show 1073741824 - (t + 1) + 1 = 1073741824 - t by omega] at b
      rw [sn_q1 (by omega) (by omega), cs_q1 (by omega) (by omega)] at e
      rw [sn_q1 (by omega) (by omega), cs_q1 (by omega) (by omega)]
      have i1 := Int.mul_le_mul_of_nonneg_right a x0
      have i2 := Int.mul_le_mul_of_nonneg_right b y0
      have e1 : (qt t + 3) * x = qt t * x + 3 * x := by grind
      have e2 : (qt (1073741824 - (t + 1)) + 3) * y = qt (1073741824 - (t + 1)) * y + 3 * y := by grind
      rw [e1] at i1
      rw [e2] at i2
      omega
theorem at0_cross {y x : Int} (y0 : 0 ≤ y) (x0 : 0 ≤ x) : cs (at0 y x) * y - sn (at0 y x) * x ≤ 3 * (y + x) ∧ -(3 * (y + x)) ≤ cs (at0 y x) * y - sn (at0 y x) * x := by
  unfold at0
  split
  · rename_i h
    have := oct_cross y0 x0 h
    omega
  · rename_i h
    have := oct_cross x0 y0 (by omega)
    have bd := oct_is x y
    have a : sn (1073741824 - oct x y) = cs (oct x y) := by rw [sn_q1 (by omega) (by omega), cs_q1 (by omega) (by omega)]
    have b : cs (1073741824 - oct x y) = sn (oct x y) := by rw [sn_q1 (by omega) (by omega), cs_q1 (by omega) (by omega)]; congr 1; omega
    rw [a, b]
    omega
/-- The altitude, from -Turn/2 to Turn/2. -/
def alt (a : Int) : Int := if a > 2147483648 then a - 4294967296 else a
theorem alt_near {u w : Int} (w0 : 0 ≤ w) : 0 ≤ cs (alt (at2 u w)) * w + sn (alt (at2 u w)) * u ∧ cs (alt (at2 u w)) * u - sn (alt (at2 u w)) * w ≤ 3 * (u.natAbs + w) ∧ -(3 * (u.natAbs + w)) ≤ cs (alt (at2 u w)) * u - sn (alt (at2 u w)) * w := by
  have mw : mx w (-w) = w := mx_pos w0
  by_cases h : u < 0
  · have e : at2 u w = (4294967296 - at0 (-u) w) % 4294967296 := by
      unfold at2
      rw [if_pos h, if_neg (by omega), at1_abs, mx_neg h, mw]
    have bd := at0_bd (-u) w
    have c := at0_cross (y := -u) (x := w) (by omega) w0
    generalize at0 (-u) w = m at *
    have s : sn (alt (at2 u w)) = -sn m := by rw [← sn_neg]; exact sn_mod (by rw [e]; unfold alt; split <;> omega)
    have k : cs (alt (at2 u w)) = cs m := by rw [← cs_neg, cs_sn, cs_sn]; exact sn_mod (by rw [e]; unfold alt; split <;> omega)
    rw [s, k]
    have ab : (u.natAbs : Int) = -u := by omega
    rw [ab]
    have i1 := Int.mul_nonneg (cs_pos bd.1 bd.2) w0
    have i2 := Int.mul_nonneg (sn_pos bd.1 bd.2) (show 0 ≤ -u by omega)
    have e1 : -sn m * u = sn m * -u := by grind
    have e2 : -sn m * w = -(sn m * w) := by grind
    have e3 : cs m * -u = -(cs m * u) := by grind
    rw [e3] at c
    rw [e1, e2]
    refine ⟨by omega, by omega, by omega⟩
  · have e : at2 u w = at0 u w := by
      have bd := at0_bd u w
      unfold at2
      rw [if_neg h, if_neg (by omega), at1_abs, mx_pos (by omega), mw]
      omega
    have bd := at0_bd u w
    have c := at0_cross (y := u) (x := w) (by omega) w0
    have e2 : alt (at2 u w) = at0 u w := by rw [e]; unfold alt; rw [if_neg (by omega)]
    rw [e2]
    have ab : (u.natAbs : Int) = u := by omega
    rw [ab]
    have i1 := Int.mul_nonneg (cs_pos bd.1 bd.2) w0
    have i2 := Int.mul_nonneg (sn_pos bd.1 bd.2) (show 0 ≤ u by omega)
    exact ⟨by omega, c.1, c.2⟩
end Go.Proofs.Ytjgikgbolacikaa.Q
end

section
/- Rounding, the check and the growth of a direction, and the stream's sites and directions; the bounds stand in each statement. -/
namespace Go.Proofs.Ytjgikgbolacikaa.Q
open Go.RowKit Go.Proofs.YtjgikgbolacikaaW.PrintWords Go.Proofs.YtjgikgbolacikaaW.PrintLast Go.Proofs.YtjgikgbolacikaaW.PrintMore
set_option linter.unusedVariables false
set_option linter.unusedSimpArgs false
/-- The nearest whole number to a quotient. -/
def rq (a b : Int) : Int := if Int.tmod a b ≥ b - Int.tmod a b ∧ Int.tmod a b > 0 then Int.tdiv a b + 1 else if Int.tmod a b < 0 ∧ -Int.tmod a b ≥ b + Int.tmod a b then Int.tdiv a b - 1 else Int.tdiv a b
theorem tmod_bd {a b : Int} (hb : 0 < b) : -b < Int.tmod a b ∧ Int.tmod a b < b ∧ b * Int.tdiv a b + Int.tmod a b = a := by
  refine ⟨?_, ?_, Int.mul_tdiv_add_tmod a b⟩
  · have := Int.lt_tmod_of_pos a hb; omega
  · exact Int.tmod_lt_of_pos a hb
theorem rq_near {a b : Int} (hb : 0 < b) : 2 * (rq a b * b - a) ≤ b ∧ -b ≤ 2 * (rq a b * b - a) := by
  obtain ⟨h0, h1, h2⟩ := tmod_bd (a := a) hb
  unfold rq
  generalize Int.tmod a b = r at *
  generalize Int.tdiv a b = q at *
  have e1 : (q + 1) * b = b * q + b := by grind
  have e2 : (q - 1) * b = b * q - b := by grind
  have e3 : q * b = b * q := by grind
  split
  · rw [e1]; omega
  · split
    · rw [e2]; omega
    · rw [e3]; omega
theorem tdiv_bd {a b : Int} (hb : 1 < b) (h0 : -9223372036854775808 < a) (h1 : a < 9223372036854775808) : -9223372036854775807 ≤ Int.tdiv a b ∧ Int.tdiv a b ≤ 9223372036854775807 ∧ (Int.tmod a b ≠ 0 → -4611686018427387904 ≤ Int.tdiv a b ∧ Int.tdiv a b ≤ 4611686018427387904) := by
  have a1 : (Int.tdiv a b).natAbs = a.natAbs / b.natAbs := Int.natAbs_tdiv a b
  have a2 := Nat.div_le_div_left (c := 2) (a := a.natAbs) (show 2 ≤ b.natAbs by omega) (by decide)
  omega
theorem rq_ev {a b : Int} (hb : 1 < b) (hb1 : b ≤ 1152921504606846976) (h0 : -9223372036854775808 < a) (h1 : a < 9223372036854775808) : Ev (fun k => num_RoundDiv.f k a b) (rq a b) := by
  obtain ⟨m0, m1, m2⟩ := tmod_bd (a := a) (b := b) (by omega)
  have d := tdiv_bd (a := a) hb h0 h1
  unfold num_RoundDiv.f rq
  generalize Int.tmod a b = r at *
  generalize Int.tdiv a b = q at *
  refine neg_ev (by omega) (neg_ev (by omega) ?_)
  rw [w64_id (x := b - r) (by omega) (by omega), w64_id (x := q) (by omega) (by omega)]
  have tail : ¬ (r ≥ b - r ∧ r > 0) → Ev (fun k => num_RoundDiv.j0 k b q r false) (if r ≥ b - r ∧ r > 0 then q + 1 else if r < 0 ∧ -r ≥ b + r then q - 1 else q) := by
    intro c
    rw [if_neg c]
    refine one_ev fun k => ?_
    rw [num_RoundDiv.j0, if_neg (by decide)]
    by_cases c2 : r < 0
    · rw [if_pos c2, w64_id (x := -r) (by omega) (by omega), w64_id (x := b + r) (by omega) (by omega)]
      by_cases c3 : -r ≥ b + r
      · rw [if_pos c3, if_pos ⟨c2, c3⟩, w64_id (by omega) (by omega)]
      · rw [if_neg c3, if_neg (fun h => c3 h.2)]
    · rw [if_neg c2, if_neg (fun h => c2 h.1)]
  by_cases c : r ≥ b - r
  · refine pos_ev c ?_
    by_cases c2 : r > 0
    · rw [decide_eq_true c2, if_pos ⟨c, c2⟩]
      exact one_ev fun k => by rw [num_RoundDiv.j0, if_pos rfl, w64_id (by omega) (by omega)]
    · rw [decide_eq_false c2]
      exact tail (fun h => c2 h.2)
  · exact neg_ev c (tail (fun h => c h.1))
/-- A direction. -/
def okv (x y z : Int) : Prop := -1048576 ≤ x ∧ x ≤ 1048576 ∧ -1048576 ≤ y ∧ y ≤ 1048576 ∧ -1048576 ≤ z ∧ z ≤ 1048576 ∧ ¬ (x = 0 ∧ y = 0 ∧ z = 0)
theorem vcheck_ok {x y z : Int} (h : okv x y z) : Ev (fun k => sphere_Check.f k x y z) 0 := by
  obtain ⟨h0, h1, h2, h3, h4, h5, h6⟩ := h
  have a : ¬ mx (mx x y) z > 1048576 := by unfold mx; split <;> split <;> omega
  have b : ¬ mn (mn x y) z < -1048576 := by unfold mn; split <;> split <;> omega
  unfold sphere_Check.f
  refine neg_ev a ?_
  rw [decide_eq_false b]
  refine one_ev fun k => ?_
  rw [sphere_Check.j0, if_neg (by decide), if_neg (by simpa using h6)]
theorem vcheck_no {x y z : Int} (h : ¬ okv x y z) : ∃ e : Int, e ≠ 0 ∧ Ev (fun k => sphere_Check.f k x y z) e := by
  unfold sphere_Check.f
  by_cases a : mx (mx x y) z > 1048576
  · exact ⟨4, by decide, pos_ev a (one_ev fun k => by rw [sphere_Check.j0, if_pos rfl])⟩
  by_cases b : mn (mn x y) z < -1048576
  · refine ⟨4, by decide, neg_ev a ?_⟩
    rw [decide_eq_true b]
    exact one_ev fun k => by rw [sphere_Check.j0, if_pos rfl]
  refine ⟨8, by decide, neg_ev a ?_⟩
  rw [decide_eq_false b]
  refine one_ev fun k => ?_
  rw [sphere_Check.j0, if_neg (by decide), if_pos]
  have a' : x ≤ 1048576 ∧ y ≤ 1048576 ∧ z ≤ 1048576 := by unfold mx at a; split at a <;> split at a <;> omega
  have b' : -1048576 ≤ x ∧ -1048576 ≤ y ∧ -1048576 ≤ z := by unfold mn at b; split at b <;> split at b <;> omega
  have : x = 0 ∧ y = 0 ∧ z = 0 := Classical.byContradiction fun n => h ⟨b'.1, a'.1, b'.2.1, a'.2.1, b'.2.2, a'.2.2, n⟩
  simpa using this
/-- A direction that is not to be doubled. -/
def grown (x y z : Int) : Prop := okv x y z ∧ (x < -524288 ∨ 524288 < x ∨ y < -524288 ∨ 524288 < y ∨ z < -524288 ∨ 524288 < z)
theorem grow_l0 (n : Nat) : ∀ x y z : Int, okv x y z → (1048576 < (x.natAbs : Int) * 2 ^ n ∨ 1048576 < (y.natAbs : Int) * 2 ^ n ∨ 1048576 < (z.natAbs : Int) * 2 ^ n) →
    ∃ X Y Z, Ev (fun k => sphere_Grow.l0 k x y z) (X, Y, Z) ∧ grown X Y Z := by
  induction n with
  | zero =>
    intro x y z h b
    obtain ⟨h0, h1, h2, h3, h4, h5, h6⟩ := h
    omega
  | succ n ih =>
    intro x y z h b
    have h' := h
    obtain ⟨h0, h1, h2, h3, h4, h5, h6⟩ := h'
    by_cases c : okv (2 * x) (2 * y) (2 * z)
    · have dbl : ∀ t : Int, ((2 * t).natAbs : Int) * 2 ^ n = (t.natAbs : Int) * 2 ^ (n + 1) := by
        intro t
        have e : ((2 * t).natAbs : Int) = 2 * t.natAbs := by omega
        rw [e, Int.pow_succ]
        grind
      obtain ⟨X, Y, Z, hE, hg⟩ := ih (2 * x) (2 * y) (2 * z) c (by rw [dbl, dbl, dbl]; exact b)
      refine ⟨X, Y, Z, Ev.step (fun k => by rw [sphere_Grow.l0, w64_id (x := 2 * x) (by omega) (by omega), w64_id (x := 2 * y) (by omega) (by omega), w64_id (x := 2 * z) (by omega) (by omega)]) ?_, hg⟩
      exact Ev.bind (vcheck_ok c) (pos_ev rfl hE)
    · obtain ⟨e, he, hE⟩ := vcheck_no c
      refine ⟨x, y, z, Ev.step (fun k => by rw [sphere_Grow.l0, w64_id (x := 2 * x) (by omega) (by omega), w64_id (x := 2 * y) (by omega) (by omega), w64_id (x := 2 * z) (by omega) (by omega)]) (Ev.bind hE (neg_ev he (Ev.now _))), h, ?_⟩
      refine Classical.byContradiction fun n => c ⟨by omega, by omega, by omega, by omega, by omega, by omega, by omega⟩
theorem grow_ev {x y z : Int} (h : okv x y z) : ∃ X Y Z, Ev (fun k => sphere_Grow.f k x y z) (X, Y, Z) ∧ grown X Y Z := by
  obtain ⟨X, Y, Z, hE, hg⟩ := grow_l0 21 x y z h (by
    obtain ⟨h0, h1, h2, h3, h4, h5, h6⟩ := h
    have : x ≠ 0 ∨ y ≠ 0 ∨ z ≠ 0 := by omega
    rcases this with c | c | c
    · left; omega
    · right; left; omega
    · right; right; omega)
  exact ⟨X, Y, Z, by unfold sphere_Grow.f; exact Ev.bind (vcheck_ok h) (pos_ev rfl hE), hg⟩
theorem grown_sq {X Y Z : Int} (h : grown X Y Z) : 274877906944 ≤ X * X + Y * Y + Z * Z ∧ X * X + Y * Y + Z * Z ≤ 3298534883328 := by
  obtain ⟨⟨h0, h1, h2, h3, h4, h5, h6⟩, g⟩ := h
  have sq : ∀ x : Int, -1048576 ≤ x → x ≤ 1048576 → 0 ≤ x * x ∧ x * x ≤ 1099511627776 ∧ (x < -524288 ∨ 524288 < x → 274877906944 ≤ x * x) := by
    intro x a b
    have e : x * x = (x.natAbs : Int) * x.natAbs := Int.natAbs_mul_self.symm
    have n0 : (0 : Int) ≤ x.natAbs := by omega
    have u := Int.mul_le_mul (show (x.natAbs : Int) ≤ 1048576 by omega) (show (x.natAbs : Int) ≤ 1048576 by omega) n0 (by omega)
    refine ⟨by rw [e]; exact Int.mul_nonneg n0 n0, by rw [e]; omega, fun c => ?_⟩
    have l := Int.mul_le_mul (show 524288 ≤ (x.natAbs : Int) by omega) (show 524288 ≤ (x.natAbs : Int) by omega) (by omega) n0
    rw [e]; omega
  have sx := sq X h0 h1
  have sy := sq Y h2 h3
  have sz := sq Z h4 h5
  generalize X * X = a at *
  generalize Y * Y = b at *
  generalize Z * Z = c at *
  omega
theorem arc_in (l : List Int) {at_ : Int} (hl : l.length ≤ 9223372036854775807) (a0 : 0 ≤ at_) (a1 : at_ < 4000000000000000000) :
    ∃ v at2, spymake_Stream_Arc.f l at_ = some (v, at2) ∧ 0 ≤ v ∧ v < 4294967296 ∧ at_ ≤ at2 ∧ at2 ≤ at_ + 10 := by
  unfold spymake_Stream_Arc.f
  obtain ⟨x, hx, x0, x1⟩ := next_in l (n := 1073741824) hl a0 (by omega) (by decide) (by decide)
  obtain ⟨y, hy, y0, y1⟩ := next_in l (at_ := at_ + 1) (n := 4) hl (by omega) (by omega) (by decide) (by decide)
  obtain ⟨z, hz, z0, z1⟩ := next_in l (at_ := at_ + 1 + 1) (n := 3) hl (by omega) (by omega) (by decide) (by decide)
  rw [hx]; simp only [Option.bind_some]
  rw [hy]; simp only [Option.bind_some]
  rw [hz]; simp only [Option.bind_some]
  by_cases c : z = 0
  · rw [if_pos c]
    obtain ⟨p, hp, p0, p1⟩ := next_in l (at_ := at_ + 1 + 1 + 1) (n := 8) hl (by omega) (by omega) (by decide) (by decide)
    obtain ⟨q, hq, q0, q1⟩ := range_in l (at_ := at_ + 1 + 1 + 1 + 1) (lo := -3) (hi := 3) hl (by omega) (by omega) (by decide) (by decide) (by decide)
    rw [hp]; simp only [Option.bind_some]
    rw [hq]; simp only [Option.bind_some]
    rw [w64_id (x := p * 536870912) (by omega) (by omega), w64_id (x := p * 536870912 + q) (by omega) (by omega), mask32 (by omega) (by omega)]
    exact ⟨_, _, rfl, by omega, by omega, by omega, by omega⟩
  · rw [if_neg c, w64_id (x := x * 4) (by omega) (by omega), w64_id (x := x * 4 + y) (by omega) (by omega), mask32 (by omega) (by omega)]
    exact ⟨_, _, rfl, by omega, by omega, by omega, by omega⟩
theorem slope_in (l : List Int) {at_ : Int} (hl : l.length ≤ 9223372036854775807) (a0 : 0 ≤ at_) (a1 : at_ < 4000000000000000000) :
    ∃ v at2, spymake_Stream_Slope.f l at_ = some (v, at2) ∧ -1073741824 ≤ v ∧ v < 1073741824 ∧ at_ ≤ at2 ∧ at2 ≤ at_ + 10 := by
  unfold spymake_Stream_Slope.f
  obtain ⟨v, at2, e, v0, v1, p0, p1⟩ := arc_in l hl a0 a1
  rw [e]; simp only [Option.bind_some]
  rw [tdiv_eq v0, w64_id (x := v / 2) (by omega) (by omega), w64_id (by omega) (by omega)]
  exact ⟨_, _, rfl, by omega, by omega, p0, p1⟩
theorem site_in (l : List Int) {at_ : Int} (hl : l.length ≤ 9223372036854775807) (a0 : 0 ≤ at_) (a1 : at_ < 1000000000000000000) :
    ∃ lat lon at2, spymake_Stream_Site.f l at_ = some (lat, lon, at2) ∧ -1073741824 ≤ lat ∧ lat < 1073741824 ∧ 0 ≤ lon ∧ lon < 4294967296 ∧ at_ ≤ at2 ∧ at2 ≤ at_ + 20 := by
  unfold spymake_Stream_Site.f
  obtain ⟨v, p, e, v0, v1, p0, p1⟩ := slope_in l (at_ := at_) hl a0 (by omega)
  obtain ⟨w, q, f, w0, w1, q0, q1⟩ := arc_in l (at_ := p) hl (by omega) (by omega)
  rw [e]; simp only [Option.bind_some]
  rw [f]; simp only [Option.bind_some]
  exact ⟨_, _, _, rfl, v0, v1, w0, w1, by omega, by omega⟩
theorem vec_in (l : List Int) {at_ : Int} (hl : l.length ≤ 9223372036854775807) (a0 : 0 ≤ at_) (a1 : at_ < 1000000000000000000) :
    ∃ x y z at2, spymake_Stream_Vec.f l at_ = some (x, y, z, at2) ∧ okv x y z := by
  unfold spymake_Stream_Vec.f
  obtain ⟨w, hw, w0, w1⟩ := next_in l (at_ := at_) (n := 4) hl (by omega) (by omega) (by decide) (by decide)
  simp only [Option.bind_some]
  rw [hw]; simp only [Option.bind_some, List.length_cons, List.length_nil]
  rw [if_pos w0, if_pos (by omega)]
  have er : ∃ g, rd [3, 100, 5000, 1048576] w = g ∧ 3 ≤ g ∧ g ≤ 1048576 := by
    rcases (by omega : w = 0 ∨ w = 1 ∨ w = 2 ∨ w = 3) with h | h | h | h <;> subst h
    · exact ⟨3, rfl, by decide, by decide⟩
    · exact ⟨100, rfl, by decide, by decide⟩
    · exact ⟨5000, rfl, by decide, by decide⟩
    · exact ⟨1048576, rfl, by decide, by decide⟩
  obtain ⟨g, hg, g0, g1⟩ := er
  rw [hg, w64_id (x := -g) (by omega) (by omega)]
  obtain ⟨x, hx, x0, x1⟩ := range_in l (at_ := at_ + 1) (lo := -g) (hi := g) hl (by omega) (by omega) (by omega) (by omega) (by omega)
  obtain ⟨y, hy, y0, y1⟩ := range_in l (at_ := at_ + 1 + 1) (lo := -g) (hi := g) hl (by omega) (by omega) (by omega) (by omega) (by omega)
  obtain ⟨z, hz, z0, z1⟩ := range_in l (at_ := at_ + 1 + 1 + 1) (lo := -g) (hi := g) hl (by omega) (by omega) (by omega) (by omega) (by omega)
  rw [hx]; simp only [Option.bind_some]
  rw [hy]; simp only [Option.bind_some]
  rw [hz]; simp only [Option.bind_some]
  by_cases c : (x == 0 && (y == 0 && (z == 0))) = true
  · rw [if_pos c]
    exact ⟨1, y, z, _, rfl, by omega, by omega, by omega, by omega, by omega, by omega, by omega⟩
  · rw [if_neg c]
    refine ⟨x, y, z, _, rfl, by omega, by omega, by omega, by omega, by omega, by omega, fun n => c ?_⟩
    obtain ⟨rfl, rfl, rfl⟩ := n
    rfl
end Go.Proofs.Ytjgikgbolacikaa.Q
end

section
/- What Aim answers, in plain numbers; the bounds stand in each statement. -/
namespace Go.Proofs.Ytjgikgbolacikaa.Q
open Go.RowKit Go.Proofs.YtjgikgbolacikaaW.PrintWords Go.Proofs.YtjgikgbolacikaaW.PrintLast Go.Proofs.YtjgikgbolacikaaW.PrintMore
set_option linter.unusedVariables false
set_option linter.unusedSimpArgs false
theorem sizes {X Y Z c d S C o E out e u n y : Int} (ho : o = X * c + Y * d) (hE : E = Y * c - X * d)
    (p1 : c * c + d * d ≤ 1152921504606846976 + 2147483648) (p2 : 1152921504606846976 - 2147483648 ≤ c * c + d * d)
    (q1 : S * S + C * C ≤ 1152921504606846976 + 2147483648) (q2 : 1152921504606846976 - 2147483648 ≤ S * S + C * C)
    (S1 : -1073741824 ≤ S) (S2 : S ≤ 1073741824) (C1 : -1073741824 ≤ C) (C2 : C ≤ 1073741824)
    (o1 : out * 1048576 - o ≤ 524288) (o2 : -524288 ≤ out * 1048576 - o) (e1 : e * 1048576 - E ≤ 524288) (e2 : -524288 ≤ e * 1048576 - E)
    (u1 : u * 1073741824 - (Z * 1024 * S + out * C) ≤ 536870912) (u2 : -536870912 ≤ u * 1073741824 - (Z * 1024 * S + out * C))
    (n1 : n * 1073741824 - (Z * 1024 * C - out * S) ≤ 536870912) (n2 : -536870912 ≤ n * 1073741824 - (Z * 1024 * C - out * S))
    (y0 : 549755813888 ≤ y) (y3 : y ≤ 1924145348608) (y2 : (X * X + Y * Y + Z * Z) * 1099511627776 ≤ (y + 1) * (y + 1)) :
    (-2113929217 ≤ u ∧ u ≤ 2113929217) ∧ (-2113929217 ≤ n ∧ n ≤ 2113929217) ∧ (-2113929217 ≤ e ∧ e ≤ 2113929217) := by
  obtain ⟨b1, b2⟩ := rot_err (Z := Z) ho hE p1 p2 q1 q2
  have gc := pr_bd (x := out * 1048576 - o) C1 C2
  have gs := pr_bd (x := out * 1048576 - o) S1 S2
  have iu : u * 1125899906842624 - (Z * 1073741824 * S + C * o) = 1048576 * (u * 1073741824 - (Z * 1024 * S + out * C)) + (out * 1048576 - o) * C := by grind
  have jn : n * 1125899906842624 - (Z * 1073741824 * C - S * o) = 1048576 * (n * 1073741824 - (Z * 1024 * C - out * S)) - (out * 1048576 - o) * S := by grind
  have ga : ((out * 1048576 - o).natAbs : Int) ≤ 524288 := by omega
  have N0 : 0 ≤ X * X + Y * Y + Z * Z := by have := sq0 X; have := sq0 Y; have := sq0 Z; omega
  have EE := sq0 E
  generalize hU : Z * 1073741824 * S + C * o = U at *
  generalize hV : Z * 1073741824 * C - S * o = V at *
  have UU := sq0 U
  have VV := sq0 V
  have fE : 1073741824 * E * (1073741824 * E) = 1152921504606846976 * (E * E) := by grind
  have sU := size_of (a := U) y0 y2 (by omega)
  have sV := size_of (a := V) y0 y2 (by omega)
  have sE := size_of (a := 1073741824 * E) y0 y2 (by omega)
  clear b1 b2 y2 N0 EE UU VV fE hU hV hE ho
  generalize ((out * 1048576 - o).natAbs : Int) = t0 at *
  refine ⟨?_, ?_, ?_⟩
  · clear jn n1 n2 e1 e2 sE sV gs
    generalize (out * 1048576 - o) * C = t1 at *
    generalize u * 1073741824 - (Z * 1024 * S + out * C) = t2 at *
    omega
  · clear iu u1 u2 e1 e2 sE sU gc
    generalize (out * 1048576 - o) * S = t1 at *
    generalize n * 1073741824 - (Z * 1024 * C - out * S) = t2 at *
    omega
  · omega
theorem or_api_two : Ev (fun k => cmp_Or_api_Errno.f k [0, 0]) 0 := Ev.of (fun k => cmp_Or_api_Errno.mono _ k) (k := 8) (by decide +kernel)
theorem site_ok {lat lon : Int} (l0 : -1073741824 ≤ lat) (l1 : lat ≤ 1073741824) (g0 : 0 ≤ lon) (g1 : lon < 4294967296) : horizon_CheckSite.f lat lon = some 0 := by
  unfold horizon_CheckSite.f
  rw [if_neg (by omega), if_neg (by omega), if_neg (by omega), if_neg (by omega)]
theorem pb {x a m : Int} (x0 : -1048576 ≤ x) (x1 : x ≤ 1048576) (a0 : -m ≤ a) (a1 : a ≤ m) : -(1048576 * m) ≤ x * a ∧ x * a ≤ 1048576 * m := by
  have h := pr_bd (x := x) a0 a1
  have m0 : 0 ≤ m := by omega
  have := Int.mul_le_mul_of_nonneg_left (show (x.natAbs : Int) ≤ 1048576 by omega) m0
  generalize m * (x.natAbs : Int) = t at *
  omega
theorem sqs {n e : Int} (n0 : -2113929217 ≤ n ∧ n ≤ 2113929217) (e0 : -2113929217 ≤ e ∧ e ≤ 2113929217) : 0 ≤ n * n ∧ n * n ≤ 4468696734488293089 ∧ 0 ≤ e * e ∧ e * e ≤ 4468696734488293089 := by
  have a := le_sq n0.1 n0.2
  have b := le_sq e0.1 e0.2
  omega
theorem Aim_ev {lat lon turn vx vy vz X Y Z c d S C out e u n w az er : Int} (l0 : -1073741824 ≤ lat) (l1 : lat ≤ 1073741824) (g0 : 0 ≤ lon) (g1 : lon < 4294967296)
    (t0 : -9223372036854775808 ≤ turn) (t1 : turn < 9223372036854775808) (hv : okv vx vy vz) (hG : Ev (fun k => sphere_Grow.f k vx vy vz) (X, Y, Z)) (g : okv X Y Z)
    (hc : cs (turn % 4294967296 + lon) = c) (hd : sn (turn % 4294967296 + lon) = d) (hC : cs lat = C) (hS : sn lat = S)
    (ho : rq (X * c + Y * d) 1048576 = out) (he : rq (Y * c - X * d) 1048576 = e) (hu : rq (Z * 1024 * S + out * C) 1073741824 = u) (hn : rq (Z * 1024 * C - out * S) 1073741824 = n)
    (hz : Ev (fun k => trig_Atan2.f k e n) (az, er)) (hw : Ev (fun k => num_SqrtMul.f k (n * n + e * e) 1) w) (w0 : 0 ≤ w) (w1 : w ≤ 4294967296)
    (bu : -2113929217 ≤ u ∧ u ≤ 2113929217) (bn : -2113929217 ≤ n ∧ n ≤ 2113929217) (be : -2113929217 ≤ e ∧ e ≤ 2113929217) (nz : w ≠ 0 ∨ u ≠ 0) :
    Ev (fun k => horizon_Aim.f k lat lon turn vx vy vz) (az, alt (at2 u w), 0) := by
  obtain ⟨x0, x1, y0, y1, z0, z1, -⟩ := g
  have bc := cs_bd (turn % 4294967296 + lon)
  have bd := sn_bd (turn % 4294967296 + lon)
  have bC := cs_bd lat
  have bS := sn_bd lat
  rw [hc] at bc
  rw [hd] at bd
  rw [hC] at bC
  rw [hS] at bS
  have p1 := pb x0 x1 (m := 1073741824) bc.1 bc.2
  have p2 := pb y0 y1 (m := 1073741824) bd.1 bd.2
  have p3 := pb y0 y1 (m := 1073741824) bc.1 bc.2
  have p4 := pb x0 x1 (m := 1073741824) bd.1 bd.2
  have p5 := pb z0 z1 (m := 1099511627776) (a := 1024 * S) (by omega) (by omega)
  have p6 := pb z0 z1 (m := 1099511627776) (a := 1024 * C) (by omega) (by omega)
  rw [← Int.mul_assoc] at p5 p6
  have no := rq_near (a := X * c + Y * d) (b := 1048576) (by decide)
  rw [ho] at no
  have bo : -2147483649 ≤ out ∧ out ≤ 2147483649 := by omega
  have p7 := pr_bd (x := out) (a := C) bC.1 bC.2
  have p8 := pr_bd (x := out) (a := S) bS.1 bS.2
  have p9 : (out.natAbs : Int) ≤ 2147483649 := by omega
  have s := sqs bn be
  unfold horizon_Aim.f horizon_Aim_1__trig_Cos.f horizon_Aim_1__trig_Sin.f num_Sqrt.f
  refine some_ev (site_ok l0 l1 g0 g1) (Ev.bind (vcheck_ok hv) (Ev.bind or_api_two (pos_ev rfl (Ev.bind hG ?_))))
  rw [mask32 t0 t1, w64_id (x := turn % 4294967296 + lon) (by omega) (by omega)]
  refine Ev.bind (Ev.bind (cos_ev (by omega) (by omega)) (Ev.now _)) (Ev.bind (Ev.bind (sin_ev (by omega) (by omega)) (Ev.now _)) ?_)
  simp only
  rw [hc, hd, w64_id (x := X * c) (by omega) (by omega), w64_id (x := Y * d) (by omega) (by omega), w64_id (x := X * c + Y * d) (by omega) (by omega), w64_id (x := Y * c) (by omega) (by omega), w64_id (x := X * d) (by omega) (by omega), w64_id (x := Y * c - X * d) (by omega) (by omega)]
  refine Ev.bind (rq_ev (by decide) (by decide) (by omega) (by omega)) (Ev.bind (rq_ev (by decide) (by decide) (by omega) (by omega)) ?_)
  refine Ev.bind (Ev.bind (cos_ev (by omega) (by omega)) (Ev.now _)) (Ev.bind (Ev.bind (sin_ev (by omega) (by omega)) (Ev.now _)) ?_)
  rw [ho, he, hC, hS, w64_id (x := Z * 1024) (by omega) (by omega), w64_id (x := Z * 1024 * S) (by omega) (by omega), w64_id (x := out * C) (by omega) (by omega), w64_id (x := Z * 1024 * S + out * C) (by omega) (by omega), w64_id (x := Z * 1024 * C) (by omega) (by omega), w64_id (x := out * S) (by omega) (by omega), w64_id (x := Z * 1024 * C - out * S) (by omega) (by omega)]
  refine Ev.bind (rq_ev (by decide) (by decide) (by omega) (by omega)) (Ev.bind (rq_ev (by decide) (by decide) (by omega) (by omega)) ?_)
  rw [hu, hn, w64_id (x := n * n) (by omega) (by omega), w64_id (x := e * e) (by omega) (by omega), w64_id (x := n * n + e * e) (by omega) (by omega)]
  refine Ev.bind hz (Ev.bind (Ev.bind hw (Ev.now _)) (Ev.bind (atan2_ev (by omega) (by omega) (by omega) (by omega) nz) ?_))
  simp only
  have ab : 0 ≤ at2 u w ∧ at2 u w < 4294967296 := by unfold at2; omega
  unfold alt
  by_cases c : at2 u w > 2147483648
  · refine pos_ev c (one_ev fun k => ?_)
    rw [if_pos c, horizon_Aim.j0, w64_id (by omega) (by omega)]
  · refine neg_ev c (one_ev fun k => ?_)
    rw [if_neg c, horizon_Aim.j0]
theorem horizonFact_ev : Ev (fun k => spykeep1_horizonFact.f k) true := Ev.of (fun k => spykeep1_horizonFact.mono k) (k := 200) (by decide +kernel)
end Go.Proofs.Ytjgikgbolacikaa.Q
end

section
/- What Height answers at an instant, in plain numbers; the bounds stand in each statement. -/
namespace Go.Proofs.Ytjgikgbolacikaa.Q
open Go.RowKit Go.Proofs.YtjgikgbolacikaaW.PrintWords Go.Proofs.YtjgikgbolacikaaW.PrintLast Go.Proofs.YtjgikgbolacikaaW.PrintMore
set_option linter.unusedVariables false
set_option linter.unusedSimpArgs false
theorem mb {x a p m : Int} (x0 : -p ≤ x) (x1 : x ≤ p) (a0 : -m ≤ a) (a1 : a ≤ m) : -(p * m) ≤ x * a ∧ x * a ≤ p * m := by
  have h := pr_bd (x := x) a0 a1
  have m0 : 0 ≤ m := by omega
  have := Int.mul_le_mul_of_nonneg_right (show (x.natAbs : Int) ≤ p by omega) m0
  rw [Int.mul_comm m] at h
  omega
theorem wave_box {f : Int → Int} {p a x : Int} (x0 : -1073741824 ≤ x) (x1 : x ≤ 1073741824) (h0 : f a - 1 ≤ x) (h1 : x ≤ f a + 1) : wlo f p a a ≤ x ∧ x ≤ whi f p a a := by
  unfold wlo whi mx mn
  constructor <;> (repeat' split) <;> omega
/-- What is turned by points within the circle does not grow. -/
theorem no_more {X Y Z c d S C y : Int} (p : c * c + d * d ≤ 1152921504606846976) (q : S * S + C * C ≤ 1152921504606846976) (y0 : 0 ≤ y) (h : (X * X + Y * Y + Z * Z) * 1099511627776 ≤ y * y) :
    -(1099511627776 * y) ≤ Z * 1073741824 * S + C * (X * c + Y * d) ∧ Z * 1073741824 * S + C * (X * c + Y * d) ≤ 1099511627776 * y := by
  refine le_of_sq (by omega) ?_
  generalize ho : X * c + Y * d = o
  have i1 : (Z * 1073741824 * S + C * o) * (Z * 1073741824 * S + C * o) + (Z * 1073741824 * C - S * o) * (Z * 1073741824 * C - S * o) = (S * S + C * C) * (1152921504606846976 * (Z * Z) + o * o) := by grind
  have i2 : o * o + (Y * c - X * d) * (Y * c - X * d) = (c * c + d * d) * (X * X + Y * Y) := by rw [← ho]; grind
  have i3 : 1099511627776 * y * (1099511627776 * y) = 1208925819614629174706176 * (y * y) := by grind
  have VV := sq0 (Z * 1073741824 * C - S * o)
  have EE := sq0 (Y * c - X * d)
  have ZZ := sq0 Z
  have oo := sq0 o
  have XX := sq0 X
  have YY := sq0 Y
  rw [i3]
  have w1 : (S * S + C * C) * (1152921504606846976 * (Z * Z) + o * o) ≤ 1152921504606846976 * (1152921504606846976 * (Z * Z) + o * o) := Int.mul_le_mul_of_nonneg_right q (by omega)
  have w2 : (c * c + d * d) * (X * X + Y * Y) ≤ 1152921504606846976 * (X * X + Y * Y) := Int.mul_le_mul_of_nonneg_right p (by omega)
  generalize (Z * 1073741824 * S + C * o) * (Z * 1073741824 * S + C * o) = t1 at *
  generalize (Z * 1073741824 * C - S * o) * (Z * 1073741824 * C - S * o) = t2 at *
  generalize (S * S + C * C) * (1152921504606846976 * (Z * Z) + o * o) = t3 at *
  generalize (Y * c - X * d) * (Y * c - X * d) = t4 at *
  generalize (c * c + d * d) * (X * X + Y * Y) = t5 at *
  generalize Z * Z = t6 at *
  generalize o * o = t7 at *
  generalize X * X = t8 at *
  generalize Y * Y = t9 at *
  generalize y * y = t10 at *
  omega
theorem meet_ev {lo hi : Int} (h0 : -1152921504606846976 ≤ lo) (h : lo ≤ hi) (h1 : hi ≤ 1152921504606846976) (a : lo ≤ 1073741824) (b : -1073741824 ≤ hi) :
    Ev (fun k => bound_Meet_api_Fix.f k lo hi false (-1073741824) 1073741824 false) (mx lo (-1073741824), mn hi 1073741824, false, true) := by
  have n1 := norm_api_Fix lo hi false
  rw [nb_ok h0 h h1] at n1
  have n2 := norm_api_Fix (-1073741824) 1073741824 false
  rw [nb_ok (by decide) (by decide) (by decide)] at n2
  have e1 := le_mx lo (-1073741824)
  have e2 := mn_le hi 1073741824
  unfold bound_Meet_api_Fix.f
  refine Ev.bind n1 (Ev.bind n2 (neg_ev (fun e_ => Bool.noConfusion e_) (neg_ev (fun e_ => Bool.noConfusion e_) (neg_ev ?_ ?_))))
  · simp only; omega
  · simp only
    exact Ev.bind (of_t (by omega) (by omega) (by omega)) (Ev.now _)
theorem Height_ev {lat a vx vy vz X Y Z : Int} (l0 : -1073741824 ≤ lat) (l1 : lat ≤ 1073741824) (a0 : -1152921504606846976 ≤ a) (a1 : a ≤ 1152921504606846976) (hv : okv vx vy vz) (hG : Ev (fun k => sphere_Grow.f k vx vy vz) (X, Y, Z)) (g : grown X Y Z) :
    ∃ lo hi y, (∀ lon t : Int, 0 ≤ lon → lon < 4294967296 → 0 ≤ t → t < 17179869184 → t + lon = a → Ev (fun k => horizon_Height.f k lat lon t t false vx vy vz) (lo, hi, false)) ∧
      549755813888 ≤ y ∧ y ≤ 1924145348608 ∧ y * y ≤ (X * X + Y * Y + Z * Z) * 1099511627776 ∧ (X * X + Y * Y + Z * Z) * 1099511627776 ≤ (y + 1) * (y + 1) ∧ -1073741824 ≤ lo ∧ hi ≤ 1073741824 ∧ lo ≤ 1073741824 ∧ -1073741824 ≤ hi ∧
      (lo = -1073741824 ∨ lo * y * 1024 ≤ Z * 1073741824 * sn lat + cs lat * (X * cs a + Y * sn a)) ∧ (hi = 1073741824 ∨ Z * 1073741824 * sn lat + cs lat * (X * cs a + Y * sn a) ≤ hi * y * 1024) := by
  obtain ⟨sq1, sq2⟩ := grown_sq g
  obtain ⟨⟨x0, x1, y0, y1, z0, z1, -⟩, -⟩ := g
  have wc := wave_bd wave_cs a a
  have ws := wave_bd wave_sn a a
  have wC := wave_bd wave_cs lat lat
  have wS := wave_bd wave_sn lat lat
  have E1 := wave_Cos (lo := a) (hi := a) a0 (Int.le_refl a) a1
  have E2 := wave_Sin (lo := a) (hi := a) a0 (Int.le_refl a) a1
  have E3 := wave_Cos (lo := lat) (hi := lat) (by omega) (Int.le_refl lat) (by omega)
  have E4 := wave_Sin (lo := lat) (hi := lat) (by omega) (Int.le_refl lat) (by omega)
  -- a point in the circle
  have bca := cs_bd a
  have bsa := sn_bd a
  have bcl := cs_bd lat
  have bsl := sn_bd lat
  have ca := circle a
  have cl := circle lat
  obtain ⟨c', d', k1, k2, k3, k4, k5, k6, k7, k8, k9⟩ := in_circle (c := cs a) (d := sn a) bca.1 bca.2 bsa.1 bsa.2 (by omega) (by omega)
  obtain ⟨C', S', m1, m2, m3, m4, m5, m6, m7, m8, m9⟩ := in_circle (c := cs lat) (d := sn lat) bcl.1 bcl.2 bsl.1 bsl.2 (by omega) (by omega)
  have v1 := wave_box (f := cs) (p := 0) (a := a) bca.1 bca.2 (by omega) (by omega)
  have v2 := wave_box (f := sn) (p := 1073741824) (a := a) bsa.1 bsa.2 (by omega) (by omega)
  have v3 := wave_box (f := cs) (p := 0) (a := lat) bcl.1 bcl.2 (by omega) (by omega)
  have v4 := wave_box (f := sn) (p := 1073741824) (a := lat) bsl.1 bsl.2 (by omega) (by omega)
  have v1' := wave_box (f := cs) (p := 0) (a := a) k3 k4 k1 k2
  have v2' := wave_box (f := sn) (p := 1073741824) (a := a) k7 k8 k5 k6
  have v3' := wave_box (f := cs) (p := 0) (a := lat) m3 m4 m1 m2
  have v4' := wave_box (f := sn) (p := 1073741824) (a := lat) m7 m8 m5 m6
  generalize wlo cs 0 a a = cL at *
  generalize whi cs 0 a a = cH at *
  generalize wlo sn 1073741824 a a = dL at *
  generalize whi sn 1073741824 a a = dH at *
  generalize wlo cs 0 lat lat = CL at *
  generalize whi cs 0 lat lat = CH at *
  generalize wlo sn 1073741824 lat lat = SL at *
  generalize whi sn 1073741824 lat lat = SH at *
  obtain ⟨A0, A1, EA, A2, A3, A4, AA⟩ := scale_g (a0 := cL) (a1 := cH) (n := X) (M := 1125899906842624) (by decide) (by omega) (by omega) (by omega) (by omega) (by omega) (fun x h0 h1 => mb (x := x) (a := X) (p := 1073741824) (m := 1048576) (by omega) (by omega) x0 x1)
  obtain ⟨B0, B1, EB, B2, B3, B4, BB⟩ := scale_g (a0 := dL) (a1 := dH) (n := Y) (M := 1125899906842624) (by decide) (by omega) (by omega) (by omega) (by omega) (by omega) (fun x h0 h1 => mb (x := x) (a := Y) (p := 1073741824) (m := 1048576) (by omega) (by omega) y0 y1)
  obtain ⟨G0, G1, EG, G2, G3, G4, GG⟩ := scale_g (a0 := SL) (a1 := SH) (n := Z) (M := 1125899906842624) (by decide) (by omega) (by omega) (by omega) (by omega) (by omega) (fun x h0 h1 => mb (x := x) (a := Z) (p := 1073741824) (m := 1048576) (by omega) (by omega) z0 z1)
  obtain ⟨H0, H1, EH, H2, H3, H4, HH⟩ := mul_g (a0 := CL) (a1 := CH) (b0 := A0 + B0) (b1 := A1 + B1) (u := 1073741824) (M := 2251799813685248) (by decide) (by decide) (by decide) (by omega) (by omega) (by omega) (by omega) (by omega) (by omega) (fun x y b => by
    obtain ⟨b0, b1, b2, b3⟩ := b
    have p := mb (x := x) (a := y) (p := 1073741824) (m := 2251799813685248) (by omega) (by omega) (by omega) (by omega)
    exact ⟨by omega, uq_hi (by decide) (by omega)⟩)
  have sqX := sq0 X
  have sqY := sq0 Y
  have sqZ := sq0 Z
  obtain ⟨r0, r1, ER, R0, R1, R2, R3, R4, R5, R6⟩ := root_g (a := X * X + Y * Y + Z * Z) (u := 1099511627776) (T := 1924145348608) (by decide) (by decide) (by omega) (by omega) (by decide) (by decide) (by omega)
  have big : 549755813888 ≤ r0 := by
    by_cases h : 549755813888 ≤ r0
    · exact h
    · have := Int.mul_le_mul (show r0 + 1 ≤ 549755813888 by omega) (show r0 + 1 ≤ 549755813888 by omega) (by omega) (by decide)
      omega
  have sm : r0 ≤ 1924145348608 := by
    by_cases h : r0 ≤ 1924145348608
    · exact h
    · have := Int.mul_le_mul (show 1924145348609 ≤ r0 by omega) (show 1924145348609 ≤ r0 by omega) (by decide) R0
      omega
  obtain ⟨D0, D1, ED, D2, D3, D4, DD⟩ := div_g (a0 := G0 + H0) (a1 := G1 + H1) (b0 := r0) (b1 := r1) (u := 1048576) (M := 8589934592) (by decide) (by decide) (by decide) (by omega) (by omega) (by omega) (by omega) R1 (by omega) (fun x y b => by
    obtain ⟨b0, b1, b2, b3⟩ := b
    exact ⟨by rw [Int.le_ediv_iff_mul_le (by omega)]; omega, uq_hi (by omega) (by omega)⟩)
  -- what the bound holds
  have cont : ∀ x z s q yy : Int, cL ≤ x → x ≤ cH → dL ≤ z → z ≤ dH → SL ≤ s → s ≤ SH → CL ≤ q → q ≤ CH → (yy = r0 ∨ yy = r1) → D0 * yy * 1024 ≤ Z * 1073741824 * s + q * (X * x + Y * z) ∧ Z * 1073741824 * s + q * (X * x + Y * z) ≤ D1 * yy * 1024 := by
    intro x z s q yy h1 h2 h3 h4 h5 h6 h7 h8 hy
    have f1 := AA x h1 h2
    have f2 := BB z h3 h4
    have f3 := GG s h5 h6
    have f4 := HH.all q (x * X + z * Y) ⟨h7, h8, by omega, by omega⟩
    try simp only at f4
    have f5 := uq_mul (v := q * (x * X + z * Y)) (d := 1073741824) (by decide)
    have e1 : Z * 1073741824 * s + q * (X * x + Y * z) = 1073741824 * (s * Z) + q * (x * X + z * Y) := by grind
    rw [e1]
    have yb : r0 ≤ yy ∧ yy ≤ r1 := by omega
    have g1 := (DD.all (G0 + H0) yy ⟨Int.le_refl _, by omega, yb.1, yb.2⟩).1
    have g2 := (DD.all (G1 + H1) yy ⟨by omega, Int.le_refl _, yb.1, yb.2⟩).2
    try simp only at g1 g2
    rw [Int.le_ediv_iff_mul_le (by omega)] at g1
    have g3 := uq_mul (v := (G1 + H1) * 1048576) (d := yy) (by omega)
    have g4 := Int.mul_le_mul_of_nonneg_right g2 (show 0 ≤ yy by omega)
    generalize q * (x * X + z * Y) = t1 at *
    generalize s * Z = t2 at *
    generalize D0 * yy = t3 at *
    generalize D1 * yy = t4 at *
    constructor <;> omega
  have in1 := cont (cs a) (sn a) (sn lat) (cs lat) r0 v1.1 v1.2 v2.1 v2.2 v4.1 v4.2 v3.1 v3.2 (.inl rfl)
  have in2 := cont c' d' S' C' r1 v1'.1 v1'.2 v2'.1 v2'.2 v4'.1 v4'.2 v3'.1 v3'.2 (.inr rfl)
  have nm := no_more (X := X) (Y := Y) (Z := Z) (c := c') (d := d') (S := S') (C := C') (y := r1) k9 (by omega) (by omega) R5
  have r1p : 0 < r1 := by omega
  have le1 : D0 ≤ 1073741824 := by
    have : D0 * r1 ≤ 1073741824 * r1 := by omega
    exact Int.le_of_mul_le_mul_right this r1p
  have le2 : -1073741824 ≤ D1 := by
    have : -1073741824 * r1 ≤ D1 * r1 := by omega
    exact Int.le_of_mul_le_mul_right this r1p
  have M := meet_ev (lo := D0) (hi := D1) (by omega) D3 (by omega) le1 le2
  have w1 := le_mx D0 (-1073741824)
  have w2 := mn_le D1 1073741824
  refine ⟨mx D0 (-1073741824), mn D1 1073741824, r0, ?_, big, sm, R3, by omega, by omega, by omega, by omega, by omega, ?_, ?_⟩
  · intro lon t g0 g1 t0 t1 ht
    have AD := addk_api_Arc (lo := t) (hi := t) (lo2 := lon) (hi2 := lon) (by omega) (by omega) (by omega) (by omega) (by omega) (by omega)
    rw [ht] at AD
    have X2 := mb (x := X) (a := X) (p := 1048576) (m := 1048576) x0 x1 x0 x1
    have Y2 := mb (x := Y) (a := Y) (p := 1048576) (m := 1048576) y0 y1 y0 y1
    have Z2 := mb (x := Z) (a := Z) (p := 1048576) (m := 1048576) z0 z1 z0 z1
    unfold horizon_Height.f
    refine some_ev (site_ok l0 l1 g0 g1) (Ev.bind (vcheck_ok hv) (Ev.bind or_api_two (pos_ev rfl (Ev.bind hG ?_))))
    refine Ev.bind (exact_api_Arc (by omega) (by omega)) (Ev.bind AD (Ev.bind (exact_api_Arc (v := lat) (by omega) (by omega)) ?_))
    refine Ev.bind E1 (Ev.bind EA (Ev.bind E2 (Ev.bind EB ?_)))
    refine Ev.bind (addk_api_Fix (lo := A0) (hi := A1) (lo2 := B0) (hi2 := B1) (by omega) A3 (by omega) (by omega) B3 (by omega)) ?_
    refine Ev.bind E4 (Ev.bind EG (Ev.bind E3 (Ev.bind EH ?_)))
    refine Ev.bind (addk_api_Fix (lo := G0) (hi := G1) (lo2 := H0) (hi2 := H1) (by omega) G3 (by omega) (by omega) H3 (by omega)) ?_
    simp only
    rw [w64_id (x := X * X) (by omega) (by omega), w64_id (x := Y * Y) (by omega) (by omega), w64_id (x := Z * Z) (by omega) (by omega), w64_id (x := X * X + Y * Y) (by omega) (by omega), w64_id (x := X * X + Y * Y + Z * Z) (by omega) (by omega)]
    refine Ev.bind (exact_api_Fix (by omega) (by omega)) (Ev.bind ER (Ev.bind ED (neg_ev (fun e_ => Bool.noConfusion e_) ?_)))
    exact Ev.bind (of_t (by decide) (by decide) (by decide)) (Ev.bind M (Ev.now _))
  · rcases w1.2.2 with e | e
    · right; rw [e]; exact in1.1
    · left; exact e
  · rcases w2.2.2 with e | e
    · right; rw [e]; exact in1.2
    · left; exact e
end Go.Proofs.Ytjgikgbolacikaa.Q
end

section
/- HorizonAimed in plain numbers: for every stream of numbers the printed function answers true; no other condition. -/
namespace Go.Proofs.Ytjgikgbolacikaa.Pure
open Go.RowKit Go.Proofs.Ytjgikgbolacikaa.Q Go.Proofs.YtjgikgbolacikaaW.PrintWords Go.Proofs.YtjgikgbolacikaaW.PrintLast
set_option linter.unusedVariables false
set_option linter.unusedSimpArgs false
theorem cs_mod {a b : Int} (h : a % 4294967296 = b % 4294967296) : cs a = cs b := by rw [cs_sn, cs_sn]; exact sn_mod (by omega)
theorem atan2_any {y x : Int} (y0 : -4294967296 ≤ y) (y1 : y ≤ 4294967296) (x0 : -4294967296 ≤ x) (x1 : x ≤ 4294967296) : ∃ az er, Ev (fun k => trig_Atan2.f k y x) (az, er) := by
  by_cases h : x ≠ 0 ∨ y ≠ 0
  · exact ⟨_, _, atan2_ev y0 y1 x0 x1 h⟩
  · have hx : x = 0 := by omega
    have hy : y = 0 := by omega
    subst hx hy
    exact ⟨0, 8, Ev.of (fun k => trig_Atan2.mono 0 0 k) (k := 2) (by decide +kernel)⟩
/-- The numbers of one pose, and how far its sine can be from the exact height. -/
theorem pose {lat a X Y Z y : Int} (g : grown X Y Z) (y0 : 549755813888 ≤ y) (y3 : y ≤ 1924145348608) (y1 : y * y ≤ (X * X + Y * Y + Z * Z) * 1099511627776) (y2 : (X * X + Y * Y + Z * Z) * 1099511627776 ≤ (y + 1) * (y + 1)) :
    ∃ out e u n w az er : Int, rq (X * cs a + Y * sn a) 1048576 = out ∧ rq (Y * cs a - X * sn a) 1048576 = e ∧ rq (Z * 1024 * sn lat + out * cs lat) 1073741824 = u ∧ rq (Z * 1024 * cs lat - out * sn lat) 1073741824 = n ∧
      Ev (fun k => trig_Atan2.f k e n) (az, er) ∧ Ev (fun k => num_SqrtMul.f k (n * n + e * e) 1) w ∧ 0 ≤ w ∧ w ≤ 4294967296 ∧ (-2113929217 ≤ u ∧ u ≤ 2113929217) ∧ (-2113929217 ≤ n ∧ n ≤ 2113929217) ∧ (-2113929217 ≤ e ∧ e ≤ 2113929217) ∧ (w ≠ 0 ∨ u ≠ 0) ∧
      sn (alt (at2 u w)) * y * 1024 ≤ Z * 1073741824 * sn lat + cs lat * (X * cs a + Y * sn a) + 40 * 1024 * y ∧ Z * 1073741824 * sn lat + cs lat * (X * cs a + Y * sn a) - 40 * 1024 * y ≤ sn (alt (at2 u w)) * y * 1024 := by
  have ca := circle a
  have cl := circle lat
  have bS := sn_bd lat
  have bC := cs_bd lat
  have no := rq_near (a := X * cs a + Y * sn a) (b := 1048576) (by decide)
  have ne := rq_near (a := Y * cs a - X * sn a) (b := 1048576) (by decide)
  generalize ho : rq (X * cs a + Y * sn a) 1048576 = out at *
  generalize he : rq (Y * cs a - X * sn a) 1048576 = e at *
  have nu := rq_near (a := Z * 1024 * sn lat + out * cs lat) (b := 1073741824) (by decide)
  have nn := rq_near (a := Z * 1024 * cs lat - out * sn lat) (b := 1073741824) (by decide)
  generalize hu : rq (Z * 1024 * sn lat + out * cs lat) 1073741824 = u at *
  generalize hn : rq (Z * 1024 * cs lat - out * sn lat) 1073741824 = n at *
  obtain ⟨z1, z2, z3⟩ := sizes (X := X) (Y := Y) (Z := Z) (c := cs a) (d := sn a) (S := sn lat) (C := cs lat) (out := out) (e := e) (u := u) (n := n) (y := y) rfl rfl (by omega) (by omega) (by omega) (by omega) bS.1 bS.2 bC.1 bC.2 (by omega) (by omega) (by omega) (by omega) (by omega) (by omega) (by omega) (by omega) y0 y3 y2
  have sq := sqs z2 z3
  obtain ⟨w, hw, w0, w1, w2, w3⟩ := sqrt_ev (a := n * n + e * e) (b := 1) (by omega) (by omega) (by decide) (by decide)
  rw [Int.mul_one] at w2 w3
  obtain ⟨r1, r2, a1, a2⟩ := rot_near (X := X) (Y := Y) (Z := Z) (c := cs a) (d := sn a) (S := sn lat) (C := cs lat) (out := out) (e := e) (u := u) (n := n) (y := y) (w := w) rfl rfl (by omega) (by omega) (by omega) (by omega) bS.1 bS.2 bC.1 bC.2 (by omega) (by omega) (by omega) (by omega) (by omega) (by omega) (by omega) (by omega) w0 w2 w3 y0 y1 y2
  have yb : 549755813888 * y ≤ y * y := Int.mul_le_mul_of_nonneg_right y0 (by omega)
  have sw : w ≤ 4294967296 := by
    refine (le_of_sq (by decide) ?_).2
    omega
  have nz : w ≠ 0 ∨ u ≠ 0 := by
    refine Classical.byContradiction fun h => ?_
    have hw0 : w = 0 := by omega
    have hu0 : u = 0 := by omega
    rw [hw0, hu0] at r2
    omega
  obtain ⟨az, er, hz⟩ := atan2_any (y := e) (x := n) (by omega) (by omega) (by omega) (by omega)
  obtain ⟨d0, d1, d2⟩ := alt_near (u := u) (w := w) w0
  have cp := circle (alt (at2 u w))
  obtain ⟨f1, f2⟩ := pose_near (X := X) (Y := Y) (Z := Z) (c := cs a) (d := sn a) (S := sn lat) (C := cs lat) (out := out) (e := e) (u := u) (n := n) (y := y) (w := w) (s := sn (alt (at2 u w))) (K := cs (alt (at2 u w))) rfl rfl (by omega) (by omega) (by omega) (by omega) bS.1 bS.2 bC.1 bC.2 (by omega) (by omega) (by omega) (by omega) (by omega) (by omega) (by omega) (by omega) w0 w2 w3 y0 y1 y2 (by omega) (by omega) d0 d1 d2
  exact ⟨out, e, u, n, w, az, er, rfl, rfl, hu, hn, hz, hw, w0, sw, z1, z2, z3, nz, f1, f2⟩
theorem HorizonAimed : spykeep1_HorizonAimed.Pure := by
  intro l0 hl _ _
  have hl' : l0.length ≤ 9223372036854775807 := Nat.le_trans hl (by decide)
  refine Ev.rounds (r := true) ?_
  obtain ⟨lat, lon, p, hs, l0', l1, g0, g1, p0, p1⟩ := site_in l0 (at_ := 0) hl' (by decide) (by decide)
  obtain ⟨turn, p2, ha, t0, t1, q0, q1⟩ := arc_in l0 (at_ := p) hl' (by omega) (by omega)
  obtain ⟨x, y, z, p3, hv, ok⟩ := vec_in l0 (at_ := p2) hl' (by omega) (by omega)
  obtain ⟨X, Y, Z, hG, g⟩ := grow_ev ok
  obtain ⟨lo, hi, yy, hH, y0, y3, y1, y2, b0, b1, b2, b3, c0, c1⟩ := Height_ev (lat := lat) (a := turn + lon) (by omega) (by omega) (by omega) (by omega) ok hG g
  obtain ⟨out, e, u, n, w, az, er, ho, he, hu, hn, hz, hw, w0, w1, bu, bn, be, nz, f1, f2⟩ := pose (lat := lat) (a := turn + lon) g y0 y3 y1 y2
  have A1 := Aim_ev (lat := lat) (lon := lon) (turn := turn) (by omega) (by omega) g0 g1 (by omega) (by omega) ok hG g.1 (cs_mod (by omega)) (sn_mod (by omega)) rfl rfl ho he hu hn hz hw w0 w1 bu bn be nz
  have A2 := Aim_ev (lat := lat) (lon := 0) (turn := turn + lon) (by omega) (by omega) (by decide) (by decide) (by omega) (by omega) ok hG g.1 (cs_mod (a := (turn + lon) % 4294967296 + 0) (b := turn + lon) (by omega)) (sn_mod (a := (turn + lon) % 4294967296 + 0) (b := turn + lon) (by omega)) rfl rfl ho he hu hn hz hw w0 w1 bu bn be nz
  have H1 := hH lon turn g0 g1 t0 (by omega) rfl
  have H2 := hH 0 (turn + lon) (by decide) (by decide) (by omega) (by omega) (by omega)
  have sb := sn_bd (alt (at2 u w))
  have ab : 0 ≤ at2 u w ∧ at2 u w < 4294967296 := by unfold at2; omega
  have al : -4294967296 ≤ alt (at2 u w) ∧ alt (at2 u w) ≤ 4294967296 := by unfold alt; split <;> omega
  generalize Z * 1073741824 * sn lat + cs lat * (X * cs (turn + lon) + Y * sn (turn + lon)) = U at *
  generalize hs' : sn (alt (at2 u w)) = s at *
  have low : s ≥ lo - 40 := by
    rcases c0 with h | h
    · omega
    · have : (lo - 40) * (yy * 1024) ≤ s * (yy * 1024) := by
        have e1 : (lo - 40) * (yy * 1024) = lo * yy * 1024 - 40 * 1024 * yy := by grind
        have e2 : s * (yy * 1024) = s * yy * 1024 := by grind
        rw [e1, e2]; omega
      exact Int.le_of_mul_le_mul_right this (by omega)
  have high : s ≤ hi + 40 := by
    rcases c1 with h | h
    · omega
    · have : s * (yy * 1024) ≤ (hi + 40) * (yy * 1024) := by
        have e1 : (hi + 40) * (yy * 1024) = hi * yy * 1024 + 40 * 1024 * yy := by grind
        have e2 : s * (yy * 1024) = s * yy * 1024 := by grind
        rw [e1, e2]; omega
      exact Int.le_of_mul_le_mul_right this (by omega)
  have S1 := sin_ev (a := alt (at2 u w)) (by omega) (by omega)
  rw [hs'] at S1
  unfold spykeep1_HorizonAimed.f
  refine some_ev hs (some_ev ha (some_ev hv (Ev.bind A1 (Ev.bind (exact_api_Arc (v := turn) (by omega) (by omega)) (Ev.bind H1 ?_)))))
  simp only
  rw [w64_id (x := turn + lon) (by omega) (by omega), w64_id (x := lo - 40) (by omega) (by omega), w64_id (x := hi + 40) (by omega) (by omega)]
  refine Ev.bind A2 (Ev.bind S1 (Ev.bind horizonFact_ev (pos_ev (by first | rfl | trivial) (pos_ev (by first | rfl | trivial) (pos_ev (by first | rfl | trivial) (pos_ev (by first | trivial | simp) (neg_ev (fun e_ => Bool.noConfusion e_) (pos_ev low (pos_ev high ?_)))))))))
  refine Ev.bind (exact_api_Arc (v := turn + lon) (by omega) (by omega)) (Ev.bind H2 ?_)
  exact now_ev fun k => by simp
end Go.Proofs.Ytjgikgbolacikaa.Pure
end
