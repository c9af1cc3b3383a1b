/- This session's own texts KClockAgreeTruthM1 KClockAgreeTruthM2 KClockAgreeTruthM3 KClockAgreeTruthM4 KClockAgreeTruthM5 KClockAgreeTruthBL1 KClockAgreeTruthST1 KClockAgreeTruthBD0 KClockAgreeTruthBDTick KClockAgreeTruthBDTick2 KClockAgreeTruthCK1 KClockAgreeTruthCK2 KClockAgreeTruthCK3 KClockAgreeTruthFU0 KClockAgreeTruthFUTick KClockAgreeTruthPureClockAgreeTruth, one after the other. -/
import Derived.Test.YtpophefonhpnmaaKClockAgreeTruthQx38
import Derived.Test.YtpophefonhpnmaaKClockAgreeTruthQx32
import Derived.Test.YtpophefonhpnmaaKClockAgreeTruthQx17
import Derived.Test.YtpophefonhpnmaaKClockAgreeTruthQx18
import Derived.Test.YtpophefonhpnmaaKClockAgreeTruthQx19
import Derived.Test.YtpophefonhpnmaaKClockAgreeTruthQx3
import Derived.Test.YtpophefonhpnmaaKClockAgreeTruthQx7
import Derived.Test.YtpophefonhpnmaaKClockAgreeTruthQx8
import Derived.Test.YtpophefonhpnmaaKClockAgreeTruthQx30
import Derived.Test.YtpophefonhpnmaaKClockAgreeTruthQx31
import Derived.Test.YtpophefonhpnmaaKClockAgreeTruthQx33
import Derived.Test.YtpophefonhpnmaaKClockAgreeTruthQx29
import Derived.Test.YtpophefonhpnmaaKClockAgreeTruthQx9
import Derived.Test.YtpophefonhpnmaaKClockAgreeTruthQx37
import Derived.Test.YtpophefonhpnmaaKClockAgreeTruthQx34
import Derived.Test.YtpophefonhpnmaaKClockAgreeTruthQx36
import Derived.Test.YtpophefonhpnmaaKClockAgreeTruthQx35
import Derived.Test.YtpophefonhpnmaaKClockAgreeTruthQx12

section
/- Wrapping, shifts and products of 64 bits: what the printed functions of math/bits compute; no other condition than those that each statement names. -/
namespace Go.Proofs.Ytpophefonhpnmaa.Q
open Go.RowKit Go.Proofs.YtpophefonhpnmaaW.PrintWords Go.Proofs.YtpophefonhpnmaaW.PrintLast Go.Proofs.YtpophefonhpnmaaW.PrintMore
set_option linter.unusedVariables false
set_option linter.unusedSimpArgs false

theorem uw (x : Int) : IntKind.u64.wrap x = x % 18446744073709551616 := u64_wrap_eq x
theorem uw_id {x : Int} (h0 : 0 ≤ x) (h1 : x < 18446744073709551616) : IntKind.u64.wrap x = x := by rw [uw]; omega
theorem w64_id {x : Int} (h0 : -9223372036854775808 ≤ x) (h1 : x < 9223372036854775808) : wrap64 x = x := by unfold wrap64; omega
theorem uw_wrap64 (x : Int) : wrap64 (IntKind.u64.wrap x) = wrap64 x := by rw [uw]; unfold wrap64; omega

theorem u64_mask32 {x : Int} (h0 : 0 ≤ x) (h1 : x < 18446744073709551616) : Go.bits .and .u64 x 4294967295 = x % 4294967296 :=
  Go.bits_mask .u64 64 (by decide) (fun n h h' => by rw [uw]; omega) 32 (by decide) x h0 h1

theorem mul64 {a b : Int} (a0 : 0 ≤ a) (a1 : a < 18446744073709551616) (b0 : 0 ≤ b) (b1 : b < 18446744073709551616) :
    bits_Mul64.f a b = some (a * b / 18446744073709551616, a * b % 18446744073709551616) := by
  unfold bits_Mul64.f
  rw [u64_mask32 a0 a1, u64_mask32 b0 b1]
  generalize hx1 : a / 4294967296 = x1
  generalize hx0 : a % 4294967296 = x0
  generalize hy1 : b / 4294967296 = y1
  generalize hy0 : b % 4294967296 = y0
  have hx : a = x1 * 4294967296 + x0 := by omega
  have hy : b = y1 * 4294967296 + y0 := by omega
  have p : ∀ {u v : Int}, 0 ≤ u → u ≤ 4294967295 → 0 ≤ v → v ≤ 4294967295 → 0 ≤ u * v ∧ u * v ≤ 18446744065119617025 := by
    intro u v hu0 hu1 hv0 hv1
    refine ⟨Int.mul_nonneg hu0 hv0, ?_⟩
    have := Int.mul_le_mul hu1 hv1 hv0 (by omega)
    omega
  have q11 := p (u := x1) (v := y1) (by omega) (by omega) (by omega) (by omega)
  have q10 := p (u := x1) (v := y0) (by omega) (by omega) (by omega) (by omega)
  have q01 := p (u := x0) (v := y1) (by omega) (by omega) (by omega) (by omega)
  have q00 := p (u := x0) (v := y0) (by omega) (by omega) (by omega) (by omega)
  have e : a * b = x1 * y1 * 18446744073709551616 + (x1 * y0 + x0 * y1) * 4294967296 + x0 * y0 := by
    rw [hx, hy]; grind
  rw [e]
  generalize x1 * y1 = P at *
  generalize x1 * y0 = Q at *
  generalize x0 * y1 = R at *
  generalize x0 * y0 = S at *
  rw [uw_id (x := S) (by omega) (by omega), uw_id (x := Q) (by omega) (by omega), uw_id (x := R) (by omega) (by omega), uw_id (x := P) (by omega) (by omega),
    uw_id (x := Q + S / 4294967296) (by omega) (by omega), u64_mask32 (by omega) (by omega), uw, uw, uw]
  congr 2 <;> omega

theorem size_some {a : Int} (h0 : -9223372036854775808 ≤ a) (h1 : a < 9223372036854775808) : num_size.f a = some (if a < 0 then -a else a) := by
  unfold num_size.f
  split
  · rw [uw, uw]; congr 1; omega
  · rw [uw]; congr 1; omega
end Go.Proofs.Ytpophefonhpnmaa.Q
end

section
/- The number of leading zeros of a number of 64 bits, and the quotient of 128 by 64 bits: what the printed functions of math/bits compute, for every divisor greater than the upper half. -/
namespace Go.Proofs.Ytpophefonhpnmaa.Q
open Go.RowKit Go.Proofs.YtpophefonhpnmaaW.PrintWords Go.Proofs.YtpophefonhpnmaaW.PrintLast Go.Proofs.YtpophefonhpnmaaW.PrintMore
set_option linter.unusedVariables false
set_option linter.unusedSimpArgs false

set_option maxRecDepth 100000 in
def len8 : ByteArray := ⟨#[0, 1, 2, 2, 3, 3, 3, 3, 4, 4, 4, 4, 4, 4, 4, 4, 5, 5, 5, 5, 5, 5, 5, 5, 5, 5, 5, 5, 5, 5, 5, 5, 6, 6, 6, 6, 6, 6, 6, 6, 6, 6, 6, 6, 6, 6, 6, 6, 6, 6, 6, 6, 6, 6, 6, 6, 6, 6, 6, 6, 6, 6, 6, 6, 7, 7, 7, 7, 7, 7, 7, 7, 7, 7, 7, 7, 7, 7, 7, 7, 7, 7, 7, 7, 7, 7, 7, 7, 7, 7, 7, 7, 7, 7, 7, 7, 7, 7, 7, 7, 7, 7, 7, 7, 7, 7, 7, 7, 7, 7, 7, 7, 7, 7, 7, 7, 7, 7, 7, 7, 7, 7, 7, 7, 7, 7, 7, 7, 8, 8, 8, 8, 8, 8, 8, 8, 8, 8, 8, 8, 8, 8, 8, 8, 8, 8, 8, 8, 8, 8, 8, 8, 8, 8, 8, 8, 8, 8, 8, 8, 8, 8, 8, 8, 8, 8, 8, 8, 8, 8, 8, 8, 8, 8, 8, 8, 8, 8, 8, 8, 8, 8, 8, 8, 8, 8, 8, 8, 8, 8, 8, 8, 8, 8, 8, 8, 8, 8, 8, 8, 8, 8, 8, 8, 8, 8, 8, 8, 8, 8, 8, 8, 8, 8, 8, 8, 8, 8, 8, 8, 8, 8, 8, 8, 8, 8, 8, 8, 8, 8, 8, 8, 8, 8, 8, 8, 8, 8, 8, 8, 8, 8, 8, 8, 8, 8, 8, 8, 8, 8, 8, 8, 8, 8, 8, 8]⟩
set_option maxRecDepth 100000 in
theorem len8_eq : (⟨#[0, 1, 2, 2, 3, 3, 3, 3, 4, 4, 4, 4, 4, 4, 4, 4, 5, 5, 5, 5, 5, 5, 5, 5, 5, 5, 5, 5, 5, 5, 5, 5, 6, 6, 6, 6, 6, 6, 6, 6, 6, 6, 6, 6, 6, 6, 6, 6, 6, 6, 6, 6, 6, 6, 6, 6, 6, 6, 6, 6, 6, 6, 6, 6, 7, 7, 7, 7, 7, 7, 7, 7, 7, 7, 7, 7, 7, 7, 7, 7, 7, 7, 7, 7, 7, 7, 7, 7, 7, 7, 7, 7, 7, 7, 7, 7, 7, 7, 7, 7, 7, 7, 7, 7, 7, 7, 7, 7, 7, 7, 7, 7, 7, 7, 7, 7, 7, 7, 7, 7, 7, 7, 7, 7, 7, 7, 7, 7, 8, 8, 8, 8, 8, 8, 8, 8, 8, 8, 8, 8, 8, 8, 8, 8, 8, 8, 8, 8, 8, 8, 8, 8, 8, 8, 8, 8, 8, 8, 8, 8, 8, 8, 8, 8, 8, 8, 8, 8, 8, 8, 8, 8, 8, 8, 8, 8, 8, 8, 8, 8, 8, 8, 8, 8, 8, 8, 8, 8, 8, 8, 8, 8, 8, 8, 8, 8, 8, 8, 8, 8, 8, 8, 8, 8, 8, 8, 8, 8, 8, 8, 8, 8, 8, 8, 8, 8, 8, 8, 8, 8, 8, 8, 8, 8, 8, 8, 8, 8, 8, 8, 8, 8, 8, 8, 8, 8, 8, 8, 8, 8, 8, 8, 8, 8, 8, 8, 8, 8, 8, 8, 8, 8, 8, 8, 8, 8]⟩ : ByteArray) = len8 := rfl
def len8ok (i : Nat) : Bool := let n := bt len8 (i : Int); decide (0 ≤ n) && decide (n ≤ 8) && decide ((i : Int) < 2 ^ n.toNat) && (i == 0 || decide ((2 : Int) ^ n.toNat ≤ 2 * i))
theorem len8_all : (List.range 256).all len8ok = true := by decide +kernel
theorem len8_at {i : Int} (h0 : 0 ≤ i) (h1 : i < 256) : ∃ m : Nat, m ≤ 8 ∧ bt len8 i = m ∧ i < 2 ^ m ∧ (0 < i → (2 : Int) ^ m ≤ 2 * i) := by
  obtain ⟨n, rfl⟩ := Int.eq_ofNat_of_zero_le h0
  have h := List.all_eq_true.mp len8_all n (by simp; omega)
  unfold len8ok at h
  simp only [Bool.and_eq_true, Bool.or_eq_true, decide_eq_true_eq, beq_iff_eq] at h
  obtain ⟨⟨⟨a, b⟩, c⟩, d⟩ := h
  refine ⟨(bt len8 (n : Int)).toNat, by omega, by omega, c, fun hp => ?_⟩
  rcases d with d | d
  · omega
  · exact d

set_option maxRecDepth 100000 in
theorem len64_j0 {x n : Int} (h0 : 0 ≤ x) (h1 : x < 4294967296) (n0 : 0 ≤ n) (n1 : n ≤ 32) (k : Nat) :
    ∃ m : Nat, m ≤ 32 ∧ bits_Len64.j0 (k + 1) x n = some (n + m) ∧ x < 2 ^ m ∧ (0 < x → (2 : Int) ^ m ≤ 2 * x) := by
  rw [bits_Len64.j0.eq_2, len8_eq]
  by_cases a : x ≥ 65536
  · rw [if_pos a]
    by_cases b : x / 65536 ≥ 256
    · rw [if_pos b, if_pos (by omega), if_pos (by omega)]
      obtain ⟨m, m1, m2, m3, m4⟩ := len8_at (i := ((x / 65536) / 256) % 256) (by omega) (by omega)
      refine ⟨m + 24, by omega, ?_, ?_, ?_⟩
      · rw [m2]; congr 1; unfold wrap64; omega
      · rw [Int.pow_add]; generalize (2 : Int) ^ m = P at *; omega
      · intro _; rw [Int.pow_add]; generalize (2 : Int) ^ m = P at *; omega
    · rw [if_neg b, if_pos (by omega), if_pos (by omega)]
      obtain ⟨m, m1, m2, m3, m4⟩ := len8_at (i := (x / 65536) % 256) (by omega) (by omega)
      refine ⟨m + 16, by omega, ?_, ?_, ?_⟩
      · rw [m2]; congr 1; unfold wrap64; omega
      · rw [Int.pow_add]; generalize (2 : Int) ^ m = P at *; omega
      · intro _; rw [Int.pow_add]; generalize (2 : Int) ^ m = P at *; omega
  · rw [if_neg a]
    by_cases b : x ≥ 256
    · rw [if_pos b, if_pos (by omega), if_pos (by omega)]
      obtain ⟨m, m1, m2, m3, m4⟩ := len8_at (i := (x / 256) % 256) (by omega) (by omega)
      refine ⟨m + 8, by omega, ?_, ?_, ?_⟩
      · rw [m2]; congr 1; unfold wrap64; omega
      · rw [Int.pow_add]; generalize (2 : Int) ^ m = P at *; omega
      · intro _; rw [Int.pow_add]; generalize (2 : Int) ^ m = P at *; omega
    · rw [if_neg b, if_pos (by omega), if_pos (by omega)]
      obtain ⟨m, m1, m2, m3, m4⟩ := len8_at (i := x % 256) (by omega) (by omega)
      refine ⟨m, by omega, ?_, ?_, ?_⟩
      · rw [m2]; congr 1; unfold wrap64; omega
      · generalize (2 : Int) ^ m = P at *; omega
      · intro _; generalize (2 : Int) ^ m = P at *; omega

theorem len64 {x : Int} (h0 : 0 ≤ x) (h1 : x < 18446744073709551616) (k : Nat) :
    ∃ m : Nat, m ≤ 64 ∧ bits_Len64.f (k + 1) x = some (m : Int) ∧ x < 2 ^ m ∧ (0 < x → (2 : Int) ^ m ≤ 2 * x) := by
  unfold bits_Len64.f
  by_cases a : x ≥ 4294967296
  · rw [if_pos a]
    obtain ⟨m, m1, m2, m3, m4⟩ := len64_j0 (x := x / 4294967296) (n := 32) (by omega) (by omega) (by omega) (by omega) k
    refine ⟨m + 32, by omega, ?_, ?_, ?_⟩
    · rw [m2]; congr 1; omega
    · rw [Int.pow_add]; generalize (2 : Int) ^ m = P at *; omega
    · intro _; rw [Int.pow_add]; generalize (2 : Int) ^ m = P at *; omega
  · rw [if_neg a]
    obtain ⟨m, m1, m2, m3, m4⟩ := len64_j0 (x := x) (n := 0) (by omega) (by omega) (by omega) (by omega) k
    refine ⟨m, by omega, ?_, m3, m4⟩
    rw [m2]; congr 1; omega

/-- The leading zeros: shifted by them, a number fills 64 bits. -/
theorem lz64 {y : Int} (h0 : 0 < y) (h1 : y < 18446744073709551616) (k : Nat) :
    ∃ s : Nat, s ≤ 63 ∧ bits_LeadingZeros64.f (k + 1) y = some (s : Int) ∧ 9223372036854775808 ≤ y * 2 ^ s ∧ y * 2 ^ s < 18446744073709551616 := by
  obtain ⟨m, m1, m2, m3, m4⟩ := len64 (by omega) h1 k
  have hm : 1 ≤ m := by
    rcases m with _ | m
    · simp at m3; omega
    · omega
  refine ⟨64 - m, by omega, ?_, ?_, ?_⟩
  · unfold bits_LeadingZeros64.f
    rw [m2]; simp only [Option.bind_some]; congr 1; unfold wrap64; omega
  · have e : (2 : Int) ^ m * 2 ^ (64 - m) = 18446744073709551616 := by rw [← Int.pow_add, show m + (64 - m) = 64 by omega]; decide
    have p : (0 : Int) < 2 ^ (64 - m) := Int.pow_pos (by decide)
    have := Int.mul_le_mul_of_nonneg_right (m4 h0) (Int.le_of_lt p)
    rw [e, Int.mul_assoc] at this
    omega
  · have e : (2 : Int) ^ m * 2 ^ (64 - m) = 18446744073709551616 := by rw [← Int.pow_add, show m + (64 - m) = 64 by omega]; decide
    have p : (0 : Int) < 2 ^ (64 - m) := Int.pow_pos (by decide)
    have := Int.mul_lt_mul_of_pos_right m3 p
    omega
end Go.Proofs.Ytpophefonhpnmaa.Q
end

section
/- The quotient and the remainder of a number of 128 bits by one of 64 bits: math/bits.Div64 as printed, for every divisor greater than the upper half. -/
namespace Go.Proofs.Ytpophefonhpnmaa.Q
open Go.RowKit Go.Proofs.YtpophefonhpnmaaW.PrintWords Go.Proofs.YtpophefonhpnmaaW.PrintLast Go.Proofs.YtpophefonhpnmaaW.PrintMore
set_option linter.unusedVariables false
set_option linter.unusedSimpArgs false

theorem ev_fun {α : Type} {g : Nat → Option α} {r r' : α} (h : Ev g r) (e : r = r') : Ev g r' := e ▸ h

/-- One step of the search for a digit, in plain numbers. -/
theorem digit_facts {Y y1 y0 u A n1 q r : Int} (hY : Y = y1 * 4294967296 + y0) (h1 : 2147483648 ≤ y1) (h2 : y1 < 4294967296) (h3 : 0 ≤ y0) (h4 : y0 < 4294967296)
    (hn : 0 ≤ n1) (hn' : n1 < 4294967296) (hA : A = u * 4294967296 + n1) (hu : 0 ≤ u) (huY : u < Y) (hr : r = u - q * y1) (hr0 : 0 ≤ r) (hq1 : q ≤ 4294967297) (hq : A / Y ≤ q) :
    (q ≥ 4294967296 → A / Y ≤ q - 1) ∧ (q * y0 > 4294967296 * r + n1 → A / Y ≤ q - 1) ∧ (q < 4294967296 → ¬ q * y0 > 4294967296 * r + n1 → A / Y = q)
    ∧ (A / Y ≤ q - 1 → r + y1 ≥ 4294967296 → A / Y = q - 1) ∧ 0 ≤ A / Y ∧ A / Y < 4294967296 := by
  have hYp : 0 < Y := by omega
  have hA0 : 0 ≤ A := by omega
  have hQ0 : 0 ≤ A / Y := Int.ediv_nonneg hA0 (by omega)
  have hQ1 : A / Y < 4294967296 := by
    rw [Int.ediv_lt_iff_lt_mul hYp]; omega
  have eU : q * Y = A - n1 - r * 4294967296 + q * y0 := by
    rw [hY, hA, hr]; grind
  have k := Int.le_ediv_iff_mul_le (a := q) (b := A) hYp
  have k' := Int.le_ediv_iff_mul_le (a := q - 1) (b := A) hYp
  have eU' : (q - 1) * Y = q * Y - Y := by grind
  refine ⟨by omega, fun h => ?_, fun _ h => ?_, fun hle hr1 => ?_, hQ0, hQ1⟩
  · rcases Int.lt_or_le (A / Y) q with h' | h'
    · omega
    · have := k.mp h'; omega
  · have : q * Y ≤ A := by omega
    have := k.mpr this; omega
  · have b : (q - 1) * y0 ≤ 4294967296 * 4294967295 := Int.mul_le_mul (by omega) (by omega) h3 (by omega)
    have e : (q - 1) * y0 = q * y0 - y0 := by grind
    have : (q - 1) * Y ≤ A := by omega
    have := k'.mpr this; omega

theorem div_l0 {Y s y1 y0 u n1 n0 : Int} {R : Int × Int} (hY : Y = y1 * 4294967296 + y0) (h1 : 2147483648 ≤ y1) (h2 : y1 < 4294967296) (h3 : 0 ≤ y0) (h4 : y0 < 4294967296)
    (hn : 0 ≤ n1) (hn' : n1 < 4294967296) (hu : 0 ≤ u) (huY : u < Y) (H : Ev (fun k => bits_Div64.j2 k Y s y1 y0 u n1 n0 ((u * 4294967296 + n1) / Y)) R) (n : Nat) :
    ∀ q r : Int, r = u - q * y1 → 0 ≤ r → r < 4294967296 → q ≤ 4294967297 → (u * 4294967296 + n1) / Y ≤ q → 4294967296 - r ≤ n → Ev (fun k => bits_Div64.l0 k Y s y1 y0 u n1 n0 q r) R := by
  induction n with
  | zero => intro q r _ _ _ _ _ _; omega
  | succ n ih =>
    intro q r hr hr0 hr1 hq1 hq hm
    obtain ⟨f1, f2, f3, f4, f5, f6⟩ := digit_facts hY h1 h2 h3 h4 hn hn' rfl hu huY hr hr0 hq1 hq
    generalize hA : (u * 4294967296 + n1) / Y = Q at *
    have go : Q ≤ q - 1 → Ev (fun k => bits_Div64.j1 k Y s y1 y0 u n1 n0 q r true) R := by
      intro hle
      by_cases c : r + y1 ≥ 4294967296
      · refine Ev.step (fun k => by rw [bits_Div64.j1, if_pos rfl, uw_id (x := r + y1) (by omega) (by omega), if_pos c, uw_id (x := q - 1) (by omega) (by omega)]) ?_
        rw [← f4 hle c]; exact H
      · refine Ev.step (fun k => by rw [bits_Div64.j1, if_pos rfl, uw_id (x := r + y1) (by omega) (by omega), if_neg c, uw_id (x := q - 1) (by omega) (by omega)]) ?_
        exact ih (q - 1) (r + y1) (by rw [hr]; grind) (by omega) (by omega) (by omega) hle (by omega)
    by_cases c : q ≥ 4294967296
    · exact Ev.step (fun k => by rw [bits_Div64.l0, if_pos c]) (go (f1 c))
    · have b0 : 0 ≤ q * y0 := Int.mul_nonneg (by omega) h3
      have b1 : q * y0 ≤ 4294967295 * 4294967295 := Int.mul_le_mul (by omega) (by omega) h3 (by omega)
      have e : decide ((IntKind.u64.wrap (q * y0)) > (IntKind.u64.wrap ((IntKind.u64.wrap (4294967296 * r)) + n1))) = decide (q * y0 > 4294967296 * r + n1) := by
        rw [uw_id (x := q * y0) b0 (by omega), uw_id (x := 4294967296 * r) (by omega) (by omega), uw_id (by omega) (by omega)]
      by_cases d : q * y0 > 4294967296 * r + n1
      · exact Ev.step (fun k => by rw [bits_Div64.l0, if_neg c, e, decide_eq_true d]) (go (f2 d))
      · refine Ev.step (fun k => by rw [bits_Div64.l0, if_neg c, e, decide_eq_false d]) ?_
        refine Ev.step (fun k => by rw [bits_Div64.j1, if_neg (by decide)]) ?_
        rw [← f3 (by omega) d]; exact H

theorem div_end {Y y1 u n0 q1 s A : Int} (hY0 : 0 < Y) (hY1 : Y < 18446744073709551616) (hA : A = u * 4294967296 + n0) (hq1 : 0 ≤ q1) (hq1' : q1 < 4294967296) (hQ : 0 ≤ A / Y) (hQ1 : A / Y < 4294967296) :
    (IntKind.u64.wrap ((IntKind.u64.wrap (q1 * 4294967296)) + A / Y), shr .u64 (IntKind.u64.wrap ((IntKind.u64.wrap ((IntKind.u64.wrap (u * 4294967296)) + n0)) - (IntKind.u64.wrap ((A / Y) * Y)))) s)
      = (q1 * 4294967296 + A / Y, shr .u64 (A % Y) s) := by
  have h := Int.emod_add_mul_ediv A Y
  have h0 := Int.emod_nonneg A (show Y ≠ 0 by omega)
  have h1 := Int.emod_lt_of_pos A hY0
  have hc : Y * (A / Y) = A / Y * Y := Int.mul_comm _ _
  rw [hc] at h
  generalize A / Y * Y = P at *
  generalize A / Y = Q at *
  have e : (u * 4294967296 % 18446744073709551616 + n0) % 18446744073709551616 = A % 18446744073709551616 := by rw [hA]; omega
  rw [uw, uw, uw, uw, uw, uw, e]
  congr 1
  · omega
  · congr 1; omega

theorem div_l1 {Y s y1 y0 u n0 q1 : Int} (hY : Y = y1 * 4294967296 + y0) (h1 : 2147483648 ≤ y1) (h2 : y1 < 4294967296) (h3 : 0 ≤ y0) (h4 : y0 < 4294967296)
    (hn : 0 ≤ n0) (hn' : n0 < 4294967296) (hu : 0 ≤ u) (huY : u < Y) (hq1 : 0 ≤ q1) (hq1' : q1 < 4294967296) (hs : 0 ≤ s) (n : Nat) :
    ∀ q r : Int, r = u - q * y1 → 0 ≤ r → r < 4294967296 → q ≤ 4294967297 → (u * 4294967296 + n0) / Y ≤ q → 4294967296 - r ≤ n →
      Ev (fun k => bits_Div64.l1 k Y s y1 y0 n0 q1 r u q) (q1 * 4294967296 + (u * 4294967296 + n0) / Y, shr .u64 ((u * 4294967296 + n0) % Y) s) := by
  induction n with
  | zero => intro q r _ _ _ _ _ _; omega
  | succ n ih =>
    intro q r hr hr0 hr1 hq1 hq hm
    obtain ⟨f1, f2, f3, f4, f5, f6⟩ := digit_facts hY h1 h2 h3 h4 hn hn' rfl hu huY hr hr0 hq1 hq
    have fin := div_end (Y := Y) (y1 := y1) (u := u) (n0 := n0) (q1 := q1) (s := s) (by omega) (by omega) rfl (by omega) (by omega) f5 f6
    generalize hA : u * 4294967296 + n0 = A at *
    have go : A / Y ≤ q - 1 → Ev (fun k => bits_Div64.j4 k Y s y1 y0 n0 q1 r u q true) (q1 * 4294967296 + A / Y, shr .u64 (A % Y) s) := by
      intro hle
      by_cases c : r + y1 ≥ 4294967296
      · have e := f4 hle c
        refine Ev.step (f := fun _ => some (q1 * 4294967296 + A / Y, shr .u64 (A % Y) s)) (fun k => ?_) (Ev.now _)
        rw [bits_Div64.j4, if_pos rfl, uw_id (x := r + y1) (by omega) (by omega), if_pos c, uw_id (x := q - 1) (by omega) (by omega), if_pos hs, ← e]
        rw [fin]
      · refine Ev.step (fun k => by rw [bits_Div64.j4, if_pos rfl, uw_id (x := r + y1) (by omega) (by omega), if_neg c, uw_id (x := q - 1) (by omega) (by omega)]) ?_
        exact ih (q - 1) (r + y1) (by rw [hr]; grind) (by omega) (by omega) (by omega) hle (by omega)
    by_cases c : q ≥ 4294967296
    · exact Ev.step (fun k => by rw [bits_Div64.l1, if_pos c]) (go (f1 c))
    · have b0 : 0 ≤ q * y0 := Int.mul_nonneg (by omega) h3
      have b1 : q * y0 ≤ 4294967295 * 4294967295 := Int.mul_le_mul (by omega) (by omega) h3 (by omega)
      have e : decide ((IntKind.u64.wrap (q * y0)) > (IntKind.u64.wrap ((IntKind.u64.wrap (4294967296 * r)) + n0))) = decide (q * y0 > 4294967296 * r + n0) := by
        rw [uw_id (x := q * y0) b0 (by omega), uw_id (x := 4294967296 * r) (by omega) (by omega), uw_id (by omega) (by omega)]
      by_cases d : q * y0 > 4294967296 * r + n0
      · exact Ev.step (fun k => by rw [bits_Div64.l1, if_neg c, e, decide_eq_true d]) (go (f2 d))
      · refine Ev.step (fun k => by rw [bits_Div64.l1, if_neg c, e, decide_eq_false d]) ?_
        have e := f3 (by omega) d
        refine Ev.step (f := fun _ => some (q1 * 4294967296 + A / Y, shr .u64 (A % Y) s)) (fun k => ?_) (Ev.now _)
        rw [bits_Div64.j4, if_neg (by decide), if_pos hs, ← e]
        rw [fin]

theorem tdiv_eq {a b : Int} (ha : 0 ≤ a) : Int.tdiv a b = a / b := Int.tdiv_eq_ediv_of_nonneg ha
theorem tmod_eq {a b : Int} (ha : 0 ≤ a) : Int.tmod a b = a % b := Int.tmod_eq_emod_of_nonneg ha

/-- The first guess of a digit. -/
theorem guess {Y y1 y0 u A n1 : Int} (hY : Y = y1 * 4294967296 + y0) (h1 : 2147483648 ≤ y1) (h2 : y1 < 4294967296) (h3 : 0 ≤ y0) (h4 : y0 < 4294967296)
    (hn : 0 ≤ n1) (hn' : n1 < 4294967296) (hA : A = u * 4294967296 + n1) (hu : 0 ≤ u) (huY : u < Y) :
    0 ≤ u / y1 ∧ u / y1 ≤ 4294967297 ∧ A / Y ≤ u / y1 ∧ u - u / y1 * y1 = u % y1 ∧ 0 ≤ u % y1 ∧ u % y1 < 4294967296 := by
  have e := Int.emod_add_mul_ediv u y1
  have e0 := Int.emod_nonneg u (show y1 ≠ 0 by omega)
  have e1 := Int.emod_lt_of_pos u (show 0 < y1 by omega)
  have e2 : y1 * (u / y1) = u / y1 * y1 := Int.mul_comm _ _
  refine ⟨Int.ediv_nonneg hu (by omega), ?_, ?_, by omega, e0, by omega⟩
  · have : u / y1 < 4294967298 := by rw [Int.ediv_lt_iff_lt_mul (by omega)]; omega
    omega
  · -- (A / Y) * Y ≤ A, hence (A / Y) * y1 * 2^32 ≤ A, hence (A / Y) * y1 ≤ u
    have hYp : 0 < Y := by omega
    have k := (Int.le_ediv_iff_mul_le (a := A / Y) (b := A) hYp).mp (Int.le_refl _)
    have hQ0 : 0 ≤ A / Y := Int.ediv_nonneg (by omega) (by omega)
    have m0 : 0 ≤ A / Y * y0 := Int.mul_nonneg hQ0 h3
    have eU : A / Y * Y = A / Y * y1 * 4294967296 + A / Y * y0 := by
      generalize A / Y = Q; rw [hY]; grind
    rw [Int.le_ediv_iff_mul_le (by omega)]
    omega

theorem div_j2 {Y s y1 y0 u n1 n0 : Int} (hY : Y = y1 * 4294967296 + y0) (h1 : 2147483648 ≤ y1) (h2 : y1 < 4294967296) (h3 : 0 ≤ y0) (h4 : y0 < 4294967296)
    (hn : 0 ≤ n1) (hn' : n1 < 4294967296) (hm : 0 ≤ n0) (hm' : n0 < 4294967296) (hu : 0 ≤ u) (huY : u < Y) (hs : 0 ≤ s) :
    Ev (fun k => bits_Div64.j2 k Y s y1 y0 u n1 n0 ((u * 4294967296 + n1) / Y))
      ((u * 18446744073709551616 + n1 * 4294967296 + n0) / Y, shr .u64 ((u * 18446744073709551616 + n1 * 4294967296 + n0) % Y) s) := by
  have hYp : 0 < Y := by omega
  have h := Int.emod_add_mul_ediv (u * 4294967296 + n1) Y
  have h0 := Int.emod_nonneg (u * 4294967296 + n1) (show Y ≠ 0 by omega)
  have h1' := Int.emod_lt_of_pos (u * 4294967296 + n1) hYp
  have hc : Y * ((u * 4294967296 + n1) / Y) = (u * 4294967296 + n1) / Y * Y := Int.mul_comm _ _
  have hQ0 : 0 ≤ (u * 4294967296 + n1) / Y := Int.ediv_nonneg (by omega) (by omega)
  have hQ1 : (u * 4294967296 + n1) / Y < 4294967296 := by rw [Int.ediv_lt_iff_lt_mul hYp]; omega
  generalize hQ : (u * 4294967296 + n1) / Y = Q1 at *
  generalize hV : (u * 4294967296 + n1) % Y = V at *
  have eV : IntKind.u64.wrap ((IntKind.u64.wrap ((IntKind.u64.wrap (u * 4294967296)) + n1)) - (IntKind.u64.wrap (Q1 * Y))) = V := by
    rw [uw, uw, uw, uw]; omega
  obtain ⟨g0, g1, g2, g3, g4, g5⟩ := guess (A := V * 4294967296 + n0) hY h1 h2 h3 h4 hm hm' rfl h0 h1'
  have eN : u * 18446744073709551616 + n1 * 4294967296 + n0 = V * 4294967296 + n0 + (Q1 * 4294967296) * Y := by
    have : (Q1 * 4294967296) * Y = Q1 * Y * 4294967296 := by grind
    omega
  have eD : (u * 18446744073709551616 + n1 * 4294967296 + n0) / Y = Q1 * 4294967296 + (V * 4294967296 + n0) / Y := by
    rw [eN, Int.add_mul_ediv_right _ _ (by omega)]; omega
  have eM : (u * 18446744073709551616 + n1 * 4294967296 + n0) % Y = (V * 4294967296 + n0) % Y := by
    rw [eN, Int.add_mul_emod_self_right]
  rw [eD, eM]
  refine Ev.step (f := fun k => bits_Div64.l1 k Y s y1 y0 n0 Q1 (V % y1) V (V / y1)) (fun k => ?_) ?_
  · rw [bits_Div64.j2, if_neg (by omega), eV, tdiv_eq h0, uw_id (x := V / y1) g0 (by omega)]
    rw [uw, uw]
    congr 1
    omega
  · exact div_l1 hY h1 h2 h3 h4 hm hm' h0 h1' hQ0 hQ1 hs 4294967296 _ _ g3.symm g4 g5 g1 g2 (by omega)
end Go.Proofs.Ytpophefonhpnmaa.Q
end

section
/- math/bits.Div64 as printed returns the quotient and the remainder of hi * 2^64 + lo by y, for every y greater than hi. -/
namespace Go.Proofs.Ytpophefonhpnmaa.Q
open Go.RowKit Go.Proofs.YtpophefonhpnmaaW.PrintWords Go.Proofs.YtpophefonhpnmaaW.PrintLast Go.Proofs.YtpophefonhpnmaaW.PrintMore
set_option linter.unusedVariables false
set_option linter.unusedSimpArgs false

theorem shl64 {x : Int} {s : Nat} (hs : s ≤ 64) : shl .u64 x (s : Int) = (x * 2 ^ s) % 18446744073709551616 := by
  unfold shl; rw [uw, Int.toNat_natCast, show IntKind.u64.bits = 64 from rfl, Nat.min_eq_left hs]
theorem shr64 {x : Int} {s : Nat} (hs : s ≤ 64) : shr .u64 x (s : Int) = x / 2 ^ s := by
  unfold shr; rw [Int.toNat_natCast, show IntKind.u64.bits = 64 from rfl, Nat.min_eq_left hs]

theorem div64 {hi lo y : Int} (h0 : 0 ≤ hi) (h1 : hi < y) (h2 : y < 18446744073709551616) (l0 : 0 ≤ lo) (l1 : lo < 18446744073709551616) :
    Ev (fun k => bits_Div64.f k hi lo y) ((hi * 18446744073709551616 + lo) / y, (hi * 18446744073709551616 + lo) % y) := by
  by_cases hz : hi = 0
  · subst hz
    refine Ev.congr (f := fun _ => some (lo / y, lo % y)) (fun k => ?_) ?_
    · unfold bits_Div64.f
      rw [if_neg (by omega), if_neg (by omega), if_pos rfl, tdiv_eq l0, tmod_eq l0, uw_id (Int.ediv_nonneg l0 (by omega))]
      have := Int.ediv_le_self y l0
      omega
    · rw [show 0 * 18446744073709551616 + lo = lo by omega]; exact Ev.now _
  · obtain ⟨K, hK⟩ : ∃ K, ∀ k, K ≤ k → bits_Div64.f k hi lo y = some ((hi * 18446744073709551616 + lo) / y, (hi * 18446744073709551616 + lo) % y) := by
      obtain ⟨s, hs, hsv, hY0, hY1⟩ := lz64 (y := y) (by omega) h2 0
      have hsE : Ev (fun k => bits_LeadingZeros64.f k y) (s : Int) := Ev.of (fun k => bits_LeadingZeros64.mono _ _) hsv
      have hP : (0 : Int) < 2 ^ s := Int.pow_pos (by decide)
      have hPP : (2 : Int) ^ s * 2 ^ (64 - s) = 18446744073709551616 := by rw [← Int.pow_add, show s + (64 - s) = 64 by omega]; decide
      have hP' : (0 : Int) < 2 ^ (64 - s) := Int.pow_pos (by decide)
      have hb : hi * 2 ^ s < y * 2 ^ s := Int.mul_lt_mul_of_pos_right h1 hP
      have hb0 : 0 ≤ hi * 2 ^ s := Int.mul_nonneg h0 (by omega)
      have hlo0 : 0 ≤ lo * 2 ^ s := Int.mul_nonneg l0 (by omega)
      -- the low part of the dividend that moves up
      have hdl : lo / 2 ^ (64 - s) = lo * 2 ^ s / 18446744073709551616 := by
        rw [← hPP, Int.mul_comm lo, Int.mul_ediv_mul_of_pos _ _ hP]
      have hlt : lo * 2 ^ s < 18446744073709551616 * 2 ^ s := Int.mul_lt_mul_of_pos_right l1 hP
      have hdlt : lo * 2 ^ s / 18446744073709551616 < 2 ^ s := by
        rw [Int.ediv_lt_iff_lt_mul (by decide), Int.mul_comm (2 ^ s)]; exact hlt
      have hd0 : 0 ≤ lo * 2 ^ s / 18446744073709551616 := Int.ediv_nonneg hlo0 (by decide)
      have e1 : shl .u64 y (s : Int) = y * 2 ^ s := by rw [shl64 (by omega)]; omega
      have e2 : shl .u64 hi (s : Int) = hi * 2 ^ s := by rw [shl64 (by omega)]; omega
      have e3 : shl .u64 lo (s : Int) = lo * 2 ^ s % 18446744073709551616 := shl64 (by omega)
      have e4 : shr .u64 lo (IntKind.u64.wrap (64 - IntKind.u64.wrap (s : Int))) = lo * 2 ^ s / 18446744073709551616 := by
        rw [uw_id (x := (s : Int)) (by omega) (by omega), uw_id (by omega) (by omega), show (64 : Int) - (s : Int) = ((64 - s : Nat) : Int) by omega, shr64 (by omega), hdl]
      have hle : hi * 2 ^ s + 2 ^ s ≤ y * 2 ^ s := by
        have := Int.mul_le_mul_of_nonneg_right (show hi + 1 ≤ y by omega) (Int.le_of_lt hP)
        rw [Int.add_mul, Int.one_mul] at this; exact this
      have e5 : Go.bits .or .u64 (hi * 2 ^ s) (lo * 2 ^ s / 18446744073709551616) = hi * 2 ^ s + lo * 2 ^ s / 18446744073709551616 :=
        Go.bits_join .u64 64 (by decide) (fun n h h' => by rw [uw]; omega) s _ _ hb0 (Int.mul_emod_left _ _) (by omega) hd0 hdlt (by omega)
      -- the whole
      have key := div_j2 (Y := y * 2 ^ s) (s := (s : Int)) (y1 := y * 2 ^ s / 4294967296) (y0 := y * 2 ^ s % 4294967296) (u := hi * 2 ^ s + lo * 2 ^ s / 18446744073709551616)
        (n1 := lo * 2 ^ s % 18446744073709551616 / 4294967296) (n0 := lo * 2 ^ s % 18446744073709551616 % 4294967296)
        (by omega) (by omega) (by omega) (by omega) (by omega) (by omega) (by omega) (by omega) (by omega) (by omega) (by omega) (by omega)
      have hN : (hi * 2 ^ s + lo * 2 ^ s / 18446744073709551616) * 18446744073709551616 + lo * 2 ^ s % 18446744073709551616 / 4294967296 * 4294967296 + lo * 2 ^ s % 18446744073709551616 % 4294967296
          = (hi * 18446744073709551616 + lo) * 2 ^ s := by
        have : (hi * 18446744073709551616 + lo) * 2 ^ s = hi * 2 ^ s * 18446744073709551616 + lo * 2 ^ s := by grind
        omega
      have eM : (hi * 18446744073709551616 + lo) * 2 ^ s % (y * 2 ^ s) = (hi * 18446744073709551616 + lo) % y * 2 ^ s := by
        rw [Int.mul_comm _ (2 ^ s), Int.mul_comm y, Int.mul_emod_mul_of_pos _ _ hP, Int.mul_comm]
      rw [hN, Int.mul_ediv_mul_of_pos_left _ _ hP, eM, shr64 (by omega), Int.mul_ediv_cancel _ (by omega)] at key
      obtain ⟨g0, g1, g2, g3, g4, g5⟩ := guess (Y := y * 2 ^ s) (y1 := y * 2 ^ s / 4294967296) (y0 := y * 2 ^ s % 4294967296) (u := hi * 2 ^ s + lo * 2 ^ s / 18446744073709551616)
        (A := (hi * 2 ^ s + lo * 2 ^ s / 18446744073709551616) * 4294967296 + lo * 2 ^ s % 18446744073709551616 / 4294967296) (n1 := lo * 2 ^ s % 18446744073709551616 / 4294967296)
        (by omega) (by omega) (by omega) (by omega) (by omega) (by omega) (by omega) rfl (by omega) (by omega)
      have key2 := div_l0 (Y := y * 2 ^ s) (s := (s : Int)) (y1 := y * 2 ^ s / 4294967296) (y0 := y * 2 ^ s % 4294967296) (u := hi * 2 ^ s + lo * 2 ^ s / 18446744073709551616)
        (n1 := lo * 2 ^ s % 18446744073709551616 / 4294967296) (n0 := lo * 2 ^ s % 18446744073709551616 % 4294967296)
        (by omega) (by omega) (by omega) (by omega) (by omega) (by omega) (by omega) (by omega) (by omega) key 4294967296 _ _ g3.symm g4 g5 g1 g2 (by omega)
      obtain ⟨K1, h1'⟩ := hsE
      obtain ⟨K2, h2'⟩ := key2
      refine ⟨max K1 K2, fun k hk => ?_⟩
      unfold bits_Div64.f
      rw [if_neg (by omega), if_neg (by omega), if_neg hz, show bits_LeadingZeros64.f k y = some (s : Int) from h1' k (by omega)]
      simp only [Option.bind_some]
      rw [e4, uw_id (x := (s : Int)) (by omega) (by omega), if_pos (by omega), uw_id (x := 64 - (s : Int)) (by omega) (by omega), if_pos (by omega), e1, e2, e3, e5,
        if_neg (by omega), u64_mask32 (by omega) (by omega), u64_mask32 (by omega) (by omega), tdiv_eq (by omega), uw_id (x := _ / _) g0 (by omega), uw, uw]
      have hmm : ((hi * 2 ^ s + lo * 2 ^ s / 18446744073709551616) - (hi * 2 ^ s + lo * 2 ^ s / 18446744073709551616) / (y * 2 ^ s / 4294967296) * (y * 2 ^ s / 4294967296) % 18446744073709551616) % 18446744073709551616
          = (hi * 2 ^ s + lo * 2 ^ s / 18446744073709551616) % (y * 2 ^ s / 4294967296) := by omega
      rw [hmm]
      exact h2' k (by omega)
    exact ⟨K, hK⟩
end Go.Proofs.Ytpophefonhpnmaa.Q
end

section
/- Package num of the program in plain numbers: products of 128 bits, their sums, order, quotients and remainders; the bounds stand in each statement. -/
-- AUTO
namespace Go.Proofs.Ytpophefonhpnmaa.Q
open Go.RowKit Go.Proofs.YtpophefonhpnmaaW.PrintWords Go.Proofs.YtpophefonhpnmaaW.PrintLast Go.Proofs.YtpophefonhpnmaaW.PrintMore
set_option linter.unusedVariables false
set_option linter.unusedSimpArgs false

/-- What a product of two numbers of 64 bits lies between. -/
theorem prod_bd {a b : Int} (a0 : -9223372036854775808 ≤ a) (a1 : a < 9223372036854775808) (b0 : -9223372036854775808 ≤ b) (b1 : b < 9223372036854775808) :
    -85070591730234615865843651857942052864 ≤ a * b ∧ a * b ≤ 85070591730234615865843651857942052864 := by
  have h : (a * b).natAbs ≤ 9223372036854775808 * 9223372036854775808 := by
    rw [Int.natAbs_mul]; exact Nat.mul_le_mul (by omega) (by omega)
  omega

theorem wide_neg {v : Int} (h0 : -170141183460469231731687303715884105728 < v) (h1 : v < 170141183460469231731687303715884105728) :
    num_Wide_Neg.f (v / 18446744073709551616) (v % 18446744073709551616) = some (-v / 18446744073709551616, -v % 18446744073709551616) := by
  unfold num_Wide_Neg.f
  rw [if_pos (by omega), if_pos (by omega)]
  congr 2
  · unfold wrap64; omega
  · omega

theorem product {a b : Int} (a0 : -9223372036854775808 ≤ a) (a1 : a < 9223372036854775808) (b0 : -9223372036854775808 ≤ b) (b1 : b < 9223372036854775808) :
    num_Product.f a b = some (a * b / 18446744073709551616, a * b % 18446744073709551616) := by
  have hb := prod_bd a0 a1 b0 b1
  unfold num_Product.f
  rw [size_some a0 a1, size_some b0 b1]
  simp only [Option.bind_some]
  rw [mul64 (by split <;> omega) (by split <;> omega) (by split <;> omega) (by split <;> omega)]
  simp only [Option.bind_some]
  by_cases ha : a < 0 <;> by_cases hc : b < 0
  · rw [if_pos ha, if_pos hc, if_neg (by simp [ha, hc]), Int.neg_mul_neg]
    congr 2
    unfold wrap64; omega
  · rw [if_pos ha, if_neg hc, if_pos (by simp [ha]; omega), Int.neg_mul, w64_id (by omega) (by omega), wide_neg (by omega) (by omega)]
    simp only [Option.bind_some, Int.neg_neg]
  · rw [if_neg ha, if_pos hc, if_pos (by simp [hc]; omega), Int.mul_neg, w64_id (by omega) (by omega), wide_neg (by omega) (by omega)]
    simp only [Option.bind_some, Int.neg_neg]
  · rw [if_neg ha, if_neg hc, if_neg (by simp [ha, hc])]
    congr 2
    unfold wrap64; omega

/-- Division of a negative number: by that of the opposite one. -/
theorem neg_div {v d : Int} (hd : 0 < d) : v / d = (if -v % d = 0 then -(-v / d) else -(-v / d) - 1) ∧ v % d = (if -v % d = 0 then 0 else d - -v % d) := by
  have e := Int.emod_add_mul_ediv (-v) d
  have h0 := Int.emod_nonneg (-v) (show d ≠ 0 by omega)
  have h1 := Int.emod_lt_of_pos (-v) hd
  split
  · exact (Int.ediv_emod_unique hd).mpr ⟨by rw [Int.mul_neg]; omega, by omega, by omega⟩
  · exact (Int.ediv_emod_unique hd).mpr ⟨by rw [Int.mul_sub, Int.mul_neg]; omega, by omega, by omega⟩

theorem div_bd {v d : Int} (h0 : 0 ≤ v) (hd : 0 < d) : 0 ≤ v / d ∧ v / d ≤ v := ⟨Int.ediv_nonneg h0 (by omega), Int.ediv_le_self d h0⟩

theorem bind_ev {α β : Type} {g : Nat → Option α} {f : Nat → α → Option β} {a : α} {r : β} (h : Ev g a) (k : Ev (fun n => f n a) r) : Ev (fun n => (g n).bind (f n)) r := Ev.bind h k
theorem one_ev {α : Type} {g : Nat → Option α} {r : α} (h : ∀ k, g (k + 1) = some r) : Ev g r := Ev.step (f := fun _ => some r) h (Ev.now _)
theorem now_ev {α : Type} {g : Nat → Option α} {r : α} (h : ∀ k, g k = some r) : Ev g r := Ev.congr (f := fun _ => some r) h (Ev.now _)

theorem wide_div_j1 {p r : Int} (neg : Bool) {h l : Int} (hn : (h < 0) = (neg = true)) (hp0 : 0 ≤ p) (hp1 : p < 18446744073709551616) (hr : 0 ≤ r) :
    Ev (fun k => num_Wide_Div.j1 k p r (if neg then (if r > 0 then 9223372036854775807 else 9223372036854775808) else 9223372036854775807) h l)
      (if neg then (if r = 0 then (if p ≤ 9223372036854775808 then (-p, 0) else (0, 2)) else (if p ≤ 9223372036854775807 then (-p - 1, 0) else (0, 2)))
        else (if p ≤ 9223372036854775807 then (p, 0) else (0, 2))) := by
  refine one_ev fun k => ?_
  rw [num_Wide_Div.j1]
  cases neg
  · have hh : ¬ h < 0 := by rw [hn]; decide
    simp only [Bool.false_eq_true, if_false]
    by_cases c : p ≤ 9223372036854775807
    · rw [if_neg (by omega), if_pos (by omega), if_pos c, w64_id (by omega) (by omega)]
    · rw [if_pos (by omega), if_neg c]
  · have hh : h < 0 := by rw [hn]
    simp only [if_true]
    by_cases z : r = 0
    · rw [if_neg (show ¬ r > 0 by omega), if_pos z]
      by_cases c : p ≤ 9223372036854775808
      · rw [if_neg (by omega), if_neg (by omega), if_neg (by omega), if_pos c, uw_wrap64, w64_id (by omega) (by omega)]
      · rw [if_pos (by omega), if_neg c]
    · rw [if_pos (show r > 0 by omega), if_neg z]
      by_cases c : p ≤ 9223372036854775807
      · rw [if_neg (by omega), if_neg (by omega), if_pos (by omega), if_pos c, uw_wrap64, w64_id (x := -p) (by omega) (by omega), w64_id (by omega) (by omega)]
      · rw [if_pos (by omega), if_neg c]

theorem some_ev {α β : Type} {g : Option α} {f : Nat → α → Option β} {a : α} {r : β} (h : g = some a) (k : Ev (fun n => f n a) r) : Ev (fun n => g.bind (f n)) r := by
  subst h; exact k
theorem pos_ev {α : Type} {c : Prop} [Decidable c] {g f : Nat → Option α} {r : α} (h : c) (k : Ev g r) : Ev (fun n => if c then g n else f n) r := by
  simp only [if_pos h]; exact k
theorem neg_ev {α : Type} {c : Prop} [Decidable c] {g f : Nat → Option α} {r : α} (h : ¬ c) (k : Ev f r) : Ev (fun n => if c then g n else f n) r := by
  simp only [if_neg h]; exact k

/-- Whether a number has 64 bits, with sign. -/
def fits (n : Int) : Bool := decide (-9223372036854775808 ≤ n) && decide (n ≤ 9223372036854775807)

theorem wide_div {v d : Int} (h0 : -170141183460469231731687303715884105728 ≤ v) (h1 : v < 170141183460469231731687303715884105728) (hd1 : d < 9223372036854775808) :
    Ev (fun k => num_Wide_Div.f k (v / 18446744073709551616) (v % 18446744073709551616) d) (if d < 1 then (0, 1) else if fits (v / d) then (v / d, 0) else (0, 2)) := by
  by_cases hd : d < 1
  · rw [if_pos hd]; exact now_ev fun k => by unfold num_Wide_Div.f; rw [if_pos hd]
  rw [if_neg hd]
  have hdp : 0 < d := by omega
  by_cases hv : v < 0
  · by_cases hm : v = -170141183460469231731687303715884105728
    · subst hm
      have hf : fits (-170141183460469231731687303715884105728 / d) = false := by
        have : -170141183460469231731687303715884105728 / d < -9223372036854775808 := by rw [Int.ediv_lt_iff_lt_mul hdp]; omega
        unfold fits; rw [decide_eq_false (by omega)]; rfl
      rw [hf]
      refine Ev.congr (f := fun k => num_Wide_Div.j0 k d (-9223372036854775808) 0 (-9223372036854775808) 0) (fun k => ?_) ?_
      · unfold num_Wide_Div.f
        rw [if_neg hd, if_pos (by omega)]
        have : num_Wide_Neg.f (-170141183460469231731687303715884105728 / 18446744073709551616) (-170141183460469231731687303715884105728 % 18446744073709551616) = some (-9223372036854775808, 0) := by decide +kernel
        rw [this]
        rfl
      · refine one_ev fun k => ?_
        rw [num_Wide_Div.j0, if_pos (by rw [uw, uw]; omega)]
        rfl
    · have b := div_bd (v := -v) (d := d) (by omega) hdp
      have nd := neg_div (v := v) hdp
      have h0' := Int.emod_nonneg (-v) (show d ≠ 0 by omega)
      refine Ev.congr (f := fun k => num_Wide_Div.j0 k d (v / 18446744073709551616) (v % 18446744073709551616) (-v / 18446744073709551616) (-v % 18446744073709551616)) (fun k => ?_) ?_
      · unfold num_Wide_Div.f
        rw [if_neg hd, if_pos (by omega), wide_neg (by omega) (by omega)]
        rfl
      · by_cases c : -v / 18446744073709551616 ≥ d
        · have hq : 18446744073709551616 ≤ -v / d := by rw [Int.le_ediv_iff_mul_le hdp]; omega
          have hf : fits (v / d) = false := by
            unfold fits; rw [decide_eq_false (by rw [nd.1]; split <;> omega)]; rfl
          rw [hf]
          refine one_ev fun k => ?_
          rw [num_Wide_Div.j0, if_pos (by rw [uw, uw]; omega)]
          rfl
        · have D := div64 (hi := -v / 18446744073709551616) (lo := -v % 18446744073709551616) (y := d) (by omega) (by omega) (by omega) (by omega) (by omega)
          rw [show -v / 18446744073709551616 * 18446744073709551616 + -v % 18446744073709551616 = -v by omega] at D
          have hq : -v / d < 18446744073709551616 := by rw [Int.ediv_lt_iff_lt_mul hdp]; omega
          have J := wide_div_j1 (p := -v / d) (r := -v % d) true (h := v / 18446744073709551616) (l := v % 18446744073709551616) (by simp; omega) b.1 hq h0'
          simp only [if_true] at J
          refine Ev.step (f := fun k => (bits_Div64.f k (-v / 18446744073709551616) (-v % 18446744073709551616) d).bind fun bt => num_Wide_Div.j1 k bt.1 bt.2 (if bt.2 > 0 then 9223372036854775807 else 9223372036854775808) (v / 18446744073709551616) (v % 18446744073709551616)) (fun k => ?_) ?_
          · rw [num_Wide_Div.j0, uw_id (x := -v / 18446744073709551616) (by omega) (by omega), uw_id (x := d) (by omega) (by omega), if_neg c]
            congr 1
            funext bt
            rw [if_pos (by omega)]
            split <;> rfl
          · refine ev_fun (Ev.bind D J) ?_
            rw [nd.1]
            unfold fits
            by_cases z : -v % d = 0
            · rw [if_pos z, if_pos z]
              by_cases y : -v / d ≤ 9223372036854775808
              · rw [if_pos y, decide_eq_true (by omega), decide_eq_true (by omega)]; rfl
              · rw [if_neg y, decide_eq_false (by omega)]; rfl
            · rw [if_neg z, if_neg z]
              by_cases y : -v / d ≤ 9223372036854775807
              · rw [if_pos y, decide_eq_true (by omega), decide_eq_true (by omega)]; rfl
              · rw [if_neg y, decide_eq_false (by omega)]; rfl
  · have b := div_bd (v := v) (d := d) (by omega) hdp
    have h0' := Int.emod_nonneg v (show d ≠ 0 by omega)
    refine Ev.congr (f := fun k => num_Wide_Div.j0 k d (v / 18446744073709551616) (v % 18446744073709551616) (v / 18446744073709551616) (v % 18446744073709551616)) (fun k => ?_) ?_
    · unfold num_Wide_Div.f
      rw [if_neg hd, if_neg (by omega)]
    · by_cases c : v / 18446744073709551616 ≥ d
      · have hq : 18446744073709551616 ≤ v / d := by rw [Int.le_ediv_iff_mul_le hdp]; omega
        have hf : fits (v / d) = false := by
          unfold fits; rw [decide_eq_true (by omega), decide_eq_false (by omega)]; rfl
        rw [hf]
        refine one_ev fun k => ?_
        rw [num_Wide_Div.j0, if_pos (by rw [uw, uw]; omega)]
        rfl
      · have D := div64 (hi := v / 18446744073709551616) (lo := v % 18446744073709551616) (y := d) (by omega) (by omega) (by omega) (by omega) (by omega)
        rw [show v / 18446744073709551616 * 18446744073709551616 + v % 18446744073709551616 = v by omega] at D
        have hq : v / d < 18446744073709551616 := by rw [Int.ediv_lt_iff_lt_mul hdp]; omega
        have J := wide_div_j1 (p := v / d) (r := v % d) false (h := v / 18446744073709551616) (l := v % 18446744073709551616) (by simp; omega) b.1 hq h0'
        simp only [Bool.false_eq_true, if_false] at J
        refine Ev.step (f := fun k => (bits_Div64.f k (v / 18446744073709551616) (v % 18446744073709551616) d).bind fun bt => num_Wide_Div.j1 k bt.1 bt.2 9223372036854775807 (v / 18446744073709551616) (v % 18446744073709551616)) (fun k => ?_) ?_
        · rw [num_Wide_Div.j0, uw_id (x := v / 18446744073709551616) (by omega) (by omega), uw_id (x := d) (by omega) (by omega), if_neg c]
          congr 1
          funext bt
          rw [if_neg (by omega)]
        · refine ev_fun (Ev.bind D J) ?_
          unfold fits
          by_cases y : v / d ≤ 9223372036854775807
          · rw [if_pos y, decide_eq_true (by omega), decide_eq_true (by omega)]; rfl
          · rw [if_neg y, decide_eq_true (by omega), decide_eq_false (by omega)]; rfl

theorem wide_mod {v d : Int} (h0 : -170141183460469231731687303715884105728 < v) (h1 : v < 170141183460469231731687303715884105728) (hd1 : d < 9223372036854775808) :
    Ev (fun k => num_Wide_Mod.f k (v / 18446744073709551616) (v % 18446744073709551616) d) (if d < 1 then 0 else v % d) := by
  by_cases hd : d < 1
  · rw [if_pos hd]; exact now_ev fun k => by unfold num_Wide_Mod.f; rw [if_pos hd]
  rw [if_neg hd]
  have hdp : 0 < d := by omega
  -- the upper half may be reduced first
  have red : ∀ u : Int, 0 ≤ u → u < 170141183460469231731687303715884105728 →
      Ev (fun k => bits_Div64.f k (Int.tmod (IntKind.u64.wrap (u / 18446744073709551616)) (IntKind.u64.wrap d)) (u % 18446744073709551616) (IntKind.u64.wrap d))
        ((u / 18446744073709551616 % d * 18446744073709551616 + u % 18446744073709551616) / d, u % d) := by
    intro u u0 u1
    have m0 := Int.emod_nonneg (u / 18446744073709551616) (show d ≠ 0 by omega)
    have m1 := Int.emod_lt_of_pos (u / 18446744073709551616) hdp
    have D := div64 (hi := u / 18446744073709551616 % d) (lo := u % 18446744073709551616) (y := d) m0 m1 (by omega) (by omega) (by omega)
    have e : (u / 18446744073709551616 % d * 18446744073709551616 + u % 18446744073709551616) % d = u % d := by
      have e1 := Int.emod_add_mul_ediv (u / 18446744073709551616) d
      have e2 : u = u / 18446744073709551616 % d * 18446744073709551616 + u % 18446744073709551616 + d * (u / 18446744073709551616 / d * 18446744073709551616) := by
        have : d * (u / 18446744073709551616 / d * 18446744073709551616) = d * (u / 18446744073709551616 / d) * 18446744073709551616 := by grind
        omega
      conv => rhs; rw [e2]
      rw [Int.add_mul_emod_self_left]
    rw [e] at D
    refine Ev.congr (fun k => ?_) D
    rw [uw_id (x := u / 18446744073709551616) (by omega) (by omega), uw_id (x := d) (by omega) (by omega), tmod_eq (by omega)]
  have hw : ¬ IntKind.u64.wrap d = 0 := by rw [uw]; omega
  by_cases hv : v < 0
  · have nd := neg_div (v := v) hdp
    have m0 := Int.emod_nonneg (-v) (show d ≠ 0 by omega)
    have m1 := Int.emod_lt_of_pos (-v) hdp
    refine Ev.congr (f := fun k => (bits_Div64.f k (Int.tmod (IntKind.u64.wrap (-v / 18446744073709551616)) (IntKind.u64.wrap d)) (-v % 18446744073709551616) (IntKind.u64.wrap d)).bind fun bt => if bt.2 > 0 then some (wrap64 (IntKind.u64.wrap (IntKind.u64.wrap d - bt.2))) else some (wrap64 bt.2)) (fun k => ?_) ?_
    · unfold num_Wide_Mod.f
      rw [if_neg hd, if_pos (by omega), wide_neg h0 h1]
      simp only [Option.bind_some]
      rw [if_neg hw]
    · refine Ev.bind (red (-v) (by omega) (by omega)) (now_ev fun k => ?_)
      rw [nd.2]
      by_cases z : -v % d = 0
      · rw [if_neg (by simp only; omega), if_pos z]; simp only [z]; decide +kernel
      · rw [if_pos (by simp only; omega), if_neg z]; simp only; congr 1; rw [uw_id (x := d) (by omega) (by omega), uw_wrap64, w64_id (by omega) (by omega)]
  · have m0 := Int.emod_nonneg v (show d ≠ 0 by omega)
    have m1 := Int.emod_lt_of_pos v hdp
    refine Ev.congr (f := fun k => (bits_Div64.f k (Int.tmod (IntKind.u64.wrap (v / 18446744073709551616)) (IntKind.u64.wrap d)) (v % 18446744073709551616) (IntKind.u64.wrap d)).bind fun bt => some (wrap64 bt.2)) (fun k => ?_) ?_
    · unfold num_Wide_Mod.f
      rw [if_neg hd, if_neg (by omega), if_neg hw]
    · refine Ev.bind (red v (by omega) (by omega)) (now_ev fun k => ?_)
      simp only; congr 1; rw [w64_id (by omega) (by omega)]

/-- The quotient, rounded up. -/
def upq (v d : Int) : Int := if v % d = 0 then v / d else v / d + 1
theorem muldiv {a b d : Int} (a0 : -9223372036854775808 ≤ a) (a1 : a < 9223372036854775808) (b0 : -9223372036854775808 ≤ b) (b1 : b < 9223372036854775808) (hd1 : d < 9223372036854775808) :
    Ev (fun k => num_MulDiv.f k a b d) (if d < 1 then (0, 1) else if fits (a * b / d) then (a * b / d, 0) else (0, 2)) := by
  have hb := prod_bd a0 a1 b0 b1
  refine Ev.congr (f := fun k => (num_Wide_Div.f k (a * b / 18446744073709551616) (a * b % 18446744073709551616) d).bind fun bt => some (bt.1, bt.2)) (fun k => ?_) ?_
  · unfold num_MulDiv.f
    rw [product a0 a1 b0 b1]; rfl
  · exact Ev.bind (wide_div (by omega) (by omega) hd1) (Ev.now _)


theorem muldivup {a b d : Int} (a0 : -9223372036854775808 ≤ a) (a1 : a < 9223372036854775808) (b0 : -9223372036854775808 ≤ b) (b1 : b < 9223372036854775808) (hd1 : d < 9223372036854775808) :
    Ev (fun k => num_MulDivUp.f k a b d) (if d < 1 then (0, 1) else if fits (a * b / d) then (if fits (upq (a * b) d) then (upq (a * b) d, 0) else (0, 2)) else (0, 2)) := by
  have hb := prod_bd a0 a1 b0 b1
  have hD := wide_div (v := a * b) (d := d) (by omega) (by omega) hd1
  have hM := wide_mod (v := a * b) (d := d) (by omega) (by omega) hd1
  generalize hv : a * b = v at *
  refine Ev.congr (f := fun k => (num_Wide_Div.f k (v / 18446744073709551616) (v % 18446744073709551616) d).bind fun bt => (if bt.2 = 0 then ((num_Wide_Mod.f k (v / 18446744073709551616) (v % 18446744073709551616) d).bind fun t => (num_MulDivUp.j0 k bt.1 bt.2 (t == 0))) else (num_MulDivUp.j0 k bt.1 bt.2 true))) (fun k => ?_) ?_
  · unfold num_MulDivUp.f
    rw [product a0 a1 b0 b1, hv]; rfl
  · refine Ev.bind hD ?_
    by_cases hd : d < 1
    · rw [if_pos hd, if_pos hd]
      exact one_ev fun k => by rw [if_neg (by decide), num_MulDivUp.j0, if_pos rfl]
    · rw [if_neg hd] at hM ⊢
      rw [if_neg hd]
      by_cases f : fits (v / d) = true
      · rw [if_pos f, if_pos f]
        simp only [if_true]
        refine Ev.bind hM ?_
        refine one_ev fun k => ?_
        rw [num_MulDivUp.j0]
        unfold upq
        unfold fits at f
        simp only [Bool.and_eq_true, decide_eq_true_eq] at f
        by_cases z : v % d = 0
        · rw [if_pos (by simp [z]), if_pos z]
          unfold fits
          rw [decide_eq_true f.1, decide_eq_true f.2]; rfl
        · rw [if_neg (by simp [z]), if_neg z]
          unfold fits
          by_cases y : v / d = 9223372036854775807
          · rw [if_pos y, decide_eq_true (by omega), decide_eq_false (by omega)]; rfl
          · rw [if_neg y, decide_eq_true (by omega), decide_eq_true (by omega), w64_id (by omega) (by omega)]; rfl
      · rw [if_neg f, if_neg f]
        exact one_ev fun k => by rw [if_neg (by decide), num_MulDivUp.j0, if_pos rfl]
end Go.Proofs.Ytpophefonhpnmaa.Q
end

section
/- What spymake.Below answers, in plain numbers. -/
namespace Go.Proofs.Ytpophefonhpnmaa.Q
open Go.RowKit Go.Proofs.YtpophefonhpnmaaW.PrintWords Go.Proofs.YtpophefonhpnmaaW.PrintLast Go.Proofs.YtpophefonhpnmaaW.PrintMore
set_option linter.unusedVariables false
set_option linter.unusedSimpArgs false

theorem below {a n : Int} (hn : 1 ≤ n) (hn1 : n < 9223372036854775808) : spymake_Below.f a n = some (a % n) := by
  unfold spymake_Below.f
  rw [if_neg (by omega), if_neg (by omega)]
  have m0 := Int.emod_nonneg a (show n ≠ 0 by omega)
  have m1 := Int.emod_lt_of_pos a (show 0 < n by omega)
  by_cases c : 0 ≤ a
  · rw [tmod_eq c, if_neg (by omega)]
  · have e : Int.tmod a n = -(-a % n) := by
      have := Int.neg_tmod (-a) n
      rw [Int.neg_neg] at this
      rw [this, tmod_eq (by omega)]
    rw [e, (show a % n = (if -a % n = 0 then 0 else n - -a % n) by
      have e1 := Int.emod_add_mul_ediv (-a) n
      have h0 := Int.emod_nonneg (-a) (show n ≠ 0 by omega)
      have h1 := Int.emod_lt_of_pos (-a) (show 0 < n by omega)
      split
      · exact ((Int.ediv_emod_unique (q := -(-a / n)) (show 0 < n by omega)).mpr ⟨by rw [Int.mul_neg]; omega, by omega, by omega⟩).2
      · exact ((Int.ediv_emod_unique (q := -(-a / n) - 1) (show 0 < n by omega)).mpr ⟨by rw [Int.mul_sub, Int.mul_neg]; omega, by omega, by omega⟩).2)]
    have h0 := Int.emod_nonneg (-a) (show n ≠ 0 by omega)
    have h1 := Int.emod_lt_of_pos (-a) (show 0 < n by omega)
    by_cases z : -a % n = 0
    · rw [if_neg (by omega), if_pos z, z]; rfl
    · rw [if_pos (by omega), if_neg z, w64_id (by omega) (by omega)]; congr 1; omega
end Go.Proofs.Ytpophefonhpnmaa.Q
end

section
/- The stream of numbers of package spymake in plain numbers: each answer lies in the range that was asked for; the bounds stand in each statement. -/
namespace Go.Proofs.Ytpophefonhpnmaa.Q
open Go.RowKit Go.Proofs.YtpophefonhpnmaaW.PrintWords Go.Proofs.YtpophefonhpnmaaW.PrintLast Go.Proofs.YtpophefonhpnmaaW.PrintMore
set_option linter.unusedVariables false
set_option linter.unusedSimpArgs false

theorem below_in {a n : Int} (hn : 1 ≤ n) (hn1 : n < 9223372036854775808) : ∃ v, spymake_Below.f a n = some v ∧ 0 ≤ v ∧ v < n :=
  ⟨a % n, below hn hn1, Int.emod_nonneg a (by omega), Int.emod_lt_of_pos a (by omega)⟩

/-- The next number lies from 0 to n - 1, and the place moves on by one. -/
theorem next_in (l : List Int) {at_ n : Int} (hl : l.length ≤ 9223372036854775807) (a0 : 0 ≤ at_) (a1 : at_ < 4611686018427387904) (n0 : 1 ≤ n) (n1 : n < 9223372036854775808) :
    ∃ v, spymake_Stream_Next.f l at_ n = some (v, at_ + 1) ∧ 0 ≤ v ∧ v < n := by
  unfold spymake_Stream_Next.f
  rw [w64_id (x := at_ + 1) (by omega) (by omega)]
  by_cases z : (l.length : Int) = 0
  · rw [if_pos z]
    obtain ⟨v, hv, v0, v1⟩ := below_in (a := wrap64 ((at_ + 1) * 7919)) n0 n1
    exact ⟨v, by rw [hv]; rfl, v0, v1⟩
  · rw [if_neg z, w64_id (x := at_ + 1 - 1) (by omega) (by omega), tmod_eq (by omega)]
    have m0 := Int.emod_nonneg (at_ + 1 - 1) z
    have m1 := Int.emod_lt_of_pos (at_ + 1 - 1) (show 0 < (l.length : Int) by omega)
    rw [if_pos m0, if_pos m1]
    obtain ⟨v, hv, v0, v1⟩ := below_in (a := rd l ((at_ + 1 - 1) % (l.length : Int))) (n := 1073741824) (by decide) (by decide)
    rw [hv]
    simp only [Option.bind_some]
    obtain ⟨v', hv', v0', v1'⟩ := below_in (a := wrap64 (v + (wrap64 ((wrap64 (Int.tdiv (at_ + 1 - 1) (l.length : Int))) * (wrap64 (7919 + ((at_ + 1 - 1) % (l.length : Int)))))))) n0 n1
    exact ⟨v', by rw [hv']; rfl, v0', v1'⟩

/-- A number of a range lies in it. -/
theorem range_in (l : List Int) {at_ lo hi : Int} (hl : l.length ≤ 9223372036854775807) (a0 : 0 ≤ at_) (a1 : at_ < 4611686018427387904) (h : lo ≤ hi) (h0 : -2305843009213693952 ≤ lo) (h1 : hi < 2305843009213693952) :
    ∃ v, spymake_Stream_Range.f l at_ lo hi = some (v, at_ + 1) ∧ lo ≤ v ∧ v ≤ hi := by
  unfold spymake_Stream_Range.f
  rw [if_neg (by omega), w64_id (x := hi - lo) (by omega) (by omega), w64_id (x := hi - lo + 1) (by omega) (by omega)]
  obtain ⟨v, hv, v0, v1⟩ := next_in l (n := hi - lo + 1) hl a0 a1 (by omega) (by omega)
  refine ⟨lo + v, ?_, by omega, by omega⟩
  rw [hv]
  simp only [Option.bind_some]
  rw [w64_id (by omega) (by omega)]
end Go.Proofs.Ytpophefonhpnmaa.Q
end

section
/- Which bounds are valid, in plain numbers; definitions alone. -/
namespace Go.Proofs.Ytpophefonhpnmaa.Q
/-- Whether a bound is valid. -/
def vb (lo hi : Int) (u : Bool) : Bool := if u then lo == 0 && hi == 0 else decide (-1152921504606846976 ≤ lo) && decide (lo ≤ hi) && decide (hi ≤ 1152921504606846976)
/-- A bound itself if it is valid, else an unknown one. -/
def nb (lo hi : Int) (u : Bool) : Int × Int × Bool := if vb lo hi u = true then (lo, hi, u) else (0, 0, true)
theorem nb_ok {lo hi : Int} (h0 : -1152921504606846976 ≤ lo) (h : lo ≤ hi) (h1 : hi ≤ 1152921504606846976) : nb lo hi false = (lo, hi, false) := by
  unfold nb vb; simp [h0, h, h1]
theorem nb_none : nb 0 0 true = (0, 0, true) := by decide
end Go.Proofs.Ytpophefonhpnmaa.Q
end

section
/- Package bound at one type of numbers in plain numbers: which bounds are valid, and what the smallest functions answer; no conditions but 64 bits where they are named. -/
namespace Go.Proofs.Ytpophefonhpnmaa.Q
open Go.RowKit Go.Proofs.YtpophefonhpnmaaW.PrintWords Go.Proofs.YtpophefonhpnmaaW.PrintLast Go.Proofs.YtpophefonhpnmaaW.PrintMore
set_option linter.unusedVariables false
set_option linter.unusedSimpArgs false

theorem check_api_Tick (lo hi : Int) (u : Bool) : ∃ e : Int, Ev (fun k => bound_Check_api_Tick.f k lo hi u) e ∧ (e = 0 ↔ vb lo hi u = true) := by
  have J1 : ∀ b : Bool, ∃ e : Int, Ev (fun k => bound_Check_api_Tick.j1 k b lo hi u) e ∧ (e = 0 ↔ (b = false ∧ lo ≤ hi)) := by
    intro b
    cases b
    · by_cases c : lo > hi
      · exact ⟨11, one_ev fun k => by rw [bound_Check_api_Tick.j1, if_neg (by decide), if_pos c], by omega⟩
      · exact ⟨0, one_ev fun k => by rw [bound_Check_api_Tick.j1, if_neg (by decide), if_neg c], by simp; omega⟩
    · exact ⟨4, one_ev fun k => by rw [bound_Check_api_Tick.j1, if_pos rfl], by simp⟩
  have J0 : ∀ b : Bool, ∃ e : Int, Ev (fun k => bound_Check_api_Tick.j0 k b lo hi u) e ∧ (e = 0 ↔ (b = false ∧ -1152921504606846976 ≤ lo ∧ lo ≤ hi ∧ hi ≤ 1152921504606846976)) := by
    intro b
    cases b
    · by_cases c : mn lo hi < -1152921504606846976
      · obtain ⟨e, he, h⟩ := J1 true
        refine ⟨e, Ev.step (fun k => by rw [bound_Check_api_Tick.j0, if_neg (by decide), if_pos c]) he, ?_⟩
        unfold mn at c
        rw [h]; simp; split at c <;> omega
      · obtain ⟨e, he, h⟩ := J1 (decide ((mx lo hi) > 1152921504606846976))
        refine ⟨e, Ev.step (fun k => by rw [bound_Check_api_Tick.j0, if_neg (by decide), if_neg c]) he, ?_⟩
        unfold mn at c
        rw [h]; unfold mx; simp only [decide_eq_false_iff_not, true_and]
        split at c <;> split <;> omega
    · exact ⟨3, one_ev fun k => by rw [bound_Check_api_Tick.j0, if_pos rfl], by simp⟩
  unfold bound_Check_api_Tick.f vb
  cases u
  · obtain ⟨e, he, h⟩ := J0 false
    refine ⟨e, Ev.congr (fun k => by rw [if_neg (by decide)]) he, ?_⟩
    rw [h]; simp; omega
  · by_cases z : lo = 0
    · obtain ⟨e, he, h⟩ := J0 (hi != 0)
      refine ⟨e, Ev.congr (fun k => by rw [if_pos rfl, if_pos z]) he, ?_⟩
      rw [h]
      simp [z]
      intro h'; omega
    · obtain ⟨e, he, h⟩ := J0 true
      refine ⟨e, Ev.congr (fun k => by rw [if_pos rfl, if_neg z]) he, ?_⟩
      rw [h]; simp [z]

theorem norm_api_Tick (lo hi : Int) (u : Bool) : Ev (fun k => bound_Norm_api_Tick.f k lo hi u) (nb lo hi u) := by
  obtain ⟨e, he, h⟩ := check_api_Tick lo hi u
  unfold bound_Norm_api_Tick.f nb
  refine Ev.bind he ?_
  by_cases c : e = 0
  · rw [if_pos (h.mp c)]; exact pos_ev c (Ev.now _)
  · rw [if_neg (fun h' => c (h.mpr h'))]; exact neg_ev c (now_ev fun k => by unfold bound_None_api_Tick.f; rfl)
end Go.Proofs.Ytpophefonhpnmaa.Q
end

section
/- Package bound at one type of numbers in plain numbers: vague and Of; no other condition. -/
namespace Go.Proofs.Ytpophefonhpnmaa.Q
open Go.RowKit Go.Proofs.YtpophefonhpnmaaW.PrintWords Go.Proofs.YtpophefonhpnmaaW.PrintLast Go.Proofs.YtpophefonhpnmaaW.PrintMore
set_option linter.unusedVariables false
set_option linter.unusedSimpArgs false

theorem vague_api_Tick (lo hi : Int) (u : Bool) (lo2 hi2 : Int) (u2 : Bool) : Ev (fun k => bound_vague_api_Tick.f k lo hi u lo2 hi2 u2) ((nb lo hi u).2.2 || (nb lo2 hi2 u2).2.2) := by
  unfold bound_vague_api_Tick.f
  refine Ev.bind (norm_api_Tick lo hi u) ?_
  by_cases c : (nb lo hi u).2.2 = true
  · rw [c]; exact pos_ev rfl (Ev.now _)
  · rw [Bool.not_eq_true] at c
    rw [c]; refine neg_ev (by decide) (Ev.bind (norm_api_Tick lo2 hi2 u2) (Ev.now _))
theorem of_api_Tick (lo hi : Int) : Ev (fun k => bound_Of_api_Tick.f k lo hi) (nb lo hi false) := by
  unfold bound_Of_api_Tick.f
  exact Ev.bind (norm_api_Tick lo hi false) (Ev.now _)
theorem nbu_api_Tick {lo hi : Int} {u : Bool} (h : (nb lo hi u).2.2 = false) : u = false := by
  cases u
  · rfl
  · unfold nb at h; split at h <;> simp_all
end Go.Proofs.Ytpophefonhpnmaa.Q
end

section
/- Clocks in plain numbers: what the functions of package clock answer for a clock whose rate is within its bounds; the bounds stand in each statement. -/
-- AUTO
namespace Go.Proofs.Ytpophefonhpnmaa.Q
open Go.RowKit Go.Proofs.YtpophefonhpnmaaW.PrintWords Go.Proofs.YtpophefonhpnmaaW.PrintLast Go.Proofs.YtpophefonhpnmaaW.PrintMore
set_option linter.unusedVariables false
set_option linter.unusedSimpArgs false

theorem vague_tick (lo hi : Int) (u : Bool) (lo2 hi2 : Int) (u2 : Bool) : Ev (fun k => bound_vague_api_Tick.f k lo hi u lo2 hi2 u2) ((nb lo hi u).2.2 || (nb lo2 hi2 u2).2.2) := by
  unfold bound_vague_api_Tick.f
  refine Ev.bind (norm_api_Tick lo hi u) ?_
  by_cases c : (nb lo hi u).2.2 = true
  · refine pos_ev c (now_ev fun k => ?_)
    simp [c]
  · refine neg_ev c (Ev.bind (norm_api_Tick lo2 hi2 u2) (now_ev fun k => ?_))
    simp [Bool.eq_false_iff.mpr c]
theorem of_tick (lo hi : Int) : Ev (fun k => bound_Of_api_Tick.f k lo hi) (nb lo hi false) := by
  unfold bound_Of_api_Tick.f
  exact Ev.bind (norm_api_Tick lo hi false) (Ev.now _)
theorem has_tick {lo hi v : Int} {u : Bool} (h : u = false → lo ≤ v ∧ v ≤ hi) : Ev (fun k => bound_Has_api_Tick.f k lo hi u v) true := by
  unfold bound_Has_api_Tick.f
  refine Ev.bind (vague_tick lo hi u lo hi u) ?_
  by_cases c : ((nb lo hi u).2.2 || (nb lo hi u).2.2) = true
  · exact pos_ev c (Ev.now _)
  · refine neg_ev c ?_
    have hu : u = false := by
      cases u
      · rfl
      · exfalso; apply c; unfold nb; split <;> simp
    obtain ⟨h0, h1⟩ := h hu
    exact pos_ev h0 (now_ev fun k => by rw [decide_eq_true h1])
theorem add_tick {lo hi lo2 hi2 : Int} (a0 : -576460752303423488 ≤ lo) (a : lo ≤ hi) (a1 : hi ≤ 576460752303423488) (b0 : -576460752303423488 ≤ lo2) (b : lo2 ≤ hi2) (b1 : hi2 ≤ 576460752303423488) :
    Ev (fun k => bound_Add_api_Tick.f k lo hi false lo2 hi2 false) (lo + lo2, hi + hi2, false) := by
  unfold bound_Add_api_Tick.f
  refine Ev.bind (vague_tick lo hi false lo2 hi2 false) ?_
  rw [nb_ok (by omega) a (by omega), nb_ok (by omega) b (by omega), w64_id (x := lo + lo2) (by omega) (by omega), w64_id (x := hi + hi2) (by omega) (by omega)]
  refine neg_ev (by simp) (Ev.bind (of_tick _ _) ?_)
  rw [nb_ok (by omega) (by omega) (by omega)]
  exact Ev.now _

theorem intime_yes {t : Int} (h0 : -17592186044416 ≤ t) (h1 : t ≤ 17592186044416) : clock_inTime.f t = some true := by
  unfold clock_inTime.f; rw [if_pos h0, decide_eq_true h1]

/-- A leg that is permitted. -/
def LegOk (D : Int) (x : S114) : Prop := 0 ≤ x.f0 ∧ x.f0 ≤ 1099511627776 ∧ -D ≤ x.f1 ∧ x.f1 ≤ D

theorem rd_leg {l : List S114} {i : Nat} (h : i < l.length) : rd_T114 l (i : Int) = l[i] := by
  unfold rd_T114; rw [Int.toNat_natCast, List.getD_eq_getElem?_getD, List.getElem?_eq_getElem h]; rfl

theorem checkrun_l0 {D : Int} (hD : D ≤ 100000) (l : List S114) (hl : l.length ≤ 64) (h : ∀ x ∈ l, LegOk D x) (n : Nat) : ∀ i : Nat, l.length - i = n → i ≤ l.length → Ev (fun k => clock_CheckRun.l0 k l (l.length : Int) (i : Int)) 0 := by
  induction n with
  | zero =>
    intro i hn hi
    exact one_ev fun k => by rw [clock_CheckRun.l0, if_neg (by omega)]
  | succ n ih =>
    intro i hn hi
    have hlt : i < l.length := by omega
    obtain ⟨o0, o1, o2, o3⟩ := h l[i] (List.getElem_mem hlt)
    refine Ev.step (fun k => ?_) (ih (i + 1) (by omega) (by omega))
    rw [clock_CheckRun.l0, rd_leg hlt, if_pos (by omega), if_pos (by omega), if_pos (by omega), if_neg (by omega), if_neg (by omega), if_neg (by omega), if_neg (by omega), w64_id (by omega) (by omega)]
    rfl
theorem checkrun_ev {D s a : Int} (hD : D ≤ 100000) (l : List S114) (hl : l.length ≤ 64) (h : ∀ x ∈ l, LegOk D x) (s0 : -17592186044416 ≤ s) (s1 : s ≤ 17592186044416) (a0 : -17592186044416 ≤ a) (a1 : a ≤ 17592186044416) :
    Ev (fun k => clock_CheckRun.f k s a l) 0 := by
  unfold clock_CheckRun.f
  refine some_ev (intime_yes s0 s1) (pos_ev rfl (some_ev (intime_yes a0 a1) ?_))
  refine Ev.step (fun k => ?_) (checkrun_l0 hD l hl h l.length 0 (by omega) (by omega))
  rw [clock_CheckRun.j0, if_neg (by decide), if_neg (by omega)]; rfl

/-- What a running clock has counted: between the slowest and the fastest rate. -/
theorem reads_l0 {D s a : Int} (hD0 : 0 ≤ D) (hD : D ≤ 100000) (s0 : -17592186044416 ≤ s) (s1 : s ≤ 17592186044416) (l : List S114) (hl : l.length ≤ 64) (h : ∀ x ∈ l, LegOk D x) (L : Int) (L0 : 0 ≤ L) (L1 : L ≤ 1099511627776) (n : Nat) :
    ∀ (i : Nat) (sum left : Int), l.length - i = n → i ≤ l.length → 0 ≤ left → left ≤ L → (L - left) * (1000000 - D) ≤ sum → sum ≤ (L - left) * (1000000 + D) →
      ∃ S, Ev (fun k => clock_Reads.l0 k sum left l (l.length : Int) (i : Int) s a l) (s + S / 1000000, 0) ∧ L * (1000000 - D) ≤ S ∧ S ≤ L * (1000000 + D) := by
  have big : ∀ v : Int, 0 ≤ v → v ≤ L → v * (1000000 + D) ≤ 1099511627776 * 1100000 := fun v v0 v1 => Int.mul_le_mul (by omega) (by omega) (by omega) (by omega)
  have low : ∀ v : Int, 0 ≤ v → 0 ≤ v * (1000000 - D) := fun v v0 => Int.mul_nonneg v0 (by omega)
  induction n with
  | zero =>
    intro i sum left hn hi l0 l1 h0 h1
    refine ⟨sum + left * 1000000, one_ev fun k => ?_, ?_, ?_⟩
    · have b1 := big (L - left) (by omega) (by omega)
      have b2 := low (L - left) (by omega)
      have b3 : 0 ≤ left * 1000000 := by omega
      rw [clock_Reads.l0, if_neg (by omega), w64_id (x := left * 1000000) (by omega) (by omega), w64_id (x := sum + left * 1000000) (by omega) (by omega), tdiv_eq (by omega), w64_id (x := (sum + left * 1000000) / 1000000) (by omega) (by omega), w64_id (by omega) (by omega)]
    · have e1 : L * (1000000 - D) = (L - left) * (1000000 - D) + left * 1000000 - left * D := by grind
      have := Int.mul_nonneg l0 hD0
      omega
    · have e1 : L * (1000000 + D) = (L - left) * (1000000 + D) + left * 1000000 + left * D := by grind
      have := Int.mul_nonneg l0 hD0
      omega
  | succ n ih =>
    intro i sum left hn hi l0 l1 h0 h1
    have hlt : i < l.length := by omega
    obtain ⟨o0, o1, o2, o3⟩ := h l[i] (List.getElem_mem hlt)
    obtain ⟨d, hd⟩ : ∃ d, d = mn left l[i].f0 := ⟨_, rfl⟩
    have d0 : 0 ≤ d ∧ d ≤ left := by rw [hd]; unfold mn; split <;> omega
    have b1 := big (L - left) (by omega) (by omega)
    have b2 := low (L - left) (by omega)
    have m1 : d * (1000000 - D) ≤ d * (1000000 + l[i].f1) := Int.mul_le_mul_of_nonneg_left (by omega) d0.1
    have m2 : d * (1000000 + l[i].f1) ≤ d * (1000000 + D) := Int.mul_le_mul_of_nonneg_left (by omega) d0.1
    have m3 := big d d0.1 (by omega)
    have m4 := low d d0.1
    have e1 : (L - (left - d)) * (1000000 - D) = (L - left) * (1000000 - D) + d * (1000000 - D) := by grind
    have e2 : (L - (left - d)) * (1000000 + D) = (L - left) * (1000000 + D) + d * (1000000 + D) := by grind
    obtain ⟨S, hS, rest⟩ := ih (i + 1) (sum + d * (1000000 + l[i].f1)) (left - d) (by omega) (by omega) (by omega) (by omega) (by omega) (by omega)
    refine ⟨S, Ev.step (fun k => ?_) hS, rest⟩
    rw [clock_Reads.l0, rd_leg hlt, if_pos (by omega), if_pos (by omega), if_pos (by omega), ← hd, w64_id (x := 1000000 + l[i].f1) (by omega) (by omega), w64_id (x := d * (1000000 + l[i].f1)) (by omega) (by omega), w64_id (x := sum + d * (1000000 + l[i].f1)) (by omega) (by omega), w64_id (x := left - d) (by omega) (by omega), w64_id (x := (i : Int) + 1) (by omega) (by omega)]
    rfl

/-- What a running clock shows at a time: its start, and the time that has passed at rates within its bounds. -/
theorem reads_ev {D s a t : Int} (hD0 : 0 ≤ D) (hD : D ≤ 100000) (s0 : -17592186044416 ≤ s) (s1 : s ≤ 17592186044416) (a0 : -17592186044416 ≤ a) (t1 : t ≤ 17592186044416) (h : a ≤ t) (h' : t - a ≤ 1099511627776) (l : List S114) (hl : l.length ≤ 64) (hx : ∀ x ∈ l, LegOk D x) :
    ∃ S, Ev (fun k => clock_Reads.f k s a l t) (s + S / 1000000, 0) ∧ (t - a) * (1000000 - D) ≤ S ∧ S ≤ (t - a) * (1000000 + D) := by
  obtain ⟨S, hS, rest⟩ := reads_l0 (a := a) hD0 hD s0 s1 l hl hx (t - a) (by omega) h' l.length 0 0 (t - a) (by omega) (by omega) (by omega) (by omega) (by simp) (by simp)
  refine ⟨S, ?_, rest⟩
  unfold clock_Reads.f
  refine Ev.bind (checkrun_ev hD l hl hx s0 s1 a0 (by omega)) (pos_ev rfl (some_ev (intime_yes (by omega) t1) (pos_ev rfl (neg_ev (by omega) ?_))))
  rw [w64_id (x := t - a) (by omega) (by omega), decide_eq_false (by omega)]
  refine Ev.step (fun k => ?_) hS
  rw [clock_Reads.j0, if_neg (by decide), w64_id (x := t - a) (by omega) (by omega)]; rfl

theorem clockcheck_ev {s lo hi D : Int} (s0 : -17592186044416 ≤ s) (s1 : s ≤ 17592186044416) (a0 : -17592186044416 ≤ lo) (a : lo ≤ hi) (a1 : hi ≤ 17592186044416) (hD0 : 0 ≤ D) (hD : D ≤ 100000) :
    Ev (fun k => clock_Check.f k s lo hi false D) 0 := by
  obtain ⟨e, he, h⟩ := check_api_Tick lo hi false
  have z : e = 0 := h.mpr (by unfold vb; simp; omega)
  subst z
  unfold clock_Check.f
  refine Ev.bind he (pos_ev rfl (some_ev (intime_yes s0 s1) (pos_ev rfl (some_ev (intime_yes a0 (by omega)) (pos_ev rfl (some_ev (intime_yes (by omega) a1) (pos_ev rfl (neg_ev (by omega) (neg_ev (by omega) (Ev.now _))))))))))

/-- The bound of the time at which a clock shows a value. -/
theorem uniform_ev {s lo hi D n : Int} (s0 : -17592186044416 ≤ s) (s1 : s ≤ 17592186044416) (a0 : -17592186044416 ≤ lo) (a : lo ≤ hi) (a1 : hi ≤ 17592186044416) (hD0 : 0 ≤ D) (hD : D ≤ 100000) (n0 : s ≤ n) (n1 : n ≤ 17592186044416) :
    Ev (fun k => clock_Uniform.f k s lo hi false D n) (lo + mx (n - s - 1) 0 * 1000000 / (1000000 + D), hi + upq ((n - s + 1) * 1000000) (1000000 - D), false) := by
  have m0 : 0 ≤ mx (n - s - 1) 0 ∧ mx (n - s - 1) 0 ≤ n - s := by unfold mx; split <;> omega
  have q0 := div_bd (v := mx (n - s - 1) 0 * 1000000) (d := 1000000 + D) (by omega) (by omega)
  have q1 := div_bd (v := (n - s + 1) * 1000000) (d := 1000000 - D) (by omega) (by omega)
  have hle : mx (n - s - 1) 0 * 1000000 / (1000000 + D) ≤ (n - s + 1) * 1000000 / (1000000 - D) := by
    rw [Int.le_ediv_iff_mul_le (by omega)]
    have e1 := Int.ediv_mul_le (mx (n - s - 1) 0 * 1000000) (show 1000000 + D ≠ 0 by omega)
    have e2 : mx (n - s - 1) 0 * 1000000 / (1000000 + D) * (1000000 - D) ≤ mx (n - s - 1) 0 * 1000000 / (1000000 + D) * (1000000 + D) := Int.mul_le_mul_of_nonneg_left (by omega) q0.1
    omega
  have u0 : (n - s + 1) * 1000000 / (1000000 - D) ≤ upq ((n - s + 1) * 1000000) (1000000 - D) ∧ upq ((n - s + 1) * 1000000) (1000000 - D) ≤ (n - s + 1) * 1000000 / (1000000 - D) + 1 := by unfold upq; split <;> omega
  have qs : (n - s + 1) * 1000000 / (1000000 - D) ≤ 2 * (n - s + 1) := by
    have : (n - s + 1) * 1000000 / (1000000 - D) < 2 * (n - s + 1) + 1 := by
      rw [Int.ediv_lt_iff_lt_mul (by omega)]
      have := Int.mul_le_mul_of_nonneg_left (show (900000 : Int) ≤ 1000000 - D by omega) (show 0 ≤ 2 * (n - s + 1) + 1 by omega)
      omega
    omega
  have M := muldiv (a := mx (n - s - 1) 0) (b := 1000000) (d := 1000000 + D) (by omega) (by omega) (by decide) (by decide) (by omega)
  rw [if_neg (by omega), if_pos (by unfold fits; rw [decide_eq_true (by omega), decide_eq_true (by omega)]; rfl)] at M
  have U := muldivup (a := n - s + 1) (b := 1000000) (d := 1000000 - D) (by omega) (by omega) (by decide) (by decide) (by omega)
  rw [if_neg (by omega), if_pos (by unfold fits; rw [decide_eq_true (by omega), decide_eq_true (by omega)]; rfl), if_pos (by unfold fits; rw [decide_eq_true (by omega), decide_eq_true (by omega)]; rfl)] at U
  unfold clock_Uniform.f
  refine Ev.bind (clockcheck_ev s0 s1 a0 a a1 hD0 hD) (pos_ev rfl (some_ev (intime_yes (by omega) n1) (pos_ev rfl ?_)))
  rw [decide_eq_false (by omega)]
  refine Ev.step (fun k => by rw [clock_Uniform.j0, if_neg (by decide), w64_id (x := n - s) (by omega) (by omega), w64_id (x := n - s - 1) (by omega) (by omega), w64_id (x := n - s + 1) (by omega) (by omega), w64_id (x := 1000000 + D) (by omega) (by omega), w64_id (x := 1000000 - D) (by omega) (by omega)]) ?_
  refine Ev.bind M (Ev.bind U (Ev.bind (of_tick _ _) ?_))
  rw [nb_ok (by simp only; omega) (by simp only; omega) (by simp only; omega)]
  exact Ev.bind (add_tick (by omega) a (by omega) (by simp only; omega) (by simp only; omega) (by simp only; omega)) (Ev.now _)
end Go.Proofs.Ytpophefonhpnmaa.Q
end

section
/- The simulated clock that the statements draw: its start, its legs and what is known of it lie in their ranges; the place in the stream is below 2^61. -/
namespace Go.Proofs.Ytpophefonhpnmaa.Q
open Go.RowKit Go.Proofs.YtpophefonhpnmaaW.PrintWords Go.Proofs.YtpophefonhpnmaaW.PrintLast Go.Proofs.YtpophefonhpnmaaW.PrintMore
set_option linter.unusedVariables false
set_option linter.unusedSimpArgs false

theorem running_l0 (l : List Int) (hl : l.length ≤ 9223372036854775807) {D s a : Int} (hD0 : 0 ≤ D) (hD : D ≤ 100000) (a0 : -1000 ≤ a) (a1 : a ≤ 1000) {N : Int} (hN : N ≤ 4) (n : Nat) :
    ∀ (i : Nat) (p : Int) (legs : List S114), N - i ≤ n → legs.length ≤ i → (i : Int) ≤ 4 → 0 ≤ p → p + 2 * n ≤ 2305843009213693952 → (∀ x ∈ legs, LegOk D x) →
      ∃ (legs' : List S114) (e1 e2 p' : Int), Ev (fun k => spykeep1_running.l0 k D N (i : Int) l p s a legs) (s, a, legs', s, a - e1, a + e2, false, D, p') ∧ legs'.length ≤ 4 ∧ (∀ x ∈ legs', LegOk D x) ∧ 0 ≤ e1 ∧ e1 < 30 ∧ 0 ≤ e2 ∧ e2 < 30 ∧ p ≤ p' ∧ p' ≤ p + 2 + 2 * n := by
  have last : ∀ (i : Nat) (p : Int) (legs : List S114), ¬ (i : Int) < N → legs.length ≤ i → (i : Int) ≤ 4 → 0 ≤ p → p ≤ 2305843009213693952 + 100 → (∀ x ∈ legs, LegOk D x) →
      ∃ (legs' : List S114) (e1 e2 p' : Int), Ev (fun k => spykeep1_running.l0 k D N (i : Int) l p s a legs) (s, a, legs', s, a - e1, a + e2, false, D, p') ∧ legs'.length ≤ 4 ∧ (∀ x ∈ legs', LegOk D x) ∧ 0 ≤ e1 ∧ e1 < 30 ∧ 0 ≤ e2 ∧ e2 < 30 ∧ p' = p + 2 := by
    intro i p legs hi h1 h4 p0 p1 hx
    obtain ⟨e1, r1, b1, b2⟩ := next_in l (at_ := p) (n := 30) hl p0 (by omega) (by decide) (by decide)
    obtain ⟨e2, r2, b3, b4⟩ := next_in l (at_ := p + 1) (n := 30) hl (by omega) (by omega) (by decide) (by decide)
    refine ⟨legs, e1, e2, p + 1 + 1, one_ev fun k => ?_, by omega, hx, b1, b2, b3, b4, by omega⟩
    rw [spykeep1_running.l0, if_neg hi, r1]
    simp only [Option.bind_some]
    rw [r2]
    simp only [Option.bind_some]
    rw [w64_id (x := a - e1) (by omega) (by omega), w64_id (x := a + e2) (by omega) (by omega)]
  induction n with
  | zero =>
    intro i p legs hn h1 h4 p0 p1 hx
    obtain ⟨legs', e1, e2, p', r, r1, r2, r3, r4, r5, r6, r7⟩ := last i p legs (by omega) h1 h4 p0 (by omega) hx
    exact ⟨legs', e1, e2, p', r, r1, r2, r3, r4, r5, r6, by omega, by omega⟩
  | succ n ih =>
    intro i p legs hn h1 h4 p0 p1 hx
    by_cases c : (i : Int) < N
    · obtain ⟨f, r1, b1, b2⟩ := next_in l (at_ := p) (n := 5000) hl p0 (by omega) (by decide) (by decide)
      obtain ⟨g, r2, b3, b4⟩ := range_in l (at_ := p + 1) (lo := -D) (hi := D) hl (by omega) (by omega) (by omega) (by omega) (by omega)
      obtain ⟨legs', e1, e2, p', r, q1, q2, q3, q4, q5, q6, q7, q8⟩ := ih (i + 1) (p + 1 + 1) (legs ++ [⟨f, g⟩]) (by omega) (by simp; omega) (by omega) (by omega) (by omega) (by
        intro x hx'
        rcases List.mem_append.mp hx' with h | h
        · exact hx x h
        · simp at h; subst h; exact ⟨b1, by simp only; omega, b3, b4⟩)
      refine ⟨legs', e1, e2, p', Ev.step (fun k => ?_) r, q1, q2, q3, q4, q5, q6, by omega, by omega⟩
      rw [spykeep1_running.l0, if_pos c, r1]
      simp only [Option.bind_some]
      rw [w64_id (x := -D) (by omega) (by omega), r2]
      simp only [Option.bind_some]
      rw [if_pos (by omega), w64_id (x := (i : Int) + 1) (by omega) (by omega)]
      rfl
    · obtain ⟨legs', e1, e2, p', r, r1, r2, r3, r4, r5, r6, r7⟩ := last i p legs c h1 h4 p0 (by omega) hx
      exact ⟨legs', e1, e2, p', r, r1, r2, r3, r4, r5, r6, by omega, by omega⟩

theorem running_ev (l : List Int) (hl : l.length ≤ 9223372036854775807) {p : Int} (p0 : 0 ≤ p) (p1 : p ≤ 1152921504606846976) :
    ∃ (s a D e1 e2 p' : Int) (legs : List S114), Ev (fun k => spykeep1_running.f k l p) (s, a, legs, s, a - e1, a + e2, false, D, p') ∧ -1000 ≤ s ∧ s ≤ 1000 ∧ -1000 ≤ a ∧ a ≤ 1000 ∧ 0 ≤ D ∧ D ≤ 100000 ∧ legs.length ≤ 4 ∧ (∀ x ∈ legs, LegOk D x) ∧ 0 ≤ e1 ∧ e1 < 30 ∧ 0 ≤ e2 ∧ e2 < 30 ∧ p ≤ p' ∧ p' ≤ p + 20 := by
  obtain ⟨s, r1, s0, s1⟩ := range_in l (at_ := p) (lo := -1000) (hi := 1000) hl p0 (by omega) (by decide) (by decide) (by decide)
  obtain ⟨a, r2, a0, a1⟩ := range_in l (at_ := p + 1) (lo := -1000) (hi := 1000) hl (by omega) (by omega) (by decide) (by decide) (by decide)
  obtain ⟨D, r3, D0, D1⟩ := next_in l (at_ := p + 1 + 1) (n := 100001) hl (by omega) (by omega) (by decide) (by decide)
  obtain ⟨N, r4, N0, N1⟩ := next_in l (at_ := p + 1 + 1 + 1) (n := 5) hl (by omega) (by omega) (by decide) (by decide)
  obtain ⟨legs, e1, e2, p', r, q1, q2, q3, q4, q5, q6, q7, q8⟩ := running_l0 l hl (s := s) (a := a) (N := N) D0 (by omega) a0 a1 (by omega) 4 0 (p + 1 + 1 + 1 + 1) [] (by omega) (by simp) (by omega) (by omega) (by omega) (by simp)
  refine ⟨s, a, D, e1, e2, p', legs, ?_, s0, s1, a0, a1, D0, by omega, q1, q2, q3, q4, q5, q6, by omega, by omega⟩
  refine Ev.congr (fun k => ?_) r
  unfold spykeep1_running.f
  rw [r1]; simp only [Option.bind_some]
  rw [r2]; simp only [Option.bind_some]
  rw [r3]; simp only [Option.bind_some]
  rw [r4]; rfl

theorem clockFact_ev : Ev (fun k => spykeep1_clockFact.f k) true := by
  have U := uniform_ev (s := 1000) (lo := 5000) (hi := 5010) (D := 100000) (n := 1100) (by decide) (by decide) (by decide) (by decide) (by decide) (by decide) (by decide) (by decide) (by decide)
  unfold spykeep1_clockFact.f
  exact Ev.bind U (now_ev fun k => by decide +kernel)
end Go.Proofs.Ytpophefonhpnmaa.Q
end

section
/- A simulated clock in plain numbers: what it counts, and the bounds of the difference of two readings; the bounds stand in each statement. -/
namespace Go.Proofs.Ytpophefonhpnmaa.Q
open Go.RowKit Go.Proofs.YtpophefonhpnmaaW.PrintWords Go.Proofs.YtpophefonhpnmaaW.PrintLast Go.Proofs.YtpophefonhpnmaaW.PrintMore
set_option linter.unusedVariables false
set_option linter.unusedSimpArgs false

/-- What a running clock counts in L ticks, in millionths. -/
def Sum : List S114 → Int → Int
  | [], L => L * 1000000
  | x :: r, L => mn L x.f0 * (1000000 + x.f1) + Sum r (L - mn L x.f0)
theorem mn_in {L f : Int} (h : 0 ≤ L) (h1 : 0 ≤ f) : 0 ≤ mn L f ∧ mn L f ≤ L ∧ mn L f ≤ f := by unfold mn; split <;> omega
theorem sum_diff {D : Int} (hD : D ≤ 100000) (hD0 : 0 ≤ D) (l : List S114) : (∀ x ∈ l, LegOk D x) → ∀ L1 L2 : Int, 0 ≤ L1 → L1 ≤ L2 →
    (L2 - L1) * (1000000 - D) ≤ Sum l L2 - Sum l L1 ∧ Sum l L2 - Sum l L1 ≤ (L2 - L1) * (1000000 + D) := by
  induction l with
  | nil =>
    intro _ L1 L2 h0 h1
    unfold Sum
    have a : 0 ≤ (L2 - L1) * D := Int.mul_nonneg (by omega) hD0
    rw [Int.mul_sub, Int.mul_add]
    omega
  | cons x r ih =>
    intro hx L1 L2 h0 h1
    obtain ⟨f0, f1, p0, p1⟩ := hx x (by simp)
    have m1 := mn_in h0 f0
    have m2 := mn_in (show 0 ≤ L2 by omega) f0
    have le : mn L1 x.f0 ≤ mn L2 x.f0 ∧ mn L2 x.f0 - mn L1 x.f0 ≤ L2 - L1 := by unfold mn; split <;> split <;> omega
    obtain ⟨i0, i1⟩ := ih (fun y hy => hx y (by simp [hy])) (L1 - mn L1 x.f0) (L2 - mn L2 x.f0) (by omega) (by omega)
    unfold Sum
    generalize mn L1 x.f0 = d1 at m1 le i0 i1
    generalize mn L2 x.f0 = d2 at m2 le i0 i1
    have e1 : (d2 - d1) * (1000000 - D) ≤ (d2 - d1) * (1000000 + x.f1) := Int.mul_le_mul_of_nonneg_left (by omega) (by omega)
    have e2 : (d2 - d1) * (1000000 + x.f1) ≤ (d2 - d1) * (1000000 + D) := Int.mul_le_mul_of_nonneg_left (by omega) (by omega)
    have e3 : (d2 - d1) * (1000000 + x.f1) = d2 * (1000000 + x.f1) - d1 * (1000000 + x.f1) := Int.sub_mul _ _ _
    have e4 : (L2 - L1) * (1000000 - D) = (d2 - d1) * (1000000 - D) + (L2 - d2 - (L1 - d1)) * (1000000 - D) := by rw [← Int.add_mul]; congr 1; omega
    have e5 : (L2 - L1) * (1000000 + D) = (d2 - d1) * (1000000 + D) + (L2 - d2 - (L1 - d1)) * (1000000 + D) := by rw [← Int.add_mul]; congr 1; omega
    omega
theorem sum_zero (l : List S114) : (∀ x ∈ l, 0 ≤ x.f0) → Sum l 0 = 0 := by
  induction l with
  | nil => intro _; unfold Sum; omega
  | cons x r ih =>
    intro h
    have m := mn_in (L := 0) (Int.le_refl _) (h x (by simp))
    have e : mn 0 x.f0 = 0 := by omega
    unfold Sum
    rw [e, Int.zero_mul, Int.sub_self, ih (fun y hy => h y (by simp [hy]))]; rfl

theorem reads_l0' {D s a : Int} (hD0 : 0 ≤ D) (hD : D ≤ 100000) (s0 : -17592186044416 ≤ s) (s1 : s ≤ 17592186044416) (l : List S114) (hl : l.length ≤ 64) (h : ∀ x ∈ l, LegOk D x) (n : Nat) :
    ∀ (i : Nat) (sum left : Int), l.length - i = n → i ≤ l.length → 0 ≤ left → left ≤ 1000000000 → 0 ≤ sum → sum ≤ (1000000000 - left) * 1100000 →
      Ev (fun k => clock_Reads.l0 k sum left l (l.length : Int) (i : Int) s a l) (s + (sum + Sum (l.drop i) left) / 1000000, 0) := by
  induction n with
  | zero =>
    intro i sum left hn hi l0 l1 h0 h1
    have e : l.drop i = [] := List.drop_eq_nil_of_le (by omega)
    rw [e]
    refine one_ev fun k => ?_
    unfold Sum
    rw [clock_Reads.l0, if_neg (by omega), w64_id (x := left * 1000000) (by omega) (by omega), w64_id (x := sum + left * 1000000) (by omega) (by omega), tdiv_eq (by omega), w64_id (x := (sum + left * 1000000) / 1000000) (by omega) (by omega), w64_id (x := s + (sum + left * 1000000) / 1000000) (by omega) (by omega)]
  | succ n ih =>
    intro i sum left hn hi l0 l1 h0 h1
    have hlt : i < l.length := by omega
    obtain ⟨f0, f1, p0, p1⟩ := h l[i] (List.getElem_mem hlt)
    have m := mn_in l0 f0
    have e : l.drop i = l[i] :: l.drop (i + 1) := List.drop_eq_getElem_cons hlt
    have b1 : mn left l[i].f0 * (1000000 + l[i].f1) ≤ mn left l[i].f0 * 1100000 := Int.mul_le_mul_of_nonneg_left (by omega) m.1
    have b0 : 0 ≤ mn left l[i].f0 * (1000000 + l[i].f1) := Int.mul_nonneg m.1 (by omega)
    have I := ih (i + 1) (sum + mn left l[i].f0 * (1000000 + l[i].f1)) (left - mn left l[i].f0) (by omega) (by omega) (by omega) (by omega) (by omega) (by omega)
    rw [e]
    unfold Sum
    rw [← Int.add_assoc]
    refine Ev.step (fun k => ?_) I
    rw [clock_Reads.l0, if_pos (by omega), if_pos (by omega), if_pos (by omega), rd_leg hlt]
    generalize mn left l[i].f0 = d at *
    generalize hz : d * (1000000 + l[i].f1) = z at *
    rw [w64_id (x := 1000000 + l[i].f1) (by omega) (by omega), hz, w64_id (x := z) (by omega) (by omega), w64_id (x := sum + z) (by omega) (by omega), w64_id (x := left - d) (by omega) (by omega), w64_id (x := (i : Int) + 1) (by omega) (by omega)]
    rfl
/-- What a simulated clock reads. -/
theorem reads_at {D s a t : Int} (hD0 : 0 ≤ D) (hD : D ≤ 100000) (s0 : -17592186044416 ≤ s) (s1 : s ≤ 17592186044416) (a0 : -17592186044416 ≤ a) (t1 : t ≤ 17592186044416) (h : a ≤ t) (h' : t - a ≤ 1000000000) (l : List S114) (hl : l.length ≤ 64) (hx : ∀ x ∈ l, LegOk D x) :
    Ev (fun k => clock_Reads.f k s a l t) (s + Sum l (t - a) / 1000000, 0) := by
  have R := reads_l0' (a := a) hD0 hD s0 s1 l hl hx l.length 0 0 (t - a) (by omega) (by omega) (by omega) h' (by omega) (by omega)
  rw [List.drop_zero, Int.zero_add] at R
  unfold clock_Reads.f
  refine Ev.bind (checkrun_ev hD l hl hx s0 s1 a0 (by omega)) (pos_ev rfl (some_ev (intime_yes (by omega) t1) (pos_ev rfl (neg_ev (by omega) ?_))))
  rw [w64_id (x := t - a) (by omega) (by omega), decide_eq_false (by omega)]
  refine Ev.step (fun k => ?_) R
  rw [clock_Reads.j0, if_neg (by decide), w64_id (x := t - a) (by omega) (by omega)]; rfl
end Go.Proofs.Ytpophefonhpnmaa.Q
end

section
/- Small facts on lists, in plain Lean. -/
namespace Go.Proofs.Ytpophefonhpnmaa.Q
open Go.RowKit Go.Proofs.YtpophefonhpnmaaW.PrintWords Go.Proofs.YtpophefonhpnmaaW.PrintLast Go.Proofs.YtpophefonhpnmaaW.PrintMore
set_option linter.unusedVariables false
theorem rd_nat {l : List Int} {i : Nat} (h : i < l.length) : rd l (i : Int) = l[i] := by
  unfold rd; rw [Int.toNat_natCast, List.getD_eq_getElem?_getD, List.getElem?_eq_getElem h]; rfl
/-- Of some elements with a property, the one with the greatest value. -/
theorem best {α : Type} (g : α → Int) (p : α → Bool) (l : List α) : (∃ b ∈ l, p b = true) → ∃ b ∈ l, p b = true ∧ ∀ c ∈ l, p c = true → g c ≤ g b := by
  induction l with
  | nil => rintro ⟨b, hb, _⟩; simp at hb
  | cons a l ih =>
    rintro ⟨b, hb, h⟩
    by_cases e : ∃ c ∈ l, p c = true
    · obtain ⟨c, hc, h1, h2⟩ := ih e
      by_cases q : p a = true ∧ g c ≤ g a
      · refine ⟨a, by simp, q.1, fun d hd h3 => ?_⟩
        rcases List.mem_cons.mp hd with rfl | hd
        · exact Int.le_refl _
        · exact Int.le_trans (h2 d hd h3) q.2
      · refine ⟨c, by simp [hc], h1, fun d hd h3 => ?_⟩
        rcases List.mem_cons.mp hd with rfl | hd
        · have : ¬ g c ≤ g d := fun z => q ⟨h3, z⟩
          omega
        · exact h2 d hd h3
    · have ha : a = b := by
        rcases List.mem_cons.mp hb with rfl | hb
        · rfl
        · exact absurd ⟨b, hb, h⟩ e
      subst ha
      refine ⟨a, by simp, h, fun d hd h3 => ?_⟩
      rcases List.mem_cons.mp hd with rfl | hd
      · exact Int.le_refl _
      · exact absurd ⟨d, hd, h3⟩ e
end Go.Proofs.Ytpophefonhpnmaa.Q
end

section
/- The fusion of bounds at one type of numbers, in plain numbers: votes, deleting, the least and the greatest; the bounds stand in each statement. -/
namespace Go.Proofs.Ytpophefonhpnmaa.Q
open Go.RowKit Go.Proofs.YtpophefonhpnmaaW.PrintWords Go.Proofs.YtpophefonhpnmaaW.PrintLast Go.Proofs.YtpophefonhpnmaaW.PrintMore
set_option linter.unusedVariables false
set_option linter.unusedSimpArgs false
namespace UTick
/-- A bound that is valid, and not too large. -/
def okB (b : S31) : Prop := b.f2 = true ∧ b.f0 = 0 ∧ b.f1 = 0 ∨ b.f2 = false ∧ -1000000000000000 ≤ b.f0 ∧ b.f0 ≤ b.f1 ∧ b.f1 ≤ 1000000000000000
theorem okB.nb {b : S31} (h : okB b) : nb b.f0 b.f1 b.f2 = (b.f0, b.f1, b.f2) := by
  rcases h with ⟨a, c, d⟩ | ⟨a, c, d, e⟩
  · rw [a, c, d]; exact nb_none
  · rw [a]; exact nb_ok (by omega) d (by omega)
/-- Does a bound of which something is known admit v? -/
def adm (v : Int) (b : S31) : Bool := !b.f2 && (decide (b.f0 ≤ v) && decide (v ≤ b.f1))
def votes (l : List S31) (v : Int) : Nat := l.countP (adm v)
theorem rd_at {l : List S31} {i : Nat} (h : i < l.length) : rd_T31 l (i : Int) = l[i] := by
  unfold rd_T31; rw [Int.toNat_natCast, List.getD_eq_getElem?_getD, List.getElem?_eq_getElem h]; rfl
theorem votes_ev {l : List S31} (ok : ∀ b ∈ l, okB b) (hl : l.length ≤ 1000000) (v : Int) : Ev (fun k => bound_Votes_api_Tick.f k l v) (votes l v : Int) := by
  have main : ∀ (d i : Nat) (c : Int), l.length = i + d → 0 ≤ c → c ≤ i → Ev (fun k => bound_Votes_api_Tick.l0 k v c l (l.length : Int) (i : Int)) (c + (votes (l.drop i) v : Int)) := by
    intro d
    induction d with
    | zero =>
      intro i c e c0 c1
      rw [List.drop_eq_nil_of_le (by omega)]
      refine one_ev fun k => ?_
      rw [bound_Votes_api_Tick.l0, if_neg (by omega)]
      simp [votes]
    | succ d ih =>
      intro i c e c0 c1
      have hi : i < l.length := by omega
      have o := ok l[i] (List.getElem_mem hi)
      have hv := vague_api_Tick l[i].f0 l[i].f1 l[i].f2 l[i].f0 l[i].f1 l[i].f2
      rw [o.nb, Bool.or_self] at hv
      have w : wrap64 ((i : Int) + 1) = ((i + 1 : Nat) : Int) := by rw [w64_id (by omega) (by omega)]; push_cast; rfl
      have wc : wrap64 (c + 1) = c + 1 := w64_id (by omega) (by omega)
      rw [List.drop_eq_getElem_cons hi]
      refine Ev.step (fun k => by rw [bound_Votes_api_Tick.l0, if_pos (by omega), if_pos (by omega), if_pos (by omega), rd_at hi, w, wc]) ?_
      refine Ev.bind hv ?_
      by_cases u : l[i].f2 = true
      · refine pos_ev u ?_
        have a : adm v l[i] = false := by unfold adm; rw [u]; rfl
        have I := ih (i + 1) c (by omega) c0 (by omega)
        unfold votes at I ⊢
        rw [List.countP_cons_of_neg (by rw [a]; decide)]
        exact I
      · refine neg_ev u ?_
        have u' : l[i].f2 = false := Bool.not_eq_true _ ▸ u
        have H : Ev (fun k => bound_Has_api_Tick.f k l[i].f0 l[i].f1 l[i].f2 v) (adm v l[i]) := by
          unfold bound_Has_api_Tick.f
          refine Ev.bind hv (neg_ev u ?_)
          unfold adm
          rw [u']
          by_cases c : l[i].f0 ≤ v
          · rw [decide_eq_true c]; exact pos_ev c (Ev.now _)
          · rw [decide_eq_false c]; exact neg_ev c (Ev.now _)
        refine Ev.bind H ?_
        by_cases a : adm v l[i] = true
        · refine pos_ev a ?_
          have I := ih (i + 1) (c + 1) (by omega) (by omega) (by push_cast; omega)
          unfold votes at I ⊢
          rw [List.countP_cons_of_pos a]
          rw [show c + ((List.countP (adm v) (List.drop (i + 1) l) + 1 : Nat) : Int) = c + 1 + (List.countP (adm v) (List.drop (i + 1) l) : Int) by push_cast; omega]
          exact I
        · refine neg_ev a ?_
          have I := ih (i + 1) c (by omega) c0 (by omega)
          unfold votes at I ⊢
          rw [List.countP_cons_of_neg a]
          exact I
  have M := main l.length 0 0 (by omega) (Int.le_refl _) (by decide)
  rw [List.drop_zero, Int.zero_add] at M
  unfold bound_Votes_api_Tick.f
  exact M
theorem few_ev {l : List S31} (ok : ∀ b ∈ l, okB b) (hl : l.length ≤ 1000000) (need v : Int) : Ev (fun k => bound_Fuse_api_Tick_1.f k v [l] [need]) (decide ((votes l v : Int) < need)) := by
  unfold bound_Fuse_api_Tick_1.f
  refine pos_ev (by simp) (Ev.bind (votes_ev ok hl v) (pos_ev (by simp) ?_))
  exact now_ev fun k => by simp [rd]
/-- What stays of some numbers: those with enough votes. -/
def enough (l : List S31) (need : Int) (v : Int) : Bool := !decide ((votes l v : Int) < need)
theorem index_ev {l : List S31} (ok : ∀ b ∈ l, okB b) (hl : l.length ≤ 1000000) (need : Int) (xs : List Int) (hx : xs.length ≤ 1000000) :
    (Ev (fun k => slices_IndexFunc_api_Tick_api_Tick__bound_Fuse_api_Tick_1.f k xs [l] [need]) (-1) ∧ xs.filter (enough l need) = xs) ∨
    (∃ i : Nat, i < xs.length ∧ Ev (fun k => slices_IndexFunc_api_Tick_api_Tick__bound_Fuse_api_Tick_1.f k xs [l] [need]) (i : Int) ∧ (xs.take (i + 1)).filter (enough l need) = xs.take i) := by
  have main : ∀ (d i : Nat), xs.length = i + d → (xs.take i).filter (enough l need) = xs.take i →
      (Ev (fun k => slices_IndexFunc_api_Tick_api_Tick__bound_Fuse_api_Tick_1.l0 k xs (xs.length : Int) (i : Int) [l] [need]) (-1) ∧ xs.filter (enough l need) = xs) ∨
      (∃ j : Nat, j < xs.length ∧ Ev (fun k => slices_IndexFunc_api_Tick_api_Tick__bound_Fuse_api_Tick_1.l0 k xs (xs.length : Int) (i : Int) [l] [need]) (j : Int) ∧ (xs.take (j + 1)).filter (enough l need) = xs.take j) := by
    intro d
    induction d with
    | zero =>
      intro i e h
      rw [List.take_of_length_le (by omega)] at h
      refine .inl ⟨one_ev fun k => ?_, h⟩
      rw [slices_IndexFunc_api_Tick_api_Tick__bound_Fuse_api_Tick_1.l0, if_neg (by omega)]
    | succ d ih =>
      intro i e h
      have hi : i < xs.length := by omega
      have rdx : rd xs (i : Int) = xs[i] := rd_nat hi
      have w : wrap64 ((i : Int) + 1) = ((i + 1 : Nat) : Int) := by rw [w64_id (by omega) (by omega)]; push_cast; rfl
      have F := few_ev ok hl need xs[i]
      have st : ∀ r, Ev (fun k => if (decide ((votes l xs[i] : Int) < need)) = true then some (i : Int) else slices_IndexFunc_api_Tick_api_Tick__bound_Fuse_api_Tick_1.l0 k xs (xs.length : Int) ((i + 1 : Nat) : Int) [l] [need]) r → Ev (fun k => slices_IndexFunc_api_Tick_api_Tick__bound_Fuse_api_Tick_1.l0 k xs (xs.length : Int) (i : Int) [l] [need]) r := by
        intro r hr
        refine Ev.step (fun k => by rw [slices_IndexFunc_api_Tick_api_Tick__bound_Fuse_api_Tick_1.l0, if_pos (by omega), if_pos (by omega), if_pos (by omega), rdx, w]) ?_
        exact Ev.bind F hr
      by_cases c : (decide ((votes l xs[i] : Int) < need)) = true
      · refine .inr ⟨i, hi, st _ (pos_ev c (Ev.now _)), ?_⟩
        rw [List.take_succ_eq_append_getElem hi, List.filter_append, h, List.filter_cons_of_neg (by unfold enough; rw [c]; decide), List.filter_nil, List.append_nil]
      · have h2 : (xs.take (i + 1)).filter (enough l need) = xs.take (i + 1) := by
          rw [List.take_succ_eq_append_getElem hi, List.filter_append, h, List.filter_cons_of_pos (by unfold enough; rw [Bool.eq_false_iff.mpr c]; rfl), List.filter_nil]
        rcases ih (i + 1) (by omega) h2 with ⟨a, b⟩ | ⟨j, j0, a, b⟩
        · exact .inl ⟨st _ (neg_ev c a), b⟩
        · exact .inr ⟨j, j0, st _ (neg_ev c a), b⟩
  exact main xs.length 0 (by omega) (by simp)
theorem delete_ev {l : List S31} (ok : ∀ b ∈ l, okB b) (hl : l.length ≤ 1000000) (need : Int) (xs : List Int) (hx : xs.length ≤ 1000000) :
    Ev (fun k => slices_DeleteFunc_api_Tick_api_Tick__bound_Fuse_api_Tick_1.f k xs [l] [need]) (xs.filter (enough l need)) := by
  have main : ∀ (d j i : Nat) (y : List Int), xs.length = j + d → i < j → y.length = xs.length → y.take i = (xs.take j).filter (enough l need) → y.drop j = xs.drop j →
      Ev (fun k => slices_DeleteFunc_api_Tick_api_Tick__bound_Fuse_api_Tick_1.l0 k y (i : Int) (j : Int) [l] [need]) (xs.filter (enough l need)) := by
    intro d
    induction d with
    | zero =>
      intro j i y e ij ly h1 h2
      rw [List.take_of_length_le (l := xs) (by omega)] at h1
      refine one_ev fun k => ?_
      rw [slices_DeleteFunc_api_Tick_api_Tick__bound_Fuse_api_Tick_1.l0, if_neg (by omega), if_pos (by omega), if_pos (by omega), ← h1, Int.toNat_natCast]
      rw [List.take_append_of_le_length (by rw [List.length_take]; omega), List.take_take, Nat.min_self]
    | succ d ih =>
      intro j i y e ij ly h1 h2
      have hj : j < xs.length := by omega
      have hj' : j < y.length := by omega
      have yj : y[j] = xs[j] := by
        have := congrArg (fun z => z[0]?) h2
        simpa [List.getElem?_drop, List.getElem?_eq_getElem hj, List.getElem?_eq_getElem hj'] using this
      have rdy : rd y (j : Int) = xs[j] := by rw [rd_nat hj', yj]
      have w : wrap64 ((j : Int) + 1) = ((j + 1 : Nat) : Int) := by rw [w64_id (by omega) (by omega)]; push_cast; rfl
      have wi : wrap64 ((i : Int) + 1) = ((i + 1 : Nat) : Int) := by rw [w64_id (by omega) (by omega)]; push_cast; rfl
      have F := few_ev ok hl need xs[j]
      have tk : xs.take (j + 1) = xs.take j ++ [xs[j]] := List.take_succ_eq_append_getElem hj
      refine Ev.step (fun k => by rw [slices_DeleteFunc_api_Tick_api_Tick__bound_Fuse_api_Tick_1.l0, if_pos (by omega), if_pos (by omega), rdy, w, wi]) ?_
      refine Ev.bind F ?_
      have d2 : y.drop (j + 1) = xs.drop (j + 1) := by
        rw [← List.drop_drop, ← List.drop_drop, h2]
      have q1 : xs.length = j + 1 + d := by omega
      have q2 : i < j + 1 := Nat.lt_succ_of_lt ij
      have q3 : (0 : Int) ≤ (i : Int) := Int.natCast_nonneg i
      have q4 : (i : Int) < (y.length : Int) := Int.ofNat_lt.mpr (by rw [ly]; exact Nat.lt_trans ij hj)
      have q5 : i + 1 < j + 1 := Nat.succ_lt_succ ij
      have q6 : i < (y.set i xs[j]).length := by rw [List.length_set, ly]; exact Nat.lt_trans ij hj
      by_cases c : (decide ((votes l xs[j] : Int) < need)) = true
      · refine pos_ev c (ih (j + 1) i y q1 q2 ly ?_ d2)
        rw [tk, List.filter_append, ← h1, List.filter_cons_of_neg (by unfold enough; rw [c]; decide), List.filter_nil, List.append_nil]
      · refine neg_ev c (pos_ev q3 (pos_ev q4 ?_))
        rw [Int.toNat_natCast]
        refine ih (j + 1) (i + 1) (y.set i xs[j]) q1 q5 (by rw [List.length_set]; exact ly) ?_ ?_
        · rw [tk, List.filter_append, ← h1, List.filter_cons_of_pos (by unfold enough; rw [Bool.eq_false_iff.mpr c]; rfl), List.filter_nil]
          rw [List.take_succ_eq_append_getElem q6, List.take_set_of_le (Nat.le_refl _)]
          simp
        · rw [List.drop_set_of_lt q2]; exact d2
  unfold slices_DeleteFunc_api_Tick_api_Tick__bound_Fuse_api_Tick_1.f
  rcases index_ev ok hl need xs hx with ⟨a, b⟩ | ⟨i, i0, a, b⟩
  · rw [b]
    exact Ev.bind a (pos_ev rfl (Ev.now _))
  · refine Ev.bind a (neg_ev (by omega) ?_)
    rw [show wrap64 ((i : Int) + 1) = ((i + 1 : Nat) : Int) by rw [w64_id (by omega) (by omega)]; push_cast; rfl]
    exact main (xs.length - (i + 1)) (i + 1) i xs (by omega) (by omega) rfl b.symm rfl
theorem min_ev {xs : List Int} (hx : xs.length ≤ 1000000) (h : xs ≠ []) : ∃ m, m ∈ xs ∧ (∀ x ∈ xs, m ≤ x) ∧ Ev (fun k => slices_Min_api_Tick_api_Tick.f k xs) m := by
  have hp : 0 < xs.length := List.length_pos_iff.mpr h
  have main : ∀ (d i : Nat) (m : Int), xs.length = i + d → m ∈ xs → (∀ x ∈ xs.take i, m ≤ x) → ∃ r, r ∈ xs ∧ (∀ x ∈ xs, r ≤ x) ∧ Ev (fun k => slices_Min_api_Tick_api_Tick.l0 k xs m (i : Int)) r := by
    intro d
    induction d with
    | zero =>
      intro i m e hm ha
      rw [List.take_of_length_le (by omega)] at ha
      exact ⟨m, hm, ha, one_ev fun k => by rw [slices_Min_api_Tick_api_Tick.l0, if_neg (by omega)]⟩
    | succ d ih =>
      intro i m e hm ha
      have hi : i < xs.length := by omega
      have w : wrap64 ((i : Int) + 1) = ((i + 1 : Nat) : Int) := by rw [w64_id (by omega) (by omega)]; push_cast; rfl
      have q : mn m xs[i] ≤ m ∧ mn m xs[i] ≤ xs[i] ∧ (mn m xs[i] = m ∨ mn m xs[i] = xs[i]) := by unfold mn; split <;> omega
      obtain ⟨r, r0, r1, r2⟩ := ih (i + 1) (mn m xs[i]) (by omega) (by
        rcases q.2.2 with z | z
        · rw [z]; exact hm
        · rw [z]; exact List.getElem_mem hi) (by
        intro x hx'
        rw [List.take_succ_eq_append_getElem hi] at hx'
        rcases List.mem_append.mp hx' with z | z
        · have := ha x z; omega
        · simp at z; subst z; exact q.2.1)
      refine ⟨r, r0, r1, Ev.step (fun k => ?_) r2⟩
      rw [slices_Min_api_Tick_api_Tick.l0, if_pos (by omega), if_pos (by omega), rd_nat hi, w]
  obtain ⟨r, r0, r1, r2⟩ := main (xs.length - 1) 1 xs[0] (by omega) (List.getElem_mem hp) (by
    intro x hx'
    rw [List.take_succ_eq_append_getElem hp] at hx'
    simp at hx'; subst hx'; exact Int.le_refl _)
  refine ⟨r, r0, r1, ?_⟩
  unfold slices_Min_api_Tick_api_Tick.f
  refine neg_ev (by omega) (pos_ev (by omega) ?_)
  rw [show rd xs 0 = xs[0] from rd_nat (i := 0) hp]
  exact r2
theorem max_ev {xs : List Int} (hx : xs.length ≤ 1000000) (h : xs ≠ []) : ∃ m, m ∈ xs ∧ (∀ x ∈ xs, x ≤ m) ∧ Ev (fun k => slices_Max_api_Tick_api_Tick.f k xs) m := by
  have hp : 0 < xs.length := List.length_pos_iff.mpr h
  have main : ∀ (d i : Nat) (m : Int), xs.length = i + d → m ∈ xs → (∀ x ∈ xs.take i, x ≤ m) → ∃ r, r ∈ xs ∧ (∀ x ∈ xs, x ≤ r) ∧ Ev (fun k => slices_Max_api_Tick_api_Tick.l0 k xs m (i : Int)) r := by
    intro d
    induction d with
    | zero =>
      intro i m e hm ha
      rw [List.take_of_length_le (by omega)] at ha
      exact ⟨m, hm, ha, one_ev fun k => by rw [slices_Max_api_Tick_api_Tick.l0, if_neg (by omega)]⟩
    | succ d ih =>
      intro i m e hm ha
      have hi : i < xs.length := by omega
      have w : wrap64 ((i : Int) + 1) = ((i + 1 : Nat) : Int) := by rw [w64_id (by omega) (by omega)]; push_cast; rfl
      have q : m ≤ mx m xs[i] ∧ xs[i] ≤ mx m xs[i] ∧ (mx m xs[i] = m ∨ mx m xs[i] = xs[i]) := by unfold mx; split <;> omega
      obtain ⟨r, r0, r1, r2⟩ := ih (i + 1) (mx m xs[i]) (by omega) (by
        rcases q.2.2 with z | z
        · rw [z]; exact hm
        · rw [z]; exact List.getElem_mem hi) (by
        intro x hx'
        rw [List.take_succ_eq_append_getElem hi] at hx'
        rcases List.mem_append.mp hx' with z | z
        · have := ha x z; omega
        · simp at z; subst z; exact q.2.1)
      refine ⟨r, r0, r1, Ev.step (fun k => ?_) r2⟩
      rw [slices_Max_api_Tick_api_Tick.l0, if_pos (by omega), if_pos (by omega), rd_nat hi, w]
  obtain ⟨r, r0, r1, r2⟩ := main (xs.length - 1) 1 xs[0] (by omega) (List.getElem_mem hp) (by
    intro x hx'
    rw [List.take_succ_eq_append_getElem hp] at hx'
    simp at hx'; subst hx'; exact Int.le_refl _)
  refine ⟨r, r0, r1, ?_⟩
  unfold slices_Max_api_Tick_api_Tick.f
  refine neg_ev (by omega) (pos_ev (by omega) ?_)
  rw [show rd xs 0 = xs[0] from rd_nat (i := 0) hp]
  exact r2
/-- The ends of the bounds of which something is known. -/
def ends (l : List S31) : List Int := l.flatMap fun b => if b.f2 = true then [] else [b.f0, b.f1]
def known (l : List S31) : Nat := l.countP fun b => !b.f2
theorem ends_len (l : List S31) : (ends l).length = 2 * known l := by
  induction l with
  | nil => rfl
  | cons b l ih =>
    unfold ends known at *
    rw [List.flatMap_cons, List.length_append, ih]
    cases h : b.f2 <;> simp [h, List.countP_cons] <;> omega
theorem mem_ends {l : List S31} {e : Int} : e ∈ ends l ↔ ∃ b ∈ l, b.f2 = false ∧ (e = b.f0 ∨ e = b.f1) := by
  unfold ends
  rw [List.mem_flatMap]
  constructor
  · rintro ⟨b, hb, h⟩
    cases c : b.f2
    · rw [c] at h; simp at h; exact ⟨b, hb, c, h⟩
    · rw [c] at h; simp at h
  · rintro ⟨b, hb, c, h⟩
    refine ⟨b, hb, ?_⟩
    rw [c]; simpa using h
theorem fuse_ev {l : List S31} (ok : ∀ b ∈ l, okB b) (hl : l.length ≤ 100000) {f : Int} (f0 : 0 ≤ f) (f1 : f ≤ 1000000) :
    ((known l : Int) - f ≤ 0 ∧ Ev (fun k => bound_Fuse_api_Tick.f k l f) (0, 0, true)) ∨
    (0 < (known l : Int) - f ∧ (∀ e ∈ ends l, ¬ (known l : Int) - f ≤ votes l e) ∧ Ev (fun k => bound_Fuse_api_Tick.f k l f) (0, 0, true)) ∨
    (0 < (known l : Int) - f ∧ ∃ m M, Ev (fun k => bound_Fuse_api_Tick.f k l f) (m, M, false) ∧ m ∈ ends l ∧ M ∈ ends l ∧ (known l : Int) - f ≤ votes l m ∧ (known l : Int) - f ≤ votes l M ∧ (∀ e ∈ ends l, (known l : Int) - f ≤ votes l e → m ≤ e ∧ e ≤ M)) := by
  have kn : known l ≤ l.length := List.countP_le_length
  have el := ends_len l
  have main : ∀ (d i : Nat) (r : Int × Int × Bool), l.length = i + d → Ev (fun k => bound_Fuse_api_Tick.l0 k f (ends l) l (l.length : Int) (l.length : Int) l) r → Ev (fun k => bound_Fuse_api_Tick.l0 k f (ends (l.take i)) l (l.length : Int) (i : Int) l) r := by
    intro d
    induction d with
    | zero =>
      intro i r e h
      rw [List.take_of_length_le (by omega), show (i : Int) = (l.length : Int) by omega]; exact h
    | succ d ih =>
      intro i r e h
      have hi : i < l.length := by omega
      have o := ok l[i] (List.getElem_mem hi)
      have hv := vague_api_Tick l[i].f0 l[i].f1 l[i].f2 l[i].f0 l[i].f1 l[i].f2
      rw [o.nb, Bool.or_self] at hv
      have w : wrap64 ((i : Int) + 1) = ((i + 1 : Nat) : Int) := by rw [w64_id (by omega) (by omega)]; push_cast; rfl
      have I := ih (i + 1) r (by omega) h
      have tk : ends (l.take (i + 1)) = ends (l.take i) ++ (if l[i].f2 = true then [] else [l[i].f0, l[i].f1]) := by
        rw [List.take_succ_eq_append_getElem hi]; unfold ends; rw [List.flatMap_append]; simp
      have le := ends_len (l.take i)
      have lk : known (l.take i) ≤ (l.take i).length := List.countP_le_length
      rw [List.length_take] at lk
      refine Ev.step (fun k => by rw [bound_Fuse_api_Tick.l0, if_pos (by omega), if_pos (by omega), if_pos (by omega), rd_at hi, w]) ?_
      refine Ev.bind hv ?_
      by_cases u : l[i].f2 = true
      · rw [tk, if_pos u, List.append_nil] at I
        exact pos_ev u I
      · rw [tk, if_neg u] at I
        exact neg_ev u (some_ev rfl (pos_ev (by simp only [List.length_cons, List.length_nil]; omega) I))
  have start : ∀ r, Ev (fun k => bound_Fuse_api_Tick.l0 k f (ends l) l (l.length : Int) (l.length : Int) l) r → Ev (fun k => bound_Fuse_api_Tick.f k l f) r := by
    intro r h
    unfold bound_Fuse_api_Tick.f
    exact main l.length 0 r (by omega) h
  have half : wrap64 (wrap64 (((ends l).length : Int) / 2) - f) = (known l : Int) - f := by
    rw [el, w64_id (x := ((2 * known l : Nat) : Int) / 2) (by omega) (by omega), w64_id (by omega) (by omega)]; omega
  have go : ∀ b r, decide ((known l : Int) - f ≤ 0) = b → Ev (fun k => bound_Fuse_api_Tick.j1 k (ends l) b l ((known l : Int) - f)) r → Ev (fun k => bound_Fuse_api_Tick.f k l f) r := by
    intro b r hb h
    refine start r (Ev.step (fun k => by rw [bound_Fuse_api_Tick.l0, if_neg (by omega), half, hb]) ?_)
    exact neg_ev (by omega) h
  by_cases c : (known l : Int) - f ≤ 0
  · refine .inl ⟨c, go true _ (decide_eq_true c) (one_ev fun k => ?_)⟩
    rw [bound_Fuse_api_Tick.j1, if_pos rfl]; unfold bound_None_api_Tick.f; rfl
  · have D := delete_ev ok (by omega) ((known l : Int) - f) (ends l) (by omega)
    have mem : ∀ e, e ∈ (ends l).filter (enough l ((known l : Int) - f)) ↔ e ∈ ends l ∧ (known l : Int) - f ≤ votes l e := by
      intro e
      rw [List.mem_filter]; unfold enough
      simp
    have fl : ((ends l).filter (enough l ((known l : Int) - f))).length ≤ (ends l).length := List.length_filter_le _ _
    generalize (ends l).filter (enough l ((known l : Int) - f)) = xs at D mem fl
    have st : ∀ r, Ev (fun k => if (xs.length : Int) = 0 then ((bound_None_api_Tick.f).bind fun bt119 => (some (bt119.1, bt119.2.1, bt119.2.2))) else ((slices_Min_api_Tick_api_Tick.f k xs).bind fun t122 => ((slices_Max_api_Tick_api_Tick.f k xs).bind fun t123 => ((bound_Of_api_Tick.f k t122 t123).bind fun bt124 => (some (bt124.1, bt124.2.1, bt124.2.2)))))) r → Ev (fun k => bound_Fuse_api_Tick.f k l f) r := by
      intro r h
      refine go false r (decide_eq_false c) (Ev.step (fun k => by rw [bound_Fuse_api_Tick.j1, if_neg (by decide)]) ?_)
      exact Ev.bind D h
    by_cases z : xs = []
    · refine .inr (.inl ⟨by omega, fun e he hv => ?_, st _ (pos_ev (by rw [z]; rfl) (now_ev fun k => ?_))⟩)
      · have := (mem e).mpr ⟨he, hv⟩
        rw [z] at this; simp at this
      · unfold bound_None_api_Tick.f; rfl
    · have lp : 0 < xs.length := List.length_pos_iff.mpr z
      obtain ⟨m, m0, m1, m2⟩ := min_ev (by omega) z
      obtain ⟨M, M0, M1, M2⟩ := max_ev (by omega) z
      have bd : ∀ e ∈ ends l, -1000000000000000 ≤ e ∧ e ≤ 1000000000000000 := by
        intro e he
        obtain ⟨b, hb, hu, h⟩ := mem_ends.mp he
        rcases ok b hb with ⟨a, _⟩ | ⟨_, a, c', d⟩
        · rw [a] at hu; cases hu
        · rcases h with rfl | rfl <;> omega
      have bm := bd m ((mem m).mp m0).1
      have bM := bd M ((mem M).mp M0).1
      refine .inr (.inr ⟨by omega, m, M, st _ (neg_ev (by omega) (Ev.bind m2 (Ev.bind M2 (Ev.bind (of_api_Tick m M) ?_)))), ((mem m).mp m0).1, ((mem M).mp M0).1, ((mem m).mp m0).2, ((mem M).mp M0).2, fun e he hv => ⟨m1 e ((mem e).mpr ⟨he, hv⟩), M1 e ((mem e).mpr ⟨he, hv⟩)⟩⟩)
      rw [nb_ok (by omega) (m1 M M0) (by omega)]
      exact Ev.now _
/-- A number that is admitted often enough lies between two ends that are admitted as often. -/
theorem hit {l : List S31} {v : Int} (h : 0 < votes l v) : (∃ e ∈ ends l, e ≤ v ∧ votes l v ≤ votes l e) ∧ (∃ e ∈ ends l, v ≤ e ∧ votes l v ≤ votes l e) := by
  have ex : ∃ b ∈ l, adm v b = true := List.countP_pos_iff.mp h
  have un : ∀ {b : S31}, adm v b = true → b.f2 = false ∧ b.f0 ≤ v ∧ v ≤ b.f1 := by
    intro b hb; unfold adm at hb; simpa using hb
  constructor
  · obtain ⟨b, hb, ha, top⟩ := best (fun b : S31 => b.f0) (adm v) l ex
    obtain ⟨u, p, q⟩ := un ha
    refine ⟨b.f0, mem_ends.mpr ⟨b, hb, u, .inl rfl⟩, p, ?_⟩
    refine List.countP_mono_left fun c hc h1 => ?_
    obtain ⟨u1, p1, q1⟩ := un h1
    have := top c hc h1
    unfold adm; simp [u1]; omega
  · obtain ⟨b, hb, ha, top⟩ := best (fun b : S31 => -b.f1) (adm v) l ex
    obtain ⟨u, p, q⟩ := un ha
    refine ⟨b.f1, mem_ends.mpr ⟨b, hb, u, .inr rfl⟩, q, ?_⟩
    refine List.countP_mono_left fun c hc h1 => ?_
    obtain ⟨u1, p1, q1⟩ := un h1
    have := top c hc h1
    unfold adm; simp [u1]; omega
end UTick
end Go.Proofs.Ytpophefonhpnmaa.Q
end

section
/- ClockAgreeTruth in plain numbers: for every stream of numbers, number of wrong clocks and time the printed function answers true; no other condition. -/
namespace Go.Proofs.Ytpophefonhpnmaa.PureClockAgreeTruth
open Go.RowKit Go.Proofs.Ytpophefonhpnmaa.Q Go.Proofs.YtpophefonhpnmaaW.PrintWords Go.Proofs.YtpophefonhpnmaaW.PrintLast Go.Proofs.Ytpophefonhpnmaa.Q.UTick
set_option linter.unusedVariables false
set_option linter.unusedSimpArgs false

theorem upq_le {v d : Int} (hd : 0 < d) : v ≤ upq v d * d := by
  have e := Int.emod_add_mul_ediv v d
  have e0 := Int.emod_nonneg v (show d ≠ 0 by omega)
  have e1 := Int.emod_lt_of_pos v hd
  have ec : d * (v / d) = v / d * d := Int.mul_comm _ _
  unfold upq
  split
  · omega
  · rw [Int.add_mul]; omega
theorem upq_top {v d c : Int} (hd : 0 < d) (h : v ≤ c * d) : upq v d ≤ c := by
  have e := Int.emod_add_mul_ediv v d
  have e0 := Int.emod_nonneg v (show d ≠ 0 by omega)
  have ec : d * (v / d) = v / d * d := Int.mul_comm _ _
  unfold upq
  split
  · exact Int.le_of_mul_le_mul_right (a := d) (by omega) hd
  · have : v / d < c := Int.lt_of_mul_lt_mul_right (a := d) (by omega) (by omega)
    omega
theorem truth {D L S : Int} (hD0 : 0 ≤ D) (hD : D ≤ 100000) (L0 : 0 ≤ L) (h0 : L * (1000000 - D) ≤ S) (h1 : S ≤ L * (1000000 + D)) :
    mx (S / 1000000 - 1) 0 * 1000000 / (1000000 + D) ≤ L ∧ L ≤ upq ((S / 1000000 + 1) * 1000000) (1000000 - D) := by
  have S0 : 0 ≤ L * (1000000 - D) := Int.mul_nonneg L0 (by omega)
  constructor
  · have : mx (S / 1000000 - 1) 0 * 1000000 / (1000000 + D) < L + 1 := by
      rw [Int.ediv_lt_iff_lt_mul (by omega), Int.add_mul]
      unfold mx; split <;> omega
    omega
  · have u := upq_le (v := (S / 1000000 + 1) * 1000000) (d := 1000000 - D) (by omega)
    have : L * (1000000 - D) ≤ upq ((S / 1000000 + 1) * 1000000) (1000000 - D) * (1000000 - D) := by omega
    exact Int.le_of_mul_le_mul_right this (by omega)
/-- The bound of the time at which a clock shows n. -/
def U (c : S33) (n : Int) : S31 := ⟨c.f1.f0 + mx (n - c.f0 - 1) 0 * 1000000 / (1000000 + c.f2), c.f1.f1 + upq ((n - c.f0 + 1) * 1000000) (1000000 - c.f2), false⟩
structure Good (c : S33) (n : Int) : Prop where
  s0 : -1000 ≤ c.f0
  s1 : c.f0 ≤ 1000
  l0 : -2000 ≤ c.f1.f0
  l1 : c.f1.f0 ≤ c.f1.f1
  l2 : c.f1.f1 ≤ 2000
  u : c.f1.f2 = false
  D0 : 0 ≤ c.f2
  D1 : c.f2 ≤ 100000
  n0 : c.f0 ≤ n
  n1 : n ≤ 1000000
theorem Good.ok {c : S33} {n : Int} (h : Good c n) : okB (U c n) := by
  obtain ⟨s0, s1, l0, l1, l2, u, D0, D1, n0, n1⟩ := h
  have m : 0 ≤ mx (n - c.f0 - 1) 0 ∧ mx (n - c.f0 - 1) 0 ≤ n - c.f0 := by unfold mx; split <;> omega
  have y := upq_le (v := (n - c.f0 + 1) * 1000000) (d := 1000000 - c.f2) (by omega)
  have t : upq ((n - c.f0 + 1) * 1000000) (1000000 - c.f2) ≤ 2 * (n - c.f0 + 1) := by
    refine upq_top (by omega) ?_
    have : 2 * (n - c.f0 + 1) * 900000 ≤ 2 * (n - c.f0 + 1) * (1000000 - c.f2) := Int.mul_le_mul_of_nonneg_left (by omega) (by omega)
    omega
  have x0 : 0 ≤ mx (n - c.f0 - 1) 0 * 1000000 / (1000000 + c.f2) := Int.ediv_nonneg (by omega) (by omega)
  have y0 : 0 ≤ upq ((n - c.f0 + 1) * 1000000) (1000000 - c.f2) := by
    by_cases z : 0 ≤ upq ((n - c.f0 + 1) * 1000000) (1000000 - c.f2)
    · exact z
    · have := Int.mul_le_mul_of_nonneg_right (show upq ((n - c.f0 + 1) * 1000000) (1000000 - c.f2) ≤ 0 by omega) (show 0 ≤ 1000000 - c.f2 by omega)
      rw [Int.zero_mul] at this; omega
  have xy : mx (n - c.f0 - 1) 0 * 1000000 / (1000000 + c.f2) ≤ upq ((n - c.f0 + 1) * 1000000) (1000000 - c.f2) := by
    have a : upq ((n - c.f0 + 1) * 1000000) (1000000 - c.f2) * (1000000 - c.f2) ≤ upq ((n - c.f0 + 1) * 1000000) (1000000 - c.f2) * (1000000 + c.f2) := Int.mul_le_mul_of_nonneg_left (by omega) y0
    have : mx (n - c.f0 - 1) 0 * 1000000 / (1000000 + c.f2) < upq ((n - c.f0 + 1) * 1000000) (1000000 - c.f2) + 1 := by
      rw [Int.ediv_lt_iff_lt_mul (by omega), Int.add_mul]
      omega
    omega
  refine .inr ⟨rfl, ?_, ?_, ?_⟩ <;> (unfold U; simp only; omega)
theorem rd_clock {l : List S33} {i : Nat} (h : i < l.length) : rd_T33 l (i : Int) = l[i] := by
  unfold rd_T33; rw [Int.toNat_natCast, List.getD_eq_getElem?_getD, List.getElem?_eq_getElem h]; rfl
theorem agree_ev {cs : List S33} {ns : List Int} (hl : cs.length = ns.length) (h7 : cs.length ≤ 60) (good : ∀ i (h : i < cs.length) (h' : i < ns.length), Good cs[i] ns[i]) {f : Int} {r : Int × Int × Bool}
    (F : Ev (fun k => bound_Fuse_api_Tick.f k (List.zipWith U cs ns) f) r) : Ev (fun k => clock_Agree.f k cs ns f) (r.1, r.2.1, r.2.2, 0) := by
  have zl : (List.zipWith U cs ns).length = cs.length := by rw [List.length_zipWith]; omega
  have main : ∀ (d i : Nat), cs.length = i + d → Ev (fun k => clock_Agree.l0 k ns f ((List.zipWith U cs ns).take i) cs (cs.length : Int) (i : Int)) (r.1, r.2.1, r.2.2, 0) := by
    intro d
    induction d with
    | zero =>
      intro i e
      rw [List.take_of_length_le (by omega)]
      refine Ev.step (fun k => by rw [clock_Agree.l0, if_neg (by omega)]) ?_
      exact Ev.bind F (Ev.now _)
    | succ d ih =>
      intro i e
      have hi : i < cs.length := by omega
      have hi' : i < ns.length := by omega
      have g := good i hi hi'
      have I := ih (i + 1) (by omega)
      have C := clockcheck_ev (s := cs[i].f0) (lo := cs[i].f1.f0) (hi := cs[i].f1.f1) (D := cs[i].f2) (by have := g.s0; omega) (by have := g.s1; omega) (by have := g.l0; omega) g.l1 (by have := g.l2; omega) g.D0 g.D1
      have V := uniform_ev (s := cs[i].f0) (lo := cs[i].f1.f0) (hi := cs[i].f1.f1) (D := cs[i].f2) (n := ns[i]) (by have := g.s0; omega) (by have := g.s1; omega) (by have := g.l0; omega) g.l1 (by have := g.l2; omega) g.D0 g.D1 g.n0 (by have := g.n1; omega)
      rw [← g.u] at C V
      have w : wrap64 ((i : Int) + 1) = ((i + 1 : Nat) : Int) := by rw [w64_id (by omega) (by omega)]; push_cast; rfl
      rw [List.take_succ_eq_append_getElem (by omega), List.getElem_zipWith] at I
      refine Ev.step (fun k => by rw [clock_Agree.l0, if_pos (by omega), if_pos (by omega), if_pos (by omega), rd_clock hi, rd_nat hi', w]) ?_
      refine Ev.bind C (pos_ev rfl (pos_ev (by omega) (Ev.bind V (pos_ev (by rw [List.length_take]; omega) ?_))))
      have e : (⟨cs[i].f1.f0 + mx (ns[i] - cs[i].f0 - 1) 0 * 1000000 / (1000000 + cs[i].f2), cs[i].f1.f1 + upq ((ns[i] - cs[i].f0 + 1) * 1000000) (1000000 - cs[i].f2), cs[i].f1.f2⟩ : S31) = U cs[i] ns[i] := by unfold U; rw [g.u]
      simp only [g.u] at e ⊢
      rw [e]
      exact I
  unfold clock_Agree.f
  exact neg_ev (by omega) (pos_ev (by omega) (main cs.length 0 (by omega)))

theorem ClockAgreeTruth : spykeep1_ClockAgreeTruth.Pure := by
  intro l wrong later hm _ _ _ _
  have hl : l.length ≤ 9223372036854775807 := by have h := hm; unfold maxLen at h; omega
  refine Ev.rounds (r := true) ?_
  obtain ⟨f, hF, f0, f1⟩ := below_in (a := wrong) (n := 3) (by decide) (by decide)
  obtain ⟨q, hQ, q0, q1⟩ := below_in (a := later) (n := 20000) (by decide) (by decide)
  obtain ⟨m, hM, m0, m1⟩ := next_in l (at_ := 0) (n := 3) hl (by decide) (by decide) (by decide) (by decide)
  have fin : ∀ (N : Int) (cs : List S33) (ns : List Int) (p : Int), 2 * f + 1 ≤ N → N ≤ 7 → (cs.length : Int) = N → cs.length = ns.length → (∀ i (h : i < cs.length) (h' : i < ns.length), Good cs[i] ns[i]) →
      (∀ i (h : i < cs.length) (h' : i < ns.length), f ≤ i → adm (1000 + q) (U cs[i] ns[i]) = true) → Ev (fun k => spykeep1_ClockAgreeTruth.l0 k f cs ns (1000 + q) N N l p) true := by
    intro N cs ns p N0 N1 e1 e2 good right
    have zl : (List.zipWith U cs ns).length = cs.length := by rw [List.length_zipWith]; omega
    have ok : ∀ b ∈ List.zipWith U cs ns, okB b := by
      intro b hb
      obtain ⟨i, hi, rfl⟩ := List.mem_iff_getElem.mp hb
      rw [List.getElem_zipWith]
      exact (good i (by omega) (by omega)).ok
    have kn : known (List.zipWith U cs ns) = cs.length := by
      unfold known
      rw [← zl, List.countP_eq_length]
      intro b hb
      obtain ⟨i, hi, rfl⟩ := List.mem_iff_getElem.mp hb
      rw [List.getElem_zipWith]; rfl
    have vt : N - f ≤ votes (List.zipWith U cs ns) (1000 + q) := by
      have a : votes ((List.zipWith U cs ns).drop f.toNat) (1000 + q) = ((List.zipWith U cs ns).drop f.toNat).length := by
        unfold votes
        rw [List.countP_eq_length]
        intro b hb
        obtain ⟨i, hi, rfl⟩ := List.mem_iff_getElem.mp hb
        rw [List.length_drop] at hi
        rw [List.getElem_drop, List.getElem_zipWith]
        exact right _ (by omega) (by omega) (by omega)
      have b : votes ((List.zipWith U cs ns).drop f.toNat) (1000 + q) ≤ votes (List.zipWith U cs ns) (1000 + q) := by
        unfold votes
        exact (List.drop_sublist _ _).countP_le
      rw [List.length_drop] at a
      omega
    obtain ⟨⟨a, ha, a1, a2⟩, ⟨b, hb, b1, b2⟩⟩ := hit (l := List.zipWith U cs ns) (v := 1000 + q) (by omega)
    obtain ⟨r0, r1, A, c0, c1⟩ : ∃ r0 r1, Ev (fun k => clock_Agree.f k cs ns f) (r0, r1, false, 0) ∧ r0 ≤ 1000 + q ∧ 1000 + q ≤ r1 := by
      rcases fuse_ev ok (by omega) f0 (by omega) with ⟨c, _⟩ | ⟨_, c, _⟩ | ⟨_, x, y, E, _, _, _, _, c⟩
      · rw [kn] at c; omega
      · exact absurd (by rw [kn]; omega) (c a ha)
      · have ca := c a ha (by rw [kn]; omega)
        have cb := c b hb (by rw [kn]; omega)
        exact ⟨x, y, agree_ev e2 (by omega) good E, by omega, by omega⟩
    refine Ev.step (fun k => by rw [spykeep1_ClockAgreeTruth.l0, if_neg (by omega)]) ?_
    exact Ev.bind A (Ev.bind clockFact_ev (pos_ev rfl (pos_ev rfl (neg_ev (by simp) (Ev.bind (has_tick (fun _ => ⟨c0, c1⟩)) (Ev.now _))))))
  have loop : ∀ (N : Int), 2 * f + 1 ≤ N → N ≤ 7 → ∀ (d : Nat) (i : Nat) (cs : List S33) (ns : List Int) (p : Int), N = i + d → 0 ≤ p → p ≤ 100 + 30 * i → cs.length = i → ns.length = i → (∀ j (h : j < cs.length) (h' : j < ns.length), Good cs[j] ns[j]) →
      (∀ j (h : j < cs.length) (h' : j < ns.length), f ≤ j → adm (1000 + q) (U cs[j] ns[j]) = true) → Ev (fun k => spykeep1_ClockAgreeTruth.l0 k f cs ns (1000 + q) N (i : Int) l p) true := by
    intro N N0 N1 d
    induction d with
    | zero =>
      intro i cs ns p e p0 p1 e1 e2 good right
      obtain rfl : N = i := by omega
      exact fin i cs ns p N0 N1 (by omega) (by omega) good right
    | succ d ih =>
      intro i cs ns p e p0 p1 e1 e2 good right
      obtain ⟨s, a, D, x1, x2, p', legs, R, s0, s1, a0, a1, D0, D1, lg, lo_, b1, b2, b3, b4, p0', p1'⟩ := running_ev l hl (p := p) p0 (by omega)
      have f0' : ∀ x ∈ legs, 0 ≤ x.f0 := fun x hx => (lo_ x hx).1
      have push : ∀ (n p2 : Int), s ≤ n → n ≤ 1000000 → (f ≤ i → adm (1000 + q) (U ⟨s, ⟨a - x1, a + x2, false⟩, D⟩ n) = true) → 0 ≤ p2 → p2 ≤ 100 + 30 * (i + 1) →
          Ev (fun k => spykeep1_ClockAgreeTruth.l0 k f (cs ++ [⟨s, ⟨a - x1, a + x2, false⟩, D⟩]) (ns ++ [n]) (1000 + q) N ((i + 1 : Nat) : Int) l p2) true := by
        intro n p2 n0 n1 rt p20 p21
        refine ih (i + 1) _ _ p2 (by omega) p20 (by push_cast; omega) (by simp; omega) (by simp; omega) ?_ ?_
        · intro j h h'
          rw [List.length_append, List.length_singleton] at h h'
          by_cases c : j < i
          · rw [List.getElem_append_left (by omega), List.getElem_append_left (by omega)]; exact good j (by omega) (by omega)
          · obtain rfl : j = i := by omega
            rw [List.getElem_append_right (by omega), List.getElem_append_right (by omega)]
            simp only [e1, e2, Nat.sub_self, List.getElem_cons_zero]
            exact ⟨s0, s1, by simp only; omega, by simp only; omega, by simp only; omega, rfl, D0, D1, n0, n1⟩
        · intro j h h' fj
          rw [List.length_append, List.length_singleton] at h h'
          by_cases c : j < i
          · rw [List.getElem_append_left (by omega), List.getElem_append_left (by omega)]; exact right j (by omega) (by omega) fj
          · obtain rfl : j = i := by omega
            rw [List.getElem_append_right (by omega), List.getElem_append_right (by omega)]
            simp only [e1, e2, Nat.sub_self, List.getElem_cons_zero]
            exact rt fj
      obtain ⟨g0, g1⟩ := sum_diff D1 D0 legs lo_ 0 (1000 + q - a) (Int.le_refl _) (by omega)
      rw [sum_zero legs f0', show 1000 + q - a - 0 = 1000 + q - a by omega, show Sum legs (1000 + q - a) - 0 = Sum legs (1000 + q - a) by omega] at g0 g1
      have rd := reads_at (s := s) (a := a) (t := 1000 + q) D0 D1 (by omega) (by omega) (by omega) (by omega) (by omega) (by omega) legs (by omega) lo_
      have y0 : 0 ≤ (1000 + q - a) * (1000000 - D) := Int.mul_nonneg (by omega) (by omega)
      have y1 : (1000 + q - a) * (1000000 + D) ≤ 22000 * 1100000 := Int.mul_le_mul (by omega) (by omega) (by omega) (by decide)
      have T := truth D0 D1 (by omega) g0 g1
      have k1 : cs.length < 3518437208883 := by rw [e1]; omega
      have k2 : ns.length < 17592186044416 := by rw [e2]; omega
      generalize hS : Sum legs (1000 + q - a) = S at g0 g1 rd T
      have S0 : 0 ≤ S := Int.le_trans y0 g0
      have S1 : S ≤ 24200000000 := Int.le_trans g1 y1
      clear g0 g1 y0 y1
      have u0 : s ≤ s + S / 1000000 := by omega
      have u1 : s + S / 1000000 ≤ 1000000 := by omega
      have k3 : (i : Int) < N := by omega
      have w : wrap64 ((i : Int) + 1) = ((i + 1 : Nat) : Int) := by rw [w64_id (by omega) (by omega)]; push_cast; rfl
      refine Ev.step (fun k => by rw [spykeep1_ClockAgreeTruth.l0, if_pos k3]) ?_
      refine Ev.bind R (Ev.bind rd (pos_ev rfl ?_))
      by_cases c : (i : Int) < f
      · obtain ⟨z, hz, z0, z1⟩ := next_in l (at_ := p') (n := 9000) hl (by clear w T rd; omega) (by clear w T rd; omega) (by decide) (by decide)
        refine pos_ev c (some_ev hz (pos_ev k1 (pos_ev k2 ?_)))
        simp only []
        rw [w64_id (x := s + S / 1000000 + z) (by clear T w rd; omega) (by clear T w rd; omega), w]
        clear T w rd
        exact push _ _ (by omega) (by omega) (fun z => by omega) (by omega) (by omega)
      · refine neg_ev c (pos_ev k1 (pos_ev k2 ?_))
        simp only []
        rw [w]
        clear w rd
        refine push _ _ u0 u1 (fun _ => ?_) (by clear T; omega) (by clear T; omega)
        unfold adm U
        simp only [Bool.not_false, Bool.true_and, Bool.and_eq_true, decide_eq_true_eq]
        rw [show s + S / 1000000 - s = S / 1000000 by omega]
        obtain ⟨T0, T1⟩ := T
        generalize mx (S / 1000000 - 1) 0 * 1000000 / (1000000 + D) = X at T0 ⊢
        generalize upq ((S / 1000000 + 1) * 1000000) (1000000 - D) = Y at T1 ⊢
        omega
  unfold spykeep1_ClockAgreeTruth.f
  refine some_ev hF (some_ev hQ (some_ev hM ?_))
  rw [w64_id (x := 1000 + q) (by omega) (by omega), w64_id (x := 2 * f) (by omega) (by omega), w64_id (x := 2 * f + 1) (by omega) (by omega), w64_id (x := 2 * f + 1 + m) (by omega) (by omega)]
  exact loop (2 * f + 1 + m) (by omega) (by omega) (2 * f + 1 + m).toNat 0 [] [] _ (by omega) (by omega) (by omega) rfl rfl (fun j h => absurd h (by simp)) (fun j h => absurd h (by simp))
end Go.Proofs.Ytpophefonhpnmaa.PureClockAgreeTruth
namespace Go.Proofs.Ytpophefonhpnmaa.Pure
theorem ClockAgreeTruth : Go.Proofs.Ytpophefonhpnmaa.Q.spykeep1_ClockAgreeTruth.Pure := Go.Proofs.Ytpophefonhpnmaa.PureClockAgreeTruth.ClockAgreeTruth
end Go.Proofs.Ytpophefonhpnmaa.Pure
end
