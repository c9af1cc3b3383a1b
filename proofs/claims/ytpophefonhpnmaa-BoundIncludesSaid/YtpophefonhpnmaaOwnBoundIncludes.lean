/- This session's own texts KBoundIncludesM1 KBoundIncludesM2 KBoundIncludesM3 KBoundIncludesM4 KBoundIncludesM5 KBoundIncludesM6 KBoundIncludesBL1 KBoundIncludesST1 KBoundIncludesMK1 KBoundIncludesBD0 KBoundIncludesBDFix KBoundIncludesBDFix2 KBoundIncludesBDFix3 KBoundIncludesBDFix4 KBoundIncludesBDFixH KBoundIncludesBO1 KBoundIncludesMN1 KBoundIncludesBDFixI KBoundIncludesBO2Mul KBoundIncludesBO2Div KBoundIncludesBO3 KBoundIncludesSBFix KBoundIncludesFD1 KBoundIncludesPureBoundIncludes, one after the other. -/
import Derived.Test.YtpophefonhpnmaaKBoundIncludesQx56
import Derived.Test.YtpophefonhpnmaaKBoundIncludesQx55
import Derived.Test.YtpophefonhpnmaaKBoundIncludesQx43
import Derived.Test.YtpophefonhpnmaaKBoundIncludesQx7
import Derived.Test.YtpophefonhpnmaaKBoundIncludesQx54
import Derived.Test.YtpophefonhpnmaaKBoundIncludesQx22
import Derived.Test.YtpophefonhpnmaaKBoundIncludesQx21
import Derived.Test.YtpophefonhpnmaaKBoundIncludesQx14
import Derived.Test.YtpophefonhpnmaaKBoundIncludesQx12
import Derived.Test.YtpophefonhpnmaaKBoundIncludesQx13
import Derived.Test.YtpophefonhpnmaaKBoundIncludesQx52
import Derived.Test.YtpophefonhpnmaaKBoundIncludesQx24
import Derived.Test.YtpophefonhpnmaaKBoundIncludesQx23
import Derived.Test.YtpophefonhpnmaaKBoundIncludesQx29
import Derived.Test.YtpophefonhpnmaaKBoundIncludesQx41
import Derived.Test.YtpophefonhpnmaaKBoundIncludesQx39
import Derived.Test.YtpophefonhpnmaaKBoundIncludesQx40
import Derived.Test.YtpophefonhpnmaaKBoundIncludesQx50
import Derived.Test.YtpophefonhpnmaaKBoundIncludesQx48
import Derived.Test.YtpophefonhpnmaaKBoundIncludesQx49
import Derived.Test.YtpophefonhpnmaaKBoundIncludesQx42
import Derived.Test.YtpophefonhpnmaaKBoundIncludesQx51

section
/- Wrapping, shifts and products of 64 bits: what the printed functions of math/bits compute; no other condition than those that each statement names. -/
namespace Go.Proofs.Ytpophefonhpnmaa.Q
open Go.RowKit Go.Proofs.YtpophefonhpnmaaW.PrintWords Go.Proofs.YtpophefonhpnmaaW.PrintLast Go.Proofs.YtpophefonhpnmaaW.PrintMore
set_option linter.unusedVariables false
set_option linter.unusedSimpArgs false

theorem uw (x : Int) : IntKind.u64.wrap x = x % 18446744073709551616 := u64_wrap_eq x
theorem uw_id {x : Int} (h0 : 0 ≤ x) (h1 : x < 18446744073709551616) : IntKind.u64.wrap x = x := by rw [uw]; omega
theorem w64_id {x : Int} (h0 : -9223372036854775808 ≤ x) (h1 : x < 9223372036854775808) : wrap64 x = x := by unfold wrap64; omega
theorem uw_wrap64 (x : Int) : wrap64 (IntKind.u64.wrap x) = wrap64 x := by rw [uw]; unfold wrap64; omega

theorem u64_mask32 {x : Int} (h0 : 0 ≤ x) (h1 : x < 18446744073709551616) : Go.bits .and .u64 x 4294967295 = x % 4294967296 :=
  Go.bits_mask .u64 64 (by decide) (fun n h h' => by rw [uw]; omega) 32 (by decide) x h0 h1

theorem mul64 {a b : Int} (a0 : 0 ≤ a) (a1 : a < 18446744073709551616) (b0 : 0 ≤ b) (b1 : b < 18446744073709551616) :
    bits_Mul64.f a b = some (a * b / 18446744073709551616, a * b % 18446744073709551616) := by
  unfold bits_Mul64.f
  rw [u64_mask32 a0 a1, u64_mask32 b0 b1]
  generalize hx1 : a / 4294967296 = x1
  generalize hx0 : a % 4294967296 = x0
  generalize hy1 : b / 4294967296 = y1
  generalize hy0 : b % 4294967296 = y0
  have hx : a = x1 * 4294967296 + x0 := by omega
  have hy : b = y1 * 4294967296 + y0 := by omega
  have p : ∀ {u v : Int}, 0 ≤ u → u ≤ 4294967295 → 0 ≤ v → v ≤ 4294967295 → 0 ≤ u * v ∧ u * v ≤ 18446744065119617025 := by
    intro u v hu0 hu1 hv0 hv1
    refine ⟨Int.mul_nonneg hu0 hv0, ?_⟩
    have := Int.mul_le_mul hu1 hv1 hv0 (by omega)
    omega
  have q11 := p (u := x1) (v := y1) (by omega) (by omega) (by omega) (by omega)
  have q10 := p (u := x1) (v := y0) (by omega) (by omega) (by omega) (by omega)
  have q01 := p (u := x0) (v := y1) (by omega) (by omega) (by omega) (by omega)
  have q00 := p (u := x0) (v := y0) (by omega) (by omega) (by omega) (by omega)
  have e : a * b = x1 * y1 * 18446744073709551616 + (x1 * y0 + x0 * y1) * 4294967296 + x0 * y0 := by
    rw [hx, hy]; grind
  rw [e]
  generalize x1 * y1 = P at *
  generalize x1 * y0 = Q at *
  generalize x0 * y1 = R at *
  generalize x0 * y0 = S at *
  rw [uw_id (x := S) (by omega) (by omega), uw_id (x := Q) (by omega) (by omega), uw_id (x := R) (by omega) (by omega), uw_id (x := P) (by omega) (by omega),
    uw_id (x := Q + S / 4294967296) (by omega) (by omega), u64_mask32 (by omega) (by omega), uw, uw, uw]
  congr 2 <;> omega

theorem size_some {a : Int} (h0 : -9223372036854775808 ≤ a) (h1 : a < 9223372036854775808) : num_size.f a = some (if a < 0 then -a else a) := by
  unfold num_size.f
  split
  · rw [uw, uw]; congr 1; omega
  · rw [uw]; congr 1; omega
end Go.Proofs.Ytpophefonhpnmaa.Q
end

section
/- The number of leading zeros of a number of 64 bits, and the quotient of 128 by 64 bits: what the printed functions of math/bits compute, for every divisor greater than the upper half. -/
namespace Go.Proofs.Ytpophefonhpnmaa.Q
open Go.RowKit Go.Proofs.YtpophefonhpnmaaW.PrintWords Go.Proofs.YtpophefonhpnmaaW.PrintLast Go.Proofs.YtpophefonhpnmaaW.PrintMore
set_option linter.unusedVariables false
set_option linter.unusedSimpArgs false

set_option maxRecDepth 100000 in
def len8 : ByteArray := ⟨#[0, 1, 2, 2, 3, 3, 3, 3, 4, 4, 4, 4, 4, 4, 4, 4, 5, 5, 5, 5, 5, 5, 5, 5, 5, 5, 5, 5, 5, 5, 5, 5, 6, 6, 6, 6, 6, 6, 6, 6, 6, 6, 6, 6, 6, 6, 6, 6, 6, 6, 6, 6, 6, 6, 6, 6, 6, 6, 6, 6, 6, 6, 6, 6, 7, 7, 7, 7, 7, 7, 7, 7, 7, 7, 7, 7, 7, 7, 7, 7, 7, 7, 7, 7, 7, 7, 7, 7, 7, 7, 7, 7, 7, 7, 7, 7, 7, 7, 7, 7, 7, 7, 7, 7, 7, 7, 7, 7, 7, 7, 7, 7, 7, 7, 7, 7, 7, 7, 7, 7, 7, 7, 7, 7, 7, 7, 7, 7, 8, 8, 8, 8, 8, 8, 8, 8, 8, 8, 8, 8, 8, 8, 8, 8, 8, 8, 8, 8, 8, 8, 8, 8, 8, 8, 8, 8, 8, 8, 8, 8, 8, 8, 8, 8, 8, 8, 8, 8, 8, 8, 8, 8, 8, 8, 8, 8, 8, 8, 8, 8, 8, 8, 8, 8, 8, 8, 8, 8, 8, 8, 8, 8, 8, 8, 8, 8, 8, 8, 8, 8, 8, 8, 8, 8, 8, 8, 8, 8, 8, 8, 8, 8, 8, 8, 8, 8, 8, 8, 8, 8, 8, 8, 8, 8, 8, 8, 8, 8, 8, 8, 8, 8, 8, 8, 8, 8, 8, 8, 8, 8, 8, 8, 8, 8, 8, 8, 8, 8, 8, 8, 8, 8, 8, 8, 8, 8]⟩
set_option maxRecDepth 100000 in
theorem len8_eq : (⟨#[0, 1, 2, 2, 3, 3, 3, 3, 4, 4, 4, 4, 4, 4, 4, 4, 5, 5, 5, 5, 5, 5, 5, 5, 5, 5, 5, 5, 5, 5, 5, 5, 6, 6, 6, 6, 6, 6, 6, 6, 6, 6, 6, 6, 6, 6, 6, 6, 6, 6, 6, 6, 6, 6, 6, 6, 6, 6, 6, 6, 6, 6, 6, 6, 7, 7, 7, 7, 7, 7, 7, 7, 7, 7, 7, 7, 7, 7, 7, 7, 7, 7, 7, 7, 7, 7, 7, 7, 7, 7, 7, 7, 7, 7, 7, 7, 7, 7, 7, 7, 7, 7, 7, 7, 7, 7, 7, 7, 7, 7, 7, 7, 7, 7, 7, 7, 7, 7, 7, 7, 7, 7, 7, 7, 7, 7, 7, 7, 8, 8, 8, 8, 8, 8, 8, 8, 8, 8, 8, 8, 8, 8, 8, 8, 8, 8, 8, 8, 8, 8, 8, 8, 8, 8, 8, 8, 8, 8, 8, 8, 8, 8, 8, 8, 8, 8, 8, 8, 8, 8, 8, 8, 8, 8, 8, 8, 8, 8, 8, 8, 8, 8, 8, 8, 8, 8, 8, 8, 8, 8, 8, 8, 8, 8, 8, 8, 8, 8, 8, 8, 8, 8, 8, 8, 8, 8, 8, 8, 8, 8, 8, 8, 8, 8, 8, 8, 8, 8, 8, 8, 8, 8, 8, 8, 8, 8, 8, 8, 8, 8, 8, 8, 8, 8, 8, 8, 8, 8, 8, 8, 8, 8, 8, 8, 8, 8, 8, 8, 8, 8, 8, 8, 8, 8, 8, 8]⟩ : ByteArray) = len8 := rfl
def len8ok (i : Nat) : Bool := let n := bt len8 (i : Int); decide (0 ≤ n) && decide (n ≤ 8) && decide ((i : Int) < 2 ^ n.toNat) && (i == 0 || decide ((2 : Int) ^ n.toNat ≤ 2 * i))
theorem len8_all : (List.range 256).all len8ok = true := by decide +kernel
theorem len8_at {i : Int} (h0 : 0 ≤ i) (h1 : i < 256) : ∃ m : Nat, m ≤ 8 ∧ bt len8 i = m ∧ i < 2 ^ m ∧ (0 < i → (2 : Int) ^ m ≤ 2 * i) := by
  obtain ⟨n, rfl⟩ := Int.eq_ofNat_of_zero_le h0
  have h := List.all_eq_true.mp len8_all n (by simp; omega)
  unfold len8ok at h
  simp only [Bool.and_eq_true, Bool.or_eq_true, decide_eq_true_eq, beq_iff_eq] at h
  obtain ⟨⟨⟨a, b⟩, c⟩, d⟩ := h
  refine ⟨(bt len8 (n : Int)).toNat, by omega, by omega, c, fun hp => ?_⟩
  rcases d with d | d
  · omega
  · exact d

set_option maxRecDepth 100000 in
theorem len64_j0 {x n : Int} (h0 : 0 ≤ x) (h1 : x < 4294967296) (n0 : 0 ≤ n) (n1 : n ≤ 32) (k : Nat) :
    ∃ m : Nat, m ≤ 32 ∧ bits_Len64.j0 (k + 1) x n = some (n + m) ∧ x < 2 ^ m ∧ (0 < x → (2 : Int) ^ m ≤ 2 * x) := by
  rw [bits_Len64.j0.eq_2, len8_eq]
  by_cases a : x ≥ 65536
  · rw [if_pos a]
    by_cases b : x / 65536 ≥ 256
    · rw [if_pos b, if_pos (by omega), if_pos (by omega)]
      obtain ⟨m, m1, m2, m3, m4⟩ := len8_at (i := ((x / 65536) / 256) % 256) (by omega) (by omega)
      refine ⟨m + 24, by omega, ?_, ?_, ?_⟩
      · rw [m2]; congr 1; unfold wrap64; omega
      · rw [Int.pow_add]; generalize (2 : Int) ^ m = P at *; omega
      · intro _; rw [Int.pow_add]; generalize (2 : Int) ^ m = P at *; omega
    · rw [if_neg b, if_pos (by omega), if_pos (by omega)]
      obtain ⟨m, m1, m2, m3, m4⟩ := len8_at (i := (x / 65536) % 256) (by omega) (by omega)
      refine ⟨m + 16, by omega, ?_, ?_, ?_⟩
      · rw [m2]; congr 1; unfold wrap64; omega
      · rw [Int.pow_add]; generalize (2 : Int) ^ m = P at *; omega
      · intro _; rw [Int.pow_add]; generalize (2 : Int) ^ m = P at *; omega
  · rw [if_neg a]
    by_cases b : x ≥ 256
    · rw [if_pos b, if_pos (by omega), if_pos (by omega)]
      obtain ⟨m, m1, m2, m3, m4⟩ := len8_at (i := (x / 256) % 256) (by omega) (by omega)
      refine ⟨m + 8, by omega, ?_, ?_, ?_⟩
      · rw [m2]; congr 1; unfold wrap64; omega
      · rw [Int.pow_add]; generalize (2 : Int) ^ m = P at *; omega
      · intro _; rw [Int.pow_add]; generalize (2 : Int) ^ m = P at *; omega
    · rw [if_neg b, if_pos (by omega), if_pos (by omega)]
      obtain ⟨m, m1, m2, m3, m4⟩ := len8_at (i := x % 256) (by omega) (by omega)
      refine ⟨m, by omega, ?_, ?_, ?_⟩
      · rw [m2]; congr 1; unfold wrap64; omega
      · generalize (2 : Int) ^ m = P at *; omega
      · intro _; generalize (2 : Int) ^ m = P at *; omega

theorem len64 {x : Int} (h0 : 0 ≤ x) (h1 : x < 18446744073709551616) (k : Nat) :
    ∃ m : Nat, m ≤ 64 ∧ bits_Len64.f (k + 1) x = some (m : Int) ∧ x < 2 ^ m ∧ (0 < x → (2 : Int) ^ m ≤ 2 * x) := by
  unfold bits_Len64.f
  by_cases a : x ≥ 4294967296
  · rw [if_pos a]
    obtain ⟨m, m1, m2, m3, m4⟩ := len64_j0 (x := x / 4294967296) (n := 32) (by omega) (by omega) (by omega) (by omega) k
    refine ⟨m + 32, by omega, ?_, ?_, ?_⟩
    · rw [m2]; congr 1; omega
    · rw [Int.pow_add]; generalize (2 : Int) ^ m = P at *; omega
    · intro _; rw [Int.pow_add]; generalize (2 : Int) ^ m = P at *; omega
  · rw [if_neg a]
    obtain ⟨m, m1, m2, m3, m4⟩ := len64_j0 (x := x) (n := 0) (by omega) (by omega) (by omega) (by omega) k
    refine ⟨m, by omega, ?_, m3, m4⟩
    rw [m2]; congr 1; omega

/-- The leading zeros: shifted by them, a number fills 64 bits. -/
theorem lz64 {y : Int} (h0 : 0 < y) (h1 : y < 18446744073709551616) (k : Nat) :
    ∃ s : Nat, s ≤ 63 ∧ bits_LeadingZeros64.f (k + 1) y = some (s : Int) ∧ 9223372036854775808 ≤ y * 2 ^ s ∧ y * 2 ^ s < 18446744073709551616 := by
  obtain ⟨m, m1, m2, m3, m4⟩ := len64 (by omega) h1 k
  have hm : 1 ≤ m := by
    rcases m with _ | m
    · simp at m3; omega
    · omega
  refine ⟨64 - m, by omega, ?_, ?_, ?_⟩
  · unfold bits_LeadingZeros64.f
    rw [m2]; simp only [Option.bind_some]; congr 1; unfold wrap64; omega
  · have e : (2 : Int) ^ m * 2 ^ (64 - m) = 18446744073709551616 := by rw [← Int.pow_add, show m + (64 - m) = 64 by omega]; decide
    have p : (0 : Int) < 2 ^ (64 - m) := Int.pow_pos (by decide)
    have := Int.mul_le_mul_of_nonneg_right (m4 h0) (Int.le_of_lt p)
    rw [e, Int.mul_assoc] at this
    omega
  · have e : (2 : Int) ^ m * 2 ^ (64 - m) = 18446744073709551616 := by rw [← Int.pow_add, show m + (64 - m) = 64 by omega]; decide
    have p : (0 : Int) < 2 ^ (64 - m) := Int.pow_pos (by decide)
    have := Int.mul_lt_mul_of_pos_right m3 p
    omega
end Go.Proofs.Ytpophefonhpnmaa.Q
end

section
/- The quotient and the remainder of a number of 128 bits by one of 64 bits: math/bits.Div64 as printed, for every divisor greater than the upper half. -/
namespace Go.Proofs.Ytpophefonhpnmaa.Q
open Go.RowKit Go.Proofs.YtpophefonhpnmaaW.PrintWords Go.Proofs.YtpophefonhpnmaaW.PrintLast Go.Proofs.YtpophefonhpnmaaW.PrintMore
set_option linter.unusedVariables false
set_option linter.unusedSimpArgs false

theorem ev_fun {α : Type} {g : Nat → Option α} {r r' : α} (h : Ev g r) (e : r = r') : Ev g r' := e ▸ h

/-- One step of the search for a digit, in plain numbers. -/
theorem digit_facts {Y y1 y0 u A n1 q r : Int} (hY : Y = y1 * 4294967296 + y0) (h1 : 2147483648 ≤ y1) (h2 : y1 < 4294967296) (h3 : 0 ≤ y0) (h4 : y0 < 4294967296)
    (hn : 0 ≤ n1) (hn' : n1 < 4294967296) (hA : A = u * 4294967296 + n1) (hu : 0 ≤ u) (huY : u < Y) (hr : r = u - q * y1) (hr0 : 0 ≤ r) (hq1 : q ≤ 4294967297) (hq : A / Y ≤ q) :
    (q ≥ 4294967296 → A / Y ≤ q - 1) ∧ (q * y0 > 4294967296 * r + n1 → A / Y ≤ q - 1) ∧ (q < 4294967296 → ¬ q * y0 > 4294967296 * r + n1 → A / Y = q)
    ∧ (A / Y ≤ q - 1 → r + y1 ≥ 4294967296 → A / Y = q - 1) ∧ 0 ≤ A / Y ∧ A / Y < 4294967296 := by
  have hYp : 0 < Y := by omega
  have hA0 : 0 ≤ A := by omega
  have hQ0 : 0 ≤ A / Y := Int.ediv_nonneg hA0 (by omega)
  have hQ1 : A / Y < 4294967296 := by
    rw [Int.ediv_lt_iff_lt_mul hYp]; omega
  have eU : q * Y = A - n1 - r * 4294967296 + q * y0 := by
    rw [hY, hA, hr]; grind
  have k := Int.le_ediv_iff_mul_le (a := q) (b := A) hYp
  have k' := Int.le_ediv_iff_mul_le (a := q - 1) (b := A) hYp
  have eU' : (q - 1) * Y = q * Y - Y := by grind
  refine ⟨by omega, fun h => ?_, fun _ h => ?_, fun hle hr1 => ?_, hQ0, hQ1⟩
  · rcases Int.lt_or_le (A / Y) q with h' | h'
    · omega
    · have := k.mp h'; omega
  · have : q * Y ≤ A := by omega
    have := k.mpr this; omega
  · have b : (q - 1) * y0 ≤ 4294967296 * 4294967295 := Int.mul_le_mul (by omega) (by omega) h3 (by omega)
    have e : (q - 1) * y0 = q * y0 - y0 := by grind
    have : (q - 1) * Y ≤ A := by omega
    have := k'.mpr this; omega

theorem div_l0 {Y s y1 y0 u n1 n0 : Int} {R : Int × Int} (hY : Y = y1 * 4294967296 + y0) (h1 : 2147483648 ≤ y1) (h2 : y1 < 4294967296) (h3 : 0 ≤ y0) (h4 : y0 < 4294967296)
    (hn : 0 ≤ n1) (hn' : n1 < 4294967296) (hu : 0 ≤ u) (huY : u < Y) (H : Ev (fun k => bits_Div64.j2 k Y s y1 y0 u n1 n0 ((u * 4294967296 + n1) / Y)) R) (n : Nat) :
    ∀ q r : Int, r = u - q * y1 → 0 ≤ r → r < 4294967296 → q ≤ 4294967297 → (u * 4294967296 + n1) / Y ≤ q → 4294967296 - r ≤ n → Ev (fun k => bits_Div64.l0 k Y s y1 y0 u n1 n0 q r) R := by
  induction n with
  | zero => intro q r _ _ _ _ _ _; omega
  | succ n ih =>
    intro q r hr hr0 hr1 hq1 hq hm
    obtain ⟨f1, f2, f3, f4, f5, f6⟩ := digit_facts hY h1 h2 h3 h4 hn hn' rfl hu huY hr hr0 hq1 hq
    generalize hA : (u * 4294967296 + n1) / Y = Q at *
    have go : Q ≤ q - 1 → Ev (fun k => bits_Div64.j1 k Y s y1 y0 u n1 n0 q r true) R := by
      intro hle
      by_cases c : r + y1 ≥ 4294967296
      · refine Ev.step (fun k => by rw [bits_Div64.j1, if_pos rfl, uw_id (x := r + y1) (by omega) (by omega), if_pos c, uw_id (x := q - 1) (by omega) (by omega)]) ?_
        rw [← f4 hle c]; exact H
      · refine Ev.step (fun k => by rw [bits_Div64.j1, if_pos rfl, uw_id (x := r + y1) (by omega) (by omega), if_neg c, uw_id (x := q - 1) (by omega) (by omega)]) ?_
        exact ih (q - 1) (r + y1) (by rw [hr]; grind) (by omega) (by omega) (by omega) hle (by omega)
    by_cases c : q ≥ 4294967296
    · exact Ev.step (fun k => by rw [bits_Div64.l0, if_pos c]) (go (f1 c))
    · have b0 : 0 ≤ q * y0 := Int.mul_nonneg (by omega) h3
      have b1 : q * y0 ≤ 4294967295 * 4294967295 := Int.mul_le_mul (by omega) (by omega) h3 (by omega)
      have e : decide ((IntKind.u64.wrap (q * y0)) > (IntKind.u64.wrap ((IntKind.u64.wrap (4294967296 * r)) + n1))) = decide (q * y0 > 4294967296 * r + n1) := by
        rw [uw_id (x := q * y0) b0 (by omega), uw_id (x := 4294967296 * r) (by omega) (by omega), uw_id (by omega) (by omega)]
      by_cases d : q * y0 > 4294967296 * r + n1
      · exact Ev.step (fun k => by rw [bits_Div64.l0, if_neg c, e, decide_eq_true d]) (go (f2 d))
      · refine Ev.step (fun k => by rw [bits_Div64.l0, if_neg c, e, decide_eq_false d]) ?_
        refine Ev.step (fun k => by rw [bits_Div64.j1, if_neg (by decide)]) ?_
        rw [← f3 (by omega) d]; exact H

theorem div_end {Y y1 u n0 q1 s A : Int} (hY0 : 0 < Y) (hY1 : Y < 18446744073709551616) (hA : A = u * 4294967296 + n0) (hq1 : 0 ≤ q1) (hq1' : q1 < 4294967296) (hQ : 0 ≤ A / Y) (hQ1 : A / Y < 4294967296) :
    (IntKind.u64.wrap ((IntKind.u64.wrap (q1 * 4294967296)) + A / Y), shr .u64 (IntKind.u64.wrap ((IntKind.u64.wrap ((IntKind.u64.wrap (u * 4294967296)) + n0)) - (IntKind.u64.wrap ((A / Y) * Y)))) s)
      = (q1 * 4294967296 + A / Y, shr .u64 (A % Y) s) := by
  have h := Int.emod_add_mul_ediv A Y
  have h0 := Int.emod_nonneg A (show Y ≠ 0 by omega)
  have h1 := Int.emod_lt_of_pos A hY0
  have hc : Y * (A / Y) = A / Y * Y := Int.mul_comm _ _
  rw [hc] at h
  generalize A / Y * Y = P at *
  generalize A / Y = Q at *
  have e : (u * 4294967296 % 18446744073709551616 + n0) % 18446744073709551616 = A % 18446744073709551616 := by rw [hA]; omega
  rw [uw, uw, uw, uw, uw, uw, e]
  congr 1
  · omega
  · congr 1; omega

theorem div_l1 {Y s y1 y0 u n0 q1 : Int} (hY : Y = y1 * 4294967296 + y0) (h1 : 2147483648 ≤ y1) (h2 : y1 < 4294967296) (h3 : 0 ≤ y0) (h4 : y0 < 4294967296)
    (hn : 0 ≤ n0) (hn' : n0 < 4294967296) (hu : 0 ≤ u) (huY : u < Y) (hq1 : 0 ≤ q1) (hq1' : q1 < 4294967296) (hs : 0 ≤ s) (n : Nat) :
    ∀ q r : Int, r = u - q * y1 → 0 ≤ r → r < 4294967296 → q ≤ 4294967297 → (u * 4294967296 + n0) / Y ≤ q → 4294967296 - r ≤ n →
      Ev (fun k => bits_Div64.l1 k Y s y1 y0 n0 q1 r u q) (q1 * 4294967296 + (u * 4294967296 + n0) / Y, shr .u64 ((u * 4294967296 + n0) % Y) s) := by
  induction n with
  | zero => intro q r _ _ _ _ _ _; omega
  | succ n ih =>
    intro q r hr hr0 hr1 hq1 hq hm
    obtain ⟨f1, f2, f3, f4, f5, f6⟩ := digit_facts hY h1 h2 h3 h4 hn hn' rfl hu huY hr hr0 hq1 hq
    have fin := div_end (Y := Y) (y1 := y1) (u := u) (n0 := n0) (q1 := q1) (s := s) (by omega) (by omega) rfl (by omega) (by omega) f5 f6
    generalize hA : u * 4294967296 + n0 = A at *
    have go : A / Y ≤ q - 1 → Ev (fun k => bits_Div64.j4 k Y s y1 y0 n0 q1 r u q true) (q1 * 4294967296 + A / Y, shr .u64 (A % Y) s) := by
      intro hle
      by_cases c : r + y1 ≥ 4294967296
      · have e := f4 hle c
        refine Ev.step (f := fun _ => some (q1 * 4294967296 + A / Y, shr .u64 (A % Y) s)) (fun k => ?_) (Ev.now _)
        rw [bits_Div64.j4, if_pos rfl, uw_id (x := r + y1) (by omega) (by omega), if_pos c, uw_id (x := q - 1) (by omega) (by omega), if_pos hs, ← e]
        rw [fin]
      · refine Ev.step (fun k => by rw [bits_Div64.j4, if_pos rfl, uw_id (x := r + y1) (by omega) (by omega), if_neg c, uw_id (x := q - 1) (by omega) (by omega)]) ?_
        exact ih (q - 1) (r + y1) (by rw [hr]; grind) (by omega) (by omega) (by omega) hle (by omega)
    by_cases c : q ≥ 4294967296
    · exact Ev.step (fun k => by rw [bits_Div64.l1, if_pos c]) (go (f1 c))
    · have b0 : 0 ≤ q * y0 := Int.mul_nonneg (by omega) h3
      have b1 : q * y0 ≤ 4294967295 * 4294967295 := Int.mul_le_mul (by omega) (by omega) h3 (by omega)
      have e : decide ((IntKind.u64.wrap (q * y0)) > (IntKind.u64.wrap ((IntKind.u64.wrap (4294967296 * r)) + n0))) = decide (q * y0 > 4294967296 * r + n0) := by
        rw [uw_id (x := q * y0) b0 (by omega), uw_id (x := 4294967296 * r) (by omega) (by omega), uw_id (by omega) (by omega)]
      by_cases d : q * y0 > 4294967296 * r + n0
      · exact Ev.step (fun k => by rw [bits_Div64.l1, if_neg c, e, decide_eq_true d]) (go (f2 d))
      · refine Ev.step (fun k => by rw [bits_Div64.l1, if_neg c, e, decide_eq_false d]) ?_
        have e := f3 (by omega) d
        refine Ev.step (f := fun _ => some (q1 * 4294967296 + A / Y, shr .u64 (A % Y) s)) (fun k => ?_) (Ev.now _)
        rw [bits_Div64.j4, if_neg (by decide), if_pos hs, ← e]
        rw [fin]

theorem tdiv_eq {a b : Int} (ha : 0 ≤ a) : Int.tdiv a b = a / b := Int.tdiv_eq_ediv_of_nonneg ha
theorem tmod_eq {a b : Int} (ha : 0 ≤ a) : Int.tmod a b = a % b := Int.tmod_eq_emod_of_nonneg ha

/-- The first guess of a digit. -/
theorem guess {Y y1 y0 u A n1 : Int} (hY : Y = y1 * 4294967296 + y0) (h1 : 2147483648 ≤ y1) (h2 : y1 < 4294967296) (h3 : 0 ≤ y0) (h4 : y0 < 4294967296)
    (hn : 0 ≤ n1) (hn' : n1 < 4294967296) (hA : A = u * 4294967296 + n1) (hu : 0 ≤ u) (huY : u < Y) :
    0 ≤ u / y1 ∧ u / y1 ≤ 4294967297 ∧ A / Y ≤ u / y1 ∧ u - u / y1 * y1 = u % y1 ∧ 0 ≤ u % y1 ∧ u % y1 < 4294967296 := by
  have e := Int.emod_add_mul_ediv u y1
  have e0 := Int.emod_nonneg u (show y1 ≠ 0 by omega)
  have e1 := Int.emod_lt_of_pos u (show 0 < y1 by omega)
  have e2 : y1 * (u / y1) = u / y1 * y1 := Int.mul_comm _ _
  refine ⟨Int.ediv_nonneg hu (by omega), ?_, ?_, by omega, e0, by omega⟩
  · have : u / y1 < 4294967298 := by rw [Int.ediv_lt_iff_lt_mul (by omega)]; omega
    omega
  · -- (A / Y) * Y ≤ A, hence (A / Y) * y1 * 2^32 ≤ A, hence (A / Y) * y1 ≤ u
    have hYp : 0 < Y := by omega
    have k := (Int.le_ediv_iff_mul_le (a := A / Y) (b := A) hYp).mp (Int.le_refl _)
    have hQ0 : 0 ≤ A / Y := Int.ediv_nonneg (by omega) (by omega)
    have m0 : 0 ≤ A / Y * y0 := Int.mul_nonneg hQ0 h3
    have eU : A / Y * Y = A / Y * y1 * 4294967296 + A / Y * y0 := by
      generalize A / Y = Q; rw [hY]; grind
    rw [Int.le_ediv_iff_mul_le (by omega)]
    omega

theorem div_j2 {Y s y1 y0 u n1 n0 : Int} (hY : Y = y1 * 4294967296 + y0) (h1 : 2147483648 ≤ y1) (h2 : y1 < 4294967296) (h3 : 0 ≤ y0) (h4 : y0 < 4294967296)
    (hn : 0 ≤ n1) (hn' : n1 < 4294967296) (hm : 0 ≤ n0) (hm' : n0 < 4294967296) (hu : 0 ≤ u) (huY : u < Y) (hs : 0 ≤ s) :
    Ev (fun k => bits_Div64.j2 k Y s y1 y0 u n1 n0 ((u * 4294967296 + n1) / Y))
      ((u * 18446744073709551616 + n1 * 4294967296 + n0) / Y, shr .u64 ((u * 18446744073709551616 + n1 * 4294967296 + n0) % Y) s) := by
  have hYp : 0 < Y := by omega
  have h := Int.emod_add_mul_ediv (u * 4294967296 + n1) Y
  have h0 := Int.emod_nonneg (u * 4294967296 + n1) (show Y ≠ 0 by omega)
  have h1' := Int.emod_lt_of_pos (u * 4294967296 + n1) hYp
  have hc : Y * ((u * 4294967296 + n1) / Y) = (u * 4294967296 + n1) / Y * Y := Int.mul_comm _ _
  have hQ0 : 0 ≤ (u * 4294967296 + n1) / Y := Int.ediv_nonneg (by omega) (by omega)
  have hQ1 : (u * 4294967296 + n1) / Y < 4294967296 := by rw [Int.ediv_lt_iff_lt_mul hYp]; omega
  generalize hQ : (u * 4294967296 + n1) / Y = Q1 at *
  generalize hV : (u * 4294967296 + n1) % Y = V at *
  have eV : IntKind.u64.wrap ((IntKind.u64.wrap ((IntKind.u64.wrap (u * 4294967296)) + n1)) - (IntKind.u64.wrap (Q1 * Y))) = V := by
    rw [uw, uw, uw, uw]; omega
  obtain ⟨g0, g1, g2, g3, g4, g5⟩ := guess (A := V * 4294967296 + n0) hY h1 h2 h3 h4 hm hm' rfl h0 h1'
  have eN : u * 18446744073709551616 + n1 * 4294967296 + n0 = V * 4294967296 + n0 + (Q1 * 4294967296) * Y := by
    have : (Q1 * 4294967296) * Y = Q1 * Y * 4294967296 := by grind
    omega
  have eD : (u * 18446744073709551616 + n1 * 4294967296 + n0) / Y = Q1 * 4294967296 + (V * 4294967296 + n0) / Y := by
    rw [eN, Int.add_mul_ediv_right _ _ (by omega)]; omega
  have eM : (u * 18446744073709551616 + n1 * 4294967296 + n0) % Y = (V * 4294967296 + n0) % Y := by
    rw [eN, Int.add_mul_emod_self_right]
  rw [eD, eM]
  refine Ev.step (f := fun k => bits_Div64.l1 k Y s y1 y0 n0 Q1 (V % y1) V (V / y1)) (fun k => ?_) ?_
  · rw [bits_Div64.j2, if_neg (by omega), eV, tdiv_eq h0, uw_id (x := V / y1) g0 (by omega)]
    rw [uw, uw]
    congr 1
    omega
  · exact div_l1 hY h1 h2 h3 h4 hm hm' h0 h1' hQ0 hQ1 hs 4294967296 _ _ g3.symm g4 g5 g1 g2 (by omega)
end Go.Proofs.Ytpophefonhpnmaa.Q
end

section
/- math/bits.Div64 as printed returns the quotient and the remainder of hi * 2^64 + lo by y, for every y greater than hi. -/
namespace Go.Proofs.Ytpophefonhpnmaa.Q
open Go.RowKit Go.Proofs.YtpophefonhpnmaaW.PrintWords Go.Proofs.YtpophefonhpnmaaW.PrintLast Go.Proofs.YtpophefonhpnmaaW.PrintMore
set_option linter.unusedVariables false
set_option linter.unusedSimpArgs false

theorem shl64 {x : Int} {s : Nat} (hs : s ≤ 64) : shl .u64 x (s : Int) = (x * 2 ^ s) % 18446744073709551616 := by
  unfold shl; rw [uw, Int.toNat_natCast, show IntKind.u64.bits = 64 from rfl, Nat.min_eq_left hs]
theorem shr64 {x : Int} {s : Nat} (hs : s ≤ 64) : shr .u64 x (s : Int) = x / 2 ^ s := by
  unfold shr; rw [Int.toNat_natCast, show IntKind.u64.bits = 64 from rfl, Nat.min_eq_left hs]

theorem div64 {hi lo y : Int} (h0 : 0 ≤ hi) (h1 : hi < y) (h2 : y < 18446744073709551616) (l0 : 0 ≤ lo) (l1 : lo < 18446744073709551616) :
    Ev (fun k => bits_Div64.f k hi lo y) ((hi * 18446744073709551616 + lo) / y, (hi * 18446744073709551616 + lo) % y) := by
  by_cases hz : hi = 0
  · subst hz
    refine Ev.congr (f := fun _ => some (lo / y, lo % y)) (fun k => ?_) ?_
    · unfold bits_Div64.f
      rw [if_neg (by omega), if_neg (by omega), if_pos rfl, tdiv_eq l0, tmod_eq l0, uw_id (Int.ediv_nonneg l0 (by omega))]
      have := Int.ediv_le_self y l0
      omega
    · rw [show 0 * 18446744073709551616 + lo = lo by omega]; exact Ev.now _
  · obtain ⟨K, hK⟩ : ∃ K, ∀ k, K ≤ k → bits_Div64.f k hi lo y = some ((hi * 18446744073709551616 + lo) / y, (hi * 18446744073709551616 + lo) % y) := by
      obtain ⟨s, hs, hsv, hY0, hY1⟩ := lz64 (y := y) (by omega) h2 0
      have hsE : Ev (fun k => bits_LeadingZeros64.f k y) (s : Int) := Ev.of (fun k => bits_LeadingZeros64.mono _ _) hsv
      have hP : (0 : Int) < 2 ^ s := Int.pow_pos (by decide)
      have hPP : (2 : Int) ^ s * 2 ^ (64 - s) = 18446744073709551616 := by rw [← Int.pow_add, show s + (64 - s) = 64 by omega]; decide
      have hP' : (0 : Int) < 2 ^ (64 - s) := Int.pow_pos (by decide)
      have hb : hi * 2 ^ s < y * 2 ^ s := Int.mul_lt_mul_of_pos_right h1 hP
      have hb0 : 0 ≤ hi * 2 ^ s := Int.mul_nonneg h0 (by omega)
      have hlo0 : 0 ≤ lo * 2 ^ s := Int.mul_nonneg l0 (by omega)
      -- the low part of the dividend that moves up
      have hdl : lo / 2 ^ (64 - s) = lo * 2 ^ s / 18446744073709551616 := by
        rw [← hPP, Int.mul_comm lo, Int.mul_ediv_mul_of_pos _ _ hP]
      have hlt : lo * 2 ^ s < 18446744073709551616 * 2 ^ s := Int.mul_lt_mul_of_pos_right l1 hP
      have hdlt : lo * 2 ^ s / 18446744073709551616 < 2 ^ s := by
        rw [Int.ediv_lt_iff_lt_mul (by decide), Int.mul_comm (2 ^ s)]; exact hlt
      have hd0 : 0 ≤ lo * 2 ^ s / 18446744073709551616 := Int.ediv_nonneg hlo0 (by decide)
      have e1 : shl .u64 y (s : Int) = y * 2 ^ s := by rw [shl64 (by omega)]; omega
      have e2 : shl .u64 hi (s : Int) = hi * 2 ^ s := by rw [shl64 (by omega)]; omega
      have e3 : shl .u64 lo (s : Int) = lo * 2 ^ s % 18446744073709551616 := shl64 (by omega)
      have e4 : shr .u64 lo (IntKind.u64.wrap (64 - IntKind.u64.wrap (s : Int))) = lo * 2 ^ s / 18446744073709551616 := by
        rw [uw_id (x := (s : Int)) (by omega) (by omega), uw_id (by omega) (by omega), show (64 : Int) - (s : Int) = ((64 - s : Nat) : Int) by omega, shr64 (by omega), hdl]
      have hle : hi * 2 ^ s + 2 ^ s ≤ y * 2 ^ s := by
        have := Int.mul_le_mul_of_nonneg_right (show hi + 1 ≤ y by omega) (Int.le_of_lt hP)
        rw [Int.add_mul, Int.one_mul] at this; exact this
      have e5 : Go.bits .or .u64 (hi * 2 ^ s) (lo * 2 ^ s / 18446744073709551616) = hi * 2 ^ s + lo * 2 ^ s / 18446744073709551616 :=
        Go.bits_join .u64 64 (by decide) (fun n h h' => by rw [uw]; omega) s _ _ hb0 (Int.mul_emod_left _ _) (by omega) hd0 hdlt (by omega)
      -- the whole
      have key := div_j2 (Y := y * 2 ^ s) (s := (s : Int)) (y1 := y * 2 ^ s / 4294967296) (y0 := y * 2 ^ s % 4294967296) (u := hi * 2 ^ s + lo * 2 ^ s / 18446744073709551616)
        (n1 := lo * 2 ^ s % 18446744073709551616 / 4294967296) (n0 := lo * 2 ^ s % 18446744073709551616 % 4294967296)
        (by omega) (by omega) (by omega) (by omega) (by omega) (by omega) (by omega) (by omega) (by omega) (by omega) (by omega) (by omega)
      have hN : (hi * 2 ^ s + lo * 2 ^ s / 18446744073709551616) * 18446744073709551616 + lo * 2 ^ s % 18446744073709551616 / 4294967296 * 4294967296 + lo * 2 ^ s % 18446744073709551616 % 4294967296
          = (hi * 18446744073709551616 + lo) * 2 ^ s := by
        have : (hi * 18446744073709551616 + lo) * 2 ^ s = hi * 2 ^ s * 18446744073709551616 + lo * 2 ^ s := by grind
        omega
      have eM : (hi * 18446744073709551616 + lo) * 2 ^ s % (y * 2 ^ s) = (hi * 18446744073709551616 + lo) % y * 2 ^ s := by
        rw [Int.mul_comm _ (2 ^ s), Int.mul_comm y, Int.mul_emod_mul_of_pos _ _ hP, Int.mul_comm]
      rw [hN, Int.mul_ediv_mul_of_pos_left _ _ hP, eM, shr64 (by omega), Int.mul_ediv_cancel _ (by omega)] at key
      obtain ⟨g0, g1, g2, g3, g4, g5⟩ := guess (Y := y * 2 ^ s) (y1 := y * 2 ^ s / 4294967296) (y0 := y * 2 ^ s % 4294967296) (u := hi * 2 ^ s + lo * 2 ^ s / 18446744073709551616)
        (A := (hi * 2 ^ s + lo * 2 ^ s / 18446744073709551616) * 4294967296 + lo * 2 ^ s % 18446744073709551616 / 4294967296) (n1 := lo * 2 ^ s % 18446744073709551616 / 4294967296)
        (by omega) (by omega) (by omega) (by omega) (by omega) (by omega) (by omega) rfl (by omega) (by omega)
      have key2 := div_l0 (Y := y * 2 ^ s) (s := (s : Int)) (y1 := y * 2 ^ s / 4294967296) (y0 := y * 2 ^ s % 4294967296) (u := hi * 2 ^ s + lo * 2 ^ s / 18446744073709551616)
        (n1 := lo * 2 ^ s % 18446744073709551616 / 4294967296) (n0 := lo * 2 ^ s % 18446744073709551616 % 4294967296)
        (by omega) (by omega) (by omega) (by omega) (by omega) (by omega) (by omega) (by omega) (by omega) key 4294967296 _ _ g3.symm g4 g5 g1 g2 (by omega)
      obtain ⟨K1, h1'⟩ := hsE
      obtain ⟨K2, h2'⟩ := key2
      refine ⟨max K1 K2, fun k hk => ?_⟩
      unfold bits_Div64.f
      rw [if_neg (by omega), if_neg (by omega), if_neg hz, show bits_LeadingZeros64.f k y = some (s : Int) from h1' k (by omega)]
      simp only [Option.bind_some]
      rw [e4, uw_id (x := (s : Int)) (by omega) (by omega), if_pos (by omega), uw_id (x := 64 - (s : Int)) (by omega) (by omega), if_pos (by omega), e1, e2, e3, e5,
        if_neg (by omega), u64_mask32 (by omega) (by omega), u64_mask32 (by omega) (by omega), tdiv_eq (by omega), uw_id (x := _ / _) g0 (by omega), uw, uw]
      have hmm : ((hi * 2 ^ s + lo * 2 ^ s / 18446744073709551616) - (hi * 2 ^ s + lo * 2 ^ s / 18446744073709551616) / (y * 2 ^ s / 4294967296) * (y * 2 ^ s / 4294967296) % 18446744073709551616) % 18446744073709551616
          = (hi * 2 ^ s + lo * 2 ^ s / 18446744073709551616) % (y * 2 ^ s / 4294967296) := by omega
      rw [hmm]
      exact h2' k (by omega)
    exact ⟨K, hK⟩
end Go.Proofs.Ytpophefonhpnmaa.Q
end

section
/- Package num of the program in plain numbers: products of 128 bits, their sums, order, quotients and remainders; the bounds stand in each statement. -/
-- AUTO
namespace Go.Proofs.Ytpophefonhpnmaa.Q
open Go.RowKit Go.Proofs.YtpophefonhpnmaaW.PrintWords Go.Proofs.YtpophefonhpnmaaW.PrintLast Go.Proofs.YtpophefonhpnmaaW.PrintMore
set_option linter.unusedVariables false
set_option linter.unusedSimpArgs false

/-- What a product of two numbers of 64 bits lies between. -/
theorem prod_bd {a b : Int} (a0 : -9223372036854775808 ≤ a) (a1 : a < 9223372036854775808) (b0 : -9223372036854775808 ≤ b) (b1 : b < 9223372036854775808) :
    -85070591730234615865843651857942052864 ≤ a * b ∧ a * b ≤ 85070591730234615865843651857942052864 := by
  have h : (a * b).natAbs ≤ 9223372036854775808 * 9223372036854775808 := by
    rw [Int.natAbs_mul]; exact Nat.mul_le_mul (by omega) (by omega)
  omega

theorem wide_neg {v : Int} (h0 : -170141183460469231731687303715884105728 < v) (h1 : v < 170141183460469231731687303715884105728) :
    num_Wide_Neg.f (v / 18446744073709551616) (v % 18446744073709551616) = some (-v / 18446744073709551616, -v % 18446744073709551616) := by
  unfold num_Wide_Neg.f
  rw [if_pos (by omega), if_pos (by omega)]
  congr 2
  · unfold wrap64; omega
  · omega

theorem product {a b : Int} (a0 : -9223372036854775808 ≤ a) (a1 : a < 9223372036854775808) (b0 : -9223372036854775808 ≤ b) (b1 : b < 9223372036854775808) :
    num_Product.f a b = some (a * b / 18446744073709551616, a * b % 18446744073709551616) := by
  have hb := prod_bd a0 a1 b0 b1
  unfold num_Product.f
  rw [size_some a0 a1, size_some b0 b1]
  simp only [Option.bind_some]
  rw [mul64 (by split <;> omega) (by split <;> omega) (by split <;> omega) (by split <;> omega)]
  simp only [Option.bind_some]
  by_cases ha : a < 0 <;> by_cases hc : b < 0
  · rw [if_pos ha, if_pos hc, if_neg (by simp [ha, hc]), Int.neg_mul_neg]
    congr 2
    unfold wrap64; omega
  · rw [if_pos ha, if_neg hc, if_pos (by simp [ha]; omega), Int.neg_mul, w64_id (by omega) (by omega), wide_neg (by omega) (by omega)]
    simp only [Option.bind_some, Int.neg_neg]
  · rw [if_neg ha, if_pos hc, if_pos (by simp [hc]; omega), Int.mul_neg, w64_id (by omega) (by omega), wide_neg (by omega) (by omega)]
    simp only [Option.bind_some, Int.neg_neg]
  · rw [if_neg ha, if_neg hc, if_neg (by simp [ha, hc])]
    congr 2
    unfold wrap64; omega

/-- Division of a negative number: by that of the opposite one. -/
theorem neg_div {v d : Int} (hd : 0 < d) : v / d = (if -v % d = 0 then -(-v / d) else -(-v / d) - 1) ∧ v % d = (if -v % d = 0 then 0 else d - -v % d) := by
  have e := Int.emod_add_mul_ediv (-v) d
  have h0 := Int.emod_nonneg (-v) (show d ≠ 0 by omega)
  have h1 := Int.emod_lt_of_pos (-v) hd
  split
  · exact (Int.ediv_emod_unique hd).mpr ⟨by rw [Int.mul_neg]; omega, by omega, by omega⟩
  · exact (Int.ediv_emod_unique hd).mpr ⟨by rw [Int.mul_sub, Int.mul_neg]; omega, by omega, by omega⟩

theorem div_bd {v d : Int} (h0 : 0 ≤ v) (hd : 0 < d) : 0 ≤ v / d ∧ v / d ≤ v := ⟨Int.ediv_nonneg h0 (by omega), Int.ediv_le_self d h0⟩

theorem one_ev {α : Type} {g : Nat → Option α} {r : α} (h : ∀ k, g (k + 1) = some r) : Ev g r := Ev.step (f := fun _ => some r) h (Ev.now _)
theorem now_ev {α : Type} {g : Nat → Option α} {r : α} (h : ∀ k, g k = some r) : Ev g r := Ev.congr (f := fun _ => some r) h (Ev.now _)

theorem wide_div_j1 {p r : Int} (neg : Bool) {h l : Int} (hn : (h < 0) = (neg = true)) (hp0 : 0 ≤ p) (hp1 : p < 18446744073709551616) (hr : 0 ≤ r) :
    Ev (fun k => num_Wide_Div.j1 k p r (if neg then (if r > 0 then 9223372036854775807 else 9223372036854775808) else 9223372036854775807) h l)
      (if neg then (if r = 0 then (if p ≤ 9223372036854775808 then (-p, 0) else (0, 2)) else (if p ≤ 9223372036854775807 then (-p - 1, 0) else (0, 2)))
        else (if p ≤ 9223372036854775807 then (p, 0) else (0, 2))) := by
  refine one_ev fun k => ?_
  rw [num_Wide_Div.j1]
  cases neg
  · have hh : ¬ h < 0 := by rw [hn]; decide
    simp only [Bool.false_eq_true, if_false]
    by_cases c : p ≤ 9223372036854775807
    · rw [if_neg (by omega), if_pos (by omega), if_pos c, w64_id (by omega) (by omega)]
    · rw [if_pos (by omega), if_neg c]
  · have hh : h < 0 := by rw [hn]
    simp only [if_true]
    by_cases z : r = 0
    · rw [if_neg (show ¬ r > 0 by omega), if_pos z]
      by_cases c : p ≤ 9223372036854775808
      · rw [if_neg (by omega), if_neg (by omega), if_neg (by omega), if_pos c, uw_wrap64, w64_id (by omega) (by omega)]
      · rw [if_pos (by omega), if_neg c]
    · rw [if_pos (show r > 0 by omega), if_neg z]
      by_cases c : p ≤ 9223372036854775807
      · rw [if_neg (by omega), if_neg (by omega), if_pos (by omega), if_pos c, uw_wrap64, w64_id (x := -p) (by omega) (by omega), w64_id (by omega) (by omega)]
      · rw [if_pos (by omega), if_neg c]

theorem some_ev {α β : Type} {g : Option α} {f : Nat → α → Option β} {a : α} {r : β} (h : g = some a) (k : Ev (fun n => f n a) r) : Ev (fun n => g.bind (f n)) r := by
  subst h; exact k
theorem pos_ev {α : Type} {c : Prop} [Decidable c] {g f : Nat → Option α} {r : α} (h : c) (k : Ev g r) : Ev (fun n => if c then g n else f n) r := by
  simp only [if_pos h]; exact k
theorem neg_ev {α : Type} {c : Prop} [Decidable c] {g f : Nat → Option α} {r : α} (h : ¬ c) (k : Ev f r) : Ev (fun n => if c then g n else f n) r := by
  simp only [if_neg h]; exact k

/-- Whether a number has 64 bits, with sign. -/
def fits (n : Int) : Bool := decide (-9223372036854775808 ≤ n) && decide (n ≤ 9223372036854775807)

theorem wide_div {v d : Int} (h0 : -170141183460469231731687303715884105728 ≤ v) (h1 : v < 170141183460469231731687303715884105728) (hd1 : d < 9223372036854775808) :
    Ev (fun k => num_Wide_Div.f k (v / 18446744073709551616) (v % 18446744073709551616) d) (if d < 1 then (0, 1) else if fits (v / d) then (v / d, 0) else (0, 2)) := by
  by_cases hd : d < 1
  · rw [if_pos hd]; exact now_ev fun k => by unfold num_Wide_Div.f; rw [if_pos hd]
  rw [if_neg hd]
  have hdp : 0 < d := by omega
  by_cases hv : v < 0
  · by_cases hm : v = -170141183460469231731687303715884105728
    · subst hm
      have hf : fits (-170141183460469231731687303715884105728 / d) = false := by
        have : -170141183460469231731687303715884105728 / d < -9223372036854775808 := by rw [Int.ediv_lt_iff_lt_mul hdp]; omega
        unfold fits; rw [decide_eq_false (by omega)]; rfl
      rw [hf]
      refine Ev.congr (f := fun k => num_Wide_Div.j0 k d (-9223372036854775808) 0 (-9223372036854775808) 0) (fun k => ?_) ?_
      · unfold num_Wide_Div.f
        rw [if_neg hd, if_pos (by omega)]
        have : num_Wide_Neg.f (-170141183460469231731687303715884105728 / 18446744073709551616) (-170141183460469231731687303715884105728 % 18446744073709551616) = some (-9223372036854775808, 0) := by decide +kernel
        rw [this]
        rfl
      · refine one_ev fun k => ?_
        rw [num_Wide_Div.j0, if_pos (by rw [uw, uw]; omega)]
        rfl
    · have b := div_bd (v := -v) (d := d) (by omega) hdp
      have nd := neg_div (v := v) hdp
      have h0' := Int.emod_nonneg (-v) (show d ≠ 0 by omega)
      refine Ev.congr (f := fun k => num_Wide_Div.j0 k d (v / 18446744073709551616) (v % 18446744073709551616) (-v / 18446744073709551616) (-v % 18446744073709551616)) (fun k => ?_) ?_
      · unfold num_Wide_Div.f
        rw [if_neg hd, if_pos (by omega), wide_neg (by omega) (by omega)]
        rfl
      · by_cases c : -v / 18446744073709551616 ≥ d
        · have hq : 18446744073709551616 ≤ -v / d := by rw [Int.le_ediv_iff_mul_le hdp]; omega
          have hf : fits (v / d) = false := by
            unfold fits; rw [decide_eq_false (by rw [nd.1]; split <;> omega)]; rfl
          rw [hf]
          refine one_ev fun k => ?_
          rw [num_Wide_Div.j0, if_pos (by rw [uw, uw]; omega)]
          rfl
        · have D := div64 (hi := -v / 18446744073709551616) (lo := -v % 18446744073709551616) (y := d) (by omega) (by omega) (by omega) (by omega) (by omega)
          rw [show -v / 18446744073709551616 * 18446744073709551616 + -v % 18446744073709551616 = -v by omega] at D
          have hq : -v / d < 18446744073709551616 := by rw [Int.ediv_lt_iff_lt_mul hdp]; omega
          have J := wide_div_j1 (p := -v / d) (r := -v % d) true (h := v / 18446744073709551616) (l := v % 18446744073709551616) (by simp; omega) b.1 hq h0'
          simp only [if_true] at J
          refine Ev.step (f := fun k => (bits_Div64.f k (-v / 18446744073709551616) (-v % 18446744073709551616) d).bind fun bt => num_Wide_Div.j1 k bt.1 bt.2 (if bt.2 > 0 then 9223372036854775807 else 9223372036854775808) (v / 18446744073709551616) (v % 18446744073709551616)) (fun k => ?_) ?_
          · rw [num_Wide_Div.j0, uw_id (x := -v / 18446744073709551616) (by omega) (by omega), uw_id (x := d) (by omega) (by omega), if_neg c]
            congr 1
            funext bt
            rw [if_pos (by omega)]
            split <;> rfl
          · refine ev_fun (Ev.bind D J) ?_
            rw [nd.1]
            unfold fits
            by_cases z : -v % d = 0
            · rw [if_pos z, if_pos z]
              by_cases y : -v / d ≤ 9223372036854775808
              · rw [if_pos y, decide_eq_true (by omega), decide_eq_true (by omega)]; rfl
              · rw [if_neg y, decide_eq_false (by omega)]; rfl
            · rw [if_neg z, if_neg z]
              by_cases y : -v / d ≤ 9223372036854775807
              · rw [if_pos y, decide_eq_true (by omega), decide_eq_true (by omega)]; rfl
              · rw [if_neg y, decide_eq_false (by omega)]; rfl
  · have b := div_bd (v := v) (d := d) (by omega) hdp
    have h0' := Int.emod_nonneg v (show d ≠ 0 by omega)
    refine Ev.congr (f := fun k => num_Wide_Div.j0 k d (v / 18446744073709551616) (v % 18446744073709551616) (v / 18446744073709551616) (v % 18446744073709551616)) (fun k => ?_) ?_
    · unfold num_Wide_Div.f
      rw [if_neg hd, if_neg (by omega)]
    · by_cases c : v / 18446744073709551616 ≥ d
      · have hq : 18446744073709551616 ≤ v / d := by rw [Int.le_ediv_iff_mul_le hdp]; omega
        have hf : fits (v / d) = false := by
          unfold fits; rw [decide_eq_true (by omega), decide_eq_false (by omega)]; rfl
        rw [hf]
        refine one_ev fun k => ?_
        rw [num_Wide_Div.j0, if_pos (by rw [uw, uw]; omega)]
        rfl
      · have D := div64 (hi := v / 18446744073709551616) (lo := v % 18446744073709551616) (y := d) (by omega) (by omega) (by omega) (by omega) (by omega)
        rw [show v / 18446744073709551616 * 18446744073709551616 + v % 18446744073709551616 = v by omega] at D
        have hq : v / d < 18446744073709551616 := by rw [Int.ediv_lt_iff_lt_mul hdp]; omega
        have J := wide_div_j1 (p := v / d) (r := v % d) false (h := v / 18446744073709551616) (l := v % 18446744073709551616) (by simp; omega) b.1 hq h0'
        simp only [Bool.false_eq_true, if_false] at J
        refine Ev.step (f := fun k => (bits_Div64.f k (v / 18446744073709551616) (v % 18446744073709551616) d).bind fun bt => num_Wide_Div.j1 k bt.1 bt.2 9223372036854775807 (v / 18446744073709551616) (v % 18446744073709551616)) (fun k => ?_) ?_
        · rw [num_Wide_Div.j0, uw_id (x := v / 18446744073709551616) (by omega) (by omega), uw_id (x := d) (by omega) (by omega), if_neg c]
          congr 1
          funext bt
          rw [if_neg (by omega)]
        · refine ev_fun (Ev.bind D J) ?_
          unfold fits
          by_cases y : v / d ≤ 9223372036854775807
          · rw [if_pos y, decide_eq_true (by omega), decide_eq_true (by omega)]; rfl
          · rw [if_neg y, decide_eq_true (by omega), decide_eq_false (by omega)]; rfl

theorem wide_mod {v d : Int} (h0 : -170141183460469231731687303715884105728 < v) (h1 : v < 170141183460469231731687303715884105728) (hd1 : d < 9223372036854775808) :
    Ev (fun k => num_Wide_Mod.f k (v / 18446744073709551616) (v % 18446744073709551616) d) (if d < 1 then 0 else v % d) := by
  by_cases hd : d < 1
  · rw [if_pos hd]; exact now_ev fun k => by unfold num_Wide_Mod.f; rw [if_pos hd]
  rw [if_neg hd]
  have hdp : 0 < d := by omega
  -- the upper half may be reduced first
  have red : ∀ u : Int, 0 ≤ u → u < 170141183460469231731687303715884105728 →
      Ev (fun k => bits_Div64.f k (Int.tmod (IntKind.u64.wrap (u / 18446744073709551616)) (IntKind.u64.wrap d)) (u % 18446744073709551616) (IntKind.u64.wrap d))
        ((u / 18446744073709551616 % d * 18446744073709551616 + u % 18446744073709551616) / d, u % d) := by
    intro u u0 u1
    have m0 := Int.emod_nonneg (u / 18446744073709551616) (show d ≠ 0 by omega)
    have m1 := Int.emod_lt_of_pos (u / 18446744073709551616) hdp
    have D := div64 (hi := u / 18446744073709551616 % d) (lo := u % 18446744073709551616) (y := d) m0 m1 (by omega) (by omega) (by omega)
    have e : (u / 18446744073709551616 % d * 18446744073709551616 + u % 18446744073709551616) % d = u % d := by
      have e1 := Int.emod_add_mul_ediv (u / 18446744073709551616) d
      have e2 : u = u / 18446744073709551616 % d * 18446744073709551616 + u % 18446744073709551616 + d * (u / 18446744073709551616 / d * 18446744073709551616) := by
        have : d * (u / 18446744073709551616 / d * 18446744073709551616) = d * (u / 18446744073709551616 / d) * 18446744073709551616 := by grind
        omega
      conv => rhs; rw [e2]
      rw [Int.add_mul_emod_self_left]
    rw [e] at D
    refine Ev.congr (fun k => ?_) D
    rw [uw_id (x := u / 18446744073709551616) (by omega) (by omega), uw_id (x := d) (by omega) (by omega), tmod_eq (by omega)]
  have hw : ¬ IntKind.u64.wrap d = 0 := by rw [uw]; omega
  by_cases hv : v < 0
  · have nd := neg_div (v := v) hdp
    have m0 := Int.emod_nonneg (-v) (show d ≠ 0 by omega)
    have m1 := Int.emod_lt_of_pos (-v) hdp
    refine Ev.congr (f := fun k => (bits_Div64.f k (Int.tmod (IntKind.u64.wrap (-v / 18446744073709551616)) (IntKind.u64.wrap d)) (-v % 18446744073709551616) (IntKind.u64.wrap d)).bind fun bt => if bt.2 > 0 then some (wrap64 (IntKind.u64.wrap (IntKind.u64.wrap d - bt.2))) else some (wrap64 bt.2)) (fun k => ?_) ?_
    · unfold num_Wide_Mod.f
      rw [if_neg hd, if_pos (by omega), wide_neg h0 h1]
      simp only [Option.bind_some]
      rw [if_neg hw]
    · refine Ev.bind (red (-v) (by omega) (by omega)) (now_ev fun k => ?_)
      rw [nd.2]
      by_cases z : -v % d = 0
      · rw [if_neg (by simp only; omega), if_pos z]; simp only [z]; decide +kernel
      · rw [if_pos (by simp only; omega), if_neg z]; simp only; congr 1; rw [uw_id (x := d) (by omega) (by omega), uw_wrap64, w64_id (by omega) (by omega)]
  · have m0 := Int.emod_nonneg v (show d ≠ 0 by omega)
    have m1 := Int.emod_lt_of_pos v hdp
    refine Ev.congr (f := fun k => (bits_Div64.f k (Int.tmod (IntKind.u64.wrap (v / 18446744073709551616)) (IntKind.u64.wrap d)) (v % 18446744073709551616) (IntKind.u64.wrap d)).bind fun bt => some (wrap64 bt.2)) (fun k => ?_) ?_
    · unfold num_Wide_Mod.f
      rw [if_neg hd, if_neg (by omega), if_neg hw]
    · refine Ev.bind (red v (by omega) (by omega)) (now_ev fun k => ?_)
      simp only; congr 1; rw [w64_id (by omega) (by omega)]

theorem cmp_i64 (a b : Int) : cmp_Compare_int64.f a b = some (if a < b then -1 else if a > b then 1 else 0) := by
  unfold cmp_Compare_int64.f cmp_isNaN_int64.f
  simp only [Option.bind_some, bne_self_eq_false, Bool.false_eq_true, if_false]
  split
  · rfl
  · split <;> rfl
theorem cmp_u64 (a b : Int) : cmp_Compare_uint64.f a b = some (if a < b then -1 else if a > b then 1 else 0) := by
  unfold cmp_Compare_uint64.f cmp_isNaN_uint64.f
  simp only [Option.bind_some, bne_self_eq_false, Bool.false_eq_true, if_false]
  split
  · rfl
  · split <;> rfl
theorem or_two (x y : Int) : Ev (fun k => cmp_Or_int.f k [x, y]) (if x = 0 then y else x) := by
  refine Ev.congr (f := fun k => cmp_Or_int.l0 k 0 [x, y] 2 0) (fun k => by unfold cmp_Or_int.f; rfl) ?_
  by_cases hx : x = 0
  · rw [if_pos hx]
    refine Ev.step (f := fun k => cmp_Or_int.l0 k 0 [x, y] 2 1) (fun k => ?_) ?_
    · rw [cmp_Or_int.l0, if_pos (by decide), if_pos (by decide), if_pos (by simp), if_pos (by simpa [rd] using hx), w64_id (by decide) (by decide)]; rfl
    · by_cases hy : y = 0
      · refine Ev.step (f := fun k => cmp_Or_int.l0 k 0 [x, y] 2 2) (fun k => ?_) ?_
        · rw [cmp_Or_int.l0, if_pos (by decide), if_pos (by decide), if_pos (by simp), if_pos (by simpa [rd] using hy), w64_id (by decide) (by decide)]; rfl
        · exact one_ev fun k => by rw [cmp_Or_int.l0, if_neg (by decide), hy]
      · exact one_ev fun k => by rw [cmp_Or_int.l0, if_pos (by decide), if_pos (by decide), if_pos (by simp), if_neg (by simpa [rd] using hy)]; simp [rd]
  · rw [if_neg hx]
    exact one_ev fun k => by rw [cmp_Or_int.l0, if_pos (by decide), if_pos (by decide), if_pos (by simp), if_neg (by simpa [rd] using hx)]; simp [rd]

theorem wide_cmp (u v : Int) : Ev (fun k => num_Wide_Cmp.f k (u / 18446744073709551616) (u % 18446744073709551616) (v / 18446744073709551616) (v % 18446744073709551616)) (if u < v then -1 else if u > v then 1 else 0) := by
  refine Ev.congr (f := fun k => (cmp_Or_int.f k [if u / 18446744073709551616 < v / 18446744073709551616 then -1 else if u / 18446744073709551616 > v / 18446744073709551616 then 1 else 0,
      if u % 18446744073709551616 < v % 18446744073709551616 then -1 else if u % 18446744073709551616 > v % 18446744073709551616 then 1 else 0]).bind fun t => some t) (fun k => ?_) ?_
  · unfold num_Wide_Cmp.f
    rw [cmp_i64, cmp_u64]; rfl
  · refine ev_fun (Ev.bind (or_two _ _) (Ev.now _)) ?_
    by_cases a : u / 18446744073709551616 < v / 18446744073709551616
    · rw [if_pos a, if_neg (by omega), if_pos (by omega)]
    · rw [if_neg a]
      by_cases b : u / 18446744073709551616 > v / 18446744073709551616
      · rw [if_pos b, if_neg (by omega), if_neg (by omega), if_pos (by omega)]
      · rw [if_neg b, if_pos rfl]
        by_cases c : u % 18446744073709551616 < v % 18446744073709551616
        · rw [if_pos c, if_pos (show u < v by omega)]
        · rw [if_neg c, if_neg (show ¬ u < v by omega)]
          by_cases d : u % 18446744073709551616 > v % 18446744073709551616
          · rw [if_pos d, if_pos (show u > v by omega)]
          · rw [if_neg d, if_neg (show ¬ u > v by omega)]

/-- The quotient, rounded up. -/
def upq (v d : Int) : Int := if v % d = 0 then v / d else v / d + 1
theorem muldiv {a b d : Int} (a0 : -9223372036854775808 ≤ a) (a1 : a < 9223372036854775808) (b0 : -9223372036854775808 ≤ b) (b1 : b < 9223372036854775808) (hd1 : d < 9223372036854775808) :
    Ev (fun k => num_MulDiv.f k a b d) (if d < 1 then (0, 1) else if fits (a * b / d) then (a * b / d, 0) else (0, 2)) := by
  have hb := prod_bd a0 a1 b0 b1
  refine Ev.congr (f := fun k => (num_Wide_Div.f k (a * b / 18446744073709551616) (a * b % 18446744073709551616) d).bind fun bt => some (bt.1, bt.2)) (fun k => ?_) ?_
  · unfold num_MulDiv.f
    rw [product a0 a1 b0 b1]; rfl
  · exact Ev.bind (wide_div (by omega) (by omega) hd1) (Ev.now _)


theorem muldivup {a b d : Int} (a0 : -9223372036854775808 ≤ a) (a1 : a < 9223372036854775808) (b0 : -9223372036854775808 ≤ b) (b1 : b < 9223372036854775808) (hd1 : d < 9223372036854775808) :
    Ev (fun k => num_MulDivUp.f k a b d) (if d < 1 then (0, 1) else if fits (a * b / d) then (if fits (upq (a * b) d) then (upq (a * b) d, 0) else (0, 2)) else (0, 2)) := by
  have hb := prod_bd a0 a1 b0 b1
  have hD := wide_div (v := a * b) (d := d) (by omega) (by omega) hd1
  have hM := wide_mod (v := a * b) (d := d) (by omega) (by omega) hd1
  generalize hv : a * b = v at *
  refine Ev.congr (f := fun k => (num_Wide_Div.f k (v / 18446744073709551616) (v % 18446744073709551616) d).bind fun bt => (if bt.2 = 0 then ((num_Wide_Mod.f k (v / 18446744073709551616) (v % 18446744073709551616) d).bind fun t => (num_MulDivUp.j0 k bt.1 bt.2 (t == 0))) else (num_MulDivUp.j0 k bt.1 bt.2 true))) (fun k => ?_) ?_
  · unfold num_MulDivUp.f
    rw [product a0 a1 b0 b1, hv]; rfl
  · refine Ev.bind hD ?_
    by_cases hd : d < 1
    · rw [if_pos hd, if_pos hd]
      exact one_ev fun k => by rw [if_neg (by decide), num_MulDivUp.j0, if_pos rfl]
    · rw [if_neg hd] at hM ⊢
      rw [if_neg hd]
      by_cases f : fits (v / d) = true
      · rw [if_pos f, if_pos f]
        simp only [if_true]
        refine Ev.bind hM ?_
        refine one_ev fun k => ?_
        rw [num_MulDivUp.j0]
        unfold upq
        unfold fits at f
        simp only [Bool.and_eq_true, decide_eq_true_eq] at f
        by_cases z : v % d = 0
        · rw [if_pos (by simp [z]), if_pos z]
          unfold fits
          rw [decide_eq_true f.1, decide_eq_true f.2]; rfl
        · rw [if_neg (by simp [z]), if_neg z]
          unfold fits
          by_cases y : v / d = 9223372036854775807
          · rw [if_pos y, decide_eq_true (by omega), decide_eq_false (by omega)]; rfl
          · rw [if_neg y, decide_eq_true (by omega), decide_eq_true (by omega), w64_id (by omega) (by omega)]; rfl
      · rw [if_neg f, if_neg f]
        exact one_ev fun k => by rw [if_neg (by decide), num_MulDivUp.j0, if_pos rfl]
end Go.Proofs.Ytpophefonhpnmaa.Q
end

section
/- The greatest common divisor and the square root of package num in plain numbers; the bounds stand in each statement. -/
-- AUTO
namespace Go.Proofs.Ytpophefonhpnmaa.Q
open Go.RowKit Go.Proofs.YtpophefonhpnmaaW.PrintWords Go.Proofs.YtpophefonhpnmaaW.PrintLast Go.Proofs.YtpophefonhpnmaaW.PrintMore
set_option linter.unusedVariables false
set_option linter.unusedSimpArgs false

theorem sqrt_l0 {p : Int} (p0 : 0 ≤ p) (p1 : p < 85070591730234615865843651857942052864) (i : Nat) : ∀ r : Int, i ≤ 62 → 0 ≤ r → r % 2 ^ (i + 1) = 0 → r + 2 ^ (i + 1) ≤ 9223372036854775808 → r * r ≤ p → p < (r + 2 ^ (i + 1)) * (r + 2 ^ (i + 1)) →
    ∃ s : Int, Ev (fun k => num_SqrtMul.l0 k (p / 18446744073709551616) (p % 18446744073709551616) r (2 ^ i)) s ∧ 0 ≤ s ∧ s < 9223372036854775808 ∧ s * s ≤ p ∧ p < (s + 1) * (s + 1) := by
  have or_add : ∀ (i : Nat) (r : Int), i ≤ 62 → 0 ≤ r → r % 2 ^ (i + 1) = 0 → r + 2 ^ (i + 1) ≤ 9223372036854775808 → Go.bits .or .u64 r (2 ^ i) = r + 2 ^ i := by
    intro i r hi hr hm hb
    have hP : (0 : Int) < 2 ^ i := Int.pow_pos (by decide)
    have hP2 : (2 : Int) ^ (i + 1) = 2 ^ i * 2 := by rw [Int.pow_succ]
    exact Go.bits_join .u64 64 (by decide) (fun n h h' => by rw [uw]; omega) (i + 1) _ _ hr hm (by omega) (by omega) (by omega) (by omega)
  have step : ∀ (i : Nat) (r : Int), i ≤ 62 → 0 ≤ r → r % 2 ^ (i + 1) = 0 → r + 2 ^ (i + 1) ≤ 9223372036854775808 → ∀ {k : Nat} {nb : Int}, nb = 2 ^ i / 2 →
      num_SqrtMul.l0 (k + 1) (p / 18446744073709551616) (p % 18446744073709551616) r (2 ^ i) =
        if (r + 2 ^ i) * (r + 2 ^ i) ≤ p then num_SqrtMul.l0 k (p / 18446744073709551616) (p % 18446744073709551616) (r + 2 ^ i) nb else num_SqrtMul.l0 k (p / 18446744073709551616) (p % 18446744073709551616) r nb := by
    intro i r hi hr hm hb k nb hnb
    have hP : (0 : Int) < 2 ^ i := Int.pow_pos (by decide)
    have hP2 : (2 : Int) ^ (i + 1) = 2 ^ i * 2 := by rw [Int.pow_succ]
    rw [num_SqrtMul.l0, if_pos hP, or_add i r hi hr hm hb, mul64 (by omega) (by omega) (by omega) (by omega), Option.bind_some]
    simp only []
    rw [← hnb]
    generalize (r + 2 ^ i) * (r + 2 ^ i) = q
    by_cases h1 : q / 18446744073709551616 < p / 18446744073709551616
    · rw [if_pos h1, if_pos (by omega)]
    · rw [if_neg h1]
      by_cases h2 : q / 18446744073709551616 = p / 18446744073709551616
      · rw [if_pos h2]
        by_cases h3 : q % 18446744073709551616 ≤ p % 18446744073709551616
        · rw [if_pos h3, if_pos (by omega)]
        · rw [if_neg h3, if_neg (by omega)]
      · rw [if_neg h2, if_neg (by omega)]
  induction i with
  | zero =>
    intro r hi hr hm hb h0 h1
    have fin : ∀ s : Int, 0 ≤ s → s < 9223372036854775808 → Ev (fun k => num_SqrtMul.l0 k (p / 18446744073709551616) (p % 18446744073709551616) s 0) s := by
      intro s hs hs'
      exact one_ev fun k => by rw [num_SqrtMul.l0, if_neg (by decide), w64_id (by omega) (by omega)]
    simp only [Int.pow_zero, Nat.zero_add, Int.pow_one] at *
    have st := fun k => step 0 r hi hr hm (by simpa using hb) (k := k) (nb := 0) (by decide)
    simp only [Int.pow_zero] at st
    by_cases c : (r + 1) * (r + 1) ≤ p
    · refine ⟨r + 1, Ev.step (fun k => by rw [st, if_pos c]) (fin (r + 1) (by omega) (by omega)), by omega, by omega, c, ?_⟩
      rw [show r + 1 + 1 = r + 2 by omega]; exact h1
    · exact ⟨r, Ev.step (fun k => by rw [st, if_neg c]) (fin r hr (by omega)), hr, by omega, h0, by omega⟩
  | succ i ih =>
    intro r hi hr hm hb h0 h1
    have hP : (0 : Int) < 2 ^ i := Int.pow_pos (by decide)
    have hP2 : (2 : Int) ^ (i + 1) = 2 ^ i * 2 := by rw [Int.pow_succ]
    have hP4 : (2 : Int) ^ (i + 1 + 1) = 2 ^ (i + 1) * 2 := by rw [Int.pow_succ]
    have hd : r % 2 ^ (i + 1) = 0 := by
      have h := Int.emod_add_mul_ediv r (2 ^ (i + 1 + 1))
      rw [hm, Int.zero_add, hP4, Int.mul_assoc] at h
      rw [← h, Int.mul_emod_right]
    have st := fun k => step (i + 1) r hi hr hm hb (k := k) (nb := 2 ^ i) (by omega)
    by_cases c : (r + 2 ^ (i + 1)) * (r + 2 ^ (i + 1)) ≤ p
    · obtain ⟨s, hs, rest⟩ := ih (r + 2 ^ (i + 1)) (by omega) (by omega) (by rw [Int.add_emod_right]; exact hd) (by omega) c (by rw [show r + 2 ^ (i + 1) + 2 ^ (i + 1) = r + 2 ^ (i + 1 + 1) by omega]; exact h1)
      exact ⟨s, Ev.step (fun k => by rw [st, if_pos c]) hs, rest⟩
    · obtain ⟨s, hs, rest⟩ := ih r (by omega) hr hd (by omega) h0 (by omega)
      exact ⟨s, Ev.step (fun k => by rw [st, if_neg c]) hs, rest⟩

theorem sqrt_ev {a b : Int} (a0 : 0 ≤ a) (a1 : a < 9223372036854775808) (b0 : 0 ≤ b) (b1 : b < 9223372036854775808) :
    ∃ r : Int, Ev (fun k => num_SqrtMul.f k a b) r ∧ 0 ≤ r ∧ r < 9223372036854775808 ∧ r * r ≤ a * b ∧ a * b < (r + 1) * (r + 1) := by
  have p0 : 0 ≤ a * b := Int.mul_nonneg a0 b0
  have p1 : a * b ≤ 9223372036854775807 * 9223372036854775807 := Int.mul_le_mul (by omega) (by omega) b0 (by omega)
  obtain ⟨r, hr, rest⟩ := sqrt_l0 (p := a * b) p0 (by omega) 62 0 (by decide) (by decide) (by decide) (by decide) (by omega) (by
    rw [show ((0 : Int) + 2 ^ (62 + 1)) * (0 + 2 ^ (62 + 1)) = 85070591730234615865843651857942052864 by decide]; omega)
  refine ⟨r, ?_, rest⟩
  refine Ev.congr (f := fun k => num_SqrtMul.j0 k a b false) (fun k => by unfold num_SqrtMul.f; rw [if_neg (by omega), decide_eq_false (by omega)]) ?_
  refine Ev.step (fun k => by rw [num_SqrtMul.j0, if_neg (by decide), uw_id (x := a) a0 (by omega), uw_id (x := b) b0 (by omega), mul64 a0 (by omega) b0 (by omega), Option.bind_some]) ?_
  exact hr

end Go.Proofs.Ytpophefonhpnmaa.Q
end

section
/- What spymake.Below answers, in plain numbers. -/
namespace Go.Proofs.Ytpophefonhpnmaa.Q
open Go.RowKit Go.Proofs.YtpophefonhpnmaaW.PrintWords Go.Proofs.YtpophefonhpnmaaW.PrintLast Go.Proofs.YtpophefonhpnmaaW.PrintMore
set_option linter.unusedVariables false
set_option linter.unusedSimpArgs false

theorem below {a n : Int} (hn : 1 ≤ n) (hn1 : n < 9223372036854775808) : spymake_Below.f a n = some (a % n) := by
  unfold spymake_Below.f
  rw [if_neg (by omega), if_neg (by omega)]
  have m0 := Int.emod_nonneg a (show n ≠ 0 by omega)
  have m1 := Int.emod_lt_of_pos a (show 0 < n by omega)
  by_cases c : 0 ≤ a
  · rw [tmod_eq c, if_neg (by omega)]
  · have e : Int.tmod a n = -(-a % n) := by
      have := Int.neg_tmod (-a) n
      rw [Int.neg_neg] at this
      rw [this, tmod_eq (by omega)]
    rw [e, (show a % n = (if -a % n = 0 then 0 else n - -a % n) by
      have e1 := Int.emod_add_mul_ediv (-a) n
      have h0 := Int.emod_nonneg (-a) (show n ≠ 0 by omega)
      have h1 := Int.emod_lt_of_pos (-a) (show 0 < n by omega)
      split
      · exact ((Int.ediv_emod_unique (q := -(-a / n)) (show 0 < n by omega)).mpr ⟨by rw [Int.mul_neg]; omega, by omega, by omega⟩).2
      · exact ((Int.ediv_emod_unique (q := -(-a / n) - 1) (show 0 < n by omega)).mpr ⟨by rw [Int.mul_sub, Int.mul_neg]; omega, by omega, by omega⟩).2)]
    have h0 := Int.emod_nonneg (-a) (show n ≠ 0 by omega)
    have h1 := Int.emod_lt_of_pos (-a) (show 0 < n by omega)
    by_cases z : -a % n = 0
    · rw [if_neg (by omega), if_pos z, z]; rfl
    · rw [if_pos (by omega), if_neg z, w64_id (by omega) (by omega)]; congr 1; omega
end Go.Proofs.Ytpophefonhpnmaa.Q
end

section
/- The stream of numbers of package spymake in plain numbers: each answer lies in the range that was asked for; the bounds stand in each statement. -/
namespace Go.Proofs.Ytpophefonhpnmaa.Q
open Go.RowKit Go.Proofs.YtpophefonhpnmaaW.PrintWords Go.Proofs.YtpophefonhpnmaaW.PrintLast Go.Proofs.YtpophefonhpnmaaW.PrintMore
set_option linter.unusedVariables false
set_option linter.unusedSimpArgs false

theorem below_in {a n : Int} (hn : 1 ≤ n) (hn1 : n < 9223372036854775808) : ∃ v, spymake_Below.f a n = some v ∧ 0 ≤ v ∧ v < n :=
  ⟨a % n, below hn hn1, Int.emod_nonneg a (by omega), Int.emod_lt_of_pos a (by omega)⟩

/-- The next number lies from 0 to n - 1, and the place moves on by one. -/
theorem next_in (l : List Int) {at_ n : Int} (hl : l.length ≤ 9223372036854775807) (a0 : 0 ≤ at_) (a1 : at_ < 4611686018427387904) (n0 : 1 ≤ n) (n1 : n < 9223372036854775808) :
    ∃ v, spymake_Stream_Next.f l at_ n = some (v, at_ + 1) ∧ 0 ≤ v ∧ v < n := by
  unfold spymake_Stream_Next.f
  rw [w64_id (x := at_ + 1) (by omega) (by omega)]
  by_cases z : (l.length : Int) = 0
  · rw [if_pos z]
    obtain ⟨v, hv, v0, v1⟩ := below_in (a := wrap64 ((at_ + 1) * 7919)) n0 n1
    exact ⟨v, by rw [hv]; rfl, v0, v1⟩
  · rw [if_neg z, w64_id (x := at_ + 1 - 1) (by omega) (by omega), tmod_eq (by omega)]
    have m0 := Int.emod_nonneg (at_ + 1 - 1) z
    have m1 := Int.emod_lt_of_pos (at_ + 1 - 1) (show 0 < (l.length : Int) by omega)
    rw [if_pos m0, if_pos m1]
    obtain ⟨v, hv, v0, v1⟩ := below_in (a := rd l ((at_ + 1 - 1) % (l.length : Int))) (n := 1073741824) (by decide) (by decide)
    rw [hv]
    simp only [Option.bind_some]
    obtain ⟨v', hv', v0', v1'⟩ := below_in (a := wrap64 (v + (wrap64 ((wrap64 (Int.tdiv (at_ + 1 - 1) (l.length : Int))) * (wrap64 (7919 + ((at_ + 1 - 1) % (l.length : Int)))))))) n0 n1
    exact ⟨v', by rw [hv']; rfl, v0', v1'⟩

/-- A number of a range lies in it. -/
theorem range_in (l : List Int) {at_ lo hi : Int} (hl : l.length ≤ 9223372036854775807) (a0 : 0 ≤ at_) (a1 : at_ < 4611686018427387904) (h : lo ≤ hi) (h0 : -2305843009213693952 ≤ lo) (h1 : hi < 2305843009213693952) :
    ∃ v, spymake_Stream_Range.f l at_ lo hi = some (v, at_ + 1) ∧ lo ≤ v ∧ v ≤ hi := by
  unfold spymake_Stream_Range.f
  rw [if_neg (by omega), w64_id (x := hi - lo) (by omega) (by omega), w64_id (x := hi - lo + 1) (by omega) (by omega)]
  obtain ⟨v, hv, v0, v1⟩ := next_in l (n := hi - lo + 1) hl a0 a1 (by omega) (by omega)
  refine ⟨lo + v, ?_, by omega, by omega⟩
  rw [hv]
  simp only [Option.bind_some]
  rw [w64_id (by omega) (by omega)]
end Go.Proofs.Ytpophefonhpnmaa.Q
end

section
/- Masks of 64-bit numbers in plain numbers. -/
namespace Go.Proofs.Ytpophefonhpnmaa.Q
open Go.RowKit Go.Proofs.YtpophefonhpnmaaW.PrintWords Go.Proofs.YtpophefonhpnmaaW.PrintLast Go.Proofs.YtpophefonhpnmaaW.PrintMore
set_option linter.unusedVariables false
set_option linter.unusedSimpArgs false

end Go.Proofs.Ytpophefonhpnmaa.Q
end

section
/- Which bounds are valid, in plain numbers; definitions alone. -/
namespace Go.Proofs.Ytpophefonhpnmaa.Q
/-- Whether a bound is valid. -/
def vb (lo hi : Int) (u : Bool) : Bool := if u then lo == 0 && hi == 0 else decide (-1152921504606846976 ≤ lo) && decide (lo ≤ hi) && decide (hi ≤ 1152921504606846976)
/-- A bound itself if it is valid, else an unknown one. -/
def nb (lo hi : Int) (u : Bool) : Int × Int × Bool := if vb lo hi u = true then (lo, hi, u) else (0, 0, true)
theorem nb_ok {lo hi : Int} (h0 : -1152921504606846976 ≤ lo) (h : lo ≤ hi) (h1 : hi ≤ 1152921504606846976) : nb lo hi false = (lo, hi, false) := by
  unfold nb vb; simp [h0, h, h1]
theorem nb_none : nb 0 0 true = (0, 0, true) := by decide
end Go.Proofs.Ytpophefonhpnmaa.Q
end

section
/- Package bound at one type of numbers in plain numbers: which bounds are valid, and what the smallest functions answer; no conditions but 64 bits where they are named. -/
namespace Go.Proofs.Ytpophefonhpnmaa.Q
open Go.RowKit Go.Proofs.YtpophefonhpnmaaW.PrintWords Go.Proofs.YtpophefonhpnmaaW.PrintLast Go.Proofs.YtpophefonhpnmaaW.PrintMore
set_option linter.unusedVariables false
set_option linter.unusedSimpArgs false

theorem check_api_Fix (lo hi : Int) (u : Bool) : ∃ e : Int, Ev (fun k => bound_Check_api_Fix.f k lo hi u) e ∧ (e = 0 ↔ vb lo hi u = true) := by
  have J1 : ∀ b : Bool, ∃ e : Int, Ev (fun k => bound_Check_api_Fix.j1 k b lo hi u) e ∧ (e = 0 ↔ (b = false ∧ lo ≤ hi)) := by
    intro b
    cases b
    · by_cases c : lo > hi
      · exact ⟨11, one_ev fun k => by rw [bound_Check_api_Fix.j1, if_neg (by decide), if_pos c], by omega⟩
      · exact ⟨0, one_ev fun k => by rw [bound_Check_api_Fix.j1, if_neg (by decide), if_neg c], by simp; omega⟩
    · exact ⟨4, one_ev fun k => by rw [bound_Check_api_Fix.j1, if_pos rfl], by simp⟩
  have J0 : ∀ b : Bool, ∃ e : Int, Ev (fun k => bound_Check_api_Fix.j0 k b lo hi u) e ∧ (e = 0 ↔ (b = false ∧ -1152921504606846976 ≤ lo ∧ lo ≤ hi ∧ hi ≤ 1152921504606846976)) := by
    intro b
    cases b
    · by_cases c : mn lo hi < -1152921504606846976
      · obtain ⟨e, he, h⟩ := J1 true
        refine ⟨e, Ev.step (fun k => by rw [bound_Check_api_Fix.j0, if_neg (by decide), if_pos c]) he, ?_⟩
        unfold mn at c
        rw [h]; simp; split at c <;> omega
      · obtain ⟨e, he, h⟩ := J1 (decide ((mx lo hi) > 1152921504606846976))
        refine ⟨e, Ev.step (fun k => by rw [bound_Check_api_Fix.j0, if_neg (by decide), if_neg c]) he, ?_⟩
        unfold mn at c
        rw [h]; unfold mx; simp only [decide_eq_false_iff_not, true_and]
        split at c <;> split <;> omega
    · exact ⟨3, one_ev fun k => by rw [bound_Check_api_Fix.j0, if_pos rfl], by simp⟩
  unfold bound_Check_api_Fix.f vb
  cases u
  · obtain ⟨e, he, h⟩ := J0 false
    refine ⟨e, Ev.congr (fun k => by rw [if_neg (by decide)]) he, ?_⟩
    rw [h]; simp; omega
  · by_cases z : lo = 0
    · obtain ⟨e, he, h⟩ := J0 (hi != 0)
      refine ⟨e, Ev.congr (fun k => by rw [if_pos rfl, if_pos z]) he, ?_⟩
      rw [h]
      simp [z]
      intro h'; omega
    · obtain ⟨e, he, h⟩ := J0 true
      refine ⟨e, Ev.congr (fun k => by rw [if_pos rfl, if_neg z]) he, ?_⟩
      rw [h]; simp [z]

theorem norm_api_Fix (lo hi : Int) (u : Bool) : Ev (fun k => bound_Norm_api_Fix.f k lo hi u) (nb lo hi u) := by
  obtain ⟨e, he, h⟩ := check_api_Fix lo hi u
  unfold bound_Norm_api_Fix.f nb
  refine Ev.bind he ?_
  by_cases c : e = 0
  · rw [if_pos (h.mp c)]; exact pos_ev c (Ev.now _)
  · rw [if_neg (fun h' => c (h.mpr h'))]; exact neg_ev c (now_ev fun k => by unfold bound_None_api_Fix.f; rfl)
end Go.Proofs.Ytpophefonhpnmaa.Q
end

section
/- Package bound at one type of numbers in plain numbers: vague and Of; no other condition. -/
namespace Go.Proofs.Ytpophefonhpnmaa.Q
open Go.RowKit Go.Proofs.YtpophefonhpnmaaW.PrintWords Go.Proofs.YtpophefonhpnmaaW.PrintLast Go.Proofs.YtpophefonhpnmaaW.PrintMore
set_option linter.unusedVariables false
set_option linter.unusedSimpArgs false

theorem vague_api_Fix (lo hi : Int) (u : Bool) (lo2 hi2 : Int) (u2 : Bool) : Ev (fun k => bound_vague_api_Fix.f k lo hi u lo2 hi2 u2) ((nb lo hi u).2.2 || (nb lo2 hi2 u2).2.2) := by
  unfold bound_vague_api_Fix.f
  refine Ev.bind (norm_api_Fix lo hi u) ?_
  by_cases c : (nb lo hi u).2.2 = true
  · rw [c]; exact pos_ev rfl (Ev.now _)
  · rw [Bool.not_eq_true] at c
    rw [c]; refine neg_ev (by decide) (Ev.bind (norm_api_Fix lo2 hi2 u2) (Ev.now _))
theorem of_api_Fix (lo hi : Int) : Ev (fun k => bound_Of_api_Fix.f k lo hi) (nb lo hi false) := by
  unfold bound_Of_api_Fix.f
  exact Ev.bind (norm_api_Fix lo hi false) (Ev.now _)
end Go.Proofs.Ytpophefonhpnmaa.Q
end

section
/- Package bound at one type of numbers in plain numbers: Exact, Add, Neg and Sub; no other condition than those that stand in the statements. -/
namespace Go.Proofs.Ytpophefonhpnmaa.Q
open Go.RowKit Go.Proofs.YtpophefonhpnmaaW.PrintWords Go.Proofs.YtpophefonhpnmaaW.PrintLast Go.Proofs.YtpophefonhpnmaaW.PrintMore
set_option linter.unusedVariables false
set_option linter.unusedSimpArgs false

theorem exact_api_Fix {v : Int} (h0 : -1152921504606846976 ≤ v) (h1 : v ≤ 1152921504606846976) : Ev (fun k => bound_Exact_api_Fix.f k v) (v, v, false) := by
  unfold bound_Exact_api_Fix.f
  refine Ev.bind (of_api_Fix v v) ?_
  rw [nb_ok h0 (Int.le_refl v) h1]
  exact Ev.now _
theorem add_api_Fix (lo hi : Int) (u : Bool) (lo2 hi2 : Int) (u2 : Bool) : Ev (fun k => bound_Add_api_Fix.f k lo hi u lo2 hi2 u2) (if ((nb lo hi u).2.2 || (nb lo2 hi2 u2).2.2) = true then (0, 0, true) else nb (wrap64 (lo + lo2)) (wrap64 (hi + hi2)) false) := by
  unfold bound_Add_api_Fix.f
  refine Ev.bind (vague_api_Fix lo hi u lo2 hi2 u2) ?_
  by_cases c : ((nb lo hi u).2.2 || (nb lo2 hi2 u2).2.2) = true
  · rw [if_pos c]; exact pos_ev c (now_ev fun k => by unfold bound_None_api_Fix.f; rfl)
  · rw [if_neg c]; exact neg_ev c (Ev.bind (of_api_Fix _ _) (Ev.now _))
end Go.Proofs.Ytpophefonhpnmaa.Q
end

section
/- Package bound at one type of numbers in plain numbers: Neg and Sub; the bounds stand in each statement. -/
namespace Go.Proofs.Ytpophefonhpnmaa.Q
open Go.RowKit Go.Proofs.YtpophefonhpnmaaW.PrintWords Go.Proofs.YtpophefonhpnmaaW.PrintLast Go.Proofs.YtpophefonhpnmaaW.PrintMore
set_option linter.unusedVariables false
set_option linter.unusedSimpArgs false
theorem neg_api_Fix {lo hi : Int} (h0 : -1152921504606846976 ≤ lo) (h : lo ≤ hi) (h1 : hi ≤ 1152921504606846976) : Ev (fun k => bound_Neg_api_Fix.f k lo hi false) (-hi, -lo, false) := by
  unfold bound_Neg_api_Fix.f
  refine Ev.bind (norm_api_Fix lo hi false) ?_
  rw [nb_ok h0 h h1]
  exact now_ev fun k => by simp only; rw [w64_id (x := -hi) (by omega) (by omega), w64_id (x := -lo) (by omega) (by omega)]
end Go.Proofs.Ytpophefonhpnmaa.Q
end

section
/- Package bound at one type of numbers in plain numbers: Has. -/
namespace Go.Proofs.Ytpophefonhpnmaa.Q
open Go.RowKit Go.Proofs.YtpophefonhpnmaaW.PrintWords Go.Proofs.YtpophefonhpnmaaW.PrintLast Go.Proofs.YtpophefonhpnmaaW.PrintMore
set_option linter.unusedVariables false
set_option linter.unusedSimpArgs false

theorem has_api_Fix {lo hi v : Int} {u : Bool} (h : (nb lo hi u).2.2 = false → lo ≤ v ∧ v ≤ hi) : Ev (fun k => bound_Has_api_Fix.f k lo hi u v) true := by
  unfold bound_Has_api_Fix.f
  refine Ev.bind (vague_api_Fix lo hi u lo hi u) ?_
  by_cases c : ((nb lo hi u).2.2 || (nb lo hi u).2.2) = true
  · exact pos_ev c (Ev.now _)
  · refine neg_ev c ?_
    obtain ⟨h0, h1⟩ := h (by simpa using c)
    exact pos_ev h0 (now_ev fun k => by rw [decide_eq_true h1])
end Go.Proofs.Ytpophefonhpnmaa.Q
end

section
/- Bounds and their arithmetic in plain numbers: the least functions of two bounds; the bounds stand in each statement. -/
namespace Go.Proofs.Ytpophefonhpnmaa.Q
open Go.RowKit Go.Proofs.YtpophefonhpnmaaW.PrintWords Go.Proofs.YtpophefonhpnmaaW.PrintLast Go.Proofs.YtpophefonhpnmaaW.PrintMore
set_option linter.unusedVariables false
set_option linter.unusedSimpArgs false

/-- A bound that is unknown, or of numbers up to M. -/
def okt (M lo hi : Int) (u : Bool) : Prop := u = true ∧ lo = 0 ∧ hi = 0 ∨ u = false ∧ -M ≤ lo ∧ lo ≤ hi ∧ hi ≤ M
/-- Is the first bound inside the second one? -/
def inb (c0 c1 : Int) (c2 : Bool) (a0 a1 : Int) (a2 : Bool) : Prop := a2 = false → c2 = false ∧ a0 ≤ c0 ∧ c1 ≤ a1
theorem okt.nb {M lo hi : Int} {u : Bool} (hM : M ≤ 1152921504606846976) (h : okt M lo hi u) : nb lo hi u = (lo, hi, u) := by
  rcases h with ⟨rfl, rfl, rfl⟩ | ⟨rfl, h0, h1, h2⟩
  · exact nb_none
  · exact nb_ok (by omega) h1 (by omega)
theorem okt.wide {M N lo hi : Int} {u : Bool} (hM : M ≤ N) (h : okt M lo hi u) : okt N lo hi u := by
  rcases h with h | ⟨rfl, h0, h1, h2⟩
  · exact .inl h
  · exact .inr ⟨rfl, by omega, h1, by omega⟩
/-- What a function of two bounds answers where both are known. -/
def both2 (a2 b2 : Bool) (r : Int × Int × Bool) : Int × Int × Bool := if (a2 || b2) = true then (0, 0, true) else r
theorem none_ev : bound_None_api_Fix.f = some (0, 0, true) := rfl
theorem vague_t {M a0 a1 b0 b1 : Int} {a2 b2 : Bool} (hM : M ≤ 1152921504606846976) (A : okt M a0 a1 a2) (B : okt M b0 b1 b2) : Ev (fun k => bound_vague_api_Fix.f k a0 a1 a2 b0 b1 b2) (a2 || b2) := by
  have h := vague_api_Fix a0 a1 a2 b0 b1 b2
  rw [A.nb hM, B.nb hM] at h
  exact h
theorem of_t {lo hi : Int} (h0 : -1152921504606846976 ≤ lo) (h : lo ≤ hi) (h1 : hi ≤ 1152921504606846976) : Ev (fun k => bound_Of_api_Fix.f k lo hi) (lo, hi, false) := by
  have := of_api_Fix lo hi
  rw [nb_ok h0 h h1] at this
  exact this
theorem add_t {M a0 a1 b0 b1 : Int} {a2 b2 : Bool} (hM : M ≤ 576460752303423488) (A : okt M a0 a1 a2) (B : okt M b0 b1 b2) : Ev (fun k => bound_Add_api_Fix.f k a0 a1 a2 b0 b1 b2) (both2 a2 b2 (a0 + b0, a1 + b1, false)) := by
  have h := add_api_Fix a0 a1 a2 b0 b1 b2
  rw [A.nb (by omega), B.nb (by omega)] at h
  unfold both2
  by_cases c : (a2 || b2) = true
  · rw [if_pos c] at h ⊢; exact h
  · rw [if_neg c] at h ⊢
    rcases A with ⟨rfl, _⟩ | ⟨rfl, p0, p1, p2⟩
    · simp at c
    rcases B with ⟨rfl, _⟩ | ⟨rfl, q0, q1, q2⟩
    · simp at c
    rw [w64_id (x := a0 + b0) (by omega) (by omega), w64_id (x := a1 + b1) (by omega) (by omega), nb_ok (by omega) (by omega) (by omega)] at h
    exact h
/-- The negative of a bound. -/
def negb (lo hi : Int) (u : Bool) : Int × Int × Bool := if u = true then (0, 0, true) else (-hi, -lo, false)
theorem negb_ok {M lo hi : Int} {u : Bool} (h : okt M lo hi u) : okt M (negb lo hi u).1 (negb lo hi u).2.1 (negb lo hi u).2.2 := by
  unfold negb
  rcases h with ⟨rfl, rfl, rfl⟩ | ⟨rfl, h0, h1, h2⟩
  · exact .inl ⟨rfl, rfl, rfl⟩
  · exact .inr ⟨rfl, by simp; omega, by simp; omega, by simp; omega⟩
theorem neg_t {M lo hi : Int} {u : Bool} (hM : M ≤ 1152921504606846976) (h : okt M lo hi u) : Ev (fun k => bound_Neg_api_Fix.f k lo hi u) (negb lo hi u) := by
  unfold negb
  rcases h with ⟨rfl, rfl, rfl⟩ | ⟨rfl, h0, h1, h2⟩
  · unfold bound_Neg_api_Fix.f
    refine Ev.bind (norm_api_Fix 0 0 true) ?_
    rw [nb_none]
    exact now_ev fun k => by simp [wrap64]
  · exact neg_api_Fix (by omega) h1 (by omega)
theorem sub_t {M a0 a1 b0 b1 : Int} {a2 b2 : Bool} (hM : M ≤ 576460752303423488) (A : okt M a0 a1 a2) (B : okt M b0 b1 b2) : Ev (fun k => bound_Sub_api_Fix.f k a0 a1 a2 b0 b1 b2) (both2 a2 b2 (a0 - b1, a1 - b0, false)) := by
  unfold bound_Sub_api_Fix.f
  have h := add_t hM A (negb_ok B)
  have e : both2 a2 (negb b0 b1 b2).2.2 (a0 + (negb b0 b1 b2).1, a1 + (negb b0 b1 b2).2.1, false) = both2 a2 b2 (a0 - b1, a1 - b0, false) := by
    cases b2 <;> simp [negb, both2, Int.sub_eq_add_neg]
  rw [e] at h
  exact Ev.bind (neg_t (by omega) B) (Ev.bind h (Ev.now _))
theorem w01 : wrap64 (0 + 1) = 1 := by unfold wrap64; omega
theorem w12 : wrap64 (1 + 1) = 2 := by unfold wrap64; omega
theorem mn_le (a b : Int) : mn a b ≤ a ∧ mn a b ≤ b ∧ (mn a b = a ∨ mn a b = b) := by unfold mn; split <;> omega
theorem le_mx (a b : Int) : a ≤ mx a b ∧ b ≤ mx a b ∧ (mx a b = a ∨ mx a b = b) := by unfold mx; split <;> omega
theorem min_t {M a0 a1 b0 b1 : Int} {a2 b2 : Bool} (hM : M ≤ 1152921504606846976) (A : okt M a0 a1 a2) (B : okt M b0 b1 b2) : Ev (fun k => bound_Min_api_Fix.f k a0 a1 a2 b0 b1 b2) (both2 a2 b2 (mn a0 b0, mn a1 b1, false)) := by
  unfold bound_Min_api_Fix.f both2
  refine Ev.bind (vague_t hM A B) ?_
  by_cases c : (a2 || b2) = true
  · rw [if_pos c]; exact pos_ev c (now_ev fun k => by rw [none_ev]; rfl)
  · rw [if_neg c]
    rcases A with ⟨rfl, _⟩ | ⟨rfl, p0, p1, p2⟩
    · simp at c
    rcases B with ⟨rfl, _⟩ | ⟨rfl, q0, q1, q2⟩
    · simp at c
    have x := mn_le a0 b0
    have y := mn_le a1 b1
    exact neg_ev c (Ev.bind (of_t (by omega) (by omega) (by omega)) (Ev.now _))
theorem hull_t {M a0 a1 b0 b1 : Int} {a2 b2 : Bool} (hM : M ≤ 1152921504606846976) (A : okt M a0 a1 a2) (B : okt M b0 b1 b2) : Ev (fun k => bound_Hull_api_Fix.f k a0 a1 a2 b0 b1 b2) (both2 a2 b2 (mn a0 b0, mx a1 b1, false)) := by
  unfold bound_Hull_api_Fix.f both2
  refine Ev.bind (vague_t hM A B) ?_
  by_cases c : (a2 || b2) = true
  · rw [if_pos c]; exact pos_ev c (now_ev fun k => by rw [none_ev]; rfl)
  · rw [if_neg c]
    rcases A with ⟨rfl, _⟩ | ⟨rfl, p0, p1, p2⟩
    · simp at c
    rcases B with ⟨rfl, _⟩ | ⟨rfl, q0, q1, q2⟩
    · simp at c
    have x := mn_le a0 b0
    have y := le_mx a1 b1
    exact neg_ev c (Ev.bind (of_t (by omega) (by omega) (by omega)) (Ev.now _))
theorem max_t {M a0 a1 b0 b1 : Int} {a2 b2 : Bool} (hM : M ≤ 1152921504606846976) (A : okt M a0 a1 a2) (B : okt M b0 b1 b2) : Ev (fun k => bound_Max_api_Fix.f k a0 a1 a2 b0 b1 b2) (both2 a2 b2 (mx a0 b0, mx a1 b1, false)) := by
  have h := min_t hM (negb_ok A) (negb_ok B)
  have o : okt M (both2 (negb a0 a1 a2).2.2 (negb b0 b1 b2).2.2 (mn (negb a0 a1 a2).1 (negb b0 b1 b2).1, mn (negb a0 a1 a2).2.1 (negb b0 b1 b2).2.1, false)).1 (both2 (negb a0 a1 a2).2.2 (negb b0 b1 b2).2.2 (mn (negb a0 a1 a2).1 (negb b0 b1 b2).1, mn (negb a0 a1 a2).2.1 (negb b0 b1 b2).2.1, false)).2.1 (both2 (negb a0 a1 a2).2.2 (negb b0 b1 b2).2.2 (mn (negb a0 a1 a2).1 (negb b0 b1 b2).1, mn (negb a0 a1 a2).2.1 (negb b0 b1 b2).2.1, false)).2.2 := by
    rcases A with ⟨rfl, _⟩ | ⟨rfl, p0, p1, p2⟩
    · exact .inl ⟨by simp [both2, negb], by simp [both2, negb], by simp [both2, negb]⟩
    rcases B with ⟨rfl, _⟩ | ⟨rfl, q0, q1, q2⟩
    · exact .inl ⟨by simp [both2, negb], by simp [both2, negb], by simp [both2, negb]⟩
    have x := mn_le (-a1) (-b1)
    have y := mn_le (-a0) (-b0)
    simp only [both2, negb, Bool.or_self, Bool.false_eq_true, if_false]
    exact .inr ⟨rfl, by omega, by omega, by omega⟩
  have n := neg_t hM o
  have e : ∀ r : Int × Int × Bool, r = both2 (negb a0 a1 a2).2.2 (negb b0 b1 b2).2.2 (mn (negb a0 a1 a2).1 (negb b0 b1 b2).1, mn (negb a0 a1 a2).2.1 (negb b0 b1 b2).2.1, false) → negb r.1 r.2.1 r.2.2 = both2 a2 b2 (mx a0 b0, mx a1 b1, false) := by
    rintro r rfl
    cases a2 <;> cases b2 <;> simp [both2, negb]
    unfold mn mx
    constructor <;> (split <;> split <;> omega)
  rw [e _ rfl] at n
  unfold bound_Max_api_Fix.f
  exact Ev.bind (neg_t hM A) (Ev.bind (neg_t hM B) (Ev.bind h (Ev.bind n (Ev.now _))))
/-- The absolute value of a bound. -/
def absb (lo hi : Int) (u : Bool) : Int × Int × Bool := if u = true then (0, 0, true) else if lo < 0 ∧ hi > 0 then (0, mx (-lo) hi, false) else (mx lo (-hi), mx hi (-lo), false)
theorem absb_ok {M lo hi : Int} {u : Bool} (h : okt M lo hi u) : okt M (absb lo hi u).1 (absb lo hi u).2.1 (absb lo hi u).2.2 ∧ ((absb lo hi u).2.2 = u) ∧ (u = false → 0 ≤ (absb lo hi u).1) := by
  unfold absb
  rcases h with ⟨rfl, rfl, rfl⟩ | ⟨rfl, h0, h1, h2⟩
  · exact ⟨.inl ⟨rfl, rfl, rfl⟩, rfl, fun h => by cases h⟩
  · rw [if_neg (by decide)]
    have x := le_mx (-lo) hi
    have y := le_mx lo (-hi)
    have z := le_mx hi (-lo)
    by_cases c : lo < 0 ∧ hi > 0
    · rw [if_pos c]; exact ⟨.inr ⟨rfl, by simp only; omega, by simp only; omega, by simp only; omega⟩, rfl, fun _ => by simp⟩
    · rw [if_neg c]; exact ⟨.inr ⟨rfl, by simp only; omega, by simp only; omega, by simp only; omega⟩, rfl, fun _ => by simp only; omega⟩
theorem abs_t {M lo hi : Int} {u : Bool} (hM : M ≤ 1152921504606846976) (h : okt M lo hi u) : Ev (fun k => bound_Abs_api_Fix.f k lo hi u) (absb lo hi u) := by
  have V := vague_t hM h h
  rw [Bool.or_self] at V
  unfold bound_Abs_api_Fix.f absb
  refine Ev.bind V ?_
  cases u
  · rcases h with ⟨h, _⟩ | ⟨_, h0, h1, h2⟩
    · cases h
    refine neg_ev (by decide) ?_
    rw [if_neg (by decide)]
    have B : okt M lo hi false := .inr ⟨rfl, h0, h1, h2⟩
    have no : ¬ (lo < 0 ∧ hi > 0) → Ev (fun k => bound_Abs_api_Fix.j0 k false lo hi false) (mx lo (-hi), mx hi (-lo), false) := by
      intro c
      refine Ev.step (fun k => by rw [bound_Abs_api_Fix.j0, if_neg (by decide)]) ?_
      have X := max_t hM B (negb_ok B)
      exact Ev.bind (neg_t hM B) (Ev.bind X (Ev.now _))
    by_cases c : lo < 0
    · refine pos_ev c ?_
      by_cases c2 : hi > 0
      · rw [if_pos ⟨c, c2⟩, decide_eq_true c2]
        have x := le_mx (-lo) hi
        refine Ev.step (fun k => by rw [bound_Abs_api_Fix.j0, if_pos rfl, w64_id (x := -lo) (by omega) (by omega)]) ?_
        exact Ev.bind (of_t (by omega) (by omega) (by omega)) (Ev.now _)
      · rw [if_neg (by omega), decide_eq_false c2]
        exact no (by omega)
    · rw [if_neg (by omega)]
      exact neg_ev c (no (by omega))
  · exact pos_ev rfl (now_ev fun k => by rw [none_ev]; rfl)
end Go.Proofs.Ytpophefonhpnmaa.Q
end

section
/- The least and the greatest of a row of numbers, in plain numbers. -/
namespace Go.Proofs.Ytpophefonhpnmaa.Q.MNF
open Go.RowKit Go.Proofs.Ytpophefonhpnmaa.Q Go.Proofs.YtpophefonhpnmaaW.PrintWords Go.Proofs.YtpophefonhpnmaaW.PrintLast Go.Proofs.YtpophefonhpnmaaW.PrintMore
set_option linter.unusedVariables false
set_option linter.unusedSimpArgs false
theorem rd_nat {l : List Int} {i : Nat} (h : i < l.length) : rd l (i : Int) = l[i] := by
  unfold rd; rw [Int.toNat_natCast, List.getD_eq_getElem?_getD, List.getElem?_eq_getElem h]; rfl
theorem min_ev {xs : List Int} (hx : xs.length ≤ 1000000) (h : xs ≠ []) : ∃ m, m ∈ xs ∧ (∀ x ∈ xs, m ≤ x) ∧ Ev (fun k => slices_Min_api_Fix_api_Fix.f k xs) m := by
  have hp : 0 < xs.length := List.length_pos_iff.mpr h
  have main : ∀ (d i : Nat) (m : Int), xs.length = i + d → m ∈ xs → (∀ x ∈ xs.take i, m ≤ x) → ∃ r, r ∈ xs ∧ (∀ x ∈ xs, r ≤ x) ∧ Ev (fun k => slices_Min_api_Fix_api_Fix.l0 k xs m (i : Int)) r := by
    intro d
    induction d with
    | zero =>
      intro i m e hm ha
      rw [List.take_of_length_le (by omega)] at ha
      exact ⟨m, hm, ha, one_ev fun k => by rw [slices_Min_api_Fix_api_Fix.l0, if_neg (by omega)]⟩
    | succ d ih =>
      intro i m e hm ha
      have hi : i < xs.length := by omega
      have w : wrap64 ((i : Int) + 1) = ((i + 1 : Nat) : Int) := by rw [w64_id (by omega) (by omega)]; push_cast; rfl
      have q : mn m xs[i] ≤ m ∧ mn m xs[i] ≤ xs[i] ∧ (mn m xs[i] = m ∨ mn m xs[i] = xs[i]) := by unfold mn; split <;> omega
      obtain ⟨r, r0, r1, r2⟩ := ih (i + 1) (mn m xs[i]) (by omega) (by
        rcases q.2.2 with z | z
        · rw [z]; exact hm
        · rw [z]; exact List.getElem_mem hi) (by
        intro x hx'
        rw [List.take_succ_eq_append_getElem hi] at hx'
        rcases List.mem_append.mp hx' with z | z
        · have := ha x z; omega
        · simp at z; subst z; exact q.2.1)
      refine ⟨r, r0, r1, Ev.step (fun k => ?_) r2⟩
      rw [slices_Min_api_Fix_api_Fix.l0, if_pos (by omega), if_pos (by omega), rd_nat hi, w]
  obtain ⟨r, r0, r1, r2⟩ := main (xs.length - 1) 1 xs[0] (by omega) (List.getElem_mem hp) (by
    intro x hx'
    rw [List.take_succ_eq_append_getElem hp] at hx'
    simp at hx'; subst hx'; exact Int.le_refl _)
  refine ⟨r, r0, r1, ?_⟩
  unfold slices_Min_api_Fix_api_Fix.f
  refine neg_ev (by omega) (pos_ev (by omega) ?_)
  rw [show rd xs 0 = xs[0] from rd_nat (i := 0) hp]
  exact r2
theorem max_ev {xs : List Int} (hx : xs.length ≤ 1000000) (h : xs ≠ []) : ∃ m, m ∈ xs ∧ (∀ x ∈ xs, x ≤ m) ∧ Ev (fun k => slices_Max_api_Fix_api_Fix.f k xs) m := by
  have hp : 0 < xs.length := List.length_pos_iff.mpr h
  have main : ∀ (d i : Nat) (m : Int), xs.length = i + d → m ∈ xs → (∀ x ∈ xs.take i, x ≤ m) → ∃ r, r ∈ xs ∧ (∀ x ∈ xs, x ≤ r) ∧ Ev (fun k => slices_Max_api_Fix_api_Fix.l0 k xs m (i : Int)) r := by
    intro d
    induction d with
    | zero =>
      intro i m e hm ha
      rw [List.take_of_length_le (by omega)] at ha
      exact ⟨m, hm, ha, one_ev fun k => by rw [slices_Max_api_Fix_api_Fix.l0, if_neg (by omega)]⟩
    | succ d ih =>
      intro i m e hm ha
      have hi : i < xs.length := by omega
      have w : wrap64 ((i : Int) + 1) = ((i + 1 : Nat) : Int) := by rw [w64_id (by omega) (by omega)]; push_cast; rfl
      have q : m ≤ mx m xs[i] ∧ xs[i] ≤ mx m xs[i] ∧ (mx m xs[i] = m ∨ mx m xs[i] = xs[i]) := by unfold mx; split <;> omega
      obtain ⟨r, r0, r1, r2⟩ := ih (i + 1) (mx m xs[i]) (by omega) (by
        rcases q.2.2 with z | z
        · rw [z]; exact hm
        · rw [z]; exact List.getElem_mem hi) (by
        intro x hx'
        rw [List.take_succ_eq_append_getElem hi] at hx'
        rcases List.mem_append.mp hx' with z | z
        · have := ha x z; omega
        · simp at z; subst z; exact q.2.1)
      refine ⟨r, r0, r1, Ev.step (fun k => ?_) r2⟩
      rw [slices_Max_api_Fix_api_Fix.l0, if_pos (by omega), if_pos (by omega), rd_nat hi, w]
  obtain ⟨r, r0, r1, r2⟩ := main (xs.length - 1) 1 xs[0] (by omega) (List.getElem_mem hp) (by
    intro x hx'
    rw [List.take_succ_eq_append_getElem hp] at hx'
    simp at hx'; subst hx'; exact Int.le_refl _)
  refine ⟨r, r0, r1, ?_⟩
  unfold slices_Max_api_Fix_api_Fix.f
  refine neg_ev (by omega) (pos_ev (by omega) ?_)
  rw [show rd xs 0 = xs[0] from rd_nat (i := 0) hp]
  exact r2
end Go.Proofs.Ytpophefonhpnmaa.Q.MNF
end

section
/- Package bound at one type of numbers in plain numbers: Inside. -/
namespace Go.Proofs.Ytpophefonhpnmaa.Q
open Go.RowKit Go.Proofs.YtpophefonhpnmaaW.PrintWords Go.Proofs.YtpophefonhpnmaaW.PrintLast Go.Proofs.YtpophefonhpnmaaW.PrintMore
set_option linter.unusedVariables false
set_option linter.unusedSimpArgs false

end Go.Proofs.Ytpophefonhpnmaa.Q
end

section
/- The least and the greatest of the results at the corners of two bounds, for one pair of functions; the bounds stand in each statement. -/
namespace Go.Proofs.Ytpophefonhpnmaa.Q.CMul
open Go.RowKit Go.Proofs.Ytpophefonhpnmaa.Q Go.Proofs.YtpophefonhpnmaaW.PrintWords Go.Proofs.YtpophefonhpnmaaW.PrintLast Go.Proofs.YtpophefonhpnmaaW.PrintMore Go.Proofs.Ytpophefonhpnmaa.Q.MNF
set_option linter.unusedVariables false
set_option linter.unusedSimpArgs false
variable {u : Int} {g h : Int → Int → Int}
theorem inner {acc L : List Int} {x r s n i b0 b1 : Int} {b2 : Bool} {R : Int × Int × Bool} (ha : acc.length ≤ 100)
    (G1 : Ev (fun k => bound_Mul_api_Fix_1.f k x r [u]) (g x r, 0)) (H1 : Ev (fun k => bound_Mul_api_Fix_2.f k x r [u]) (h x r, 0)) (G2 : Ev (fun k => bound_Mul_api_Fix_1.f k x s [u]) (g x s, 0)) (H2 : Ev (fun k => bound_Mul_api_Fix_2.f k x s [u]) (h x s, 0))
    (hk : Ev (fun k => bound_corners_api_Fix__bound_Mul_api_Fix_1_bound_Mul_api_Fix_2.l0 k (acc ++ [g x r, h x r] ++ [g x s, h x s]) L n (wrap64 (i + 1)) [u] [u] b0 b1 b2) R) :
    Ev (fun k => bound_corners_api_Fix__bound_Mul_api_Fix_1_bound_Mul_api_Fix_2.l1 k acc x L n i [r, s] ([r, s].length : Int) 0 [u] [u] b0 b1 b2) R := by
  refine Ev.step (fun k => by rw [bound_corners_api_Fix__bound_Mul_api_Fix_1_bound_Mul_api_Fix_2.l1, if_pos (by simp), if_pos (by decide), if_pos (by simp)]) ?_
  refine Ev.bind G1 (Ev.bind H1 (pos_ev rfl (pos_ev rfl (some_ev rfl (pos_ev (by simp only [List.length_cons, List.length_nil]; omega) ?_)))))
  refine Ev.step (fun k => by rw [w01, bound_corners_api_Fix__bound_Mul_api_Fix_1_bound_Mul_api_Fix_2.l1, if_pos (by simp), if_pos (by decide), if_pos (by simp)]) ?_
  refine Ev.bind G2 (Ev.bind H2 (pos_ev rfl (pos_ev rfl (some_ev rfl (pos_ev (by simp only [List.length_append, List.length_cons, List.length_nil]; omega) ?_)))))
  refine Ev.step (fun k => by rw [w12, bound_corners_api_Fix__bound_Mul_api_Fix_1_bound_Mul_api_Fix_2.l1, if_neg (by simp)]) hk
/-- What the corners come to. -/
structure Cor (g h : Int → Int → Int) (p q r s lo hi : Int) : Prop where
  lo1 : ∃ x y, (x = p ∨ x = q) ∧ (y = r ∨ y = s) ∧ lo = g x y
  lo2 : ∀ x y, (x = p ∨ x = q) → (y = r ∨ y = s) → lo ≤ g x y
  hi1 : ∃ x y, (x = p ∨ x = q) ∧ (y = r ∨ y = s) ∧ hi = h x y
  hi2 : ∀ x y, (x = p ∨ x = q) → (y = r ∨ y = s) → h x y ≤ hi
theorem corners {p q r s : Int} {u1 u2 : Bool} (G : ∀ x y, (x = p ∨ x = q) → (y = r ∨ y = s) → Ev (fun k => bound_Mul_api_Fix_1.f k x y [u]) (g x y, 0) ∧ Ev (fun k => bound_Mul_api_Fix_2.f k x y [u]) (h x y, 0) ∧ -1152921504606846976 ≤ g x y ∧ g x y ≤ h x y ∧ h x y ≤ 1152921504606846976) :
    ∃ lo hi, Ev (fun k => bound_corners_api_Fix__bound_Mul_api_Fix_1_bound_Mul_api_Fix_2.f k p q u1 r s u2 [u] [u]) (lo, hi, false) ∧ Cor g h p q r s lo hi := by
  obtain ⟨a1, a2, a3, a4, a5⟩ := G p r (.inl rfl) (.inl rfl)
  obtain ⟨b1, b2, b3, b4, b5⟩ := G p s (.inl rfl) (.inr rfl)
  obtain ⟨c1, c2, c3, c4, c5⟩ := G q r (.inr rfl) (.inl rfl)
  obtain ⟨d1, d2, d3, d4, d5⟩ := G q s (.inr rfl) (.inr rfl)
  obtain ⟨l, hl⟩ : ∃ l, l = ([] : List Int) ++ [g p r, h p r] ++ [g p s, h p s] ++ [g q r, h q r] ++ [g q s, h q s] := ⟨_, rfl⟩
  have len : l.length ≤ 100 := by rw [hl]; simp
  have ne : l ≠ [] := by rw [hl]; simp
  obtain ⟨m, m0, m1, m2⟩ := min_ev (xs := l) (by omega) ne
  obtain ⟨x, x0, x1, x2⟩ := max_ev (xs := l) (by omega) ne
  have low : m = g p r ∨ m = g p s ∨ m = g q r ∨ m = g q s := by
    have z1 := m1 (g p r) (by rw [hl]; simp)
    have z2 := m1 (g p s) (by rw [hl]; simp)
    have z3 := m1 (g q r) (by rw [hl]; simp)
    have z4 := m1 (g q s) (by rw [hl]; simp)
    rw [hl] at m0
    simp only [List.nil_append, List.cons_append, List.mem_cons, List.not_mem_nil, or_false] at m0
    omega
  have high : x = h p r ∨ x = h p s ∨ x = h q r ∨ x = h q s := by
    have z1 := x1 (h p r) (by rw [hl]; simp)
    have z2 := x1 (h p s) (by rw [hl]; simp)
    have z3 := x1 (h q r) (by rw [hl]; simp)
    have z4 := x1 (h q s) (by rw [hl]; simp)
    rw [hl] at x0
    simp only [List.nil_append, List.cons_append, List.mem_cons, List.not_mem_nil, or_false] at x0
    omega
  have lows : m ≤ g p r ∧ m ≤ g p s ∧ m ≤ g q r ∧ m ≤ g q s := ⟨m1 _ (by rw [hl]; simp), m1 _ (by rw [hl]; simp), m1 _ (by rw [hl]; simp), m1 _ (by rw [hl]; simp)⟩
  have highs : h p r ≤ x ∧ h p s ≤ x ∧ h q r ≤ x ∧ h q s ≤ x := ⟨x1 _ (by rw [hl]; simp), x1 _ (by rw [hl]; simp), x1 _ (by rw [hl]; simp), x1 _ (by rw [hl]; simp)⟩
  refine ⟨m, x, ?_, ⟨?_, ?_, ?_, ?_⟩⟩
  · unfold bound_corners_api_Fix__bound_Mul_api_Fix_1_bound_Mul_api_Fix_2.f
    refine some_ev rfl (Ev.step (fun k => by rw [bound_corners_api_Fix__bound_Mul_api_Fix_1_bound_Mul_api_Fix_2.l0, if_pos (by simp), if_pos (by decide), if_pos (by simp)]) (some_ev rfl ?_))
    refine inner (by simp) a1 a2 b1 b2 ?_
    refine Ev.step (fun k => by rw [w01, bound_corners_api_Fix__bound_Mul_api_Fix_1_bound_Mul_api_Fix_2.l0, if_pos (by simp), if_pos (by decide), if_pos (by simp)]) (some_ev rfl ?_)
    refine inner (by simp) c1 c2 d1 d2 ?_
    refine Ev.step (fun k => by rw [w12, bound_corners_api_Fix__bound_Mul_api_Fix_1_bound_Mul_api_Fix_2.l0, if_neg (by simp)]) ?_
    have e : ([] : List Int) ++ [g (rd [p, q] 0) r, h (rd [p, q] 0) r] ++ [g (rd [p, q] 0) s, h (rd [p, q] 0) s] ++ [g (rd [p, q] 1) r, h (rd [p, q] 1) r] ++ [g (rd [p, q] 1) s, h (rd [p, q] 1) s] = l := hl.symm
    rw [e]
    exact Ev.bind m2 (Ev.bind x2 (Ev.bind (of_t (by omega) (by omega) (by omega)) (Ev.now _)))
  · rcases low with e | e | e | e
    · exact ⟨p, r, .inl rfl, .inl rfl, e⟩
    · exact ⟨p, s, .inl rfl, .inr rfl, e⟩
    · exact ⟨q, r, .inr rfl, .inl rfl, e⟩
    · exact ⟨q, s, .inr rfl, .inr rfl, e⟩
  · rintro x y (rfl | rfl) (rfl | rfl) <;> omega
  · rcases high with e | e | e | e
    · exact ⟨p, r, .inl rfl, .inl rfl, e⟩
    · exact ⟨p, s, .inl rfl, .inr rfl, e⟩
    · exact ⟨q, r, .inr rfl, .inl rfl, e⟩
    · exact ⟨q, s, .inr rfl, .inr rfl, e⟩
  · rintro x' y (rfl | rfl) (rfl | rfl) <;> omega
end Go.Proofs.Ytpophefonhpnmaa.Q.CMul
end

section
/- The least and the greatest of the results at the corners of two bounds, for one pair of functions; the bounds stand in each statement. -/
namespace Go.Proofs.Ytpophefonhpnmaa.Q.CDiv
open Go.RowKit Go.Proofs.Ytpophefonhpnmaa.Q Go.Proofs.YtpophefonhpnmaaW.PrintWords Go.Proofs.YtpophefonhpnmaaW.PrintLast Go.Proofs.YtpophefonhpnmaaW.PrintMore Go.Proofs.Ytpophefonhpnmaa.Q.MNF
set_option linter.unusedVariables false
set_option linter.unusedSimpArgs false
variable {u : Int} {g h : Int → Int → Int}
theorem inner {acc L : List Int} {x r s n i b0 b1 : Int} {b2 : Bool} {R : Int × Int × Bool} (ha : acc.length ≤ 100)
    (G1 : Ev (fun k => bound_Div_api_Fix_1.f k x r [u]) (g x r, 0)) (H1 : Ev (fun k => bound_Div_api_Fix_2.f k x r [u]) (h x r, 0)) (G2 : Ev (fun k => bound_Div_api_Fix_1.f k x s [u]) (g x s, 0)) (H2 : Ev (fun k => bound_Div_api_Fix_2.f k x s [u]) (h x s, 0))
    (hk : Ev (fun k => bound_corners_api_Fix__bound_Div_api_Fix_1_bound_Div_api_Fix_2.l0 k (acc ++ [g x r, h x r] ++ [g x s, h x s]) L n (wrap64 (i + 1)) [u] [u] b0 b1 b2) R) :
    Ev (fun k => bound_corners_api_Fix__bound_Div_api_Fix_1_bound_Div_api_Fix_2.l1 k acc x L n i [r, s] ([r, s].length : Int) 0 [u] [u] b0 b1 b2) R := by
  refine Ev.step (fun k => by rw [bound_corners_api_Fix__bound_Div_api_Fix_1_bound_Div_api_Fix_2.l1, if_pos (by simp), if_pos (by decide), if_pos (by simp)]) ?_
  refine Ev.bind G1 (Ev.bind H1 (pos_ev rfl (pos_ev rfl (some_ev rfl (pos_ev (by simp only [List.length_cons, List.length_nil]; omega) ?_)))))
  refine Ev.step (fun k => by rw [w01, bound_corners_api_Fix__bound_Div_api_Fix_1_bound_Div_api_Fix_2.l1, if_pos (by simp), if_pos (by decide), if_pos (by simp)]) ?_
  refine Ev.bind G2 (Ev.bind H2 (pos_ev rfl (pos_ev rfl (some_ev rfl (pos_ev (by simp only [List.length_append, List.length_cons, List.length_nil]; omega) ?_)))))
  refine Ev.step (fun k => by rw [w12, bound_corners_api_Fix__bound_Div_api_Fix_1_bound_Div_api_Fix_2.l1, if_neg (by simp)]) hk
/-- What the corners come to. -/
structure Cor (g h : Int → Int → Int) (p q r s lo hi : Int) : Prop where
  lo1 : ∃ x y, (x = p ∨ x = q) ∧ (y = r ∨ y = s) ∧ lo = g x y
  lo2 : ∀ x y, (x = p ∨ x = q) → (y = r ∨ y = s) → lo ≤ g x y
  hi1 : ∃ x y, (x = p ∨ x = q) ∧ (y = r ∨ y = s) ∧ hi = h x y
  hi2 : ∀ x y, (x = p ∨ x = q) → (y = r ∨ y = s) → h x y ≤ hi
theorem corners {p q r s : Int} {u1 u2 : Bool} (G : ∀ x y, (x = p ∨ x = q) → (y = r ∨ y = s) → Ev (fun k => bound_Div_api_Fix_1.f k x y [u]) (g x y, 0) ∧ Ev (fun k => bound_Div_api_Fix_2.f k x y [u]) (h x y, 0) ∧ -1152921504606846976 ≤ g x y ∧ g x y ≤ h x y ∧ h x y ≤ 1152921504606846976) :
    ∃ lo hi, Ev (fun k => bound_corners_api_Fix__bound_Div_api_Fix_1_bound_Div_api_Fix_2.f k p q u1 r s u2 [u] [u]) (lo, hi, false) ∧ Cor g h p q r s lo hi := by
  obtain ⟨a1, a2, a3, a4, a5⟩ := G p r (.inl rfl) (.inl rfl)
  obtain ⟨b1, b2, b3, b4, b5⟩ := G p s (.inl rfl) (.inr rfl)
  obtain ⟨c1, c2, c3, c4, c5⟩ := G q r (.inr rfl) (.inl rfl)
  obtain ⟨d1, d2, d3, d4, d5⟩ := G q s (.inr rfl) (.inr rfl)
  obtain ⟨l, hl⟩ : ∃ l, l = ([] : List Int) ++ [g p r, h p r] ++ [g p s, h p s] ++ [g q r, h q r] ++ [g q s, h q s] := ⟨_, rfl⟩
  have len : l.length ≤ 100 := by rw [hl]; simp
  have ne : l ≠ [] := by rw [hl]; simp
  obtain ⟨m, m0, m1, m2⟩ := min_ev (xs := l) (by omega) ne
  obtain ⟨x, x0, x1, x2⟩ := max_ev (xs := l) (by omega) ne
  have low : m = g p r ∨ m = g p s ∨ m = g q r ∨ m = g q s := by
    have z1 := m1 (g p r) (by rw [hl]; simp)
    have z2 := m1 (g p s) (by rw [hl]; simp)
    have z3 := m1 (g q r) (by rw [hl]; simp)
    have z4 := m1 (g q s) (by rw [hl]; simp)
    rw [hl] at m0
    simp only [List.nil_append, List.cons_append, List.mem_cons, List.not_mem_nil, or_false] at m0
    omega
  have high : x = h p r ∨ x = h p s ∨ x = h q r ∨ x = h q s := by
    have z1 := x1 (h p r) (by rw [hl]; simp)
    have z2 := x1 (h p s) (by rw [hl]; simp)
    have z3 := x1 (h q r) (by rw [hl]; simp)
    have z4 := x1 (h q s) (by rw [hl]; simp)
    rw [hl] at x0
    simp only [List.nil_append, List.cons_append, List.mem_cons, List.not_mem_nil, or_false] at x0
    omega
  have lows : m ≤ g p r ∧ m ≤ g p s ∧ m ≤ g q r ∧ m ≤ g q s := ⟨m1 _ (by rw [hl]; simp), m1 _ (by rw [hl]; simp), m1 _ (by rw [hl]; simp), m1 _ (by rw [hl]; simp)⟩
  have highs : h p r ≤ x ∧ h p s ≤ x ∧ h q r ≤ x ∧ h q s ≤ x := ⟨x1 _ (by rw [hl]; simp), x1 _ (by rw [hl]; simp), x1 _ (by rw [hl]; simp), x1 _ (by rw [hl]; simp)⟩
  refine ⟨m, x, ?_, ⟨?_, ?_, ?_, ?_⟩⟩
  · unfold bound_corners_api_Fix__bound_Div_api_Fix_1_bound_Div_api_Fix_2.f
    refine some_ev rfl (Ev.step (fun k => by rw [bound_corners_api_Fix__bound_Div_api_Fix_1_bound_Div_api_Fix_2.l0, if_pos (by simp), if_pos (by decide), if_pos (by simp)]) (some_ev rfl ?_))
    refine inner (by simp) a1 a2 b1 b2 ?_
    refine Ev.step (fun k => by rw [w01, bound_corners_api_Fix__bound_Div_api_Fix_1_bound_Div_api_Fix_2.l0, if_pos (by simp), if_pos (by decide), if_pos (by simp)]) (some_ev rfl ?_)
    refine inner (by simp) c1 c2 d1 d2 ?_
    refine Ev.step (fun k => by rw [w12, bound_corners_api_Fix__bound_Div_api_Fix_1_bound_Div_api_Fix_2.l0, if_neg (by simp)]) ?_
    have e : ([] : List Int) ++ [g (rd [p, q] 0) r, h (rd [p, q] 0) r] ++ [g (rd [p, q] 0) s, h (rd [p, q] 0) s] ++ [g (rd [p, q] 1) r, h (rd [p, q] 1) r] ++ [g (rd [p, q] 1) s, h (rd [p, q] 1) s] = l := hl.symm
    rw [e]
    exact Ev.bind m2 (Ev.bind x2 (Ev.bind (of_t (by omega) (by omega) (by omega)) (Ev.now _)))
  · rcases low with e | e | e | e
    · exact ⟨p, r, .inl rfl, .inl rfl, e⟩
    · exact ⟨p, s, .inl rfl, .inr rfl, e⟩
    · exact ⟨q, r, .inr rfl, .inl rfl, e⟩
    · exact ⟨q, s, .inr rfl, .inr rfl, e⟩
  · rintro x y (rfl | rfl) (rfl | rfl) <;> omega
  · rcases high with e | e | e | e
    · exact ⟨p, r, .inl rfl, .inl rfl, e⟩
    · exact ⟨p, s, .inl rfl, .inr rfl, e⟩
    · exact ⟨q, r, .inr rfl, .inl rfl, e⟩
    · exact ⟨q, s, .inr rfl, .inr rfl, e⟩
  · rintro x' y (rfl | rfl) (rfl | rfl) <;> omega
end Go.Proofs.Ytpophefonhpnmaa.Q.CDiv
end

section
/- Products, quotients and roots of bounds in plain numbers; the bounds stand in each statement. -/
namespace Go.Proofs.Ytpophefonhpnmaa.Q
open Go.RowKit Go.Proofs.YtpophefonhpnmaaW.PrintWords Go.Proofs.YtpophefonhpnmaaW.PrintLast Go.Proofs.YtpophefonhpnmaaW.PrintMore
set_option linter.unusedVariables false
set_option linter.unusedSimpArgs false
theorem uq_hi {v d c : Int} (hd : 0 < d) (h : v ≤ c * d) : upq v d ≤ c := by
  have e := Int.emod_add_mul_ediv v d
  have e0 := Int.emod_nonneg v (show d ≠ 0 by omega)
  have ec : d * (v / d) = v / d * d := Int.mul_comm _ _
  unfold upq
  split
  · exact Int.le_of_mul_le_mul_right (a := d) (by omega) hd
  · have : v / d < c := Int.lt_of_mul_lt_mul_right (a := d) (by omega) (by omega)
    omega
theorem uq_mul {v d : Int} (hd : 0 < d) : v ≤ upq v d * d := by
  have e := Int.emod_add_mul_ediv v d
  have e1 := Int.emod_lt_of_pos v hd
  have ec : d * (v / d) = v / d * d := Int.mul_comm _ _
  unfold upq
  split
  · omega
  · rw [Int.add_mul]; omega
theorem uq_mono {v w d : Int} (hd : 0 < d) (h : v ≤ w) : upq v d ≤ upq w d := uq_hi hd (Int.le_trans h (uq_mul hd))
theorem uq_ge (v d : Int) : v / d ≤ upq v d ∧ upq v d ≤ v / d + 1 := by unfold upq; split <;> omega
theorem fits_in {n : Int} (h0 : -9223372036854775808 ≤ n) (h1 : n ≤ 9223372036854775807) : fits n = true := by unfold fits; simp [h0, h1]
/-- The results of all pairs with a property lie from lo to hi, and both are among them. -/
structure Ran (P : Int → Int → Prop) (g h : Int → Int → Int) (lo hi : Int) : Prop where
  all : ∀ x y, P x y → lo ≤ g x y ∧ h x y ≤ hi
  lo1 : ∃ x y, P x y ∧ lo = g x y
  hi1 : ∃ x y, P x y ∧ hi = h x y
theorem Ran.mono {P Q : Int → Int → Prop} {g h : Int → Int → Int} {lo hi lo2 hi2 : Int} (a : Ran P g h lo hi) (b : Ran Q g h lo2 hi2) (pq : ∀ x y, P x y → Q x y) : lo2 ≤ lo ∧ hi ≤ hi2 := by
  obtain ⟨x, y, p, e⟩ := a.lo1
  obtain ⟨z, w, p2, e2⟩ := a.hi1
  have h1 := (b.all x y (pq x y p)).1
  have h2 := (b.all z w (pq z w p2)).2
  omega
/-- Pairs out of two bounds. -/
def Box (p q r s : Int) (x y : Int) : Prop := p ≤ x ∧ x ≤ q ∧ r ≤ y ∧ y ≤ s
theorem box_mul {p q r s x y : Int} (b : Box p q r s x y) : (∃ a c, (a = p ∨ a = q) ∧ (c = r ∨ c = s) ∧ a * c ≤ x * y) ∧ (∃ a c, (a = p ∨ a = q) ∧ (c = r ∨ c = s) ∧ x * y ≤ a * c) := by
  obtain ⟨px, xq, ry, ys⟩ := b
  have left : ∀ a : Int, ∃ c, (c = r ∨ c = s) ∧ a * c ≤ a * y := by
    intro a
    by_cases h : 0 ≤ a
    · exact ⟨r, .inl rfl, Int.mul_le_mul_of_nonneg_left ry h⟩
    · exact ⟨s, .inr rfl, Int.mul_le_mul_of_nonpos_left (by omega) ys⟩
  have right : ∀ a : Int, ∃ c, (c = r ∨ c = s) ∧ a * y ≤ a * c := by
    intro a
    by_cases h : 0 ≤ a
    · exact ⟨s, .inr rfl, Int.mul_le_mul_of_nonneg_left ys h⟩
    · exact ⟨r, .inl rfl, Int.mul_le_mul_of_nonpos_left (by omega) ry⟩
  constructor
  · by_cases h : 0 ≤ y
    · obtain ⟨c, hc, e⟩ := left p
      exact ⟨p, c, .inl rfl, hc, Int.le_trans e (Int.mul_le_mul_of_nonneg_right px h)⟩
    · obtain ⟨c, hc, e⟩ := left q
      exact ⟨q, c, .inr rfl, hc, Int.le_trans e (Int.mul_le_mul_of_nonpos_right xq (by omega))⟩
  · by_cases h : 0 ≤ y
    · obtain ⟨c, hc, e⟩ := right q
      exact ⟨q, c, .inr rfl, hc, Int.le_trans (Int.mul_le_mul_of_nonneg_right xq h) e⟩
    · obtain ⟨c, hc, e⟩ := right p
      exact ⟨p, c, .inl rfl, hc, Int.le_trans (Int.mul_le_mul_of_nonpos_right px (by omega)) e⟩
theorem prod_in {x y : Int} (x0 : -1048576 ≤ x) (x1 : x ≤ 1048576) (y0 : -1048576 ≤ y) (y1 : y ≤ 1048576) : -1099511627776 ≤ x * y ∧ x * y ≤ 1099511627776 := by
  obtain ⟨⟨a, c, ha, hc, e⟩, ⟨a2, c2, ha2, hc2, e2⟩⟩ := box_mul (p := -1048576) (q := 1048576) (r := -1048576) (s := 1048576) ⟨x0, x1, y0, y1⟩
  constructor
  · rcases ha with rfl | rfl <;> rcases hc with rfl | rfl <;> omega
  · rcases ha2 with rfl | rfl <;> rcases hc2 with rfl | rfl <;> omega
theorem quo_in {v u : Int} (u1 : 1 ≤ u) (h0 : -1099511627776 ≤ v) (h1 : v ≤ 1099511627776) : -1099511627776 ≤ v / u ∧ v / u ≤ 1099511627776 ∧ v / u ≤ upq v u ∧ upq v u ≤ 1099511627776 := by
  have a := uq_ge v u
  refine ⟨?_, ?_, a.1, ?_⟩
  · rw [Int.le_ediv_iff_mul_le (by omega)]; omega
  · have : v / u < 1099511627777 := by rw [Int.ediv_lt_iff_lt_mul (by omega)]; omega
    omega
  · exact uq_hi (by omega) (by omega)
theorem mul_fs {x y u : Int} (u1 : 1 ≤ u) (u2 : u ≤ 1000) (x0 : -1048576 ≤ x) (x1 : x ≤ 1048576) (y0 : -1048576 ≤ y) (y1 : y ≤ 1048576) :
    Ev (fun k => num_MulDiv.f k x y u) (x * y / u, 0) ∧ Ev (fun k => num_MulDivUp.f k x y u) (upq (x * y) u, 0) := by
  have p := prod_in x0 x1 y0 y1
  have q := quo_in u1 p.1 p.2
  have A := muldiv (a := x) (b := y) (d := u) (by omega) (by omega) (by omega) (by omega) (by omega)
  rw [if_neg (by omega), if_pos (fits_in (by omega) (by omega))] at A
  have B := muldivup (a := x) (b := y) (d := u) (by omega) (by omega) (by omega) (by omega) (by omega)
  rw [if_neg (by omega), if_pos (fits_in (by omega) (by omega)), if_pos (fits_in (by omega) (by omega))] at B
  exact ⟨A, B⟩
theorem mul_t {a0 a1 b0 b1 u : Int} {a2 b2 : Bool} (u1 : 1 ≤ u) (u2 : u ≤ 1000) (A : okt 1048576 a0 a1 a2) (B : okt 1048576 b0 b1 b2) :
    ∃ r : Int × Int × Bool, Ev (fun k => bound_Mul_api_Fix.f k a0 a1 a2 b0 b1 b2 u) r ∧ okt 1152921504606846976 r.1 r.2.1 r.2.2 ∧ r.2.2 = (a2 || b2) ∧ (r.2.2 = false → Ran (Box a0 a1 b0 b1) (fun x y => x * y / u) (fun x y => upq (x * y) u) r.1 r.2.1) := by
  have V := vague_t (by decide) A B
  rcases A with ⟨rfl, _, _⟩ | ⟨rfl, p0, p1, p2⟩
  · refine ⟨(0, 0, true), ?_, .inl ⟨rfl, rfl, rfl⟩, rfl, fun h => by cases h⟩
    unfold bound_Mul_api_Fix.f
    exact Ev.bind V (pos_ev rfl (one_ev fun k => by rw [bound_Mul_api_Fix.j0, if_pos rfl, none_ev]; rfl))
  rcases B with ⟨rfl, _, _⟩ | ⟨rfl, q0, q1, q2⟩
  · refine ⟨(0, 0, true), ?_, .inl ⟨rfl, rfl, rfl⟩, rfl, fun h => by cases h⟩
    unfold bound_Mul_api_Fix.f
    exact Ev.bind V (pos_ev rfl (one_ev fun k => by rw [bound_Mul_api_Fix.j0, if_pos rfl, none_ev]; rfl))
  have fs : ∀ x y, Box a0 a1 b0 b1 x y → Ev (fun k => bound_Mul_api_Fix_1.f k x y [u]) (x * y / u, 0) ∧ Ev (fun k => bound_Mul_api_Fix_2.f k x y [u]) (upq (x * y) u, 0) ∧ -1099511627776 ≤ x * y / u ∧ x * y / u ≤ upq (x * y) u ∧ upq (x * y) u ≤ 1099511627776 := by
    rintro x y ⟨h0, h1, h2, h3⟩
    have p := prod_in (x := x) (y := y) (by omega) (by omega) (by omega) (by omega)
    have q := quo_in u1 p.1 p.2
    obtain ⟨F, G⟩ := mul_fs u1 u2 (x := x) (y := y) (by omega) (by omega) (by omega) (by omega)
    unfold bound_Mul_api_Fix_1.f bound_Mul_api_Fix_2.f
    exact ⟨pos_ev (by simp) (Ev.bind F (Ev.now _)), pos_ev (by simp) (Ev.bind G (Ev.now _)), q.1, q.2.2.1, q.2.2.2⟩
  have corner : ∀ x y, (x = a0 ∨ x = a1) → (y = b0 ∨ y = b1) → Box a0 a1 b0 b1 x y := by
    rintro x y (rfl | rfl) (rfl | rfl) <;> exact ⟨by omega, by omega, by omega, by omega⟩
  obtain ⟨lo, hi, hE, C⟩ := CMul.corners (u := u) (p := a0) (q := a1) (r := b0) (s := b1) (u1 := false) (u2 := false) (g := fun x y => x * y / u) (h := fun x y => upq (x * y) u) (fun x y hx hy => by
    obtain ⟨e1, e2, e3, e4, e5⟩ := fs x y (corner x y hx hy)
    exact ⟨e1, e2, by omega, e4, by omega⟩)
  have ran : Ran (Box a0 a1 b0 b1) (fun x y => x * y / u) (fun x y => upq (x * y) u) lo hi := by
    refine ⟨fun x y b => ?_, ?_, ?_⟩
    · obtain ⟨⟨a, c, ha, hc, e⟩, ⟨a', c', ha', hc', e'⟩⟩ := box_mul b
      exact ⟨Int.le_trans (C.lo2 a c ha hc) (Int.ediv_le_ediv (by omega) e), Int.le_trans (uq_mono (by omega) e') (C.hi2 a' c' ha' hc')⟩
    · obtain ⟨x, y, hx, hy, e⟩ := C.lo1; exact ⟨x, y, corner x y hx hy, e⟩
    · obtain ⟨x, y, hx, hy, e⟩ := C.hi1; exact ⟨x, y, corner x y hx hy, e⟩
  refine ⟨(lo, hi, false), ?_, ?_, rfl, fun _ => ran⟩
  · unfold bound_Mul_api_Fix.f
    refine Ev.bind V (neg_ev (by decide) ?_)
    rw [decide_eq_false (by omega)]
    exact Ev.step (fun k => by rw [bound_Mul_api_Fix.j0, if_neg (by decide)]) (Ev.bind hE (Ev.now _))
  · obtain ⟨x, y, hx, e⟩ := ran.lo1
    obtain ⟨x', y', hx', e'⟩ := ran.hi1
    have r1 := (ran.all a0 b0 (corner _ _ (.inl rfl) (.inl rfl)))
    obtain ⟨_, _, f3, f4, f5⟩ := fs a0 b0 (corner _ _ (.inl rfl) (.inl rfl))
    obtain ⟨_, _, g3, g4, g5⟩ := fs x y hx
    obtain ⟨_, _, k3, k4, k5⟩ := fs x' y' hx'
    exact .inr ⟨rfl, by simp only; omega, by simp only; omega, by simp only; omega⟩
/-- The quotient's ends, whatever the divisor's sign. -/
def qlo (u x y : Int) : Int := if 0 < y then x * u / y else -x * u / -y
def qhi (u x y : Int) : Int := if 0 < y then upq (x * u) y else upq (-x * u) (-y)
theorem box_div {p q r s x y u : Int} (u0 : 0 ≤ u) (r0 : 0 < r) (b : Box p q r s x y) : (∃ a c, (a = p ∨ a = q) ∧ (c = r ∨ c = s) ∧ a * u / c ≤ x * u / y) ∧ (∃ a c, (a = p ∨ a = q) ∧ (c = r ∨ c = s) ∧ upq (x * u) y ≤ upq (a * u) c) := by
  obtain ⟨px, xq, ry, ys⟩ := b
  have e1 : p * u ≤ x * u := Int.mul_le_mul_of_nonneg_right px u0
  have e2 : x * u ≤ q * u := Int.mul_le_mul_of_nonneg_right xq u0
  have d1 := Int.ediv_le_ediv (c := y) (by omega) e1
  have d2 := uq_mono (d := y) (by omega) e2
  constructor
  · by_cases h : 0 ≤ p * u
    · refine ⟨p, s, .inl rfl, .inr rfl, Int.le_trans ?_ d1⟩
      rw [Int.le_ediv_iff_mul_le (by omega)]
      have := Int.ediv_nonneg h (show 0 ≤ s by omega)
      exact Int.le_trans (Int.mul_le_mul_of_nonneg_left ys this) (Int.ediv_mul_le _ (by omega))
    · refine ⟨p, r, .inl rfl, .inl rfl, Int.le_trans ?_ d1⟩
      rw [Int.le_ediv_iff_mul_le (by omega)]
      have : p * u / r ≤ 0 := by
        have : p * u / r < 1 := by rw [Int.ediv_lt_iff_lt_mul r0]; omega
        omega
      exact Int.le_trans (Int.mul_le_mul_of_nonpos_left this ry) (Int.ediv_mul_le _ (by omega))
  · by_cases h : 0 ≤ q * u
    · refine ⟨q, r, .inr rfl, .inl rfl, Int.le_trans d2 (uq_hi (by omega) ?_)⟩
      have : 0 ≤ upq (q * u) r := by
        have := uq_ge (q * u) r
        have := Int.ediv_nonneg h (show 0 ≤ r by omega)
        omega
      exact Int.le_trans (uq_mul r0) (Int.mul_le_mul_of_nonneg_left ry this)
    · refine ⟨q, s, .inr rfl, .inr rfl, Int.le_trans d2 (uq_hi (by omega) ?_)⟩
      have : upq (q * u) s ≤ 0 := uq_hi (by omega) (by omega)
      exact Int.le_trans (uq_mul (by omega)) (Int.mul_le_mul_of_nonpos_left this ys)
theorem div_pos {a0 a1 b0 b1 u : Int} (u1 : 1 ≤ u) (u2 : u ≤ 1000) (p0 : -1048576 ≤ a0) (p1 : a0 ≤ a1) (p2 : a1 ≤ 1048576) (q0 : 0 < b0) (q1 : b0 ≤ b1) (q2 : b1 ≤ 1048576) :
    ∃ lo hi, Ev (fun k => bound_corners_api_Fix__bound_Div_api_Fix_1_bound_Div_api_Fix_2.f k a0 a1 false b0 b1 false [u] [u]) (lo, hi, false) ∧ -1099511627776 ≤ lo ∧ lo ≤ hi ∧ hi ≤ 1099511627776 ∧ Ran (Box a0 a1 b0 b1) (fun x y => x * u / y) (fun x y => upq (x * u) y) lo hi := by
  have fs : ∀ x y, Box a0 a1 b0 b1 x y → Ev (fun k => bound_Div_api_Fix_1.f k x y [u]) (x * u / y, 0) ∧ Ev (fun k => bound_Div_api_Fix_2.f k x y [u]) (upq (x * u) y, 0) ∧ -1099511627776 ≤ x * u / y ∧ x * u / y ≤ upq (x * u) y ∧ upq (x * u) y ≤ 1099511627776 := by
    rintro x y ⟨h0, h1, h2, h3⟩
    have p := prod_in (x := x) (y := u) (by omega) (by omega) (by omega) (by omega)
    have q := quo_in (v := x * u) (u := y) (by omega) p.1 p.2
    have F := muldiv (a := x) (b := u) (d := y) (by omega) (by omega) (by omega) (by omega) (by omega)
    rw [if_neg (by omega), if_pos (fits_in (by omega) (by omega))] at F
    have G := muldivup (a := x) (b := u) (d := y) (by omega) (by omega) (by omega) (by omega) (by omega)
    rw [if_neg (by omega), if_pos (fits_in (by omega) (by omega)), if_pos (fits_in (by omega) (by omega))] at G
    unfold bound_Div_api_Fix_1.f bound_Div_api_Fix_2.f
    exact ⟨pos_ev (by simp) (Ev.bind F (Ev.now _)), pos_ev (by simp) (Ev.bind G (Ev.now _)), q.1, q.2.2.1, q.2.2.2⟩
  have corner : ∀ x y, (x = a0 ∨ x = a1) → (y = b0 ∨ y = b1) → Box a0 a1 b0 b1 x y := by
    rintro x y (rfl | rfl) (rfl | rfl) <;> exact ⟨by omega, by omega, by omega, by omega⟩
  obtain ⟨lo, hi, hE, C⟩ := CDiv.corners (u := u) (p := a0) (q := a1) (r := b0) (s := b1) (u1 := false) (u2 := false) (g := fun x y => x * u / y) (h := fun x y => upq (x * u) y) (fun x y hx hy => by
    obtain ⟨e1, e2, e3, e4, e5⟩ := fs x y (corner x y hx hy)
    exact ⟨e1, e2, by omega, e4, by omega⟩)
  have ran : Ran (Box a0 a1 b0 b1) (fun x y => x * u / y) (fun x y => upq (x * u) y) lo hi := by
    refine ⟨fun x y b => ?_, ?_, ?_⟩
    · obtain ⟨⟨a, c, ha, hc, e⟩, ⟨a', c', ha', hc', e'⟩⟩ := box_div (u := u) (by omega) q0 b
      exact ⟨Int.le_trans (C.lo2 a c ha hc) e, Int.le_trans e' (C.hi2 a' c' ha' hc')⟩
    · obtain ⟨x, y, hx, hy, e⟩ := C.lo1; exact ⟨x, y, corner x y hx hy, e⟩
    · obtain ⟨x, y, hx, hy, e⟩ := C.hi1; exact ⟨x, y, corner x y hx hy, e⟩
  obtain ⟨x, y, hx, e⟩ := ran.lo1
  obtain ⟨x', y', hx', e'⟩ := ran.hi1
  have r1 := (ran.all a0 b0 (corner _ _ (.inl rfl) (.inl rfl)))
  obtain ⟨_, _, f3, f4, f5⟩ := fs a0 b0 (corner _ _ (.inl rfl) (.inl rfl))
  obtain ⟨_, _, g3, g4, g5⟩ := fs x y hx
  obtain ⟨_, _, k3, k4, k5⟩ := fs x' y' hx'
  exact ⟨lo, hi, hE, by omega, by omega, by omega, ran⟩
theorem div_t {a0 a1 b0 b1 u : Int} {a2 b2 : Bool} (u1 : 1 ≤ u) (u2 : u ≤ 1000) (A : okt 1048576 a0 a1 a2) (B : okt 1048576 b0 b1 b2) :
    ∃ r : Int × Int × Bool, Ev (fun k => bound_Div_api_Fix.f k a0 a1 a2 b0 b1 b2 u) r ∧ okt 1152921504606846976 r.1 r.2.1 r.2.2 ∧ (r.2.2 = false ↔ (a2 = false ∧ b2 = false ∧ (0 < b0 ∨ b1 < 0))) ∧ (r.2.2 = false → Ran (Box a0 a1 b0 b1) (qlo u) (qhi u) r.1 r.2.1) := by
  have V := vague_t (by decide) A B
  have J : ∀ p q r c d e f, Ev (fun k => bound_Div_api_Fix.j0 k true p q r c d e f) (0, 0, true) := fun p q r c d e f => one_ev fun k => by rw [bound_Div_api_Fix.j0, if_pos rfl, none_ev]; rfl
  rcases A with ⟨rfl, _, _⟩ | ⟨rfl, p0, p1, p2⟩
  · refine ⟨(0, 0, true), ?_, .inl ⟨rfl, rfl, rfl⟩, by simp, fun h => by cases h⟩
    unfold bound_Div_api_Fix.f
    exact Ev.bind V (pos_ev rfl (J _ _ _ _ _ _ _))
  rcases B with ⟨rfl, _, _⟩ | ⟨rfl, q0, q1, q2⟩
  · refine ⟨(0, 0, true), ?_, .inl ⟨rfl, rfl, rfl⟩, by simp, fun h => by cases h⟩
    unfold bound_Div_api_Fix.f
    exact Ev.bind V (pos_ev rfl (J _ _ _ _ _ _ _))
  by_cases c : 0 < b0
  · obtain ⟨lo, hi, hE, l0, l1, l2, ran⟩ := div_pos u1 u2 p0 p1 p2 c q1 q2
    refine ⟨(lo, hi, false), ?_, .inr ⟨rfl, by simp only; omega, l1, by simp only; omega⟩, by simp [c], fun _ => ?_⟩
    · unfold bound_Div_api_Fix.f
      refine Ev.bind V (neg_ev (by decide) (neg_ev (by omega) (neg_ev (by omega) ?_)))
      refine Ev.step (fun k => by rw [bound_Div_api_Fix.j0, if_neg (by decide), if_neg (by omega)]) (Ev.bind hE (Ev.now _))
    · refine ⟨fun x y b => ?_, ?_, ?_⟩
      · have h := ran.all x y b
        unfold qlo qhi; rw [if_pos (by have := b.2.2.1; omega), if_pos (by have := b.2.2.1; omega)]; exact h
      · obtain ⟨x, y, b, e⟩ := ran.lo1; exact ⟨x, y, b, by unfold qlo; rw [if_pos (by have := b.2.2.1; omega)]; exact e⟩
      · obtain ⟨x, y, b, e⟩ := ran.hi1; exact ⟨x, y, b, by unfold qhi; rw [if_pos (by have := b.2.2.1; omega)]; exact e⟩
  by_cases c2 : b1 < 0
  · obtain ⟨lo, hi, hE, l0, l1, l2, ran⟩ := div_pos (a0 := -a1) (a1 := -a0) (b0 := -b1) (b1 := -b0) u1 u2 (by omega) (by omega) (by omega) (by omega) (by omega) (by omega)
    refine ⟨(lo, hi, false), ?_, .inr ⟨rfl, by simp only; omega, l1, by simp only; omega⟩, by simp [c2], fun _ => ?_⟩
    · unfold bound_Div_api_Fix.f
      refine Ev.bind V (neg_ev (by decide) (neg_ev (by omega) (pos_ev (by omega) ?_)))
      rw [decide_eq_false (by omega)]
      refine Ev.step (fun k => by rw [bound_Div_api_Fix.j0, if_neg (by decide), if_pos c2]) ?_
      exact Ev.bind (neg_api_Fix (by omega) p1 (by omega)) (Ev.bind (neg_api_Fix (by omega) q1 (by omega)) (Ev.bind hE (Ev.now _)))
    · refine ⟨fun x y b => ?_, ?_, ?_⟩
      · obtain ⟨z0, z1, z2, z3⟩ := b
        have h := ran.all (-x) (-y) ⟨by omega, by omega, by omega, by omega⟩
        unfold qlo qhi; rw [if_neg (by omega), if_neg (by omega)]; exact h
      · obtain ⟨x, y, ⟨z0, z1, z2, z3⟩, e⟩ := ran.lo1
        refine ⟨-x, -y, ⟨by omega, by omega, by omega, by omega⟩, ?_⟩
        unfold qlo; rw [if_neg (by omega), Int.neg_neg, Int.neg_neg]; exact e
      · obtain ⟨x, y, ⟨z0, z1, z2, z3⟩, e⟩ := ran.hi1
        refine ⟨-x, -y, ⟨by omega, by omega, by omega, by omega⟩, ?_⟩
        unfold qhi; rw [if_neg (by omega), Int.neg_neg, Int.neg_neg]; exact e
  · refine ⟨(0, 0, true), ?_, .inl ⟨rfl, rfl, rfl⟩, by simp; omega, fun h => by cases h⟩
    unfold bound_Div_api_Fix.f
    refine Ev.bind V (neg_ev (by decide) (neg_ev (by omega) (pos_ev (by omega) ?_)))
    rw [decide_eq_true (by omega)]
    exact J _ _ _ _ _ _ _
theorem scale_t {a0 a1 n u : Int} {a2 : Bool} (u1 : 1 ≤ u) (u2 : u ≤ 1000) (A : okt 1048576 a0 a1 a2) (n0 : -1048576 ≤ n) (n1 : n ≤ 1048576) :
    ∃ r : Int × Int × Bool, Ev (fun k => bound_Scale_api_Fix.f k a0 a1 a2 n u) r ∧ okt 1152921504606846976 r.1 r.2.1 r.2.2 ∧ r.2.2 = a2 ∧ (r.2.2 = false → Ran (Box a0 a1 n n) (fun x y => x * y / u) (fun x y => upq (x * y) u) r.1 r.2.1) := by
  obtain ⟨r, hr, h0, h1, h2⟩ := mul_t u1 u2 A (b0 := n) (b1 := n) (b2 := false) (.inr ⟨rfl, n0, Int.le_refl _, n1⟩)
  refine ⟨r, ?_, h0, by rw [h1]; simp, h2⟩
  unfold bound_Scale_api_Fix.f
  exact Ev.bind (exact_api_Fix (by omega) (by omega)) (Ev.bind hr (Ev.now _))
theorem sq_le {a b : Int} (a0 : 0 ≤ a) (b0 : 0 ≤ b) (h : a * a < (b + 1) * (b + 1)) : a ≤ b := by
  by_cases c : a ≤ b
  · exact c
  · have := Int.mul_le_mul (show b + 1 ≤ a by omega) (show b + 1 ≤ a by omega) (by omega) a0
    omega
/-- The root of a bound of numbers that are not negative. -/
structure Roo (a0 a1 u lo hi : Int) : Prop where
  l0 : 0 ≤ lo
  l1 : lo * lo ≤ a0 * u
  l2 : a0 * u < (lo + 1) * (lo + 1)
  h0 : 0 ≤ hi
  h1 : a1 * u ≤ hi * hi
  h2 : ∀ t, 0 ≤ t → a1 * u ≤ t * t → hi ≤ t
theorem root_t {a0 a1 u : Int} {a2 : Bool} (u1 : 1 ≤ u) (u2 : u ≤ 1000) (A : okt 1048576 a0 a1 a2) (nn : a2 = false → 0 ≤ a0) :
    ∃ r : Int × Int × Bool, Ev (fun k => bound_Root_api_Fix.f k a0 a1 a2 u) r ∧ okt 1152921504606846976 r.1 r.2.1 r.2.2 ∧ r.2.2 = a2 ∧ (a2 = false → Roo a0 a1 u r.1 r.2.1) := by
  have V := vague_t (by decide) A A
  rw [Bool.or_self] at V
  rcases A with ⟨rfl, _, _⟩ | ⟨rfl, p0, p1, p2⟩
  · refine ⟨(0, 0, true), ?_, .inl ⟨rfl, rfl, rfl⟩, rfl, fun h => by cases h⟩
    unfold bound_Root_api_Fix.f
    exact Ev.bind V (pos_ev rfl (one_ev fun k => by rw [bound_Root_api_Fix.j0, if_pos rfl, none_ev]; rfl))
  have z := nn rfl
  obtain ⟨r, hr, r0, r1, r2, r3⟩ := sqrt_ev (a := a0) (b := u) z (by omega) (by omega) (by omega)
  obtain ⟨s, hs, s0, s1, s2, s3⟩ := sqrt_ev (a := a1) (b := u) (by omega) (by omega) (by omega) (by omega)
  have m : a0 * u ≤ a1 * u := Int.mul_le_mul_of_nonneg_right p1 (by omega)
  have big := prod_in (x := a1) (y := u) (by omega) (by omega) (by omega) (by omega)
  have sb : s ≤ 1048576 := sq_le s0 (by omega) (by omega)
  have rs : r ≤ s := sq_le r0 s0 (by omega)
  have P1 := product (a := s) (b := s) (by omega) (by omega) (by omega) (by omega)
  have P2 := product (a := a1) (b := u) (by omega) (by omega) (by omega) (by omega)
  have CM := wide_cmp (s * s) (a1 * u)
  have mx0 : mx a0 0 = a0 := by unfold mx; split <;> omega
  have E : ∀ R : Int × Int × Bool, Ev (fun k => if (if s * s < a1 * u then (-1 : Int) else if s * s > a1 * u then 1 else 0) < 0 then ((bound_Of_api_Fix.f k r (wrap64 (s + 1))).bind fun bt114 => (some (bt114.1, bt114.2.1, bt114.2.2))) else ((bound_Of_api_Fix.f k r s).bind fun bt117 => (some (bt117.1, bt117.2.1, bt117.2.2)))) R → Ev (fun k => bound_Root_api_Fix.f k a0 a1 false u) R := by
    intro R h
    unfold bound_Root_api_Fix.f
    refine Ev.bind V (neg_ev (by decide) (neg_ev (by omega) ?_))
    rw [decide_eq_false (by omega)]
    refine Ev.step (fun k => by rw [bound_Root_api_Fix.j0, if_neg (by decide), mx0]) ?_
    exact Ev.bind hr (Ev.bind hs (some_ev P1 (some_ev P2 (Ev.bind CM h))))
  by_cases c : s * s < a1 * u
  · refine ⟨(r, s + 1, false), E _ ?_, .inr ⟨rfl, by simp only; omega, by simp only; omega, by simp only; omega⟩, rfl, fun _ => ⟨r0, r2, r3, by simp only; omega, by simp only; omega, fun t t0 t1 => ?_⟩⟩
    · rw [if_pos c, w64_id (by omega) (by omega)]
      exact pos_ev (by decide) (Ev.bind (of_t (by omega) (by omega) (by omega)) (Ev.now _))
    · simp only
      by_cases d : s + 1 ≤ t
      · exact d
      · have := Int.mul_le_mul (show t ≤ s by omega) (show t ≤ s by omega) t0 s0
        omega
  · refine ⟨(r, s, false), E _ ?_, .inr ⟨rfl, by simp only; omega, by simp only; omega, by simp only; omega⟩, rfl, fun _ => ⟨r0, r2, r3, s0, by simp only; omega, fun t t0 t1 => ?_⟩⟩
    · rw [if_neg c]
      refine neg_ev (by split <;> omega) (Ev.bind (of_t (by omega) (by omega) (by omega)) (Ev.now _))
    · show s ≤ t
      exact sq_le s0 t0 (by have := Int.mul_lt_mul' (show t ≤ t + 1 by omega) (show t < t + 1 by omega) t0 (by omega); omega)
end Go.Proofs.Ytpophefonhpnmaa.Q
end

section
/- Bounds out of the stream of numbers, in plain numbers: what spymake.Bound and spymake.Within answer; the bounds stand in each statement. -/
namespace Go.Proofs.Ytpophefonhpnmaa.Q
open Go.RowKit Go.Proofs.YtpophefonhpnmaaW.PrintWords Go.Proofs.YtpophefonhpnmaaW.PrintLast Go.Proofs.YtpophefonhpnmaaW.PrintMore
set_option linter.unusedVariables false
set_option linter.unusedSimpArgs false

/-- A bound that is drawn: unknown, or of small numbers. -/
theorem bound_api_Fix (l : List Int) {p m : Int} (hl : l.length ≤ 9223372036854775807) (p0 : 0 ≤ p) (p1 : p < 4611686018427380000) (m0 : 0 ≤ m) (m1 : m ≤ 1152921504606846976) :
    ∃ lo hi u q, spymake_Bound_api_Fix.f l p m = some (lo, hi, u, q) ∧ p ≤ q ∧ q ≤ p + 3 ∧ (u = true ∧ lo = 0 ∧ hi = 0 ∨ u = false ∧ -m ≤ lo ∧ lo ≤ hi ∧ hi ≤ m) := by
  unfold spymake_Bound_api_Fix.f
  obtain ⟨v, hv, v0, v1⟩ := next_in l (at_ := p) (n := 8) hl p0 (by omega) (by decide) (by decide)
  rw [hv, Option.bind_some, w64_id (x := -m) (by omega) (by omega)]
  simp only
  by_cases c : v = 0
  · exact ⟨0, 0, true, p + 1, by rw [if_pos c], by omega, by omega, .inl ⟨rfl, rfl, rfl⟩⟩
  · rw [if_neg c]
    obtain ⟨a, ha, a0, a1⟩ := range_in l (at_ := p + 1) (lo := -m) (hi := m) hl (by omega) (by omega) (by omega) (by omega) (by omega)
    by_cases d : v = 1
    · exact ⟨a, a, false, p + 2, by rw [if_pos d, ha, Option.bind_some, show p + 1 + 1 = p + 2 by omega], by omega, by omega, .inr ⟨rfl, a0, Int.le_refl _, a1⟩⟩
    · obtain ⟨b, hb, b0, b1⟩ := range_in l (at_ := p + 1 + 1) (lo := -m) (hi := m) hl (by omega) (by omega) (by omega) (by omega) (by omega)
      refine ⟨mn a b, mx a b, false, p + 3, ?_, by omega, by omega, .inr ⟨rfl, ?_, ?_, ?_⟩⟩
      · rw [if_neg d, ha, Option.bind_some, hb, Option.bind_some, show p + 1 + 1 + 1 = p + 3 by omega]
      · unfold mn; split <;> omega
      · unfold mn mx; split <;> split <;> omega
      · unfold mx; split <;> omega
/-- A narrower bound that is drawn. -/
theorem within_api_Fix (l : List Int) {p lo hi : Int} {u : Bool} (hl : l.length ≤ 9223372036854775807) (p0 : 0 ≤ p) (p1 : p < 4611686018427370000) (h : u = true ∧ lo = 0 ∧ hi = 0 ∨ u = false ∧ -1152921504606846976 ≤ lo ∧ lo ≤ hi ∧ hi ≤ 1152921504606846976) :
    ∃ lo2 hi2 u2 q, spymake_Within_api_Fix.f l p lo hi u = some (lo2, hi2, u2, q) ∧ p ≤ q ∧ q ≤ p + 4 ∧ (u2 = true ∧ lo2 = 0 ∧ hi2 = 0 ∧ u = true ∨ u2 = false ∧ (u = true → -100 ≤ lo2 ∧ hi2 ≤ 100) ∧ lo2 ≤ hi2 ∧ (u = false → lo ≤ lo2 ∧ hi2 ≤ hi)) := by
  unfold spymake_Within_api_Fix.f
  rcases h with ⟨rfl, rfl, rfl⟩ | ⟨rfl, h0, h1, h2⟩
  · rw [if_pos rfl]
    obtain ⟨v, hv, v0, v1⟩ := next_in l (at_ := p) (n := 2) hl p0 (by omega) (by decide) (by decide)
    rw [hv, Option.bind_some]
    by_cases c : v = 0
    · exact ⟨0, 0, true, p + 1, by rw [if_pos c], by omega, by omega, .inl ⟨rfl, rfl, rfl, rfl⟩⟩
    · obtain ⟨lo2, hi2, u2, q, e, q0, q1, r⟩ := bound_api_Fix l (p := p + 1) (m := 100) hl (by omega) (by omega) (by decide) (by decide)
      refine ⟨lo2, hi2, u2, q, by rw [if_neg c, e, Option.bind_some], by omega, by omega, ?_⟩
      rcases r with ⟨rfl, rfl, rfl⟩ | ⟨rfl, r0, r1, r2⟩
      · exact .inl ⟨rfl, rfl, rfl, rfl⟩
      · exact .inr ⟨rfl, fun _ => ⟨r0, r2⟩, r1, fun h => by cases h⟩
  · rw [if_neg (by decide), w64_id (x := hi - lo) (by omega) (by omega)]
    obtain ⟨m, hm⟩ : ∃ m, m = mn (hi - lo) 536870912 := ⟨_, rfl⟩
    rw [← hm]
    have m0 : 0 ≤ m ∧ m ≤ hi - lo ∧ m ≤ 536870912 := by rw [hm]; unfold mn; split <;> omega
    rw [w64_id (x := m + 1) (by omega) (by omega)]
    obtain ⟨v, hv, v0, v1⟩ := next_in l (at_ := p) (n := m + 1) hl p0 (by omega) (by omega) (by omega)
    rw [hv, Option.bind_some]
    simp only
    obtain ⟨y, hy, y0, y1⟩ := range_in l (at_ := p + 1) (lo := v) (hi := m) hl (by omega) (by omega) (by omega) (by omega) (by omega)
    rw [hy, Option.bind_some]
    simp only
    rw [w64_id (x := lo + v) (by omega) (by omega), w64_id (x := lo + y) (by omega) (by omega)]
    exact ⟨_, _, _, _, rfl, by omega, by omega, .inr ⟨rfl, (fun h => by cases h), by omega, fun _ => ⟨by omega, by omega⟩⟩⟩
end Go.Proofs.Ytpophefonhpnmaa.Q
end

section
/- Quotients rounded down and up by a positive number, in plain numbers; the bounds stand in each statement. -/
namespace Go.Proofs.Ytpophefonhpnmaa.Q
open Go.RowKit Go.Proofs.YtpophefonhpnmaaW.PrintWords Go.Proofs.YtpophefonhpnmaaW.PrintLast Go.Proofs.YtpophefonhpnmaaW.PrintMore
set_option linter.unusedVariables false
set_option linter.unusedSimpArgs false

theorem floordiv {a d : Int} (h0 : -9223372036854775807 ≤ a) (h1 : a ≤ 9223372036854775807) (hd : 1 ≤ d) : num_FloorDiv.f a d = some (a / d) := by
  unfold num_FloorDiv.f
  rw [if_neg (by omega), if_neg (by omega)]
  by_cases z : 0 ≤ a
  · have q := div_bd (v := a) (d := d) z (by omega)
    have m := Int.emod_nonneg a (show d ≠ 0 by omega)
    rw [tmod_eq z, tdiv_eq z, if_neg (by omega), w64_id (by omega) (by omega)]
  · have q := div_bd (v := -a) (d := d) (by omega) (by omega)
    have m := Int.emod_nonneg (-a) (show d ≠ 0 by omega)
    have n := (neg_div (v := a) (d := d) (by omega)).1
    rw [show Int.tmod a d = -(-a % d) by rw [← tmod_eq (by omega), Int.neg_tmod, Int.neg_neg], show Int.tdiv a d = -(-a / d) by rw [← tdiv_eq (by omega), Int.neg_tdiv, Int.neg_neg]]
    rw [w64_id (x := -(-a / d)) (by omega) (by omega), w64_id (x := -(-a / d) - 1) (by omega) (by omega), n]
    by_cases c : -a % d = 0
    · rw [if_neg (by omega), if_pos c]
    · rw [if_pos (by omega), if_neg c]

theorem ceildiv {a d : Int} (h0 : -9223372036854775807 ≤ a) (h1 : a ≤ 9223372036854775806) (hd : 1 ≤ d) : num_CeilDiv.f a d = some (upq a d) := by
  unfold num_CeilDiv.f upq
  rw [if_neg (by omega), if_neg (by omega)]
  by_cases z : 0 ≤ a
  · have q := div_bd (v := a) (d := d) z (by omega)
    have m := Int.emod_nonneg a (show d ≠ 0 by omega)
    rw [tmod_eq z, tdiv_eq z, w64_id (x := a / d) (by omega) (by omega), w64_id (x := a / d + 1) (by omega) (by omega)]
    by_cases c : a % d = 0
    · rw [if_neg (by omega), if_pos c]
    · rw [if_pos (by omega), if_neg c]
  · have q := div_bd (v := -a) (d := d) (by omega) (by omega)
    have m := Int.emod_nonneg (-a) (show d ≠ 0 by omega)
    have m' := Int.emod_lt_of_pos (-a) (show 0 < d by omega)
    have n := neg_div (v := a) (d := d) (by omega)
    rw [show Int.tmod a d = -(-a % d) by rw [← tmod_eq (by omega), Int.neg_tmod, Int.neg_neg], show Int.tdiv a d = -(-a / d) by rw [← tdiv_eq (by omega), Int.neg_tdiv, Int.neg_neg]]
    rw [if_neg (by omega), w64_id (x := -(-a / d)) (by omega) (by omega), n.1, n.2]
    by_cases c : -a % d = 0
    · rw [if_pos c, if_pos c, if_pos rfl]
    · rw [if_neg c, if_neg c, if_neg (by omega)]
      congr 1; omega
end Go.Proofs.Ytpophefonhpnmaa.Q
end

section
/- BoundIncludes in plain numbers: for every stream of numbers and unit the printed function answers true; no other condition. -/
namespace Go.Proofs.Ytpophefonhpnmaa.PureBoundIncludes
open Go.RowKit Go.Proofs.Ytpophefonhpnmaa.Q Go.Proofs.YtpophefonhpnmaaW.PrintWords Go.Proofs.YtpophefonhpnmaaW.PrintLast Go.Proofs.YtpophefonhpnmaaW.PrintMore
set_option linter.unusedVariables false
set_option linter.unusedSimpArgs false
set_option maxRecDepth 100000 in
theorem boundFact_ev : Ev (fun k => spykeep1_boundFact.f k) true :=
  Ev.of (fun k => spykeep1_boundFact.mono k) (k := 200) (by decide +kernel)
theorem has1 {M lo hi v : Int} {u : Bool} (hM : M ≤ 1152921504606846976) (A : okt M lo hi u) (h : u = false → lo ≤ v ∧ v ≤ hi) : Ev (fun k => spykeep1_BoundIncludes_1.f k lo hi u v) true := by
  unfold spykeep1_BoundIncludes_1.f
  refine Ev.bind (has_api_Fix fun hn => ?_) (Ev.now _)
  rw [A.nb hM] at hn
  exact h hn
theorem has2 {l h v : Int} {c2 d2 : Bool} (k1 : c2 = false → d2 = false → -1152921504606846976 ≤ l ∧ l ≤ v ∧ v ≤ h ∧ h ≤ 1152921504606846976) :
    Ev (fun k => spykeep1_BoundIncludes_1.f k (both2 c2 d2 (l, h, false)).1 (both2 c2 d2 (l, h, false)).2.1 (both2 c2 d2 (l, h, false)).2.2 v) true := by
  cases hc : c2 <;> cases hd : d2
  · have := k1 hc hd
    exact has1 (M := 1152921504606846976) (Int.le_refl _) (.inr ⟨rfl, this.1, Int.le_trans this.2.1 this.2.2.1, this.2.2.2⟩) fun _ => ⟨this.2.1, this.2.2.1⟩
  all_goals exact has1 (M := 1152921504606846976) (Int.le_refl _) (.inl ⟨rfl, rfl, rfl⟩) fun e => by cases e
theorem known {M lo hi : Int} {u : Bool} (h : okt M lo hi u) : u = false → -M ≤ lo ∧ lo ≤ hi ∧ hi ≤ M := by
  rintro rfl
  rcases h with ⟨h, _⟩ | ⟨_, h⟩
  · cases h
  · exact h
theorem negb_eq (lo hi : Int) (u : Bool) : negb lo hi u = both2 u u (-hi, -lo, false) := by cases u <;> rfl
def absl (lo hi : Int) : Int := if lo < 0 ∧ hi > 0 then 0 else mx lo (-hi)
def absh (lo hi : Int) : Int := if lo < 0 ∧ hi > 0 then mx (-lo) hi else mx hi (-lo)
theorem absb_eq (lo hi : Int) (u : Bool) : absb lo hi u = both2 u u (absl lo hi, absh lo hi, false) := by
  unfold absb absl absh both2
  cases u
  · simp only [Bool.false_eq_true, if_false, Bool.or_self]; split <;> rfl
  · rfl
/-- The absolute value of a number of a bound lies in the bound's. -/
theorem abs_has {lo hi x : Int} (h : lo ≤ x ∧ x ≤ hi ∨ lo ≤ -x ∧ -x ≤ hi) : absl lo hi ≤ mx x (-x) ∧ mx x (-x) ≤ absh lo hi := by
  unfold absl absh mx
  split <;> split <;> (try split) <;> omega
theorem abs_facts {lo hi : Int} (h : lo ≤ hi) : 0 ≤ absl lo hi ∧ absl lo hi ≤ absh lo hi ∧ (absh lo hi = hi ∨ absh lo hi = -lo) ∧ lo ≤ absh lo hi ∧ -lo ≤ absh lo hi ∧ hi ≤ absh lo hi ∧ (absl lo hi = 0 ∧ lo ≤ 0 ∧ 0 ≤ hi ∨ absl lo hi = lo ∨ absl lo hi = -hi) := by
  unfold absl absh mx
  split <;> split <;> (try split) <;> omega
theorem ev_same {α : Type} {g : Nat → Option α} {a b : α} (hg : ∀ k, LeO (g k) (g (k + 1))) {n : Nat} (h : g n = some a) (e : Ev g b) : a = b := by
  obtain ⟨K, hK⟩ := e
  obtain ⟨L, hL⟩ := Ev.of hg h
  exact Option.some.inj ((hL (K + L) (by omega)).symm.trans (hK (K + L) (by omega)))
theorem addv_eq {M : Int} {s : Int × Int × Bool} {b0 b1 : Int} {b2 : Bool} (hM : M ≤ 576460752303423488) (A : okt M s.1 s.2.1 s.2.2) (B : okt M b0 b1 b2) : RFapi_Fix.rf_addv s ⟨b0, b1, b2⟩ = both2 s.2.2 b2 (s.1 + b0, s.2.1 + b1, false) := by
  unfold RFapi_Fix.rf_addv
  obtain ⟨t, ht⟩ := RFapi_Fix.rf_tadd s.1 s.2.1 s.2.2 b0 b1 b2
  have e := ev_same (fun k => bound_Add_api_Fix.mono _ _ _ _ _ _ k) ht (add_t hM A B)
  show (bound_Add_api_Fix.f (0 + 1 + 1 + 1) s.1 s.2.1 s.2.2 b0 b1 b2).getD (0, 0, true) = _
  rw [ht, e]; rfl
/-- The sum of three bounds. -/
theorem sum3 {p q r s : Int} {pu ru : Bool} (A : okt 1048576 p q pu) (B : okt 1048576 r s ru) :
    ∃ R : Int × Int × Bool, bound_Sum_api_Fix.f [⟨p, q, pu⟩, ⟨r, s, ru⟩, ⟨p, q, pu⟩] = some R ∧ okt 4194304 R.1 R.2.1 R.2.2 ∧ (R.2.2 = false → pu = false ∧ ru = false ∧ R.1 = p + r + p ∧ R.2.1 = q + s + q) := by
  have A' : okt 4194304 p q pu := A.wide (by decide)
  have B' : okt 4194304 r s ru := B.wide (by decide)
  unfold bound_Sum_api_Fix.f RFapi_Fix.rf_totv
  rw [addv_eq (M := 4194304) (s := (0, 0, false)) (by decide) (.inr ⟨rfl, by decide, by decide, by decide⟩) A']
  cases hp : pu
  · have kA := known A hp
    simp only [both2, Bool.or_self, Bool.false_eq_true, if_false]
    unfold RFapi_Fix.rf_totv
    rw [addv_eq (M := 4194304) (s := (0 + p, 0 + q, false)) (by decide) (.inr ⟨rfl, by simp only; omega, by simp only; omega, by simp only; omega⟩) B']
    cases hr : ru
    · have kB := known B hr
      rw [hp] at A'
      simp only [both2, Bool.or_self, Bool.false_eq_true, if_false]
      unfold RFapi_Fix.rf_totv
      rw [addv_eq (M := 4194304) (s := (0 + p + r, 0 + q + s, false)) (by decide) (.inr ⟨rfl, by simp only; omega, by simp only; omega, by simp only; omega⟩) A']
      simp only [both2, Bool.or_self, Bool.false_eq_true, if_false]
      unfold RFapi_Fix.rf_totv
      exact ⟨_, rfl, .inr ⟨rfl, by simp only; omega, by simp only; omega, by simp only; omega⟩, fun _ => ⟨by simp, by simp, by simp only; omega, by simp only; omega⟩⟩
    · exact ⟨(0, 0, true), rfl, .inl ⟨rfl, rfl, rfl⟩, fun h => by cases h⟩
  · exact ⟨(0, 0, true), rfl, .inl ⟨rfl, rfl, rfl⟩, fun h => by cases h⟩

/-- The root of the bound's absolute value has the root of each number's. -/
theorem j3_ev {p q x u : Int} {pu : Bool} (u1 : 1 ≤ u) (u2 : u ≤ 1000) (A : okt 1048576 p q pu) (x0 : -1048576 ≤ x) (x1 : x ≤ 1048576) (hx : pu = false → (p ≤ x ∧ x ≤ q ∨ p ≤ -x ∧ -x ≤ q)) :
    Ev (fun k => spykeep1_BoundIncludes.j3 k x u false p q pu) true := by
  refine Ev.step (fun k => by rw [spykeep1_BoundIncludes.j3, if_neg (by decide)]) ?_
  obtain ⟨va0, va1, va2⟩ := absb_ok A
  obtain ⟨r, hr, ra0, ra1, ra2⟩ := root_t (u := u) u1 u2 va0 (fun h => va2 (by rw [← va1]; exact h))
  have V := abs_t (by decide) A
  rw [w64_id (x := -x) (by omega) (by omega)]
  have X := le_mx x (-x)
  obtain ⟨ax, eax⟩ : ∃ ax, ax = mx x (-x) := ⟨_, rfl⟩
  have ax0 : 0 ≤ ax ∧ ax ≤ 1048576 := by omega
  obtain ⟨z, hz, z0, z1, z2, z3⟩ := sqrt_ev (a := ax) (b := u) ax0.1 (by omega) (by omega) (by omega)
  have au : 0 ≤ ax * u ∧ ax * u ≤ 1048576000 := by
    have h1 := Int.mul_nonneg ax0.1 (show 0 ≤ u by omega)
    have h2 := Int.mul_le_mul ax0.2 u2 (by omega) (by decide)
    omega
  have zz : 0 ≤ z * z := Int.mul_nonneg z0 z0
  have K : r.2.2 = false → r.1 ≤ z ∧ z ≤ r.2.1 ∧ (z * z ≠ ax * u → z + 1 ≤ r.2.1) := by
    intro h
    have e1 : pu = false := by rw [ra1, va1] at h; exact h
    have R := ra2 (by rw [va1]; exact e1)
    have kA := known A e1
    have H := abs_has (hx e1)
    have E : absb p q pu = (absl p q, absh p q, false) := by rw [absb_eq, e1]; rfl
    rw [E] at R
    have R0 := R.l0; have R1 := R.l1; have R2 := R.h0; have R3 := R.h1
    simp only at R0 R1 R2 R3
    have m1 := Int.mul_le_mul_of_nonneg_right H.1 (show 0 ≤ u by omega)
    have m2 := Int.mul_le_mul_of_nonneg_right H.2 (show 0 ≤ u by omega)
    rw [← eax] at m1 m2
    refine ⟨sq_le R0 z0 (by omega), sq_le z0 R2 ?_, fun ne => ?_⟩
    · have : (r.2.1 + 1) * (r.2.1 + 1) = r.2.1 * r.2.1 + 2 * r.2.1 + 1 := by grind
      omega
    · by_cases c : r.2.1 ≤ z
      · have := Int.mul_le_mul c c R2 z0
        omega
      · omega
  refine Ev.bind V (Ev.bind hr ?_)
  rw [← eax]
  refine Ev.bind hz (Ev.bind (has1 (Int.le_refl _) ra0 fun h => ⟨(K h).1, (K h).2.1⟩) (pos_ev rfl ?_))
  have zb : z ≤ 1048576000 := by
    by_cases c : z ≤ 1048576000
    · exact c
    · have := Int.mul_le_mul (show 1048576000 ≤ z by omega) (show 1048576000 ≤ z by omega) (by decide) z0
      omega
  rw [w64_id (x := z * z) (by omega) (by omega), w64_id (x := ax * u) (by omega) (by omega), w64_id (x := z + 1) (by omega) (by omega)]
  by_cases e : z * z = ax * u
  · exact pos_ev e (Ev.now _)
  · exact neg_ev e (Ev.bind (has1 (Int.le_refl _) ra0 fun h => ⟨by have := (K h).1; omega, (K h).2.2 e⟩) (Ev.now _))

theorem j2_ev {p q x y u d0 d1 : Int} {pu du : Bool} (u1 : 1 ≤ u) (u2 : u ≤ 1000) (A : okt 1048576 p q pu) (D : okt 1152921504606846976 d0 d1 du) (x0 : -1048576 ≤ x) (x1 : x ≤ 1048576) (y1 : y ≤ 1048576)
    (hx : pu = false → (p ≤ x ∧ x ≤ q ∨ p ≤ -x ∧ -x ≤ q)) (hd : du = false → 0 < y → d0 ≤ x * u / y ∧ upq (x * u) y ≤ d1) :
    Ev (fun k => spykeep1_BoundIncludes.j2 k x y u p q pu d0 d1 du) true := by
  refine Ev.step (fun k => by rw [spykeep1_BoundIncludes.j2]) ?_
  have J := j3_ev u1 u2 A x0 x1 hx
  by_cases c : y > 0
  · refine pos_ev c ?_
    have h1 := prod_in (x := x) (y := u) x0 x1 (by omega) (by omega)
    rw [w64_id (x := x * u) (by omega) (by omega)]
    have g := uq_ge (x * u) y
    exact some_ev (floordiv (by omega) (by omega) c) (Ev.bind (has1 (Int.le_refl _) D fun h => by have := hd h c; omega) (pos_ev rfl (some_ev (ceildiv (by omega) (by omega) c) (Ev.bind (has1 (Int.le_refl _) D fun h => by have := hd h c; omega) J))))
  · exact neg_ev c J

theorem j1_ev {p q r s x y u : Int} {pu ru : Bool} (u1 : 1 ≤ u) (u2 : u ≤ 1000) (A : okt 1048576 p q pu) (B : okt 1048576 r s ru) (x0 : -1048576 ≤ x) (x1 : x ≤ 1048576) (y0 : -1048576 ≤ y) (y1 : y ≤ 1048576)
    (hx : pu = false → p ≤ x ∧ x ≤ q) (hy : ru = false → r ≤ y ∧ y ≤ s) :
    Ev (fun k => spykeep1_BoundIncludes.j1 k x y u false p q pu r s ru) true := by
  refine Ev.step (fun k => by rw [spykeep1_BoundIncludes.j1, if_neg (by decide)]) ?_
  obtain ⟨d, hd, da0, da1, da2⟩ := div_t (u := u) u1 u2 A B
  refine Ev.bind hd ?_
  have K : d.2.2 = false → d.1 ≤ qlo u x y ∧ qhi u x y ≤ d.2.1 := by
    intro h
    obtain ⟨e1, e2, e3⟩ := da1.mp h
    have := hx e1
    have := hy e2
    exact (da2 h).all x y ⟨by omega, by omega, by omega, by omega⟩
  by_cases c : y < 0
  · refine pos_ev c ?_
    rw [w64_id (x := -x) (by omega) (by omega), w64_id (x := -y) (by omega) (by omega)]
    refine j2_ev u1 u2 A da0 (by omega) (by omega) (by omega) (fun h => .inr (by have := hx h; omega)) fun h _ => ?_
    have := K h
    unfold qlo qhi at this
    rw [if_neg (by omega), if_neg (by omega)] at this
    exact this
  · refine neg_ev c (j2_ev u1 u2 A da0 x0 x1 y1 (fun h => .inl (hx h)) fun h hy0 => ?_)
    have := K h
    unfold qlo qhi at this
    rw [if_pos hy0, if_pos hy0] at this
    exact this

theorem j0_ev {p q r s x y u : Int} {pu ru : Bool} (u1 : 1 ≤ u) (u2 : u ≤ 1000) (A : okt 1048576 p q pu) (B : okt 1048576 r s ru) (x0 : -1048576 ≤ x) (x1 : x ≤ 1048576) (y0 : -1048576 ≤ y) (y1 : y ≤ 1048576)
    (hx : pu = false → p ≤ x ∧ x ≤ q) (hy : ru = false → r ≤ y ∧ y ≤ s) :
    Ev (fun k => spykeep1_BoundIncludes.j0 k x y u false p q pu r s ru) true := by
  refine Ev.step (fun k => by rw [spykeep1_BoundIncludes.j0, if_neg (by decide)]) ?_
  obtain ⟨m, hm, m0, m1, m2⟩ := mul_t (u := u) u1 u2 A B
  obtain ⟨c, hc, c0, c1, c2⟩ := scale_t (n := y) (u := u) u1 u2 A y0 y1
  have h1 := prod_in x0 x1 y0 y1
  have g := uq_ge (x * y) u
  have M : m.2.2 = false → m.1 ≤ x * y / u ∧ upq (x * y) u ≤ m.2.1 := by
    intro h
    have h' := h
    rw [m1] at h'
    have e1 : pu = false := by cases pu <;> simp_all
    have e2 : ru = false := by cases ru <;> simp_all
    have := hx e1
    have := hy e2
    exact (m2 h).all x y ⟨by omega, by omega, by omega, by omega⟩
  have C : c.2.2 = false → c.1 ≤ x * y / u ∧ upq (x * y) u ≤ c.2.1 := by
    intro h
    have h' := h
    rw [c1] at h'
    have := hx h'
    exact (c2 h).all x y ⟨by omega, by omega, Int.le_refl _, Int.le_refl _⟩
  have J := j1_ev u1 u2 A B x0 x1 y0 y1 hx hy
  rw [w64_id (x := x * y) (by omega) (by omega)]
  have F := floordiv (a := x * y) (d := u) (by omega) (by omega) u1
  have G := ceildiv (a := x * y) (d := u) (by omega) (by omega) u1
  refine Ev.bind hm (Ev.bind hc ?_)
  refine some_ev F (Ev.bind (has1 (Int.le_refl _) m0 fun h => by have := M h; omega) (pos_ev rfl ?_))
  refine some_ev G (Ev.bind (has1 (Int.le_refl _) m0 fun h => by have := M h; omega) (pos_ev rfl ?_))
  refine some_ev F (Ev.bind (has1 (Int.le_refl _) c0 fun h => by have := C h; omega) (pos_ev rfl ?_))
  exact some_ev G (Ev.bind (has1 (Int.le_refl _) c0 fun h => by have := C h; omega) J)

theorem BoundIncludes : spykeep1_BoundIncludes.Pure := by
  intro l a1 hm _ _ w1
  have hl : l.length ≤ 9223372036854775807 := by have h := hm; unfold maxLen at h; omega
  refine Ev.rounds (r := true) ?_
  obtain ⟨p, q, pu, i1, hA, i10, i11, A⟩ := bound_api_Fix l (p := 0) (m := 1048576) hl (by decide) (by decide) (by decide) (by decide)
  obtain ⟨r, s, ru, i2, hB, i20, i21, B⟩ := bound_api_Fix l (p := i1) (m := 1024) hl (by omega) (by omega) (by decide) (by decide)
  have A1 : okt 1152921504606846976 p q pu := by rcases A with A | ⟨x, y, z, w⟩; exact .inl A; exact .inr ⟨x, by omega, z, by omega⟩
  have B1 : okt 1152921504606846976 r s ru := by rcases B with A | ⟨x, y, z, w⟩; exact .inl A; exact .inr ⟨x, by omega, z, by omega⟩
  obtain ⟨x, x', xu, i3, hC, i30, i31, C⟩ := within_api_Fix l (p := i2) (lo := p) (hi := q) (u := pu) hl (by omega) (by omega) A1
  obtain ⟨y, y', yu, i4, hD, i40, i41, D⟩ := within_api_Fix l (p := i3) (lo := r) (hi := s) (u := ru) hl (by omega) (by omega) B1
  have A2 : okt 1048576 p q pu := A
  have B2 : okt 1048576 r s ru := by rcases B with A | ⟨x, y, z, w⟩; exact .inl A; exact .inr ⟨x, by omega, z, by omega⟩
  have kA := known A2
  have kB := known B2
  have hx : pu = false → p ≤ x ∧ x ≤ q := by
    intro h
    rcases C with ⟨h0, h1, h2, h3⟩ | ⟨h0, h1, h2, h3⟩
    · rw [h] at h3; cases h3
    · have := h3 h; omega
  have hy : ru = false → r ≤ y ∧ y ≤ s := by
    intro h
    rcases D with ⟨h0, h1, h2, h3⟩ | ⟨h0, h1, h2, h3⟩
    · rw [h] at h3; cases h3
    · have := h3 h; omega
  have xb : -1048576 ≤ x ∧ x ≤ 1048576 := by
    cases hp : pu
    · have := hx hp; have := kA hp; omega
    · rcases C with ⟨h0, h1, h2, h3⟩ | ⟨h0, h1, h2, h3⟩
      · omega
      · have := h1 hp; omega
  have yb : -1048576 ≤ y ∧ y ≤ 1048576 := by
    cases hp : ru
    · have := hy hp; have := kB hp; omega
    · rcases D with ⟨h0, h1, h2, h3⟩ | ⟨h0, h1, h2, h3⟩
      · omega
      · have := h1 hp; omega
  obtain ⟨m, hu, u0, u1⟩ := below_in (a := a1) (n := 1000) (by decide) (by decide)
  obtain ⟨u, eu⟩ : ∃ u, u = 1 + m := ⟨_, rfl⟩
  have J0 := j0_ev (u := u) (by omega) (by omega) A2 B2 xb.1 xb.2 yb.1 yb.2 hx hy
  obtain ⟨R, hR, R0, R1⟩ := sum3 A2 B2
  have V := abs_t (by decide) A2
  have H := hull_t (M := 1048576) (by decide) A2 B2
  have X := le_mx x (-x)
  unfold spykeep1_BoundIncludes.f
  refine some_ev hA (some_ev hB (some_ev hC (some_ev hD (some_ev hu (Ev.bind boundFact_ev (pos_ev rfl ?_))))))
  simp only
  rw [w64_id (x := 1 + m) (by omega) (by omega), ← eu, w64_id (x := x + y) (by omega) (by omega), w64_id (x := x - y) (by omega) (by omega), w64_id (x := -x) (by omega) (by omega), w64_id (x := x + y + x) (by omega) (by omega)]
  refine Ev.bind (add_t (M := 1048576) (by decide) A2 B2) (Ev.bind (has2 fun h1 h2 => ?_) (pos_ev rfl ?_))
  · have := kA h1; have := kB h2; have := hx h1; have := hy h2; omega
  refine Ev.bind (sub_t (M := 1048576) (by decide) A2 B2) (Ev.bind (has2 fun h1 h2 => ?_) (pos_ev rfl ?_))
  · have := kA h1; have := kB h2; have := hx h1; have := hy h2; omega
  refine Ev.bind (neg_t (M := 1048576) (by decide) A2) (Ev.bind (by rw [negb_eq]; exact has2 fun h1 h2 => by have := kA h1; have := hx h1; omega) (pos_ev rfl ?_))
  refine Ev.bind V (Ev.bind (by
    rw [absb_eq]
    refine has2 fun h1 h2 => ?_
    have := kA h1
    have := abs_has (.inl (hx h1))
    have := abs_facts (lo := p) (hi := q) (by omega)
    omega) (pos_ev rfl ?_))
  have X1 := mn_le x y
  have X3 := le_mx x y
  have Y1 := mn_le p r
  have Y2 := mn_le q s
  have Y3 := le_mx p r
  have Y4 := le_mx q s
  refine Ev.bind (min_t (M := 1048576) (by decide) A2 B2) (Ev.bind (has2 fun h1 h2 => ?_) (pos_ev rfl ?_))
  · have := kA h1; have := kB h2; have := hx h1; have := hy h2; omega
  refine Ev.bind (max_t (M := 1048576) (by decide) A2 B2) (Ev.bind (has2 fun h1 h2 => ?_) (pos_ev rfl ?_))
  · have := kA h1; have := kB h2; have := hx h1; have := hy h2; omega
  refine Ev.bind H (Ev.bind (has2 fun h1 h2 => ?_) (pos_ev rfl ?_))
  · have := kA h1; have := kB h2; have := hx h1; have := hy h2; omega
  refine Ev.bind H (Ev.bind (has2 fun h1 h2 => ?_) (pos_ev rfl ?_))
  · have := kA h1; have := kB h2; have := hx h1; have := hy h2; omega
  refine some_ev hR (Ev.bind (has1 (by decide) R0 fun h => ?_) ?_)
  · obtain ⟨e1, e2, e3, e4⟩ := R1 h
    have := hx e1; have := hy e2; omega
  exact J0
end Go.Proofs.Ytpophefonhpnmaa.PureBoundIncludes
namespace Go.Proofs.Ytpophefonhpnmaa.Pure
theorem BoundIncludes : Go.Proofs.Ytpophefonhpnmaa.Q.spykeep1_BoundIncludes.Pure := Go.Proofs.Ytpophefonhpnmaa.PureBoundIncludes.BoundIncludes
end Go.Proofs.Ytpophefonhpnmaa.Pure
end
