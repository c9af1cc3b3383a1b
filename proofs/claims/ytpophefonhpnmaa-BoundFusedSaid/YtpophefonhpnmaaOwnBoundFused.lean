/- This session's own texts KBoundFusedM1 KBoundFusedM2 KBoundFusedM3 KBoundFusedM4 KBoundFusedM5 KBoundFusedBL1 KBoundFusedST1 KBoundFusedBD0 KBoundFusedBDFix KBoundFusedBDFix2 KBoundFusedBDFixH KBoundFusedBDFixI KBoundFusedFU0 KBoundFusedFUFix KBoundFusedPureBoundFused, one after the other. -/
import Derived.Test.YtpophefonhpnmaaKBoundFusedQx28
import Derived.Test.YtpophefonhpnmaaKBoundFusedQx24
import Derived.Test.YtpophefonhpnmaaKBoundFusedQx7
import Derived.Test.YtpophefonhpnmaaKBoundFusedQx27
import Derived.Test.YtpophefonhpnmaaKBoundFusedQx26
import Derived.Test.YtpophefonhpnmaaKBoundFusedQx25
import Derived.Test.YtpophefonhpnmaaKBoundFusedQx17
import Derived.Test.YtpophefonhpnmaaKBoundFusedQx18
import Derived.Test.YtpophefonhpnmaaKBoundFusedQx19
import Derived.Test.YtpophefonhpnmaaKBoundFusedQx3
import Derived.Test.YtpophefonhpnmaaKBoundFusedQx6
import Derived.Test.YtpophefonhpnmaaKBoundFusedQx8
import Derived.Test.YtpophefonhpnmaaKBoundFusedQx16
import Derived.Test.YtpophefonhpnmaaKBoundFusedQx13
import Derived.Test.YtpophefonhpnmaaKBoundFusedQx15
import Derived.Test.YtpophefonhpnmaaKBoundFusedQx14
import Derived.Test.YtpophefonhpnmaaKBoundFusedQx12

section
/- Wrapping, shifts and products of 64 bits: what the printed functions of math/bits compute; no other condition than those that each statement names. -/
namespace Go.Proofs.Ytpophefonhpnmaa.Q
open Go.RowKit Go.Proofs.YtpophefonhpnmaaW.PrintWords Go.Proofs.YtpophefonhpnmaaW.PrintLast Go.Proofs.YtpophefonhpnmaaW.PrintMore
set_option linter.unusedVariables false
set_option linter.unusedSimpArgs false

theorem uw (x : Int) : IntKind.u64.wrap x = x % 18446744073709551616 := u64_wrap_eq x
theorem uw_id {x : Int} (h0 : 0 ≤ x) (h1 : x < 18446744073709551616) : IntKind.u64.wrap x = x := by rw [uw]; omega
theorem w64_id {x : Int} (h0 : -9223372036854775808 ≤ x) (h1 : x < 9223372036854775808) : wrap64 x = x := by unfold wrap64; omega
theorem uw_wrap64 (x : Int) : wrap64 (IntKind.u64.wrap x) = wrap64 x := by rw [uw]; unfold wrap64; omega

theorem u64_mask32 {x : Int} (h0 : 0 ≤ x) (h1 : x < 18446744073709551616) : Go.bits .and .u64 x 4294967295 = x % 4294967296 :=
  Go.bits_mask .u64 64 (by decide) (fun n h h' => by rw [uw]; omega) 32 (by decide) x h0 h1

theorem mul64 {a b : Int} (a0 : 0 ≤ a) (a1 : a < 18446744073709551616) (b0 : 0 ≤ b) (b1 : b < 18446744073709551616) :
    bits_Mul64.f a b = some (a * b / 18446744073709551616, a * b % 18446744073709551616) := by
  unfold bits_Mul64.f
  rw [u64_mask32 a0 a1, u64_mask32 b0 b1]
  generalize hx1 : a / 4294967296 = x1
  generalize hx0 : a % 4294967296 = x0
  generalize hy1 : b / 4294967296 = y1
  generalize hy0 : b % 4294967296 = y0
  have hx : a = x1 * 4294967296 + x0 := by omega
  have hy : b = y1 * 4294967296 + y0 := by omega
  have p : ∀ {u v : Int}, 0 ≤ u → u ≤ 4294967295 → 0 ≤ v → v ≤ 4294967295 → 0 ≤ u * v ∧ u * v ≤ 18446744065119617025 := by
    intro u v hu0 hu1 hv0 hv1
    refine ⟨Int.mul_nonneg hu0 hv0, ?_⟩
    have := Int.mul_le_mul hu1 hv1 hv0 (by omega)
    omega
  have q11 := p (u := x1) (v := y1) (by omega) (by omega) (by omega) (by omega)
  have q10 := p (u := x1) (v := y0) (by omega) (by omega) (by omega) (by omega)
  have q01 := p (u := x0) (v := y1) (by omega) (by omega) (by omega) (by omega)
  have q00 := p (u := x0) (v := y0) (by omega) (by omega) (by omega) (by omega)
  have e : a * b = x1 * y1 * 18446744073709551616 + (x1 * y0 + x0 * y1) * 4294967296 + x0 * y0 := by
    rw [hx, hy]; grind
  rw [e]
  generalize x1 * y1 = P at *
  generalize x1 * y0 = Q at *
  generalize x0 * y1 = R at *
  generalize x0 * y0 = S at *
  rw [uw_id (x := S) (by omega) (by omega), uw_id (x := Q) (by omega) (by omega), uw_id (x := R) (by omega) (by omega), uw_id (x := P) (by omega) (by omega),
    uw_id (x := Q + S / 4294967296) (by omega) (by omega), u64_mask32 (by omega) (by omega), uw, uw, uw]
  congr 2 <;> omega

theorem size_some {a : Int} (h0 : -9223372036854775808 ≤ a) (h1 : a < 9223372036854775808) : num_size.f a = some (if a < 0 then -a else a) := by
  unfold num_size.f
  split
  · rw [uw, uw]; congr 1; omega
  · rw [uw]; congr 1; omega
end Go.Proofs.Ytpophefonhpnmaa.Q
end

section
/- The number of leading zeros of a number of 64 bits, and the quotient of 128 by 64 bits: what the printed functions of math/bits compute, for every divisor greater than the upper half. -/
namespace Go.Proofs.Ytpophefonhpnmaa.Q
open Go.RowKit Go.Proofs.YtpophefonhpnmaaW.PrintWords Go.Proofs.YtpophefonhpnmaaW.PrintLast Go.Proofs.YtpophefonhpnmaaW.PrintMore
set_option linter.unusedVariables false
set_option linter.unusedSimpArgs false

set_option maxRecDepth 100000 in
def len8 : ByteArray := ⟨#[0, 1, 2, 2, 3, 3, 3, 3, 4, 4, 4, 4, 4, 4, 4, 4, 5, 5, 5, 5, 5, 5, 5, 5, 5, 5, 5, 5, 5, 5, 5, 5, 6, 6, 6, 6, 6, 6, 6, 6, 6, 6, 6, 6, 6, 6, 6, 6, 6, 6, 6, 6, 6, 6, 6, 6, 6, 6, 6, 6, 6, 6, 6, 6, 7, 7, 7, 7, 7, 7, 7, 7, 7, 7, 7, 7, 7, 7, 7, 7, 7, 7, 7, 7, 7, 7, 7, 7, 7, 7, 7, 7, 7, 7, 7, 7, 7, 7, 7, 7, 7, 7, 7, 7, 7, 7, 7, 7, 7, 7, 7, 7, 7, 7, 7, 7, 7, 7, 7, 7, 7, 7, 7, 7, 7, 7, 7, 7, 8, 8, 8, 8, 8, 8, 8, 8, 8, 8, 8, 8, 8, 8, 8, 8, 8, 8, 8, 8, 8, 8, 8, 8, 8, 8, 8, 8, 8, 8, 8, 8, 8, 8, 8, 8, 8, 8, 8, 8, 8, 8, 8, 8, 8, 8, 8, 8, 8, 8, 8, 8, 8, 8, 8, 8, 8, 8, 8, 8, 8, 8, 8, 8, 8, 8, 8, 8, 8, 8, 8, 8, 8, 8, 8, 8, 8, 8, 8, 8, 8, 8, 8, 8, 8, 8, 8, 8, 8, 8, 8, 8, 8, 8, 8, 8, 8, 8, 8, 8, 8, 8, 8, 8, 8, 8, 8, 8, 8, 8, 8, 8, 8, 8, 8, 8, 8, 8, 8, 8, 8, 8, 8, 8, 8, 8, 8, 8]⟩
set_option maxRecDepth 100000 in
theorem len8_eq : (⟨#[0, 1, 2, 2, 3, 3, 3, 3, 4, 4, 4, 4, 4, 4, 4, 4, 5, 5, 5, 5, 5, 5, 5, 5, 5, 5, 5, 5, 5, 5, 5, 5, 6, 6, 6, 6, 6, 6, 6, 6, 6, 6, 6, 6, 6, 6, 6, 6, 6, 6, 6, 6, 6, 6, 6, 6, 6, 6, 6, 6, 6, 6, 6, 6, 7, 7, 7, 7, 7, 7, 7, 7, 7, 7, 7, 7, 7, 7, 7, 7, 7, 7, 7, 7, 7, 7, 7, 7, 7, 7, 7, 7, 7, 7, 7, 7, 7, 7, 7, 7, 7, 7, 7, 7, 7, 7, 7, 7, 7, 7, 7, 7, 7, 7, 7, 7, 7, 7, 7, 7, 7, 7, 7, 7, 7, 7, 7, 7, 8, 8, 8, 8, 8, 8, 8, 8, 8, 8, 8, 8, 8, 8, 8, 8, 8, 8, 8, 8, 8, 8, 8, 8, 8, 8, 8, 8, 8, 8, 8, 8, 8, 8, 8, 8, 8, 8, 8, 8, 8, 8, 8, 8, 8, 8, 8, 8, 8, 8, 8, 8, 8, 8, 8, 8, 8, 8, 8, 8, 8, 8, 8, 8, 8, 8, 8, 8, 8, 8, 8, 8, 8, 8, 8, 8, 8, 8, 8, 8, 8, 8, 8, 8, 8, 8, 8, 8, 8, 8, 8, 8, 8, 8, 8, 8, 8, 8, 8, 8, 8, 8, 8, 8, 8, 8, 8, 8, 8, 8, 8, 8, 8, 8, 8, 8, 8, 8, 8, 8, 8, 8, 8, 8, 8, 8, 8, 8]⟩ : ByteArray) = len8 := rfl
def len8ok (i : Nat) : Bool := let n := bt len8 (i : Int); decide (0 ≤ n) && decide (n ≤ 8) && decide ((i : Int) < 2 ^ n.toNat) && (i == 0 || decide ((2 : Int) ^ n.toNat ≤ 2 * i))
theorem len8_all : (List.range 256).all len8ok = true := by decide +kernel
theorem len8_at {i : Int} (h0 : 0 ≤ i) (h1 : i < 256) : ∃ m : Nat, m ≤ 8 ∧ bt len8 i = m ∧ i < 2 ^ m ∧ (0 < i → (2 : Int) ^ m ≤ 2 * i) := by
  obtain ⟨n, rfl⟩ := Int.eq_ofNat_of_zero_le h0
  have h := List.all_eq_true.mp len8_all n (by simp; omega)
  unfold len8ok at h
  simp only [Bool.and_eq_true, Bool.or_eq_true, decide_eq_true_eq, beq_iff_eq] at h
  obtain ⟨⟨⟨a, b⟩, c⟩, d⟩ := h
  refine ⟨(bt len8 (n : Int)).toNat, by omega, by omega, c, fun hp => ?_⟩
  rcases d with d | d
  · omega
  · exact d

set_option maxRecDepth 100000 in
theorem len64_j0 {x n : Int} (h0 : 0 ≤ x) (h1 : x < 4294967296) (n0 : 0 ≤ n) (n1 : n ≤ 32) (k : Nat) :
    ∃ m : Nat, m ≤ 32 ∧ bits_Len64.j0 (k + 1) x n = some (n + m) ∧ x < 2 ^ m ∧ (0 < x → (2 : Int) ^ m ≤ 2 * x) := by
  rw [bits_Len64.j0.eq_2, len8_eq]
  by_cases a : x ≥ 65536
  · rw [if_pos a]
    by_cases b : x / 65536 ≥ 256
    · rw [if_pos b, if_pos (by omega), if_pos (by omega)]
      obtain ⟨m, m1, m2, m3, m4⟩ := len8_at (i := ((x / 65536) / 256) % 256) (by omega) (by omega)
      refine ⟨m + 24, by omega, ?_, ?_, ?_⟩
      · rw [m2]; congr 1; unfold wrap64; omega
      · rw [Int.pow_add]; generalize (2 : Int) ^ m = P at *; omega
      · intro _; rw [Int.pow_add]; generalize (2 : Int) ^ m = P at *; omega
    · rw [if_neg b, if_pos (by omega), if_pos (by omega)]
      obtain ⟨m, m1, m2, m3, m4⟩ := len8_at (i := (x / 65536) % 256) (by omega) (by omega)
      refine ⟨m + 16, by omega, ?_, ?_, ?_⟩
      · rw [m2]; congr 1; unfold wrap64; omega
      · rw [Int.pow_add]; generalize (2 : Int) ^ m = P at *; omega
      · intro _; rw [Int.pow_add]; generalize (2 : Int) ^ m = P at *; omega
  · rw [if_neg a]
    by_cases b : x ≥ 256
    · rw [if_pos b, if_pos (by omega), if_pos (by omega)]
      obtain ⟨m, m1, m2, m3, m4⟩ := len8_at (i := (x / 256) % 256) (by omega) (by omega)
      refine ⟨m + 8, by omega, ?_, ?_, ?_⟩
      · rw [m2]; congr 1; unfold wrap64; omega
      · rw [Int.pow_add]; generalize (2 : Int) ^ m = P at *; omega
      · intro _; rw [Int.pow_add]; generalize (2 : Int) ^ m = P at *; omega
    · rw [if_neg b, if_pos (by omega), if_pos (by omega)]
      obtain ⟨m, m1, m2, m3, m4⟩ := len8_at (i := x % 256) (by omega) (by omega)
      refine ⟨m, by omega, ?_, ?_, ?_⟩
      · rw [m2]; congr 1; unfold wrap64; omega
      · generalize (2 : Int) ^ m = P at *; omega
      · intro _; generalize (2 : Int) ^ m = P at *; omega

theorem len64 {x : Int} (h0 : 0 ≤ x) (h1 : x < 18446744073709551616) (k : Nat) :
    ∃ m : Nat, m ≤ 64 ∧ bits_Len64.f (k + 1) x = some (m : Int) ∧ x < 2 ^ m ∧ (0 < x → (2 : Int) ^ m ≤ 2 * x) := by
  unfold bits_Len64.f
  by_cases a : x ≥ 4294967296
  · rw [if_pos a]
    obtain ⟨m, m1, m2, m3, m4⟩ := len64_j0 (x := x / 4294967296) (n := 32) (by omega) (by omega) (by omega) (by omega) k
    refine ⟨m + 32, by omega, ?_, ?_, ?_⟩
    · rw [m2]; congr 1; omega
    · rw [Int.pow_add]; generalize (2 : Int) ^ m = P at *; omega
    · intro _; rw [Int.pow_add]; generalize (2 : Int) ^ m = P at *; omega
  · rw [if_neg a]
    obtain ⟨m, m1, m2, m3, m4⟩ := len64_j0 (x := x) (n := 0) (by omega) (by omega) (by omega) (by omega) k
    refine ⟨m, by omega, ?_, m3, m4⟩
    rw [m2]; congr 1; omega

/-- The leading zeros: shifted by them, a number fills 64 bits. -/
theorem lz64 {y : Int} (h0 : 0 < y) (h1 : y < 18446744073709551616) (k : Nat) :
    ∃ s : Nat, s ≤ 63 ∧ bits_LeadingZeros64.f (k + 1) y = some (s : Int) ∧ 9223372036854775808 ≤ y * 2 ^ s ∧ y * 2 ^ s < 18446744073709551616 := by
  obtain ⟨m, m1, m2, m3, m4⟩ := len64 (by omega) h1 k
  have hm : 1 ≤ m := by
    rcases m with _ | m
    · simp at m3; omega
    · omega
  refine ⟨64 - m, by omega, ?_, ?_, ?_⟩
  · unfold bits_LeadingZeros64.f
    rw [m2]; simp only [Option.bind_some]; congr 1; unfold wrap64; omega
  · have e : (2 : Int) ^ m * 2 ^ (64 - m) = 18446744073709551616 := by rw [← Int.pow_add, show m + (64 - m) = 64 by omega]; decide
    have p : (0 : Int) < 2 ^ (64 - m) := Int.pow_pos (by decide)
    have := Int.mul_le_mul_of_nonneg_right (m4 h0) (Int.le_of_lt p)
    rw [e, Int.mul_assoc] at this
    omega
  · have e : (2 : Int) ^ m * 2 ^ (64 - m) = 18446744073709551616 := by rw [← Int.pow_add, show m + (64 - m) = 64 by omega]; decide
    have p : (0 : Int) < 2 ^ (64 - m) := Int.pow_pos (by decide)
    have := Int.mul_lt_mul_of_pos_right m3 p
    omega
end Go.Proofs.Ytpophefonhpnmaa.Q
end

section
/- The quotient and the remainder of a number of 128 bits by one of 64 bits: math/bits.Div64 as printed, for every divisor greater than the upper half. -/
namespace Go.Proofs.Ytpophefonhpnmaa.Q
open Go.RowKit Go.Proofs.YtpophefonhpnmaaW.PrintWords Go.Proofs.YtpophefonhpnmaaW.PrintLast Go.Proofs.YtpophefonhpnmaaW.PrintMore
set_option linter.unusedVariables false
set_option linter.unusedSimpArgs false

theorem ev_fun {α : Type} {g : Nat → Option α} {r r' : α} (h : Ev g r) (e : r = r') : Ev g r' := e ▸ h

/-- One step of the search for a digit, in plain numbers. -/
theorem digit_facts {Y y1 y0 u A n1 q r : Int} (hY : Y = y1 * 4294967296 + y0) (h1 : 2147483648 ≤ y1) (h2 : y1 < 4294967296) (h3 : 0 ≤ y0) (h4 : y0 < 4294967296)
    (hn : 0 ≤ n1) (hn' : n1 < 4294967296) (hA : A = u * 4294967296 + n1) (hu : 0 ≤ u) (huY : u < Y) (hr : r = u - q * y1) (hr0 : 0 ≤ r) (hq1 : q ≤ 4294967297) (hq : A / Y ≤ q) :
    (q ≥ 4294967296 → A / Y ≤ q - 1) ∧ (q * y0 > 4294967296 * r + n1 → A / Y ≤ q - 1) ∧ (q < 4294967296 → ¬ q * y0 > 4294967296 * r + n1 → A / Y = q)
    ∧ (A / Y ≤ q - 1 → r + y1 ≥ 4294967296 → A / Y = q - 1) ∧ 0 ≤ A / Y ∧ A / Y < 4294967296 := by
  have hYp : 0 < Y := by omega
  have hA0 : 0 ≤ A := by omega
  have hQ0 : 0 ≤ A / Y := Int.ediv_nonneg hA0 (by omega)
  have hQ1 : A / Y < 4294967296 := by
    rw [Int.ediv_lt_iff_lt_mul hYp]; omega
  have eU : q * Y = A - n1 - r * 4294967296 + q * y0 := by
    rw [hY, hA, hr]; grind
  have k := Int.le_ediv_iff_mul_le (a := q) (b := A) hYp
  have k' := Int.le_ediv_iff_mul_le (a := q - 1) (b := A) hYp
  have eU' : (q - 1) * Y = q * Y - Y := by grind
  refine ⟨by omega, fun h => ?_, fun _ h => ?_, fun hle hr1 => ?_, hQ0, hQ1⟩
  · rcases Int.lt_or_le (A / Y) q with h' | h'
    · omega
    · have := k.mp h'; omega
  · have : q * Y ≤ A := by omega
    have := k.mpr this; omega
  · have b : (q - 1) * y0 ≤ 4294967296 * 4294967295 := Int.mul_le_mul (by omega) (by omega) h3 (by omega)
    have e : (q - 1) * y0 = q * y0 - y0 := by grind
    have : (q - 1) * Y ≤ A := by omega
    have := k'.mpr this; omega

theorem div_l0 {Y s y1 y0 u n1 n0 : Int} {R : Int × Int} (hY : Y = y1 * 4294967296 + y0) (h1 : 2147483648 ≤ y1) (h2 : y1 < 4294967296) (h3 : 0 ≤ y0) (h4 : y0 < 4294967296)
    (hn : 0 ≤ n1) (hn' : n1 < 4294967296) (hu : 0 ≤ u) (huY : u < Y) (H : Ev (fun k => bits_Div64.j2 k Y s y1 y0 u n1 n0 ((u * 4294967296 + n1) / Y)) R) (n : Nat) :
    ∀ q r : Int, r = u - q * y1 → 0 ≤ r → r < 4294967296 → q ≤ 4294967297 → (u * 4294967296 + n1) / Y ≤ q → 4294967296 - r ≤ n → Ev (fun k => bits_Div64.l0 k Y s y1 y0 u n1 n0 q r) R := by
  induction n with
  | zero => intro q r _ _ _ _ _ _; omega
  | succ n ih =>
    intro q r hr hr0 hr1 hq1 hq hm
    obtain ⟨f1, f2, f3, f4, f5, f6⟩ := digit_facts hY h1 h2 h3 h4 hn hn' rfl hu huY hr hr0 hq1 hq
    generalize hA : (u * 4294967296 + n1) / Y = Q at *
    have go : Q ≤ q - 1 → Ev (fun k => bits_Div64.j1 k Y s y1 y0 u n1 n0 q r true) R := by
      intro hle
      by_cases c : r + y1 ≥ 4294967296
      · refine Ev.step (fun k => by rw [bits_Div64.j1, if_pos rfl, uw_id (x := r + y1) (by omega) (by omega), if_pos c, uw_id (x := q - 1) (by omega) (by omega)]) ?_
        rw [← f4 hle c]; exact H
      · refine Ev.step (fun k => by rw [bits_Div64.j1, if_pos rfl, uw_id (x := r + y1) (by omega) (by omega), if_neg c, uw_id (x := q - 1) (by omega) (by omega)]) ?_
        exact ih (q - 1) (r + y1) (by rw [hr]; grind) (by omega) (by omega) (by omega) hle (by omega)
    by_cases c : q ≥ 4294967296
    · exact Ev.step (fun k => by rw [bits_Div64.l0, if_pos c]) (go (f1 c))
    · have b0 : 0 ≤ q * y0 := Int.mul_nonneg (by omega) h3
      have b1 : q * y0 ≤ 4294967295 * 4294967295 := Int.mul_le_mul (by omega) (by omega) h3 (by omega)
      have e : decide ((IntKind.u64.wrap (q * y0)) > (IntKind.u64.wrap ((IntKind.u64.wrap (4294967296 * r)) + n1))) = decide (q * y0 > 4294967296 * r + n1) := by
        rw [uw_id (x := q * y0) b0 (by omega), uw_id (x := 4294967296 * r) (by omega) (by omega), uw_id (by omega) (by omega)]
      by_cases d : q * y0 > 4294967296 * r + n1
      · exact Ev.step (fun k => by rw [bits_Div64.l0, if_neg c, e, decide_eq_true d]) (go (f2 d))
      · refine Ev.step (fun k => by rw [bits_Div64.l0, if_neg c, e, decide_eq_false d]) ?_
        refine Ev.step (fun k => by rw [bits_Div64.j1, if_neg (by decide)]) ?_
        rw [← f3 (by omega) d]; exact H

theorem div_end {Y y1 u n0 q1 s A : Int} (hY0 : 0 < Y) (hY1 : Y < 18446744073709551616) (hA : A = u * 4294967296 + n0) (hq1 : 0 ≤ q1) (hq1' : q1 < 4294967296) (hQ : 0 ≤ A / Y) (hQ1 : A / Y < 4294967296) :
    (IntKind.u64.wrap ((IntKind.u64.wrap (q1 * 4294967296)) + A / Y), shr .u64 (IntKind.u64.wrap ((IntKind.u64.wrap ((IntKind.u64.wrap (u * 4294967296)) + n0)) - (IntKind.u64.wrap ((A / Y) * Y)))) s)
      = (q1 * 4294967296 + A / Y, shr .u64 (A % Y) s) := by
  have h := Int.emod_add_mul_ediv A Y
  have h0 := Int.emod_nonneg A (show Y ≠ 0 by omega)
  have h1 := Int.emod_lt_of_pos A hY0
  have hc : Y * (A / Y) = A / Y * Y := Int.mul_comm _ _
  rw [hc] at h
  generalize A / Y * Y = P at *
  generalize A / Y = Q at *
  have e : (u * 4294967296 % 18446744073709551616 + n0) % 18446744073709551616 = A % 18446744073709551616 := by rw [hA]; omega
  rw [uw, uw, uw, uw, uw, uw, e]
  congr 1
  · omega
  · congr 1; omega

theorem div_l1 {Y s y1 y0 u n0 q1 : Int} (hY : Y = y1 * 4294967296 + y0) (h1 : 2147483648 ≤ y1) (h2 : y1 < 4294967296) (h3 : 0 ≤ y0) (h4 : y0 < 4294967296)
    (hn : 0 ≤ n0) (hn' : n0 < 4294967296) (hu : 0 ≤ u) (huY : u < Y) (hq1 : 0 ≤ q1) (hq1' : q1 < 4294967296) (hs : 0 ≤ s) (n : Nat) :
    ∀ q r : Int, r = u - q * y1 → 0 ≤ r → r < 4294967296 → q ≤ 4294967297 → (u * 4294967296 + n0) / Y ≤ q → 4294967296 - r ≤ n →
      Ev (fun k => bits_Div64.l1 k Y s y1 y0 n0 q1 r u q) (q1 * 4294967296 + (u * 4294967296 + n0) / Y, shr .u64 ((u * 4294967296 + n0) % Y) s) := by
  induction n with
  | zero => intro q r _ _ _ _ _ _; omega
  | succ n ih =>
    intro q r hr hr0 hr1 hq1 hq hm
    obtain ⟨f1, f2, f3, f4, f5, f6⟩ := digit_facts hY h1 h2 h3 h4 hn hn' rfl hu huY hr hr0 hq1 hq
    have fin := div_end (Y := Y) (y1 := y1) (u := u) (n0 := n0) (q1 := q1) (s := s) (by omega) (by omega) rfl (by omega) (by omega) f5 f6
    generalize hA : u * 4294967296 + n0 = A at *
    have go : A / Y ≤ q - 1 → Ev (fun k => bits_Div64.j4 k Y s y1 y0 n0 q1 r u q true) (q1 * 4294967296 + A / Y, shr .u64 (A % Y) s) := by
      intro hle
      by_cases c : r + y1 ≥ 4294967296
      · have e := f4 hle c
        refine Ev.step (f := fun _ => some (q1 * 4294967296 + A / Y, shr .u64 (A % Y) s)) (fun k => ?_) (Ev.now _)
        rw [bits_Div64.j4, if_pos rfl, uw_id (x := r + y1) (by omega) (by omega), if_pos c, uw_id (x := q - 1) (by omega) (by omega), if_pos hs, ← e]
        rw [fin]
      · refine Ev.step (fun k => by rw [bits_Div64.j4, if_pos rfl, uw_id (x := r + y1) (by omega) (by omega), if_neg c, uw_id (x := q - 1) (by omega) (by omega)]) ?_
        exact ih (q - 1) (r + y1) (by rw [hr]; grind) (by omega) (by omega) (by omega) hle (by omega)
    by_cases c : q ≥ 4294967296
    · exact Ev.step (fun k => by rw [bits_Div64.l1, if_pos c]) (go (f1 c))
    · have b0 : 0 ≤ q * y0 := Int.mul_nonneg (by omega) h3
      have b1 : q * y0 ≤ 4294967295 * 4294967295 := Int.mul_le_mul (by omega) (by omega) h3 (by omega)
      have e : decide ((IntKind.u64.wrap (q * y0)) > (IntKind.u64.wrap ((IntKind.u64.wrap (4294967296 * r)) + n0))) = decide (q * y0 > 4294967296 * r + n0) := by
        rw [uw_id (x := q * y0) b0 (by omega), uw_id (x := 4294967296 * r) (by omega) (by omega), uw_id (by omega) (by omega)]
      by_cases d : q * y0 > 4294967296 * r + n0
      · exact Ev.step (fun k => by rw [bits_Div64.l1, if_neg c, e, decide_eq_true d]) (go (f2 d))
      · refine Ev.step (fun k => by rw [bits_Div64.l1, if_neg c, e, decide_eq_false d]) ?_
        have e := f3 (by omega) d
        refine Ev.step (f := fun _ => some (q1 * 4294967296 + A / Y, shr .u64 (A % Y) s)) (fun k => ?_) (Ev.now _)
        rw [bits_Div64.j4, if_neg (by decide), if_pos hs, ← e]
        rw [fin]

theorem tdiv_eq {a b : Int} (ha : 0 ≤ a) : Int.tdiv a b = a / b := Int.tdiv_eq_ediv_of_nonneg ha
theorem tmod_eq {a b : Int} (ha : 0 ≤ a) : Int.tmod a b = a % b := Int.tmod_eq_emod_of_nonneg ha

/-- The first guess of a digit. -/
theorem guess {Y y1 y0 u A n1 : Int} (hY : Y = y1 * 4294967296 + y0) (h1 : 2147483648 ≤ y1) (h2 : y1 < 4294967296) (h3 : 0 ≤ y0) (h4 : y0 < 4294967296)
    (hn : 0 ≤ n1) (hn' : n1 < 4294967296) (hA : A = u * 4294967296 + n1) (hu : 0 ≤ u) (huY : u < Y) :
    0 ≤ u / y1 ∧ u / y1 ≤ 4294967297 ∧ A / Y ≤ u / y1 ∧ u - u / y1 * y1 = u % y1 ∧ 0 ≤ u % y1 ∧ u % y1 < 4294967296 := by
  have e := Int.emod_add_mul_ediv u y1
  have e0 := Int.emod_nonneg u (show y1 ≠ 0 by omega)
  have e1 := Int.emod_lt_of_pos u (show 0 < y1 by omega)
  have e2 : y1 * (u / y1) = u / y1 * y1 := Int.mul_comm _ _
  refine ⟨Int.ediv_nonneg hu (by omega), ?_, ?_, by omega, e0, by omega⟩
  · have : u / y1 < 4294967298 := by rw [Int.ediv_lt_iff_lt_mul (by omega)]; omega
    omega
  · -- (A / Y) * Y ≤ A, hence (A / Y) * y1 * 2^32 ≤ A, hence (A / Y) * y1 ≤ u
    have hYp : 0 < Y := by omega
    have k := (Int.le_ediv_iff_mul_le (a := A / Y) (b := A) hYp).mp (Int.le_refl _)
    have hQ0 : 0 ≤ A / Y := Int.ediv_nonneg (by omega) (by omega)
    have m0 : 0 ≤ A / Y * y0 := Int.mul_nonneg hQ0 h3
    have eU : A / Y * Y = A / Y * y1 * 4294967296 + A / Y * y0 := by
      generalize A / Y = Q; rw [hY]; grind
    rw [Int.le_ediv_iff_mul_le (by omega)]
    omega

theorem div_j2 {Y s y1 y0 u n1 n0 : Int} (hY : Y = y1 * 4294967296 + y0) (h1 : 2147483648 ≤ y1) (h2 : y1 < 4294967296) (h3 : 0 ≤ y0) (h4 : y0 < 4294967296)
    (hn : 0 ≤ n1) (hn' : n1 < 4294967296) (hm : 0 ≤ n0) (hm' : n0 < 4294967296) (hu : 0 ≤ u) (huY : u < Y) (hs : 0 ≤ s) :
    Ev (fun k => bits_Div64.j2 k Y s y1 y0 u n1 n0 ((u * 4294967296 + n1) / Y))
      ((u * 18446744073709551616 + n1 * 4294967296 + n0) / Y, shr .u64 ((u * 18446744073709551616 + n1 * 4294967296 + n0) % Y) s) := by
  have hYp : 0 < Y := by omega
  have h := Int.emod_add_mul_ediv (u * 4294967296 + n1) Y
  have h0 := Int.emod_nonneg (u * 4294967296 + n1) (show Y ≠ 0 by omega)
  have h1' := Int.emod_lt_of_pos (u * 4294967296 + n1) hYp
  have hc : Y * ((u * 4294967296 + n1) / Y) = (u * 4294967296 + n1) / Y * Y := Int.mul_comm _ _
  have hQ0 : 0 ≤ (u * 4294967296 + n1) / Y := Int.ediv_nonneg (by omega) (by omega)
  have hQ1 : (u * 4294967296 + n1) / Y < 4294967296 := by rw [Int.ediv_lt_iff_lt_mul hYp]; omega
  generalize hQ : (u * 4294967296 + n1) / Y = Q1 at *
  generalize hV : (u * 4294967296 + n1) % Y = V at *
  have eV : IntKind.u64.wrap ((IntKind.u64.wrap ((IntKind.u64.wrap (u * 4294967296)) + n1)) - (IntKind.u64.wrap (Q1 * Y))) = V := by
    rw [uw, uw, uw, uw]; omega
  obtain ⟨g0, g1, g2, g3, g4, g5⟩ := guess (A := V * 4294967296 + n0) hY h1 h2 h3 h4 hm hm' rfl h0 h1'
  have eN : u * 18446744073709551616 + n1 * 4294967296 + n0 = V * 4294967296 + n0 + (Q1 * 4294967296) * Y := by
    have : (Q1 * 4294967296) * Y = Q1 * Y * 4294967296 := by grind
    omega
  have eD : (u * 18446744073709551616 + n1 * 4294967296 + n0) / Y = Q1 * 4294967296 + (V * 4294967296 + n0) / Y := by
    rw [eN, Int.add_mul_ediv_right _ _ (by omega)]; omega
  have eM : (u * 18446744073709551616 + n1 * 4294967296 + n0) % Y = (V * 4294967296 + n0) % Y := by
    rw [eN, Int.add_mul_emod_self_right]
  rw [eD, eM]
  refine Ev.step (f := fun k => bits_Div64.l1 k Y s y1 y0 n0 Q1 (V % y1) V (V / y1)) (fun k => ?_) ?_
  · rw [bits_Div64.j2, if_neg (by omega), eV, tdiv_eq h0, uw_id (x := V / y1) g0 (by omega)]
    rw [uw, uw]
    congr 1
    omega
  · exact div_l1 hY h1 h2 h3 h4 hm hm' h0 h1' hQ0 hQ1 hs 4294967296 _ _ g3.symm g4 g5 g1 g2 (by omega)
end Go.Proofs.Ytpophefonhpnmaa.Q
end

section
/- math/bits.Div64 as printed returns the quotient and the remainder of hi * 2^64 + lo by y, for every y greater than hi. -/
namespace Go.Proofs.Ytpophefonhpnmaa.Q
open Go.RowKit Go.Proofs.YtpophefonhpnmaaW.PrintWords Go.Proofs.YtpophefonhpnmaaW.PrintLast Go.Proofs.YtpophefonhpnmaaW.PrintMore
set_option linter.unusedVariables false
set_option linter.unusedSimpArgs false

theorem shl64 {x : Int} {s : Nat} (hs : s ≤ 64) : shl .u64 x (s : Int) = (x * 2 ^ s) % 18446744073709551616 := by
  unfold shl; rw [uw, Int.toNat_natCast, show IntKind.u64.bits = 64 from rfl, Nat.min_eq_left hs]
theorem shr64 {x : Int} {s : Nat} (hs : s ≤ 64) : shr .u64 x (s : Int) = x / 2 ^ s := by
  unfold shr; rw [Int.toNat_natCast, show IntKind.u64.bits = 64 from rfl, Nat.min_eq_left hs]

theorem div64 {hi lo y : Int} (h0 : 0 ≤ hi) (h1 : hi < y) (h2 : y < 18446744073709551616) (l0 : 0 ≤ lo) (l1 : lo < 18446744073709551616) :
    Ev (fun k => bits_Div64.f k hi lo y) ((hi * 18446744073709551616 + lo) / y, (hi * 18446744073709551616 + lo) % y) := by
  by_cases hz : hi = 0
  · subst hz
    refine Ev.congr (f := fun _ => some (lo / y, lo % y)) (fun k => ?_) ?_
    · unfold bits_Div64.f
      rw [if_neg (by omega), if_neg (by omega), if_pos rfl, tdiv_eq l0, tmod_eq l0, uw_id (Int.ediv_nonneg l0 (by omega))]
      have := Int.ediv_le_self y l0
      omega
    · rw [show 0 * 18446744073709551616 + lo = lo by omega]; exact Ev.now _
  · obtain ⟨K, hK⟩ : ∃ K, ∀ k, K ≤ k → bits_Div64.f k hi lo y = some ((hi * 18446744073709551616 + lo) / y, (hi * 18446744073709551616 + lo) % y) := by
      obtain ⟨s, hs, hsv, hY0, hY1⟩ := lz64 (y := y) (by omega) h2 0
      have hsE : Ev (fun k => bits_LeadingZeros64.f k y) (s : Int) := Ev.of (fun k => bits_LeadingZeros64.mono _ _) hsv
      have hP : (0 : Int) < 2 ^ s := Int.pow_pos (by decide)
      have hPP : (2 : Int) ^ s * 2 ^ (64 - s) = 18446744073709551616 := by rw [← Int.pow_add, show s + (64 - s) = 64 by omega]; decide
      have hP' : (0 : Int) < 2 ^ (64 - s) := Int.pow_pos (by decide)
      have hb : hi * 2 ^ s < y * 2 ^ s := Int.mul_lt_mul_of_pos_right h1 hP
      have hb0 : 0 ≤ hi * 2 ^ s := Int.mul_nonneg h0 (by omega)
      have hlo0 : 0 ≤ lo * 2 ^ s := Int.mul_nonneg l0 (by omega)
      -- the low part of the dividend that moves up
      have hdl : lo / 2 ^ (64 - s) = lo * 2 ^ s / 18446744073709551616 := by
        rw [← hPP, Int.mul_comm lo, Int.mul_ediv_mul_of_pos _ _ hP]
      have hlt : lo * 2 ^ s < 18446744073709551616 * 2 ^ s := Int.mul_lt_mul_of_pos_right l1 hP
      have hdlt : lo * 2 ^ s / 18446744073709551616 < 2 ^ s := by
        rw [Int.ediv_lt_iff_lt_mul (by decide), Int.mul_comm (2 ^ s)]; exact hlt
      have hd0 : 0 ≤ lo * 2 ^ s / 18446744073709551616 := Int.ediv_nonneg hlo0 (by decide)
      have e1 : shl .u64 y (s : Int) = y * 2 ^ s := by rw [shl64 (by omega)]; omega
      have e2 : shl .u64 hi (s : Int) = hi * 2 ^ s := by rw [shl64 (by omega)]; omega
      have e3 : shl .u64 lo (s : Int) = lo * 2 ^ s % 18446744073709551616 := shl64 (by omega)
      have e4 : shr .u64 lo (IntKind.u64.wrap (64 - IntKind.u64.wrap (s : Int))) = lo * 2 ^ s / 18446744073709551616 := by
        rw [uw_id (x := (s : Int)) (by omega) (by omega), uw_id (by omega) (by omega), show (64 : Int) - (s : Int) = ((64 - s : Nat) : Int) by omega, shr64 (by omega), hdl]
      have hle : hi * 2 ^ s + 2 ^ s ≤ y * 2 ^ s := by
        have := Int.mul_le_mul_of_nonneg_right (show hi + 1 ≤ y by omega) (Int.le_of_lt hP)
        rw [Int.add_mul, Int.one_mul] at this; exact this
      have e5 : Go.bits .or .u64 (hi * 2 ^ s) (lo * 2 ^ s / 18446744073709551616) = hi * 2 ^ s + lo * 2 ^ s / 18446744073709551616 :=
        Go.bits_join .u64 64 (by decide) (fun n h h' => by rw [uw]; omega) s _ _ hb0 (Int.mul_emod_left _ _) (by omega) hd0 hdlt (by omega)
      -- the whole
      have key := div_j2 (Y := y * 2 ^ s) (s := (s : Int)) (y1 := y * 2 ^ s / 4294967296) (y0 := y * 2 ^ s % 4294967296) (u := hi * 2 ^ s + lo * 2 ^ s / 18446744073709551616)
        (n1 := lo * 2 ^ s % 18446744073709551616 / 4294967296) (n0 := lo * 2 ^ s % 18446744073709551616 % 4294967296)
        (by omega) (by omega) (by omega) (by omega) (by omega) (by omega) (by omega) (by omega) (by omega) (by omega) (by omega) (by omega)
      have hN : (hi * 2 ^ s + lo * 2 ^ s / 18446744073709551616) * 18446744073709551616 + lo * 2 ^ s % 18446744073709551616 / 4294967296 * 4294967296 + lo * 2 ^ s % 18446744073709551616 % 4294967296
          = (hi * 18446744073709551616 + lo) * 2 ^ s := by
        have : (hi * 18446744073709551616 + lo) * 2 ^ s = hi * 2 ^ s * 18446744073709551616 + lo * 2 ^ s := by grind
        omega
      have eM : (hi * 18446744073709551616 + lo) * 2 ^ s % (y * 2 ^ s) = (hi * 18446744073709551616 + lo) % y * 2 ^ s := by
        rw [Int.mul_comm _ (2 ^ s), Int.mul_comm y, Int.mul_emod_mul_of_pos _ _ hP, Int.mul_comm]
      rw [hN, Int.mul_ediv_mul_of_pos_left _ _ hP, eM, shr64 (by omega), Int.mul_ediv_cancel _ (by omega)] at key
      obtain ⟨g0, g1, g2, g3, g4, g5⟩ := guess (Y := y * 2 ^ s) (y1 := y * 2 ^ s / 4294967296) (y0 := y * 2 ^ s % 4294967296) (u := hi * 2 ^ s + lo * 2 ^ s / 18446744073709551616)
        (A := (hi * 2 ^ s + lo * 2 ^ s / 18446744073709551616) * 4294967296 + lo * 2 ^ s % 18446744073709551616 / 4294967296) (n1 := lo * 2 ^ s % 18446744073709551616 / 4294967296)
        (by omega) (by omega) (by omega) (by omega) (by omega) (by omega) (by omega) rfl (by omega) (by omega)
      have key2 := div_l0 (Y := y * 2 ^ s) (s := (s : Int)) (y1 := y * 2 ^ s / 4294967296) (y0 := y * 2 ^ s % 4294967296) (u := hi * 2 ^ s + lo * 2 ^ s / 18446744073709551616)
        (n1 := lo * 2 ^ s % 18446744073709551616 / 4294967296) (n0 := lo * 2 ^ s % 18446744073709551616 % 4294967296)
        (by omega) (by omega) (by omega) (by omega) (by omega) (by omega) (by omega) (by omega) (by omega) key 4294967296 _ _ g3.symm g4 g5 g1 g2 (by omega)
      obtain ⟨K1, h1'⟩ := hsE
      obtain ⟨K2, h2'⟩ := key2
      refine ⟨max K1 K2, fun k hk => ?_⟩
      unfold bits_Div64.f
      rw [if_neg (by omega), if_neg (by omega), if_neg hz, show bits_LeadingZeros64.f k y = some (s : Int) from h1' k (by omega)]
      simp only [Option.bind_some]
      rw [e4, uw_id (x := (s : Int)) (by omega) (by omega), if_pos (by omega), uw_id (x := 64 - (s : Int)) (by omega) (by omega), if_pos (by omega), e1, e2, e3, e5,
        if_neg (by omega), u64_mask32 (by omega) (by omega), u64_mask32 (by omega) (by omega), tdiv_eq (by omega), uw_id (x := _ / _) g0 (by omega), uw, uw]
      have hmm : ((hi * 2 ^ s + lo * 2 ^ s / 18446744073709551616) - (hi * 2 ^ s + lo * 2 ^ s / 18446744073709551616) / (y * 2 ^ s / 4294967296) * (y * 2 ^ s / 4294967296) % 18446744073709551616) % 18446744073709551616
          = (hi * 2 ^ s + lo * 2 ^ s / 18446744073709551616) % (y * 2 ^ s / 4294967296) := by omega
      rw [hmm]
      exact h2' k (by omega)
    exact ⟨K, hK⟩
end Go.Proofs.Ytpophefonhpnmaa.Q
end

section
/- Package num of the program in plain numbers: products of 128 bits, their sums, order, quotients and remainders; the bounds stand in each statement. -/
-- AUTO
namespace Go.Proofs.Ytpophefonhpnmaa.Q
open Go.RowKit Go.Proofs.YtpophefonhpnmaaW.PrintWords Go.Proofs.YtpophefonhpnmaaW.PrintLast Go.Proofs.YtpophefonhpnmaaW.PrintMore
set_option linter.unusedVariables false
set_option linter.unusedSimpArgs false

/-- What a product of two numbers of 64 bits lies between. -/
theorem prod_bd {a b : Int} (a0 : -9223372036854775808 ≤ a) (a1 : a < 9223372036854775808) (b0 : -9223372036854775808 ≤ b) (b1 : b < 9223372036854775808) :
    -85070591730234615865843651857942052864 ≤ a * b ∧ a * b ≤ 85070591730234615865843651857942052864 := by
  have h : (a * b).natAbs ≤ 9223372036854775808 * 9223372036854775808 := by
    rw [Int.natAbs_mul]; exact Nat.mul_le_mul (by omega) (by omega)
  omega

theorem wide_neg {v : Int} (h0 : -170141183460469231731687303715884105728 < v) (h1 : v < 170141183460469231731687303715884105728) :
    num_Wide_Neg.f (v / 18446744073709551616) (v % 18446744073709551616) = some (-v / 18446744073709551616, -v % 18446744073709551616) := by
  unfold num_Wide_Neg.f
  rw [if_pos (by omega), if_pos (by omega)]
  congr 2
  · unfold wrap64; omega
  · omega

theorem product {a b : Int} (a0 : -9223372036854775808 ≤ a) (a1 : a < 9223372036854775808) (b0 : -9223372036854775808 ≤ b) (b1 : b < 9223372036854775808) :
    num_Product.f a b = some (a * b / 18446744073709551616, a * b % 18446744073709551616) := by
  have hb := prod_bd a0 a1 b0 b1
  unfold num_Product.f
  rw [size_some a0 a1, size_some b0 b1]
  simp only [Option.bind_some]
  rw [mul64 (by split <;> omega) (by split <;> omega) (by split <;> omega) (by split <;> omega)]
  simp only [Option.bind_some]
  by_cases ha : a < 0 <;> by_cases hc : b < 0
  · rw [if_pos ha, if_pos hc, if_neg (by simp [ha, hc]), Int.neg_mul_neg]
    congr 2
    unfold wrap64; omega
  · rw [if_pos ha, if_neg hc, if_pos (by simp [ha]; omega), Int.neg_mul, w64_id (by omega) (by omega), wide_neg (by omega) (by omega)]
    simp only [Option.bind_some, Int.neg_neg]
  · rw [if_neg ha, if_pos hc, if_pos (by simp [hc]; omega), Int.mul_neg, w64_id (by omega) (by omega), wide_neg (by omega) (by omega)]
    simp only [Option.bind_some, Int.neg_neg]
  · rw [if_neg ha, if_neg hc, if_neg (by simp [ha, hc])]
    congr 2
    unfold wrap64; omega

/-- Division of a negative number: by that of the opposite one. -/
theorem neg_div {v d : Int} (hd : 0 < d) : v / d = (if -v % d = 0 then -(-v / d) else -(-v / d) - 1) ∧ v % d = (if -v % d = 0 then 0 else d - -v % d) := by
  have e := Int.emod_add_mul_ediv (-v) d
  have h0 := Int.emod_nonneg (-v) (show d ≠ 0 by omega)
  have h1 := Int.emod_lt_of_pos (-v) hd
  split
  · exact (Int.ediv_emod_unique hd).mpr ⟨by rw [Int.mul_neg]; omega, by omega, by omega⟩
  · exact (Int.ediv_emod_unique hd).mpr ⟨by rw [Int.mul_sub, Int.mul_neg]; omega, by omega, by omega⟩

theorem div_bd {v d : Int} (h0 : 0 ≤ v) (hd : 0 < d) : 0 ≤ v / d ∧ v / d ≤ v := ⟨Int.ediv_nonneg h0 (by omega), Int.ediv_le_self d h0⟩

theorem bind_ev {α β : Type} {g : Nat → Option α} {f : Nat → α → Option β} {a : α} {r : β} (h : Ev g a) (k : Ev (fun n => f n a) r) : Ev (fun n => (g n).bind (f n)) r := Ev.bind h k
theorem one_ev {α : Type} {g : Nat → Option α} {r : α} (h : ∀ k, g (k + 1) = some r) : Ev g r := Ev.step (f := fun _ => some r) h (Ev.now _)
theorem now_ev {α : Type} {g : Nat → Option α} {r : α} (h : ∀ k, g k = some r) : Ev g r := Ev.congr (f := fun _ => some r) h (Ev.now _)

theorem wide_div_j1 {p r : Int} (neg : Bool) {h l : Int} (hn : (h < 0) = (neg = true)) (hp0 : 0 ≤ p) (hp1 : p < 18446744073709551616) (hr : 0 ≤ r) :
    Ev (fun k => num_Wide_Div.j1 k p r (if neg then (if r > 0 then 9223372036854775807 else 9223372036854775808) else 9223372036854775807) h l)
      (if neg then (if r = 0 then (if p ≤ 9223372036854775808 then (-p, 0) else (0, 2)) else (if p ≤ 9223372036854775807 then (-p - 1, 0) else (0, 2)))
        else (if p ≤ 9223372036854775807 then (p, 0) else (0, 2))) := by
  refine one_ev fun k => ?_
  rw [num_Wide_Div.j1]
  cases neg
  · have hh : ¬ h < 0 := by rw [hn]; decide
    simp only [Bool.false_eq_true, if_false]
    by_cases c : p ≤ 9223372036854775807
    · rw [if_neg (by omega), if_pos (by omega), if_pos c, w64_id (by omega) (by omega)]
    · rw [if_pos (by omega), if_neg c]
  · have hh : h < 0 := by rw [hn]
    simp only [if_true]
    by_cases z : r = 0
    · rw [if_neg (show ¬ r > 0 by omega), if_pos z]
      by_cases c : p ≤ 9223372036854775808
      · rw [if_neg (by omega), if_neg (by omega), if_neg (by omega), if_pos c, uw_wrap64, w64_id (by omega) (by omega)]
      · rw [if_pos (by omega), if_neg c]
    · rw [if_pos (show r > 0 by omega), if_neg z]
      by_cases c : p ≤ 9223372036854775807
      · rw [if_neg (by omega), if_neg (by omega), if_pos (by omega), if_pos c, uw_wrap64, w64_id (x := -p) (by omega) (by omega), w64_id (by omega) (by omega)]
      · rw [if_pos (by omega), if_neg c]

theorem some_ev {α β : Type} {g : Option α} {f : Nat → α → Option β} {a : α} {r : β} (h : g = some a) (k : Ev (fun n => f n a) r) : Ev (fun n => g.bind (f n)) r := by
  subst h; exact k
theorem pos_ev {α : Type} {c : Prop} [Decidable c] {g f : Nat → Option α} {r : α} (h : c) (k : Ev g r) : Ev (fun n => if c then g n else f n) r := by
  simp only [if_pos h]; exact k
theorem neg_ev {α : Type} {c : Prop} [Decidable c] {g f : Nat → Option α} {r : α} (h : ¬ c) (k : Ev f r) : Ev (fun n => if c then g n else f n) r := by
  simp only [if_neg h]; exact k

/-- Whether a number has 64 bits, with sign. -/
def fits (n : Int) : Bool := decide (-9223372036854775808 ≤ n) && decide (n ≤ 9223372036854775807)

theorem wide_div {v d : Int} (h0 : -170141183460469231731687303715884105728 ≤ v) (h1 : v < 170141183460469231731687303715884105728) (hd1 : d < 9223372036854775808) :
    Ev (fun k => num_Wide_Div.f k (v / 18446744073709551616) (v % 18446744073709551616) d) (if d < 1 then (0, 1) else if fits (v / d) then (v / d, 0) else (0, 2)) := by
  by_cases hd : d < 1
  · rw [if_pos hd]; exact now_ev fun k => by unfold num_Wide_Div.f; rw [if_pos hd]
  rw [if_neg hd]
  have hdp : 0 < d := by omega
  by_cases hv : v < 0
  · by_cases hm : v = -170141183460469231731687303715884105728
    · subst hm
      have hf : fits (-170141183460469231731687303715884105728 / d) = false := by
        have : -170141183460469231731687303715884105728 / d < -9223372036854775808 := by rw [Int.ediv_lt_iff_lt_mul hdp]; omega
        unfold fits; rw [decide_eq_false (by omega)]; rfl
      rw [hf]
      refine Ev.congr (f := fun k => num_Wide_Div.j0 k d (-9223372036854775808) 0 (-9223372036854775808) 0) (fun k => ?_) ?_
      · unfold num_Wide_Div.f
        rw [if_neg hd, if_pos (by omega)]
        have : num_Wide_Neg.f (-170141183460469231731687303715884105728 / 18446744073709551616) (-170141183460469231731687303715884105728 % 18446744073709551616) = some (-9223372036854775808, 0) := by decide +kernel
        rw [this]
        rfl
      · refine one_ev fun k => ?_
        rw [num_Wide_Div.j0, if_pos (by rw [uw, uw]; omega)]
        rfl
    · have b := div_bd (v := -v) (d := d) (by omega) hdp
      have nd := neg_div (v := v) hdp
      have h0' := Int.emod_nonneg (-v) (show d ≠ 0 by omega)
      refine Ev.congr (f := fun k => num_Wide_Div.j0 k d (v / 18446744073709551616) (v % 18446744073709551616) (-v / 18446744073709551616) (-v % 18446744073709551616)) (fun k => ?_) ?_
      · unfold num_Wide_Div.f
        rw [if_neg hd, if_pos (by omega), wide_neg (by omega) (by omega)]
        rfl
      · by_cases c : -v / 18446744073709551616 ≥ d
        · have hq : 18446744073709551616 ≤ -v / d := by rw [Int.le_ediv_iff_mul_le hdp]; omega
          have hf : fits (v / d) = false := by
            unfold fits; rw [decide_eq_false (by rw [nd.1]; split <;> omega)]; rfl
          rw [hf]
          refine one_ev fun k => ?_
          rw [num_Wide_Div.j0, if_pos (by rw [uw, uw]; omega)]
          rfl
        · have D := div64 (hi := -v / 18446744073709551616) (lo := -v % 18446744073709551616) (y := d) (by omega) (by omega) (by omega) (by omega) (by omega)
          rw [show -v / 18446744073709551616 * 18446744073709551616 + -v % 18446744073709551616 = -v by omega] at D
          have hq : -v / d < 18446744073709551616 := by rw [Int.ediv_lt_iff_lt_mul hdp]; omega
          have J := wide_div_j1 (p := -v / d) (r := -v % d) true (h := v / 18446744073709551616) (l := v % 18446744073709551616) (by simp; omega) b.1 hq h0'
          simp only [if_true] at J
          refine Ev.step (f := fun k => (bits_Div64.f k (-v / 18446744073709551616) (-v % 18446744073709551616) d).bind fun bt => num_Wide_Div.j1 k bt.1 bt.2 (if bt.2 > 0 then 9223372036854775807 else 9223372036854775808) (v / 18446744073709551616) (v % 18446744073709551616)) (fun k => ?_) ?_
          · rw [num_Wide_Div.j0, uw_id (x := -v / 18446744073709551616) (by omega) (by omega), uw_id (x := d) (by omega) (by omega), if_neg c]
            congr 1
            funext bt
            rw [if_pos (by omega)]
            split <;> rfl
          · refine ev_fun (Ev.bind D J) ?_
            rw [nd.1]
            unfold fits
            by_cases z : -v % d = 0
            · rw [if_pos z, if_pos z]
              by_cases y : -v / d ≤ 9223372036854775808
              · rw [if_pos y, decide_eq_true (by omega), decide_eq_true (by omega)]; rfl
              · rw [if_neg y, decide_eq_false (by omega)]; rfl
            · rw [if_neg z, if_neg z]
              by_cases y : -v / d ≤ 9223372036854775807
              · rw [if_pos y, decide_eq_true (by omega), decide_eq_true (by omega)]; rfl
              · rw [if_neg y, decide_eq_false (by omega)]; rfl
  · have b := div_bd (v := v) (d := d) (by omega) hdp
    have h0' := Int.emod_nonneg v (show d ≠ 0 by omega)
    refine Ev.congr (f := fun k => num_Wide_Div.j0 k d (v / 18446744073709551616) (v % 18446744073709551616) (v / 18446744073709551616) (v % 18446744073709551616)) (fun k => ?_) ?_
    · unfold num_Wide_Div.f
      rw [if_neg hd, if_neg (by omega)]
    · by_cases c : v / 18446744073709551616 ≥ d
      · have hq : 18446744073709551616 ≤ v / d := by rw [Int.le_ediv_iff_mul_le hdp]; omega
        have hf : fits (v / d) = false := by
          unfold fits; rw [decide_eq_true (by omega), decide_eq_false (by omega)]; rfl
        rw [hf]
        refine one_ev fun k => ?_
        rw [num_Wide_Div.j0, if_pos (by rw [uw, uw]; omega)]
        rfl
      · have D := div64 (hi := v / 18446744073709551616) (lo := v % 18446744073709551616) (y := d) (by omega) (by omega) (by omega) (by omega) (by omega)
        rw [show v / 18446744073709551616 * 18446744073709551616 + v % 18446744073709551616 = v by omega] at D
        have hq : v / d < 18446744073709551616 := by rw [Int.ediv_lt_iff_lt_mul hdp]; omega
        have J := wide_div_j1 (p := v / d) (r := v % d) false (h := v / 18446744073709551616) (l := v % 18446744073709551616) (by simp; omega) b.1 hq h0'
        simp only [Bool.false_eq_true, if_false] at J
        refine Ev.step (f := fun k => (bits_Div64.f k (v / 18446744073709551616) (v % 18446744073709551616) d).bind fun bt => num_Wide_Div.j1 k bt.1 bt.2 9223372036854775807 (v / 18446744073709551616) (v % 18446744073709551616)) (fun k => ?_) ?_
        · rw [num_Wide_Div.j0, uw_id (x := v / 18446744073709551616) (by omega) (by omega), uw_id (x := d) (by omega) (by omega), if_neg c]
          congr 1
          funext bt
          rw [if_neg (by omega)]
        · refine ev_fun (Ev.bind D J) ?_
          unfold fits
          by_cases y : v / d ≤ 9223372036854775807
          · rw [if_pos y, decide_eq_true (by omega), decide_eq_true (by omega)]; rfl
          · rw [if_neg y, decide_eq_true (by omega), decide_eq_false (by omega)]; rfl

theorem wide_mod {v d : Int} (h0 : -170141183460469231731687303715884105728 < v) (h1 : v < 170141183460469231731687303715884105728) (hd1 : d < 9223372036854775808) :
    Ev (fun k => num_Wide_Mod.f k (v / 18446744073709551616) (v % 18446744073709551616) d) (if d < 1 then 0 else v % d) := by
  by_cases hd : d < 1
  · rw [if_pos hd]; exact now_ev fun k => by unfold num_Wide_Mod.f; rw [if_pos hd]
  rw [if_neg hd]
  have hdp : 0 < d := by omega
  -- the upper half may be reduced first
  have red : ∀ u : Int, 0 ≤ u → u < 170141183460469231731687303715884105728 →
      Ev (fun k => bits_Div64.f k (Int.tmod (IntKind.u64.wrap (u / 18446744073709551616)) (IntKind.u64.wrap d)) (u % 18446744073709551616) (IntKind.u64.wrap d))
        ((u / 18446744073709551616 % d * 18446744073709551616 + u % 18446744073709551616) / d, u % d) := by
    intro u u0 u1
    have m0 := Int.emod_nonneg (u / 18446744073709551616) (show d ≠ 0 by omega)
    have m1 := Int.emod_lt_of_pos (u / 18446744073709551616) hdp
    have D := div64 (hi := u / 18446744073709551616 % d) (lo := u % 18446744073709551616) (y := d) m0 m1 (by omega) (by omega) (by omega)
    have e : (u / 18446744073709551616 % d * 18446744073709551616 + u % 18446744073709551616) % d = u % d := by
      have e1 := Int.emod_add_mul_ediv (u / 18446744073709551616) d
      have e2 : u = u / 18446744073709551616 % d * 18446744073709551616 + u % 18446744073709551616 + d * (u / 18446744073709551616 / d * 18446744073709551616) := by
        have : d * (u / 18446744073709551616 / d * 18446744073709551616) = d * (u / 18446744073709551616 / d) * 18446744073709551616 := by grind
        omega
      conv => rhs; rw [e2]
      rw [Int.add_mul_emod_self_left]
    rw [e] at D
    refine Ev.congr (fun k => ?_) D
    rw [uw_id (x := u / 18446744073709551616) (by omega) (by omega), uw_id (x := d) (by omega) (by omega), tmod_eq (by omega)]
  have hw : ¬ IntKind.u64.wrap d = 0 := by rw [uw]; omega
  by_cases hv : v < 0
  · have nd := neg_div (v := v) hdp
    have m0 := Int.emod_nonneg (-v) (show d ≠ 0 by omega)
    have m1 := Int.emod_lt_of_pos (-v) hdp
    refine Ev.congr (f := fun k => (bits_Div64.f k (Int.tmod (IntKind.u64.wrap (-v / 18446744073709551616)) (IntKind.u64.wrap d)) (-v % 18446744073709551616) (IntKind.u64.wrap d)).bind fun bt => if bt.2 > 0 then some (wrap64 (IntKind.u64.wrap (IntKind.u64.wrap d - bt.2))) else some (wrap64 bt.2)) (fun k => ?_) ?_
    · unfold num_Wide_Mod.f
      rw [if_neg hd, if_pos (by omega), wide_neg h0 h1]
      simp only [Option.bind_some]
      rw [if_neg hw]
    · refine Ev.bind (red (-v) (by omega) (by omega)) (now_ev fun k => ?_)
      rw [nd.2]
      by_cases z : -v % d = 0
      · rw [if_neg (by simp only; omega), if_pos z]; simp only [z]; decide +kernel
      · rw [if_pos (by simp only; omega), if_neg z]; simp only; congr 1; rw [uw_id (x := d) (by omega) (by omega), uw_wrap64, w64_id (by omega) (by omega)]
  · have m0 := Int.emod_nonneg v (show d ≠ 0 by omega)
    have m1 := Int.emod_lt_of_pos v hdp
    refine Ev.congr (f := fun k => (bits_Div64.f k (Int.tmod (IntKind.u64.wrap (v / 18446744073709551616)) (IntKind.u64.wrap d)) (v % 18446744073709551616) (IntKind.u64.wrap d)).bind fun bt => some (wrap64 bt.2)) (fun k => ?_) ?_
    · unfold num_Wide_Mod.f
      rw [if_neg hd, if_neg (by omega), if_neg hw]
    · refine Ev.bind (red v (by omega) (by omega)) (now_ev fun k => ?_)
      simp only; congr 1; rw [w64_id (by omega) (by omega)]

/-- The quotient, rounded up. -/
def upq (v d : Int) : Int := if v % d = 0 then v / d else v / d + 1
theorem muldiv {a b d : Int} (a0 : -9223372036854775808 ≤ a) (a1 : a < 9223372036854775808) (b0 : -9223372036854775808 ≤ b) (b1 : b < 9223372036854775808) (hd1 : d < 9223372036854775808) :
    Ev (fun k => num_MulDiv.f k a b d) (if d < 1 then (0, 1) else if fits (a * b / d) then (a * b / d, 0) else (0, 2)) := by
  have hb := prod_bd a0 a1 b0 b1
  refine Ev.congr (f := fun k => (num_Wide_Div.f k (a * b / 18446744073709551616) (a * b % 18446744073709551616) d).bind fun bt => some (bt.1, bt.2)) (fun k => ?_) ?_
  · unfold num_MulDiv.f
    rw [product a0 a1 b0 b1]; rfl
  · exact Ev.bind (wide_div (by omega) (by omega) hd1) (Ev.now _)


theorem muldivup {a b d : Int} (a0 : -9223372036854775808 ≤ a) (a1 : a < 9223372036854775808) (b0 : -9223372036854775808 ≤ b) (b1 : b < 9223372036854775808) (hd1 : d < 9223372036854775808) :
    Ev (fun k => num_MulDivUp.f k a b d) (if d < 1 then (0, 1) else if fits (a * b / d) then (if fits (upq (a * b) d) then (upq (a * b) d, 0) else (0, 2)) else (0, 2)) := by
  have hb := prod_bd a0 a1 b0 b1
  have hD := wide_div (v := a * b) (d := d) (by omega) (by omega) hd1
  have hM := wide_mod (v := a * b) (d := d) (by omega) (by omega) hd1
  generalize hv : a * b = v at *
  refine Ev.congr (f := fun k => (num_Wide_Div.f k (v / 18446744073709551616) (v % 18446744073709551616) d).bind fun bt => (if bt.2 = 0 then ((num_Wide_Mod.f k (v / 18446744073709551616) (v % 18446744073709551616) d).bind fun t => (num_MulDivUp.j0 k bt.1 bt.2 (t == 0))) else (num_MulDivUp.j0 k bt.1 bt.2 true))) (fun k => ?_) ?_
  · unfold num_MulDivUp.f
    rw [product a0 a1 b0 b1, hv]; rfl
  · refine Ev.bind hD ?_
    by_cases hd : d < 1
    · rw [if_pos hd, if_pos hd]
      exact one_ev fun k => by rw [if_neg (by decide), num_MulDivUp.j0, if_pos rfl]
    · rw [if_neg hd] at hM ⊢
      rw [if_neg hd]
      by_cases f : fits (v / d) = true
      · rw [if_pos f, if_pos f]
        simp only [if_true]
        refine Ev.bind hM ?_
        refine one_ev fun k => ?_
        rw [num_MulDivUp.j0]
        unfold upq
        unfold fits at f
        simp only [Bool.and_eq_true, decide_eq_true_eq] at f
        by_cases z : v % d = 0
        · rw [if_pos (by simp [z]), if_pos z]
          unfold fits
          rw [decide_eq_true f.1, decide_eq_true f.2]; rfl
        · rw [if_neg (by simp [z]), if_neg z]
          unfold fits
          by_cases y : v / d = 9223372036854775807
          · rw [if_pos y, decide_eq_true (by omega), decide_eq_false (by omega)]; rfl
          · rw [if_neg y, decide_eq_true (by omega), decide_eq_true (by omega), w64_id (by omega) (by omega)]; rfl
      · rw [if_neg f, if_neg f]
        exact one_ev fun k => by rw [if_neg (by decide), num_MulDivUp.j0, if_pos rfl]
end Go.Proofs.Ytpophefonhpnmaa.Q
end

section
/- What spymake.Below answers, in plain numbers. -/
namespace Go.Proofs.Ytpophefonhpnmaa.Q
open Go.RowKit Go.Proofs.YtpophefonhpnmaaW.PrintWords Go.Proofs.YtpophefonhpnmaaW.PrintLast Go.Proofs.YtpophefonhpnmaaW.PrintMore
set_option linter.unusedVariables false
set_option linter.unusedSimpArgs false

theorem below {a n : Int} (hn : 1 ≤ n) (hn1 : n < 9223372036854775808) : spymake_Below.f a n = some (a % n) := by
  unfold spymake_Below.f
  rw [if_neg (by omega), if_neg (by omega)]
  have m0 := Int.emod_nonneg a (show n ≠ 0 by omega)
  have m1 := Int.emod_lt_of_pos a (show 0 < n by omega)
  by_cases c : 0 ≤ a
  · rw [tmod_eq c, if_neg (by omega)]
  · have e : Int.tmod a n = -(-a % n) := by
      have := Int.neg_tmod (-a) n
      rw [Int.neg_neg] at this
      rw [this, tmod_eq (by omega)]
    rw [e, (show a % n = (if -a % n = 0 then 0 else n - -a % n) by
      have e1 := Int.emod_add_mul_ediv (-a) n
      have h0 := Int.emod_nonneg (-a) (show n ≠ 0 by omega)
      have h1 := Int.emod_lt_of_pos (-a) (show 0 < n by omega)
      split
      · exact ((Int.ediv_emod_unique (q := -(-a / n)) (show 0 < n by omega)).mpr ⟨by rw [Int.mul_neg]; omega, by omega, by omega⟩).2
      · exact ((Int.ediv_emod_unique (q := -(-a / n) - 1) (show 0 < n by omega)).mpr ⟨by rw [Int.mul_sub, Int.mul_neg]; omega, by omega, by omega⟩).2)]
    have h0 := Int.emod_nonneg (-a) (show n ≠ 0 by omega)
    have h1 := Int.emod_lt_of_pos (-a) (show 0 < n by omega)
    by_cases z : -a % n = 0
    · rw [if_neg (by omega), if_pos z, z]; rfl
    · rw [if_pos (by omega), if_neg z, w64_id (by omega) (by omega)]; congr 1; omega
end Go.Proofs.Ytpophefonhpnmaa.Q
end

section
/- The stream of numbers of package spymake in plain numbers: each answer lies in the range that was asked for; the bounds stand in each statement. -/
namespace Go.Proofs.Ytpophefonhpnmaa.Q
open Go.RowKit Go.Proofs.YtpophefonhpnmaaW.PrintWords Go.Proofs.YtpophefonhpnmaaW.PrintLast Go.Proofs.YtpophefonhpnmaaW.PrintMore
set_option linter.unusedVariables false
set_option linter.unusedSimpArgs false

theorem below_in {a n : Int} (hn : 1 ≤ n) (hn1 : n < 9223372036854775808) : ∃ v, spymake_Below.f a n = some v ∧ 0 ≤ v ∧ v < n :=
  ⟨a % n, below hn hn1, Int.emod_nonneg a (by omega), Int.emod_lt_of_pos a (by omega)⟩

/-- The next number lies from 0 to n - 1, and the place moves on by one. -/
theorem next_in (l : List Int) {at_ n : Int} (hl : l.length ≤ 9223372036854775807) (a0 : 0 ≤ at_) (a1 : at_ < 4611686018427387904) (n0 : 1 ≤ n) (n1 : n < 9223372036854775808) :
    ∃ v, spymake_Stream_Next.f l at_ n = some (v, at_ + 1) ∧ 0 ≤ v ∧ v < n := by
  unfold spymake_Stream_Next.f
  rw [w64_id (x := at_ + 1) (by omega) (by omega)]
  by_cases z : (l.length : Int) = 0
  · rw [if_pos z]
    obtain ⟨v, hv, v0, v1⟩ := below_in (a := wrap64 ((at_ + 1) * 7919)) n0 n1
    exact ⟨v, by rw [hv]; rfl, v0, v1⟩
  · rw [if_neg z, w64_id (x := at_ + 1 - 1) (by omega) (by omega), tmod_eq (by omega)]
    have m0 := Int.emod_nonneg (at_ + 1 - 1) z
    have m1 := Int.emod_lt_of_pos (at_ + 1 - 1) (show 0 < (l.length : Int) by omega)
    rw [if_pos m0, if_pos m1]
    obtain ⟨v, hv, v0, v1⟩ := below_in (a := rd l ((at_ + 1 - 1) % (l.length : Int))) (n := 1073741824) (by decide) (by decide)
    rw [hv]
    simp only [Option.bind_some]
    obtain ⟨v', hv', v0', v1'⟩ := below_in (a := wrap64 (v + (wrap64 ((wrap64 (Int.tdiv (at_ + 1 - 1) (l.length : Int))) * (wrap64 (7919 + ((at_ + 1 - 1) % (l.length : Int)))))))) n0 n1
    exact ⟨v', by rw [hv']; rfl, v0', v1'⟩

/-- A number of a range lies in it. -/
theorem range_in (l : List Int) {at_ lo hi : Int} (hl : l.length ≤ 9223372036854775807) (a0 : 0 ≤ at_) (a1 : at_ < 4611686018427387904) (h : lo ≤ hi) (h0 : -2305843009213693952 ≤ lo) (h1 : hi < 2305843009213693952) :
    ∃ v, spymake_Stream_Range.f l at_ lo hi = some (v, at_ + 1) ∧ lo ≤ v ∧ v ≤ hi := by
  unfold spymake_Stream_Range.f
  rw [if_neg (by omega), w64_id (x := hi - lo) (by omega) (by omega), w64_id (x := hi - lo + 1) (by omega) (by omega)]
  obtain ⟨v, hv, v0, v1⟩ := next_in l (n := hi - lo + 1) hl a0 a1 (by omega) (by omega)
  refine ⟨lo + v, ?_, by omega, by omega⟩
  rw [hv]
  simp only [Option.bind_some]
  rw [w64_id (by omega) (by omega)]
end Go.Proofs.Ytpophefonhpnmaa.Q
end

section
/- Which bounds are valid, in plain numbers; definitions alone. -/
namespace Go.Proofs.Ytpophefonhpnmaa.Q
/-- Whether a bound is valid. -/
def vb (lo hi : Int) (u : Bool) : Bool := if u then lo == 0 && hi == 0 else decide (-1152921504606846976 ≤ lo) && decide (lo ≤ hi) && decide (hi ≤ 1152921504606846976)
/-- A bound itself if it is valid, else an unknown one. -/
def nb (lo hi : Int) (u : Bool) : Int × Int × Bool := if vb lo hi u = true then (lo, hi, u) else (0, 0, true)
theorem nb_ok {lo hi : Int} (h0 : -1152921504606846976 ≤ lo) (h : lo ≤ hi) (h1 : hi ≤ 1152921504606846976) : nb lo hi false = (lo, hi, false) := by
  unfold nb vb; simp [h0, h, h1]
theorem nb_none : nb 0 0 true = (0, 0, true) := by decide
end Go.Proofs.Ytpophefonhpnmaa.Q
end

section
/- Package bound at one type of numbers in plain numbers: which bounds are valid, and what the smallest functions answer; no conditions but 64 bits where they are named. -/
namespace Go.Proofs.Ytpophefonhpnmaa.Q
open Go.RowKit Go.Proofs.YtpophefonhpnmaaW.PrintWords Go.Proofs.YtpophefonhpnmaaW.PrintLast Go.Proofs.YtpophefonhpnmaaW.PrintMore
set_option linter.unusedVariables false
set_option linter.unusedSimpArgs false

theorem check_api_Fix (lo hi : Int) (u : Bool) : ∃ e : Int, Ev (fun k => bound_Check_api_Fix.f k lo hi u) e ∧ (e = 0 ↔ vb lo hi u = true) := by
  have J1 : ∀ b : Bool, ∃ e : Int, Ev (fun k => bound_Check_api_Fix.j1 k b lo hi u) e ∧ (e = 0 ↔ (b = false ∧ lo ≤ hi)) := by
    intro b
    cases b
    · by_cases c : lo > hi
      · exact ⟨11, one_ev fun k => by rw [bound_Check_api_Fix.j1, if_neg (by decide), if_pos c], by omega⟩
      · exact ⟨0, one_ev fun k => by rw [bound_Check_api_Fix.j1, if_neg (by decide), if_neg c], by simp; omega⟩
    · exact ⟨4, one_ev fun k => by rw [bound_Check_api_Fix.j1, if_pos rfl], by simp⟩
  have J0 : ∀ b : Bool, ∃ e : Int, Ev (fun k => bound_Check_api_Fix.j0 k b lo hi u) e ∧ (e = 0 ↔ (b = false ∧ -1152921504606846976 ≤ lo ∧ lo ≤ hi ∧ hi ≤ 1152921504606846976)) := by
    intro b
    cases b
    · by_cases c : mn lo hi < -1152921504606846976
      · obtain ⟨e, he, h⟩ := J1 true
        refine ⟨e, Ev.step (fun k => by rw [bound_Check_api_Fix.j0, if_neg (by decide), if_pos c]) he, ?_⟩
        unfold mn at c
        rw [h]; simp; split at c <;> omega
      · obtain ⟨e, he, h⟩ := J1 (decide ((mx lo hi) > 1152921504606846976))
        refine ⟨e, Ev.step (fun k => by rw [bound_Check_api_Fix.j0, if_neg (by decide), if_neg c]) he, ?_⟩
        unfold mn at c
        rw [h]; unfold mx; simp only [decide_eq_false_iff_not, true_and]
        split at c <;> split <;> omega
    · exact ⟨3, one_ev fun k => by rw [bound_Check_api_Fix.j0, if_pos rfl], by simp⟩
  unfold bound_Check_api_Fix.f vb
  cases u
  · obtain ⟨e, he, h⟩ := J0 false
    refine ⟨e, Ev.congr (fun k => by rw [if_neg (by decide)]) he, ?_⟩
    rw [h]; simp; omega
  · by_cases z : lo = 0
    · obtain ⟨e, he, h⟩ := J0 (hi != 0)
      refine ⟨e, Ev.congr (fun k => by rw [if_pos rfl, if_pos z]) he, ?_⟩
      rw [h]
      simp [z]
      intro h'; omega
    · obtain ⟨e, he, h⟩ := J0 true
      refine ⟨e, Ev.congr (fun k => by rw [if_pos rfl, if_neg z]) he, ?_⟩
      rw [h]; simp [z]

theorem norm_api_Fix (lo hi : Int) (u : Bool) : Ev (fun k => bound_Norm_api_Fix.f k lo hi u) (nb lo hi u) := by
  obtain ⟨e, he, h⟩ := check_api_Fix lo hi u
  unfold bound_Norm_api_Fix.f nb
  refine Ev.bind he ?_
  by_cases c : e = 0
  · rw [if_pos (h.mp c)]; exact pos_ev c (Ev.now _)
  · rw [if_neg (fun h' => c (h.mpr h'))]; exact neg_ev c (now_ev fun k => by unfold bound_None_api_Fix.f; rfl)
end Go.Proofs.Ytpophefonhpnmaa.Q
end

section
/- Package bound at one type of numbers in plain numbers: vague and Of; no other condition. -/
namespace Go.Proofs.Ytpophefonhpnmaa.Q
open Go.RowKit Go.Proofs.YtpophefonhpnmaaW.PrintWords Go.Proofs.YtpophefonhpnmaaW.PrintLast Go.Proofs.YtpophefonhpnmaaW.PrintMore
set_option linter.unusedVariables false
set_option linter.unusedSimpArgs false

theorem vague_api_Fix (lo hi : Int) (u : Bool) (lo2 hi2 : Int) (u2 : Bool) : Ev (fun k => bound_vague_api_Fix.f k lo hi u lo2 hi2 u2) ((nb lo hi u).2.2 || (nb lo2 hi2 u2).2.2) := by
  unfold bound_vague_api_Fix.f
  refine Ev.bind (norm_api_Fix lo hi u) ?_
  by_cases c : (nb lo hi u).2.2 = true
  · rw [c]; exact pos_ev rfl (Ev.now _)
  · rw [Bool.not_eq_true] at c
    rw [c]; refine neg_ev (by decide) (Ev.bind (norm_api_Fix lo2 hi2 u2) (Ev.now _))
theorem of_api_Fix (lo hi : Int) : Ev (fun k => bound_Of_api_Fix.f k lo hi) (nb lo hi false) := by
  unfold bound_Of_api_Fix.f
  exact Ev.bind (norm_api_Fix lo hi false) (Ev.now _)
theorem nbu_api_Fix {lo hi : Int} {u : Bool} (h : (nb lo hi u).2.2 = false) : u = false := by
  cases u
  · rfl
  · unfold nb at h; split at h <;> simp_all
end Go.Proofs.Ytpophefonhpnmaa.Q
end

section
/- Package bound at one type of numbers in plain numbers: Has. -/
namespace Go.Proofs.Ytpophefonhpnmaa.Q
open Go.RowKit Go.Proofs.YtpophefonhpnmaaW.PrintWords Go.Proofs.YtpophefonhpnmaaW.PrintLast Go.Proofs.YtpophefonhpnmaaW.PrintMore
set_option linter.unusedVariables false
set_option linter.unusedSimpArgs false

theorem has_api_Fix {lo hi v : Int} {u : Bool} (h : (nb lo hi u).2.2 = false → lo ≤ v ∧ v ≤ hi) : Ev (fun k => bound_Has_api_Fix.f k lo hi u v) true := by
  unfold bound_Has_api_Fix.f
  refine Ev.bind (vague_api_Fix lo hi u lo hi u) ?_
  by_cases c : ((nb lo hi u).2.2 || (nb lo hi u).2.2) = true
  · exact pos_ev c (Ev.now _)
  · refine neg_ev c ?_
    obtain ⟨h0, h1⟩ := h (by simpa using c)
    exact pos_ev h0 (now_ev fun k => by rw [decide_eq_true h1])
end Go.Proofs.Ytpophefonhpnmaa.Q
end

section
/- Package bound at one type of numbers in plain numbers: Inside. -/
namespace Go.Proofs.Ytpophefonhpnmaa.Q
open Go.RowKit Go.Proofs.YtpophefonhpnmaaW.PrintWords Go.Proofs.YtpophefonhpnmaaW.PrintLast Go.Proofs.YtpophefonhpnmaaW.PrintMore
set_option linter.unusedVariables false
set_option linter.unusedSimpArgs false

theorem inside_api_Fix {lo hi lo2 hi2 : Int} {u u2 : Bool} (h : (nb lo2 hi2 u2).2.2 = false → (nb lo hi u).2.2 = false ∧ lo2 ≤ lo ∧ hi ≤ hi2) : Ev (fun k => bound_Inside_api_Fix.f k lo hi u lo2 hi2 u2) true := by
  unfold bound_Inside_api_Fix.f
  refine Ev.bind (vague_api_Fix lo2 hi2 u2 lo2 hi2 u2) ?_
  by_cases c : ((nb lo2 hi2 u2).2.2 || (nb lo2 hi2 u2).2.2) = true
  · exact pos_ev c (Ev.now _)
  · obtain ⟨h0, h1, h2⟩ := h (by simpa using c)
    refine neg_ev c (Ev.bind (vague_api_Fix lo hi u lo hi u) (neg_ev (by simp [h0]) (pos_ev h1 (now_ev fun k => by rw [decide_eq_true h2]))))
end Go.Proofs.Ytpophefonhpnmaa.Q
end

section
/- Small facts on lists, in plain Lean. -/
namespace Go.Proofs.Ytpophefonhpnmaa.Q
open Go.RowKit Go.Proofs.YtpophefonhpnmaaW.PrintWords Go.Proofs.YtpophefonhpnmaaW.PrintLast Go.Proofs.YtpophefonhpnmaaW.PrintMore
set_option linter.unusedVariables false
theorem rd_nat {l : List Int} {i : Nat} (h : i < l.length) : rd l (i : Int) = l[i] := by
  unfold rd; rw [Int.toNat_natCast, List.getD_eq_getElem?_getD, List.getElem?_eq_getElem h]; rfl
/-- Of some elements with a property, the one with the greatest value. -/
theorem best {α : Type} (g : α → Int) (p : α → Bool) (l : List α) : (∃ b ∈ l, p b = true) → ∃ b ∈ l, p b = true ∧ ∀ c ∈ l, p c = true → g c ≤ g b := by
  induction l with
  | nil => rintro ⟨b, hb, _⟩; simp at hb
  | cons a l ih =>
    rintro ⟨b, hb, h⟩
    by_cases e : ∃ c ∈ l, p c = true
    · obtain ⟨c, hc, h1, h2⟩ := ih e
      by_cases q : p a = true ∧ g c ≤ g a
      · refine ⟨a, by simp, q.1, fun d hd h3 => ?_⟩
        rcases List.mem_cons.mp hd with rfl | hd
        · exact Int.le_refl _
        · exact Int.le_trans (h2 d hd h3) q.2
      · refine ⟨c, by simp [hc], h1, fun d hd h3 => ?_⟩
        rcases List.mem_cons.mp hd with rfl | hd
        · have : ¬ g c ≤ g d := fun z => q ⟨h3, z⟩
          omega
        · exact h2 d hd h3
    · have ha : a = b := by
        rcases List.mem_cons.mp hb with rfl | hb
        · rfl
        · exact absurd ⟨b, hb, h⟩ e
      subst ha
      refine ⟨a, by simp, h, fun d hd h3 => ?_⟩
      rcases List.mem_cons.mp hd with rfl | hd
      · exact Int.le_refl _
      · exact absurd ⟨d, hd, h3⟩ e
end Go.Proofs.Ytpophefonhpnmaa.Q
end

section
/- The fusion of bounds at one type of numbers, in plain numbers: votes, deleting, the least and the greatest; the bounds stand in each statement. -/
namespace Go.Proofs.Ytpophefonhpnmaa.Q
open Go.RowKit Go.Proofs.YtpophefonhpnmaaW.PrintWords Go.Proofs.YtpophefonhpnmaaW.PrintLast Go.Proofs.YtpophefonhpnmaaW.PrintMore
set_option linter.unusedVariables false
set_option linter.unusedSimpArgs false
namespace UFix
/-- A bound that is valid, and not too large. -/
def okB (b : S56) : Prop := b.f2 = true ∧ b.f0 = 0 ∧ b.f1 = 0 ∨ b.f2 = false ∧ -1000000000000000 ≤ b.f0 ∧ b.f0 ≤ b.f1 ∧ b.f1 ≤ 1000000000000000
theorem okB.nb {b : S56} (h : okB b) : nb b.f0 b.f1 b.f2 = (b.f0, b.f1, b.f2) := by
  rcases h with ⟨a, c, d⟩ | ⟨a, c, d, e⟩
  · rw [a, c, d]; exact nb_none
  · rw [a]; exact nb_ok (by omega) d (by omega)
/-- Does a bound of which something is known admit v? -/
def adm (v : Int) (b : S56) : Bool := !b.f2 && (decide (b.f0 ≤ v) && decide (v ≤ b.f1))
def votes (l : List S56) (v : Int) : Nat := l.countP (adm v)
theorem rd_at {l : List S56} {i : Nat} (h : i < l.length) : rd_T56 l (i : Int) = l[i] := by
  unfold rd_T56; rw [Int.toNat_natCast, List.getD_eq_getElem?_getD, List.getElem?_eq_getElem h]; rfl
theorem votes_ev {l : List S56} (ok : ∀ b ∈ l, okB b) (hl : l.length ≤ 1000000) (v : Int) : Ev (fun k => bound_Votes_api_Fix.f k l v) (votes l v : Int) := by
  have main : ∀ (d i : Nat) (c : Int), l.length = i + d → 0 ≤ c → c ≤ i → Ev (fun k => bound_Votes_api_Fix.l0 k v c l (l.length : Int) (i : Int)) (c + (votes (l.drop i) v : Int)) := by
    intro d
    induction d with
    | zero =>
      intro i c e c0 c1
      rw [List.drop_eq_nil_of_le (by omega)]
      refine one_ev fun k => ?_
      rw [bound_Votes_api_Fix.l0, if_neg (by omega)]
      simp [votes]
    | succ d ih =>
      intro i c e c0 c1
      have hi : i < l.length := by omega
      have o := ok l[i] (List.getElem_mem hi)
      have hv := vague_api_Fix l[i].f0 l[i].f1 l[i].f2 l[i].f0 l[i].f1 l[i].f2
      rw [o.nb, Bool.or_self] at hv
      have w : wrap64 ((i : Int) + 1) = ((i + 1 : Nat) : Int) := by rw [w64_id (by omega) (by omega)]; push_cast; rfl
      have wc : wrap64 (c + 1) = c + 1 := w64_id (by omega) (by omega)
      rw [List.drop_eq_getElem_cons hi]
      refine Ev.step (fun k => by rw [bound_Votes_api_Fix.l0, if_pos (by omega), if_pos (by omega), if_pos (by omega), rd_at hi, w, wc]) ?_
      refine Ev.bind hv ?_
      by_cases u : l[i].f2 = true
      · refine pos_ev u ?_
        have a : adm v l[i] = false := by unfold adm; rw [u]; rfl
        have I := ih (i + 1) c (by omega) c0 (by omega)
        unfold votes at I ⊢
        rw [List.countP_cons_of_neg (by rw [a]; decide)]
        exact I
      · refine neg_ev u ?_
        have u' : l[i].f2 = false := Bool.not_eq_true _ ▸ u
        have H : Ev (fun k => bound_Has_api_Fix.f k l[i].f0 l[i].f1 l[i].f2 v) (adm v l[i]) := by
          unfold bound_Has_api_Fix.f
          refine Ev.bind hv (neg_ev u ?_)
          unfold adm
          rw [u']
          by_cases c : l[i].f0 ≤ v
          · rw [decide_eq_true c]; exact pos_ev c (Ev.now _)
          · rw [decide_eq_false c]; exact neg_ev c (Ev.now _)
        refine Ev.bind H ?_
        by_cases a : adm v l[i] = true
        · refine pos_ev a ?_
          have I := ih (i + 1) (c + 1) (by omega) (by omega) (by push_cast; omega)
          unfold votes at I ⊢
          rw [List.countP_cons_of_pos a]
          rw [show c + ((List.countP (adm v) (List.drop (i + 1) l) + 1 : Nat) : Int) = c + 1 + (List.countP (adm v) (List.drop (i + 1) l) : Int) by push_cast; omega]
          exact I
        · refine neg_ev a ?_
          have I := ih (i + 1) c (by omega) c0 (by omega)
          unfold votes at I ⊢
          rw [List.countP_cons_of_neg a]
          exact I
  have M := main l.length 0 0 (by omega) (Int.le_refl _) (by decide)
  rw [List.drop_zero, Int.zero_add] at M
  unfold bound_Votes_api_Fix.f
  exact M
theorem few_ev {l : List S56} (ok : ∀ b ∈ l, okB b) (hl : l.length ≤ 1000000) (need v : Int) : Ev (fun k => bound_Fuse_api_Fix_1.f k v [l] [need]) (decide ((votes l v : Int) < need)) := by
  unfold bound_Fuse_api_Fix_1.f
  refine pos_ev (by simp) (Ev.bind (votes_ev ok hl v) (pos_ev (by simp) ?_))
  exact now_ev fun k => by simp [rd]
/-- What stays of some numbers: those with enough votes. -/
def enough (l : List S56) (need : Int) (v : Int) : Bool := !decide ((votes l v : Int) < need)
theorem index_ev {l : List S56} (ok : ∀ b ∈ l, okB b) (hl : l.length ≤ 1000000) (need : Int) (xs : List Int) (hx : xs.length ≤ 1000000) :
    (Ev (fun k => slices_IndexFunc_api_Fix_api_Fix__bound_Fuse_api_Fix_1.f k xs [l] [need]) (-1) ∧ xs.filter (enough l need) = xs) ∨
    (∃ i : Nat, i < xs.length ∧ Ev (fun k => slices_IndexFunc_api_Fix_api_Fix__bound_Fuse_api_Fix_1.f k xs [l] [need]) (i : Int) ∧ (xs.take (i + 1)).filter (enough l need) = xs.take i) := by
  have main : ∀ (d i : Nat), xs.length = i + d → (xs.take i).filter (enough l need) = xs.take i →
      (Ev (fun k => slices_IndexFunc_api_Fix_api_Fix__bound_Fuse_api_Fix_1.l0 k xs (xs.length : Int) (i : Int) [l] [need]) (-1) ∧ xs.filter (enough l need) = xs) ∨
      (∃ j : Nat, j < xs.length ∧ Ev (fun k => slices_IndexFunc_api_Fix_api_Fix__bound_Fuse_api_Fix_1.l0 k xs (xs.length : Int) (i : Int) [l] [need]) (j : Int) ∧ (xs.take (j + 1)).filter (enough l need) = xs.take j) := by
    intro d
    induction d with
    | zero =>
      intro i e h
      rw [List.take_of_length_le (by omega)] at h
      refine .inl ⟨one_ev fun k => ?_, h⟩
      rw [slices_IndexFunc_api_Fix_api_Fix__bound_Fuse_api_Fix_1.l0, if_neg (by omega)]
    | succ d ih =>
      intro i e h
      have hi : i < xs.length := by omega
      have rdx : rd xs (i : Int) = xs[i] := rd_nat hi
      have w : wrap64 ((i : Int) + 1) = ((i + 1 : Nat) : Int) := by rw [w64_id (by omega) (by omega)]; push_cast; rfl
      have F := few_ev ok hl need xs[i]
      have st : ∀ r, Ev (fun k => if (decide ((votes l xs[i] : Int) < need)) = true then some (i : Int) else slices_IndexFunc_api_Fix_api_Fix__bound_Fuse_api_Fix_1.l0 k xs (xs.length : Int) ((i + 1 : Nat) : Int) [l] [need]) r → Ev (fun k => slices_IndexFunc_api_Fix_api_Fix__bound_Fuse_api_Fix_1.l0 k xs (xs.length : Int) (i : Int) [l] [need]) r := by
        intro r hr
        refine Ev.step (fun k => by rw [slices_IndexFunc_api_Fix_api_Fix__bound_Fuse_api_Fix_1.l0, if_pos (by omega), if_pos (by omega), if_pos (by omega), rdx, w]) ?_
        exact Ev.bind F hr
      by_cases c : (decide ((votes l xs[i] : Int) < need)) = true
      · refine .inr ⟨i, hi, st _ (pos_ev c (Ev.now _)), ?_⟩
        rw [List.take_succ_eq_append_getElem hi, List.filter_append, h, List.filter_cons_of_neg (by unfold enough; rw [c]; decide), List.filter_nil, List.append_nil]
      · have h2 : (xs.take (i + 1)).filter (enough l need) = xs.take (i + 1) := by
          rw [List.take_succ_eq_append_getElem hi, List.filter_append, h, List.filter_cons_of_pos (by unfold enough; rw [Bool.eq_false_iff.mpr c]; rfl), List.filter_nil]
        rcases ih (i + 1) (by omega) h2 with ⟨a, b⟩ | ⟨j, j0, a, b⟩
        · exact .inl ⟨st _ (neg_ev c a), b⟩
        · exact .inr ⟨j, j0, st _ (neg_ev c a), b⟩
  exact main xs.length 0 (by omega) (by simp)
theorem delete_ev {l : List S56} (ok : ∀ b ∈ l, okB b) (hl : l.length ≤ 1000000) (need : Int) (xs : List Int) (hx : xs.length ≤ 1000000) :
    Ev (fun k => slices_DeleteFunc_api_Fix_api_Fix__bound_Fuse_api_Fix_1.f k xs [l] [need]) (xs.filter (enough l need)) := by
  have main : ∀ (d j i : Nat) (y : List Int), xs.length = j + d → i < j → y.length = xs.length → y.take i = (xs.take j).filter (enough l need) → y.drop j = xs.drop j →
      Ev (fun k => slices_DeleteFunc_api_Fix_api_Fix__bound_Fuse_api_Fix_1.l0 k y (i : Int) (j : Int) [l] [need]) (xs.filter (enough l need)) := by
    intro d
    induction d with
    | zero =>
      intro j i y e ij ly h1 h2
      rw [List.take_of_length_le (l := xs) (by omega)] at h1
      refine one_ev fun k => ?_
      rw [slices_DeleteFunc_api_Fix_api_Fix__bound_Fuse_api_Fix_1.l0, if_neg (by omega), if_pos (by omega), if_pos (by omega), ← h1, Int.toNat_natCast]
      rw [List.take_append_of_le_length (by rw [List.length_take]; omega), List.take_take, Nat.min_self]
    | succ d ih =>
      intro j i y e ij ly h1 h2
      have hj : j < xs.length := by omega
      have hj' : j < y.length := by omega
      have yj : y[j] = xs[j] := by
        have := congrArg (fun z => z[0]?) h2
        simpa [List.getElem?_drop, List.getElem?_eq_getElem hj, List.getElem?_eq_getElem hj'] using this
      have rdy : rd y (j : Int) = xs[j] := by rw [rd_nat hj', yj]
      have w : wrap64 ((j : Int) + 1) = ((j + 1 : Nat) : Int) := by rw [w64_id (by omega) (by omega)]; push_cast; rfl
      have wi : wrap64 ((i : Int) + 1) = ((i + 1 : Nat) : Int) := by rw [w64_id (by omega) (by omega)]; push_cast; rfl
      have F := few_ev ok hl need xs[j]
      have tk : xs.take (j + 1) = xs.take j ++ [xs[j]] := List.take_succ_eq_append_getElem hj
      refine Ev.step (fun k => by rw [slices_DeleteFunc_api_Fix_api_Fix__bound_Fuse_api_Fix_1.l0, if_pos (by omega), if_pos (by omega), rdy, w, wi]) ?_
      refine Ev.bind F ?_
      have d2 : y.drop (j + 1) = xs.drop (j + 1) := by
        rw [← List.drop_drop, ← List.drop_drop, h2]
      have q1 : xs.length = j + 1 + d := by omega
      have q2 : i < j + 1 := Nat.lt_succ_of_lt ij
      have q3 : (0 : Int) ≤ (i : Int) := Int.natCast_nonneg i
      have q4 : (i : Int) < (y.length : Int) := Int.ofNat_lt.mpr (by rw [ly]; exact Nat.lt_trans ij hj)
      have q5 : i + 1 < j + 1 := Nat.succ_lt_succ ij
      have q6 : i < (y.set i xs[j]).length := by rw [List.length_set, ly]; exact Nat.lt_trans ij hj
      by_cases c : (decide ((votes l xs[j] : Int) < need)) = true
      · refine pos_ev c (ih (j + 1) i y q1 q2 ly ?_ d2)
        rw [tk, List.filter_append, ← h1, List.filter_cons_of_neg (by unfold enough; rw [c]; decide), List.filter_nil, List.append_nil]
      · refine neg_ev c (pos_ev q3 (pos_ev q4 ?_))
        rw [Int.toNat_natCast]
        refine ih (j + 1) (i + 1) (y.set i xs[j]) q1 q5 (by rw [List.length_set]; exact ly) ?_ ?_
        · rw [tk, List.filter_append, ← h1, List.filter_cons_of_pos (by unfold enough; rw [Bool.eq_false_iff.mpr c]; rfl), List.filter_nil]
          rw [List.take_succ_eq_append_getElem q6, List.take_set_of_le (Nat.le_refl _)]
          simp
        · rw [List.drop_set_of_lt q2]; exact d2
  unfold slices_DeleteFunc_api_Fix_api_Fix__bound_Fuse_api_Fix_1.f
  rcases index_ev ok hl need xs hx with ⟨a, b⟩ | ⟨i, i0, a, b⟩
  · rw [b]
    exact Ev.bind a (pos_ev rfl (Ev.now _))
  · refine Ev.bind a (neg_ev (by omega) ?_)
    rw [show wrap64 ((i : Int) + 1) = ((i + 1 : Nat) : Int) by rw [w64_id (by omega) (by omega)]; push_cast; rfl]
    exact main (xs.length - (i + 1)) (i + 1) i xs (by omega) (by omega) rfl b.symm rfl
theorem min_ev {xs : List Int} (hx : xs.length ≤ 1000000) (h : xs ≠ []) : ∃ m, m ∈ xs ∧ (∀ x ∈ xs, m ≤ x) ∧ Ev (fun k => slices_Min_api_Fix_api_Fix.f k xs) m := by
  have hp : 0 < xs.length := List.length_pos_iff.mpr h
  have main : ∀ (d i : Nat) (m : Int), xs.length = i + d → m ∈ xs → (∀ x ∈ xs.take i, m ≤ x) → ∃ r, r ∈ xs ∧ (∀ x ∈ xs, r ≤ x) ∧ Ev (fun k => slices_Min_api_Fix_api_Fix.l0 k xs m (i : Int)) r := by
    intro d
    induction d with
    | zero =>
      intro i m e hm ha
      rw [List.take_of_length_le (by omega)] at ha
      exact ⟨m, hm, ha, one_ev fun k => by rw [slices_Min_api_Fix_api_Fix.l0, if_neg (by omega)]⟩
    | succ d ih =>
      intro i m e hm ha
      have hi : i < xs.length := by omega
      have w : wrap64 ((i : Int) + 1) = ((i + 1 : Nat) : Int) := by rw [w64_id (by omega) (by omega)]; push_cast; rfl
      have q : mn m xs[i] ≤ m ∧ mn m xs[i] ≤ xs[i] ∧ (mn m xs[i] = m ∨ mn m xs[i] = xs[i]) := by unfold mn; split <;> omega
      obtain ⟨r, r0, r1, r2⟩ := ih (i + 1) (mn m xs[i]) (by omega) (by
        rcases q.2.2 with z | z
        · rw [z]; exact hm
        · rw [z]; exact List.getElem_mem hi) (by
        intro x hx'
        rw [List.take_succ_eq_append_getElem hi] at hx'
        rcases List.mem_append.mp hx' with z | z
        · have := ha x z; omega
        · simp at z; subst z; exact q.2.1)
      refine ⟨r, r0, r1, Ev.step (fun k => ?_) r2⟩
      rw [slices_Min_api_Fix_api_Fix.l0, if_pos (by omega), if_pos (by omega), rd_nat hi, w]
  obtain ⟨r, r0, r1, r2⟩ := main (xs.length - 1) 1 xs[0] (by omega) (List.getElem_mem hp) (by
    intro x hx'
    rw [List.take_succ_eq_append_getElem hp] at hx'
    simp at hx'; subst hx'; exact Int.le_refl _)
  refine ⟨r, r0, r1, ?_⟩
  unfold slices_Min_api_Fix_api_Fix.f
  refine neg_ev (by omega) (pos_ev (by omega) ?_)
  rw [show rd xs 0 = xs[0] from rd_nat (i := 0) hp]
  exact r2
theorem max_ev {xs : List Int} (hx : xs.length ≤ 1000000) (h : xs ≠ []) : ∃ m, m ∈ xs ∧ (∀ x ∈ xs, x ≤ m) ∧ Ev (fun k => slices_Max_api_Fix_api_Fix.f k xs) m := by
  have hp : 0 < xs.length := List.length_pos_iff.mpr h
  have main : ∀ (d i : Nat) (m : Int), xs.length = i + d → m ∈ xs → (∀ x ∈ xs.take i, x ≤ m) → ∃ r, r ∈ xs ∧ (∀ x ∈ xs, x ≤ r) ∧ Ev (fun k => slices_Max_api_Fix_api_Fix.l0 k xs m (i : Int)) r := by
    intro d
    induction d with
    | zero =>
      intro i m e hm ha
      rw [List.take_of_length_le (by omega)] at ha
      exact ⟨m, hm, ha, one_ev fun k => by rw [slices_Max_api_Fix_api_Fix.l0, if_neg (by omega)]⟩
    | succ d ih =>
      intro i m e hm ha
      have hi : i < xs.length := by omega
      have w : wrap64 ((i : Int) + 1) = ((i + 1 : Nat) : Int) := by rw [w64_id (by omega) (by omega)]; push_cast; rfl
      have q : m ≤ mx m xs[i] ∧ xs[i] ≤ mx m xs[i] ∧ (mx m xs[i] = m ∨ mx m xs[i] = xs[i]) := by unfold mx; split <;> omega
      obtain ⟨r, r0, r1, r2⟩ := ih (i + 1) (mx m xs[i]) (by omega) (by
        rcases q.2.2 with z | z
        · rw [z]; exact hm
        · rw [z]; exact List.getElem_mem hi) (by
        intro x hx'
        rw [List.take_succ_eq_append_getElem hi] at hx'
        rcases List.mem_append.mp hx' with z | z
        · have := ha x z; omega
        · simp at z; subst z; exact q.2.1)
      refine ⟨r, r0, r1, Ev.step (fun k => ?_) r2⟩
      rw [slices_Max_api_Fix_api_Fix.l0, if_pos (by omega), if_pos (by omega), rd_nat hi, w]
  obtain ⟨r, r0, r1, r2⟩ := main (xs.length - 1) 1 xs[0] (by omega) (List.getElem_mem hp) (by
    intro x hx'
    rw [List.take_succ_eq_append_getElem hp] at hx'
    simp at hx'; subst hx'; exact Int.le_refl _)
  refine ⟨r, r0, r1, ?_⟩
  unfold slices_Max_api_Fix_api_Fix.f
  refine neg_ev (by omega) (pos_ev (by omega) ?_)
  rw [show rd xs 0 = xs[0] from rd_nat (i := 0) hp]
  exact r2
/-- The ends of the bounds of which something is known. -/
def ends (l : List S56) : List Int := l.flatMap fun b => if b.f2 = true then [] else [b.f0, b.f1]
def known (l : List S56) : Nat := l.countP fun b => !b.f2
theorem ends_len (l : List S56) : (ends l).length = 2 * known l := by
  induction l with
  | nil => rfl
  | cons b l ih =>
    unfold ends known at *
    rw [List.flatMap_cons, List.length_append, ih]
    cases h : b.f2 <;> simp [h, List.countP_cons] <;> omega
theorem mem_ends {l : List S56} {e : Int} : e ∈ ends l ↔ ∃ b ∈ l, b.f2 = false ∧ (e = b.f0 ∨ e = b.f1) := by
  unfold ends
  rw [List.mem_flatMap]
  constructor
  · rintro ⟨b, hb, h⟩
    cases c : b.f2
    · rw [c] at h; simp at h; exact ⟨b, hb, c, h⟩
    · rw [c] at h; simp at h
  · rintro ⟨b, hb, c, h⟩
    refine ⟨b, hb, ?_⟩
    rw [c]; simpa using h
theorem fuse_ev {l : List S56} (ok : ∀ b ∈ l, okB b) (hl : l.length ≤ 100000) {f : Int} (f0 : 0 ≤ f) (f1 : f ≤ 1000000) :
    ((known l : Int) - f ≤ 0 ∧ Ev (fun k => bound_Fuse_api_Fix.f k l f) (0, 0, true)) ∨
    (0 < (known l : Int) - f ∧ (∀ e ∈ ends l, ¬ (known l : Int) - f ≤ votes l e) ∧ Ev (fun k => bound_Fuse_api_Fix.f k l f) (0, 0, true)) ∨
    (0 < (known l : Int) - f ∧ ∃ m M, Ev (fun k => bound_Fuse_api_Fix.f k l f) (m, M, false) ∧ m ∈ ends l ∧ M ∈ ends l ∧ (known l : Int) - f ≤ votes l m ∧ (known l : Int) - f ≤ votes l M ∧ (∀ e ∈ ends l, (known l : Int) - f ≤ votes l e → m ≤ e ∧ e ≤ M)) := by
  have kn : known l ≤ l.length := List.countP_le_length
  have el := ends_len l
  have main : ∀ (d i : Nat) (r : Int × Int × Bool), l.length = i + d → Ev (fun k => bound_Fuse_api_Fix.l0 k f (ends l) l (l.length : Int) (l.length : Int) l) r → Ev (fun k => bound_Fuse_api_Fix.l0 k f (ends (l.take i)) l (l.length : Int) (i : Int) l) r := by
    intro d
    induction d with
    | zero =>
      intro i r e h
      rw [List.take_of_length_le (by omega), show (i : Int) = (l.length : Int) by omega]; exact h
    | succ d ih =>
      intro i r e h
      have hi : i < l.length := by omega
      have o := ok l[i] (List.getElem_mem hi)
      have hv := vague_api_Fix l[i].f0 l[i].f1 l[i].f2 l[i].f0 l[i].f1 l[i].f2
      rw [o.nb, Bool.or_self] at hv
      have w : wrap64 ((i : Int) + 1) = ((i + 1 : Nat) : Int) := by rw [w64_id (by omega) (by omega)]; push_cast; rfl
      have I := ih (i + 1) r (by omega) h
      have tk : ends (l.take (i + 1)) = ends (l.take i) ++ (if l[i].f2 = true then [] else [l[i].f0, l[i].f1]) := by
        rw [List.take_succ_eq_append_getElem hi]; unfold ends; rw [List.flatMap_append]; simp
      have le := ends_len (l.take i)
      have lk : known (l.take i) ≤ (l.take i).length := List.countP_le_length
      rw [List.length_take] at lk
      refine Ev.step (fun k => by rw [bound_Fuse_api_Fix.l0, if_pos (by omega), if_pos (by omega), if_pos (by omega), rd_at hi, w]) ?_
      refine Ev.bind hv ?_
      by_cases u : l[i].f2 = true
      · rw [tk, if_pos u, List.append_nil] at I
        exact pos_ev u I
      · rw [tk, if_neg u] at I
        exact neg_ev u (some_ev rfl (pos_ev (by simp only [List.length_cons, List.length_nil]; omega) I))
  have start : ∀ r, Ev (fun k => bound_Fuse_api_Fix.l0 k f (ends l) l (l.length : Int) (l.length : Int) l) r → Ev (fun k => bound_Fuse_api_Fix.f k l f) r := by
    intro r h
    unfold bound_Fuse_api_Fix.f
    exact main l.length 0 r (by omega) h
  have half : wrap64 (wrap64 (((ends l).length : Int) / 2) - f) = (known l : Int) - f := by
    rw [el, w64_id (x := ((2 * known l : Nat) : Int) / 2) (by omega) (by omega), w64_id (by omega) (by omega)]; omega
  have go : ∀ b r, decide ((known l : Int) - f ≤ 0) = b → Ev (fun k => bound_Fuse_api_Fix.j1 k (ends l) b l ((known l : Int) - f)) r → Ev (fun k => bound_Fuse_api_Fix.f k l f) r := by
    intro b r hb h
    refine start r (Ev.step (fun k => by rw [bound_Fuse_api_Fix.l0, if_neg (by omega), half, hb]) ?_)
    exact neg_ev (by omega) h
  by_cases c : (known l : Int) - f ≤ 0
  · refine .inl ⟨c, go true _ (decide_eq_true c) (one_ev fun k => ?_)⟩
    rw [bound_Fuse_api_Fix.j1, if_pos rfl]; unfold bound_None_api_Fix.f; rfl
  · have D := delete_ev ok (by omega) ((known l : Int) - f) (ends l) (by omega)
    have mem : ∀ e, e ∈ (ends l).filter (enough l ((known l : Int) - f)) ↔ e ∈ ends l ∧ (known l : Int) - f ≤ votes l e := by
      intro e
      rw [List.mem_filter]; unfold enough
      simp
    have fl : ((ends l).filter (enough l ((known l : Int) - f))).length ≤ (ends l).length := List.length_filter_le _ _
    generalize (ends l).filter (enough l ((known l : Int) - f)) = xs at D mem fl
    have st : ∀ r, Ev (fun k => if (xs.length : Int) = 0 then ((bound_None_api_Fix.f).bind fun bt119 => (some (bt119.1, bt119.2.1, bt119.2.2))) else ((slices_Min_api_Fix_api_Fix.f k xs).bind fun t122 => ((slices_Max_api_Fix_api_Fix.f k xs).bind fun t123 => ((bound_Of_api_Fix.f k t122 t123).bind fun bt124 => (some (bt124.1, bt124.2.1, bt124.2.2)))))) r → Ev (fun k => bound_Fuse_api_Fix.f k l f) r := by
      intro r h
      refine go false r (decide_eq_false c) (Ev.step (fun k => by rw [bound_Fuse_api_Fix.j1, if_neg (by decide)]) ?_)
      exact Ev.bind D h
    by_cases z : xs = []
    · refine .inr (.inl ⟨by omega, fun e he hv => ?_, st _ (pos_ev (by rw [z]; rfl) (now_ev fun k => ?_))⟩)
      · have := (mem e).mpr ⟨he, hv⟩
        rw [z] at this; simp at this
      · unfold bound_None_api_Fix.f; rfl
    · have lp : 0 < xs.length := List.length_pos_iff.mpr z
      obtain ⟨m, m0, m1, m2⟩ := min_ev (by omega) z
      obtain ⟨M, M0, M1, M2⟩ := max_ev (by omega) z
      have bd : ∀ e ∈ ends l, -1000000000000000 ≤ e ∧ e ≤ 1000000000000000 := by
        intro e he
        obtain ⟨b, hb, hu, h⟩ := mem_ends.mp he
        rcases ok b hb with ⟨a, _⟩ | ⟨_, a, c', d⟩
        · rw [a] at hu; cases hu
        · rcases h with rfl | rfl <;> omega
      have bm := bd m ((mem m).mp m0).1
      have bM := bd M ((mem M).mp M0).1
      refine .inr (.inr ⟨by omega, m, M, st _ (neg_ev (by omega) (Ev.bind m2 (Ev.bind M2 (Ev.bind (of_api_Fix m M) ?_)))), ((mem m).mp m0).1, ((mem M).mp M0).1, ((mem m).mp m0).2, ((mem M).mp M0).2, fun e he hv => ⟨m1 e ((mem e).mpr ⟨he, hv⟩), M1 e ((mem e).mpr ⟨he, hv⟩)⟩⟩)
      rw [nb_ok (by omega) (m1 M M0) (by omega)]
      exact Ev.now _
/-- A number that is admitted often enough lies between two ends that are admitted as often. -/
theorem hit {l : List S56} {v : Int} (h : 0 < votes l v) : (∃ e ∈ ends l, e ≤ v ∧ votes l v ≤ votes l e) ∧ (∃ e ∈ ends l, v ≤ e ∧ votes l v ≤ votes l e) := by
  have ex : ∃ b ∈ l, adm v b = true := List.countP_pos_iff.mp h
  have un : ∀ {b : S56}, adm v b = true → b.f2 = false ∧ b.f0 ≤ v ∧ v ≤ b.f1 := by
    intro b hb; unfold adm at hb; simpa using hb
  constructor
  · obtain ⟨b, hb, ha, top⟩ := best (fun b : S56 => b.f0) (adm v) l ex
    obtain ⟨u, p, q⟩ := un ha
    refine ⟨b.f0, mem_ends.mpr ⟨b, hb, u, .inl rfl⟩, p, ?_⟩
    refine List.countP_mono_left fun c hc h1 => ?_
    obtain ⟨u1, p1, q1⟩ := un h1
    have := top c hc h1
    unfold adm; simp [u1]; omega
  · obtain ⟨b, hb, ha, top⟩ := best (fun b : S56 => -b.f1) (adm v) l ex
    obtain ⟨u, p, q⟩ := un ha
    refine ⟨b.f1, mem_ends.mpr ⟨b, hb, u, .inr rfl⟩, q, ?_⟩
    refine List.countP_mono_left fun c hc h1 => ?_
    obtain ⟨u1, p1, q1⟩ := un h1
    have := top c hc h1
    unfold adm; simp [u1]; omega
end UFix
end Go.Proofs.Ytpophefonhpnmaa.Q
end

section
/- BoundFused in plain numbers: for every stream of numbers, number and number of wrong bounds the printed function answers true; no other condition. -/
namespace Go.Proofs.Ytpophefonhpnmaa.PureBoundFused
open Go.RowKit Go.Proofs.Ytpophefonhpnmaa.Q Go.Proofs.YtpophefonhpnmaaW.PrintWords Go.Proofs.YtpophefonhpnmaaW.PrintLast Go.Proofs.Ytpophefonhpnmaa.Q.UFix
set_option linter.unusedVariables false
set_option linter.unusedSimpArgs false
set_option maxRecDepth 100000 in
theorem boundFact_ev : Ev (fun k => spykeep1_boundFact.f k) true :=
  Ev.of (fun k => spykeep1_boundFact.mono k) (k := 200) (by decide +kernel)

theorem two {α : Type} (p q u : α → Bool) (l : List α) (hp : ∀ b ∈ l, p b = true → u b = true) (hq : ∀ b ∈ l, q b = true → u b = true) (h : ∀ b ∈ l, p b = true → q b = true → False) :
    l.countP p + l.countP q ≤ l.countP u := by
  induction l with
  | nil => simp
  | cons a l ih =>
    have I := ih (fun b hb => hp b (List.mem_cons_of_mem _ hb)) (fun b hb => hq b (List.mem_cons_of_mem _ hb)) (fun b hb => h b (List.mem_cons_of_mem _ hb))
    have h1 := h a (by simp)
    have h2 := hp a (by simp)
    have h3 := hq a (by simp)
    rw [List.countP_cons, List.countP_cons, List.countP_cons]
    generalize List.countP p l = x at I ⊢
    generalize List.countP q l = y at I ⊢
    generalize List.countP u l = z at I ⊢
    generalize p a = pa at h1 h2 h3 ⊢
    generalize q a = qa at h1 h2 h3 ⊢
    generalize u a = ua at h1 h2 h3 ⊢
    cases pa <;> cases qa <;> cases ua <;> simp at h1 h2 h3 ⊢ <;> omega
theorem width_ev {lo hi : Int} (h0 : -1000000000000000 ≤ lo) (h : lo ≤ hi) (h1 : hi ≤ 1000000000000000) : Ev (fun k => bound_Width_api_Fix.f k lo hi false) (hi - lo, true) := by
  have v := vague_api_Fix lo hi false lo hi false
  rw [nb_ok (by omega) h (by omega)] at v
  unfold bound_Width_api_Fix.f
  refine Ev.bind v (neg_ev (by simp) ?_)
  rw [w64_id (by omega) (by omega)]
  exact Ev.now _
/-- Is a bound known, and at least so wide? -/
def wide (w : Int) (b : S56) : Bool := !b.f2 && decide (w ≤ b.f1 - b.f0)
theorem clo_ev {b : S56} (o : okB b) (w : Int) : Ev (fun k => spykeep1_BoundFused_1.f k b.f0 b.f1 b.f2 [w]) (wide w b) := by
  unfold spykeep1_BoundFused_1.f wide
  rcases o with ⟨a, c, d⟩ | ⟨a, c, d, e⟩
  · rw [a, c, d]
    have v := vague_api_Fix 0 0 true 0 0 true
    rw [nb_none] at v
    have W : Ev (fun k => bound_Width_api_Fix.f k 0 0 true) (0, false) := by
      unfold bound_Width_api_Fix.f
      exact Ev.bind v (pos_ev (by decide) (Ev.now _))
    exact Ev.bind W (neg_ev (by decide) (Ev.now _))
  · rw [a]
    refine Ev.bind (width_ev c d e) (pos_ev rfl (pos_ev (by simp) ?_))
    have : rd [w] 0 = w := rfl
    rw [this]
    exact now_ev fun k => by simp
theorem index_w {l : List S56} (ok : ∀ b ∈ l, okB b) (hl : l.length ≤ 1000) (w : Int) (h : ∃ b ∈ l, wide w b = true) :
    ∃ r, 0 ≤ r ∧ Ev (fun k => slices_IndexFunc_api_Bound_api_Fix_api_Bound_api_Fix__spykeep1_BoundFused_1.f k l [w]) r := by
  have main : ∀ (d i : Nat), l.length = i + d → (∃ b ∈ l.drop i, wide w b = true) → ∃ r, 0 ≤ r ∧ Ev (fun k => slices_IndexFunc_api_Bound_api_Fix_api_Bound_api_Fix__spykeep1_BoundFused_1.l0 k l (l.length : Int) (i : Int) [w]) r := by
    intro d
    induction d with
    | zero =>
      intro i e h
      rw [List.drop_eq_nil_of_le (by omega)] at h
      simp at h
    | succ d ih =>
      intro i e h
      have hi : i < l.length := by omega
      have C := clo_ev (ok l[i] (List.getElem_mem hi)) w
      have k1 : (i : Int) < (l.length : Int) := by omega
      have k2 : (0 : Int) ≤ (i : Int) := by omega
      have k3 : l.length = i + 1 + d := by omega
      have ww : wrap64 ((i : Int) + 1) = ((i + 1 : Nat) : Int) := by rw [w64_id (by omega) (by omega)]; push_cast; rfl
      rw [List.drop_eq_getElem_cons hi] at h
      by_cases c : wide w l[i] = true
      · refine ⟨i, k2, Ev.step (fun k => by rw [slices_IndexFunc_api_Bound_api_Fix_api_Bound_api_Fix__spykeep1_BoundFused_1.l0, if_pos k1, if_pos k2, if_pos k1, rd_at hi, ww]) ?_⟩
        exact Ev.bind C (pos_ev c (Ev.now _))
      · obtain ⟨r, r0, R⟩ := ih (i + 1) k3 (by
          obtain ⟨b, hb, hw⟩ := h
          rcases List.mem_cons.mp hb with rfl | hb
          · exact absurd hw c
          · exact ⟨b, hb, hw⟩)
        refine ⟨r, r0, Ev.step (fun k => by rw [slices_IndexFunc_api_Bound_api_Fix_api_Bound_api_Fix__spykeep1_BoundFused_1.l0, if_pos k1, if_pos k2, if_pos k1, rd_at hi, ww]) ?_⟩
        exact Ev.bind C (neg_ev c R)
  obtain ⟨r, r0, R⟩ := main l.length 0 (by omega) (by rw [List.drop_zero]; exact h)
  exact ⟨r, r0, R⟩
theorem contains_w {l : List S56} (ok : ∀ b ∈ l, okB b) (hl : l.length ≤ 1000) (w : Int) (h : ∃ b ∈ l, wide w b = true) :
    Ev (fun k => slices_ContainsFunc_api_Bound_api_Fix_api_Bound_api_Fix__spykeep1_BoundFused_1.f k l [w]) true := by
  obtain ⟨r, r0, R⟩ := index_w ok hl w h
  unfold slices_ContainsFunc_api_Bound_api_Fix_api_Bound_api_Fix__spykeep1_BoundFused_1.f
  refine Ev.bind R ?_
  rw [decide_eq_true r0]
  exact Ev.now _
theorem ends_in {l : List S56} (ok : ∀ b ∈ l, okB b) {e : Int} (h : e ∈ ends l) : -1000000000000000 ≤ e ∧ e ≤ 1000000000000000 := by
  obtain ⟨b, hb, u, c⟩ := mem_ends.mp h
  rcases ok b hb with ⟨a, _⟩ | ⟨_, c0, c1, c2⟩
  · rw [u] at a; exact absurd a (by decide)
  · rcases c with rfl | rfl <;> omega
theorem adm_known {v : Int} {b : S56} (h : adm v b = true) : b.f2 = false ∧ b.f0 ≤ v ∧ v ≤ b.f1 := by
  unfold adm at h; simpa using h
/-- What the law asks behind the fusion. -/
theorem fused {l : List S56} (ok : ∀ b ∈ l, okB b) (hl : l.length ≤ 100) {f v : Int} (f0 : 0 ≤ f) (f1 : f ≤ 10) (k0 : 2 * f + 1 ≤ known l) (vt : (known l : Int) - f ≤ votes l v) :
    ∃ m M, Ev (fun k => bound_Fuse_api_Fix.f k l f) (m, M, false) ∧ m ≤ v ∧ v ≤ M ∧ -1000000000000000 ≤ m ∧ M ≤ 1000000000000000 ∧ (∃ b ∈ l, wide (M - m) b = true) ∧
      ∃ m2 M2 u2, Ev (fun k => bound_Fuse_api_Fix.f k l (f + 1)) (m2, M2, u2) ∧ (u2 = false → m2 ≤ m ∧ M ≤ M2) := by
  obtain ⟨⟨a, ha, a1, a2⟩, ⟨b, hb, b1, b2⟩⟩ := hit (l := l) (v := v) (by omega)
  rcases fuse_ev ok (by omega) f0 (by omega) with ⟨c, _⟩ | ⟨_, c, _⟩ | ⟨p, m, M, E, hm, hM, vm, vM, c⟩
  · omega
  · exact absurd (by omega) (c a ha)
  · have ca := c a ha (by omega)
    have cb := c b hb (by omega)
    have lm := (ends_in ok hm).1
    have lM := (ends_in ok hM).2
    refine ⟨m, M, E, by omega, by omega, lm, lM, ?_, ?_⟩
    · by_cases h : ∃ x ∈ l, adm m x = true ∧ adm M x = true
      · obtain ⟨x, hx, x1, x2⟩ := h
        obtain ⟨u, y1, _⟩ := adm_known x1
        obtain ⟨_, _, y2⟩ := adm_known x2
        refine ⟨x, hx, ?_⟩
        unfold wide
        rw [u]
        simp only [Bool.not_false, Bool.true_and, decide_eq_true_eq]
        omega
      · have t := two (adm m) (adm M) (fun b => !b.f2) l (fun b _ h => by rw [(adm_known h).1]; rfl) (fun b _ h => by rw [(adm_known h).1]; rfl) (fun b hb h1 h2 => h ⟨b, hb, h1, h2⟩)
        have t1 : votes l m + votes l M ≤ known l := t
        omega
    · rcases fuse_ev ok (by omega) (f := f + 1) (by omega) (by omega) with ⟨_, E2⟩ | ⟨_, _, E2⟩ | ⟨_, m2, M2, E2, _, _, _, _, c2⟩
      · exact ⟨0, 0, true, E2, fun h => absurd h (by decide)⟩
      · exact ⟨0, 0, true, E2, fun h => absurd h (by decide)⟩
      · have x := c2 m hm (by omega)
        have y := c2 M hM (by omega)
        exact ⟨m2, M2, false, E2, fun _ => ⟨by omega, by omega⟩⟩
theorem inside_ev {lo hi lo2 hi2 : Int} (h : lo ≤ hi) (a : lo2 ≤ lo) (b : hi ≤ hi2) (h0 : -1000000000000000 ≤ lo) (h1 : hi ≤ 1000000000000000) : Ev (fun k => bound_Inside_api_Fix.f k lo hi false lo2 hi2 false) true := by
  refine inside_api_Fix fun _ => ⟨?_, a, b⟩
  rw [nb_ok (by omega) h (by omega)]

theorem BoundFused : spykeep1_BoundFused.Pure := by
  intro l x wrong hm _ _ _ _
  have hl : l.length ≤ 9223372036854775807 := by have h := hm; unfold maxLen at h; omega
  refine Ev.rounds (r := true) ?_
  obtain ⟨x', hX, x0, x1⟩ := below_in (a := x) (n := 2001) (by decide) (by decide)
  obtain ⟨f, hF, f0, f1⟩ := below_in (a := wrong) (n := 4) (by decide) (by decide)
  obtain ⟨m, hM, m0, m1⟩ := next_in l (at_ := 0) (n := 4) hl (by decide) (by decide) (by decide) (by decide)
  obtain ⟨v, hv⟩ : ∃ v, v = x' - 1000 := ⟨_, rfl⟩
  have v0 : -1000 ≤ v := by omega
  have v1 : v ≤ 1000 := by omega
  have w1 : wrap64 (x' - 1000) = v := by rw [w64_id (by omega) (by omega), hv]
  clear hv
  have fin : ∀ (cs : List S56) (p : Int), cs.length ≤ 10 → 2 * f + 1 ≤ cs.length → (∀ b ∈ cs, b.f2 = false ∧ -3000 ≤ b.f0 ∧ b.f0 ≤ b.f1 ∧ b.f1 ≤ 3000) → (∀ b ∈ cs.drop f.toNat, adm v b = true) →
      Ev (fun k => spykeep1_BoundFused.l1 k v f cs f f l p) true := by
    intro cs p N1 N0 good right
    have a : votes (cs.drop f.toNat) v = (cs.drop f.toNat).length := by
      unfold votes; rw [List.countP_eq_length]; exact right
    have b : votes (cs.drop f.toNat) v ≤ votes cs v := by
      unfold votes; exact (List.drop_sublist _ _).countP_le
    rw [List.length_drop] at a
    have kc : known cs = cs.length := by
      unfold known; rw [List.countP_eq_length]; intro b hb; rw [(good b hb).1]; rfl
    obtain ⟨y, hy⟩ : ∃ y, y = cs ++ [(⟨0, 0, true⟩ : S56)] := ⟨_, rfl⟩
    have ky : known y = cs.length := by rw [hy]; unfold known at kc ⊢; rw [List.countP_append, kc]; rfl
    have vy : votes y v = votes cs v := by rw [hy]; unfold votes; rw [List.countP_append]; rfl
    have ly : y.length = cs.length + 1 := by rw [hy]; simp
    have ok : ∀ b ∈ y, okB b := by
      intro b hb
      rw [hy, List.mem_append] at hb
      rcases hb with hb | hb
      · obtain ⟨g0, g1, g2, g3⟩ := good b hb
        exact .inr ⟨g0, by omega, g2, by omega⟩
      · have : b = ⟨0, 0, true⟩ := by simpa using hb
        rw [this]; exact .inl ⟨rfl, rfl, rfl⟩
    have k1 : cs.length < 5864062014805 := by omega
    obtain ⟨lo, hi, E, c0, c1, c2, c3, W, m2, M2, u2, E2, c4⟩ := fused ok (by omega) (f := f) (v := v) f0 (by omega) (by rw [ky]; omega) (by rw [ky, vy]; omega)
    have w : wrap64 (f + 1) = f + 1 := w64_id (by omega) (by omega)
    have J3 : Ev (fun k => spykeep1_BoundFused.j3 k f y false lo hi false) true := by
      refine Ev.step (fun k => by rw [spykeep1_BoundFused.j3, if_neg (by decide), w]) ?_
      refine Ev.bind E2 ?_
      by_cases u : u2 = true
      · exact pos_ev u (Ev.now _)
      · have u' : u2 = false := Bool.eq_false_iff.mpr u
        subst u'
        obtain ⟨d0, d1⟩ := c4 rfl
        exact neg_ev (by simp) (Ev.bind (inside_ev (Int.le_trans c0 c1) d0 d1 c2 c3) (Ev.now _))
    have J2 : Ev (fun k => spykeep1_BoundFused.j2 k f y false lo hi false) true := by
      refine Ev.step (fun k => by rw [spykeep1_BoundFused.j2, if_neg (by decide)]) ?_
      exact Ev.bind (width_ev c2 (Int.le_trans c0 c1) c3) (pos_ev rfl (Ev.bind (contains_w ok (by omega) _ W) J3))
    refine Ev.step (fun k => by rw [spykeep1_BoundFused.l1, if_neg (Int.lt_irrefl f), if_pos k1, ← hy]) ?_
    refine some_ev rfl (Ev.bind E (Ev.bind boundFact_ev (pos_ev rfl (neg_ev (by simp) ?_))))
    exact Ev.bind (has_api_Fix fun _ => ⟨c0, c1⟩) J2
  have wrongs : ∀ (d i : Nat) (cs : List S56) (p : Int), f = i + d → 0 ≤ p → p ≤ 100 + 2 * i → cs.length ≤ 10 → 2 * f + 1 ≤ cs.length → (∀ b ∈ cs, b.f2 = false ∧ -3000 ≤ b.f0 ∧ b.f0 ≤ b.f1 ∧ b.f1 ≤ 3000) → (∀ b ∈ cs.drop i, adm v b = true) →
      Ev (fun k => spykeep1_BoundFused.l1 k v f cs f (i : Int) l p) true := by
    intro d
    induction d with
    | zero =>
      intro i cs p e p0 p1 N1 N0 good right
      have e1 : (i : Int) = f := by omega
      have e2 : f.toNat = i := by omega
      rw [e1]
      exact fin cs p N1 N0 good (by rw [e2]; exact right)
    | succ d ih =>
      intro i cs p e p0 p1 N1 N0 good right
      obtain ⟨a, ha, a0, a1⟩ := range_in l (at_ := p) (lo := -2000) (hi := 2000) hl p0 (by omega) (by decide) (by decide) (by decide)
      obtain ⟨b, hb, b0, b1⟩ := next_in l (at_ := p + 1) (n := 100) hl (by omega) (by omega) (by decide) (by decide)
      have k1 : (i : Int) < f := by omega
      have k2 : (0 : Int) ≤ (i : Int) := by omega
      have k3 : (i : Int) < (cs.length : Int) := by omega
      have k4 : i < cs.length := by omega
      have k5 : f = ((i + 1 : Nat) : Int) + d := by push_cast; omega
      have I := ih (i + 1) (cs.set i ⟨a, a + b, false⟩) (p + 1 + 1) k5 (by omega) (by push_cast; omega) (by rw [List.length_set]; exact N1) (by rw [List.length_set]; exact N0) (by
        intro z hz
        rcases List.mem_or_eq_of_mem_set hz with h | h
        · exact good z h
        · rw [h]; exact ⟨rfl, by simp only; omega, by simp only; omega, by simp only; omega⟩) (by
        intro z hz
        rw [List.drop_set_of_lt (by omega)] at hz
        refine right z ?_
        rw [List.drop_eq_getElem_cons k4]
        exact List.mem_cons_of_mem _ hz)
      have wb : wrap64 (a + b) = a + b := w64_id (by omega) (by omega)
      have w : wrap64 ((i : Int) + 1) = ((i + 1 : Nat) : Int) := by rw [w64_id (by omega) (by omega)]; push_cast; rfl
      refine Ev.step (fun k => by rw [spykeep1_BoundFused.l1, if_pos k1]) ?_
      refine some_ev ha (some_ev hb (pos_ev k2 (pos_ev k3 ?_)))
      simp only [wb, w, Int.toNat_natCast]
      exact I
  have loop : ∀ (N : Int), 2 * f + 1 ≤ N → N ≤ 10 → ∀ (d : Nat) (i : Nat) (cs : List S56) (p : Int), N = i + d → 0 ≤ p → p ≤ 1 + 2 * i → cs.length = i → (∀ b ∈ cs, b.f2 = false ∧ -3000 ≤ b.f0 ∧ b.f0 ≤ b.f1 ∧ b.f1 ≤ 3000) → (∀ b ∈ cs, adm v b = true) →
      Ev (fun k => spykeep1_BoundFused.l0 k v f cs N (i : Int) l p) true := by
    intro N N0 N1 d
    induction d with
    | zero =>
      intro i cs p e p0 p1 e1 good right
      have k1 : ¬ (i : Int) < N := by omega
      refine Ev.step (fun k => by rw [spykeep1_BoundFused.l0, if_neg k1]) ?_
      exact wrongs f.toNat 0 cs p (by omega) p0 (by omega) (by omega) (by omega) good (by rw [List.drop_zero]; exact right)
    | succ d ih =>
      intro i cs p e p0 p1 e1 good right
      obtain ⟨a, ha, a0, a1⟩ := next_in l (at_ := p) (n := 50) hl p0 (by omega) (by decide) (by decide)
      obtain ⟨b, hb, b0, b1⟩ := next_in l (at_ := p + 1) (n := 50) hl (by omega) (by omega) (by decide) (by decide)
      have k1 : (i : Int) < N := by omega
      have k2 : cs.length < 5864062014805 := by rw [e1]; omega
      have k3 : N = ((i + 1 : Nat) : Int) + d := by push_cast; omega
      have I := ih (i + 1) (cs ++ [⟨v - a, v + b, false⟩]) (p + 1 + 1) k3 (by omega) (by push_cast; omega) (by rw [List.length_append, e1]; rfl) (by
        intro z hz
        rcases List.mem_append.mp hz with h | h
        · exact good z h
        · rw [show z = ⟨v - a, v + b, false⟩ by simpa using h]; exact ⟨rfl, by simp only; omega, by simp only; omega, by simp only; omega⟩) (by
        intro z hz
        rcases List.mem_append.mp hz with h | h
        · exact right z h
        · rw [show z = ⟨v - a, v + b, false⟩ by simpa using h]
          unfold adm
          simp only [Bool.not_false, Bool.true_and, Bool.and_eq_true, decide_eq_true_eq]
          omega)
      have wa : wrap64 (v - a) = v - a := w64_id (by omega) (by omega)
      have wb : wrap64 (v + b) = v + b := w64_id (by clear wa; omega) (by clear wa; omega)
      have w : wrap64 ((i : Int) + 1) = ((i + 1 : Nat) : Int) := by rw [w64_id (by clear wa wb; omega) (by clear wa wb; omega)]; push_cast; rfl
      refine Ev.step (fun k => by rw [spykeep1_BoundFused.l0, if_pos k1]) ?_
      refine some_ev ha (some_ev hb (pos_ev k2 ?_))
      simp only [wa, wb, w]
      exact I
  unfold spykeep1_BoundFused.f
  refine some_ev hX (some_ev hF (some_ev hM ?_))
  rw [w1]
  clear w1
  rw [w64_id (x := 2 * f) (by omega) (by omega), w64_id (x := 2 * f + 1) (by omega) (by omega)]
  rw [w64_id (x := 2 * f + 1 + m) (by omega) (by omega)]
  exact loop (2 * f + 1 + m) (by omega) (by omega) (2 * f + 1 + m).toNat 0 [] _ (by omega) (by omega) (by omega) rfl (fun j h => absurd h (by simp)) (fun j h => absurd h (by simp))
end Go.Proofs.Ytpophefonhpnmaa.PureBoundFused
namespace Go.Proofs.Ytpophefonhpnmaa.Pure
theorem BoundFused : Go.Proofs.Ytpophefonhpnmaa.Q.spykeep1_BoundFused.Pure := Go.Proofs.Ytpophefonhpnmaa.PureBoundFused.BoundFused
end Go.Proofs.Ytpophefonhpnmaa.Pure
end
