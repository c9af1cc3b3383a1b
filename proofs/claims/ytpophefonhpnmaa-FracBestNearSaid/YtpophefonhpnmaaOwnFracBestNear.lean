/- This session's own texts KFracBestNearM1 KFracBestNearM2 KFracBestNearM3 KFracBestNearM4 KFracBestNearM5 KFracBestNearM6 KFracBestNearBL1 KFracBestNearFD1 KFracBestNearFR0 KFracBestNearFF1 KFracBestNearFF2 KFracBestNearFF3 KFracBestNearFB1 KFracBestNearFB2 KFracBestNearPureFracBestNear, one after the other. -/
import Derived.Test.YtpophefonhpnmaaKFracBestNearQx60
import Derived.Test.YtpophefonhpnmaaKFracBestNearQx59
import Derived.Test.YtpophefonhpnmaaKFracBestNearQx12
import Derived.Test.YtpophefonhpnmaaKFracBestNearQx13
import Derived.Test.YtpophefonhpnmaaKFracBestNearQx14
import Derived.Test.YtpophefonhpnmaaKFracBestNearQx52
import Derived.Test.YtpophefonhpnmaaKFracBestNearQx7
import Derived.Test.YtpophefonhpnmaaKFracBestNearQx55
import Derived.Test.YtpophefonhpnmaaKFracBestNearQx56
import Derived.Test.YtpophefonhpnmaaKFracBestNearQx58
import Derived.Test.YtpophefonhpnmaaKFracBestNearQx62
import Derived.Test.YtpophefonhpnmaaKFracBestNearQx64
import Derived.Test.YtpophefonhpnmaaKFracBestNearQx66
import Derived.Test.YtpophefonhpnmaaKFracBestNearQx63
import Derived.Test.YtpophefonhpnmaaKFracBestNearQx61
import Derived.Test.YtpophefonhpnmaaKFracBestNearQx65
import Derived.Test.YtpophefonhpnmaaKFracBestNearQx57

section
/- Wrapping, shifts and products of 64 bits: what the printed functions of math/bits compute; no other condition than those that each statement names. -/
namespace Go.Proofs.Ytpophefonhpnmaa.Q
open Go.RowKit Go.Proofs.YtpophefonhpnmaaW.PrintWords Go.Proofs.YtpophefonhpnmaaW.PrintLast Go.Proofs.YtpophefonhpnmaaW.PrintMore
set_option linter.unusedVariables false
set_option linter.unusedSimpArgs false

theorem uw (x : Int) : IntKind.u64.wrap x = x % 18446744073709551616 := u64_wrap_eq x
theorem uw_id {x : Int} (h0 : 0 ≤ x) (h1 : x < 18446744073709551616) : IntKind.u64.wrap x = x := by rw [uw]; omega
theorem w64_id {x : Int} (h0 : -9223372036854775808 ≤ x) (h1 : x < 9223372036854775808) : wrap64 x = x := by unfold wrap64; omega
theorem uw_wrap64 (x : Int) : wrap64 (IntKind.u64.wrap x) = wrap64 x := by rw [uw]; unfold wrap64; omega

theorem u64_mask32 {x : Int} (h0 : 0 ≤ x) (h1 : x < 18446744073709551616) : Go.bits .and .u64 x 4294967295 = x % 4294967296 :=
  Go.bits_mask .u64 64 (by decide) (fun n h h' => by rw [uw]; omega) 32 (by decide) x h0 h1

theorem mul64 {a b : Int} (a0 : 0 ≤ a) (a1 : a < 18446744073709551616) (b0 : 0 ≤ b) (b1 : b < 18446744073709551616) :
    bits_Mul64.f a b = some (a * b / 18446744073709551616, a * b % 18446744073709551616) := by
  unfold bits_Mul64.f
  rw [u64_mask32 a0 a1, u64_mask32 b0 b1]
  generalize hx1 : a / 4294967296 = x1
  generalize hx0 : a % 4294967296 = x0
  generalize hy1 : b / 4294967296 = y1
  generalize hy0 : b % 4294967296 = y0
  have hx : a = x1 * 4294967296 + x0 := by omega
  have hy : b = y1 * 4294967296 + y0 := by omega
  have p : ∀ {u v : Int}, 0 ≤ u → u ≤ 4294967295 → 0 ≤ v → v ≤ 4294967295 → 0 ≤ u * v ∧ u * v ≤ 18446744065119617025 := by
    intro u v hu0 hu1 hv0 hv1
    refine ⟨Int.mul_nonneg hu0 hv0, ?_⟩
    have := Int.mul_le_mul hu1 hv1 hv0 (by omega)
    omega
  have q11 := p (u := x1) (v := y1) (by omega) (by omega) (by omega) (by omega)
  have q10 := p (u := x1) (v := y0) (by omega) (by omega) (by omega) (by omega)
  have q01 := p (u := x0) (v := y1) (by omega) (by omega) (by omega) (by omega)
  have q00 := p (u := x0) (v := y0) (by omega) (by omega) (by omega) (by omega)
  have e : a * b = x1 * y1 * 18446744073709551616 + (x1 * y0 + x0 * y1) * 4294967296 + x0 * y0 := by
    rw [hx, hy]; grind
  rw [e]
  generalize x1 * y1 = P at *
  generalize x1 * y0 = Q at *
  generalize x0 * y1 = R at *
  generalize x0 * y0 = S at *
  rw [uw_id (x := S) (by omega) (by omega), uw_id (x := Q) (by omega) (by omega), uw_id (x := R) (by omega) (by omega), uw_id (x := P) (by omega) (by omega),
    uw_id (x := Q + S / 4294967296) (by omega) (by omega), u64_mask32 (by omega) (by omega), uw, uw, uw]
  congr 2 <;> omega

theorem size_some {a : Int} (h0 : -9223372036854775808 ≤ a) (h1 : a < 9223372036854775808) : num_size.f a = some (if a < 0 then -a else a) := by
  unfold num_size.f
  split
  · rw [uw, uw]; congr 1; omega
  · rw [uw]; congr 1; omega
end Go.Proofs.Ytpophefonhpnmaa.Q
end

section
/- The number of leading zeros of a number of 64 bits, and the quotient of 128 by 64 bits: what the printed functions of math/bits compute, for every divisor greater than the upper half. -/
namespace Go.Proofs.Ytpophefonhpnmaa.Q
open Go.RowKit Go.Proofs.YtpophefonhpnmaaW.PrintWords Go.Proofs.YtpophefonhpnmaaW.PrintLast Go.Proofs.YtpophefonhpnmaaW.PrintMore
set_option linter.unusedVariables false
set_option linter.unusedSimpArgs false

set_option maxRecDepth 100000 in
def len8 : ByteArray := ⟨#[0, 1, 2, 2, 3, 3, 3, 3, 4, 4, 4, 4, 4, 4, 4, 4, 5, 5, 5, 5, 5, 5, 5, 5, 5, 5, 5, 5, 5, 5, 5, 5, 6, 6, 6, 6, 6, 6, 6, 6, 6, 6, 6, 6, 6, 6, 6, 6, 6, 6, 6, 6, 6, 6, 6, 6, 6, 6, 6, 6, 6, 6, 6, 6, 7, 7, 7, 7, 7, 7, 7, 7, 7, 7, 7, 7, 7, 7, 7, 7, 7, 7, 7, 7, 7, 7, 7, 7, 7, 7, 7, 7, 7, 7, 7, 7, 7, 7, 7, 7, 7, 7, 7, 7, 7, 7, 7, 7, 7, 7, 7, 7, 7, 7, 7, 7, 7, 7, 7, 7, 7, 7, 7, 7, 7, 7, 7, 7, 8, 8, 8, 8, 8, 8, 8, 8, 8, 8, 8, 8, 8, 8, 8, 8, 8, 8, 8, 8, 8, 8, 8, 8, 8, 8, 8, 8, 8, 8, 8, 8, 8, 8, 8, 8, 8, 8, 8, 8, 8, 8, 8, 8, 8, 8, 8, 8, 8, 8, 8, 8, 8, 8, 8, 8, 8, 8, 8, 8, 8, 8, 8, 8, 8, 8, 8, 8, 8, 8, 8, 8, 8, 8, 8, 8, 8, 8, 8, 8, 8, 8, 8, 8, 8, 8, 8, 8, 8, 8, 8, 8, 8, 8, 8, 8, 8, 8, 8, 8, 8, 8, 8, 8, 8, 8, 8, 8, 8, 8, 8, 8, 8, 8, 8, 8, 8, 8, 8, 8, 8, 8, 8, 8, 8, 8, 8, 8]⟩
set_option maxRecDepth 100000 in
theorem len8_eq : (⟨#[0, 1, 2, 2, 3, 3, 3, 3, 4, 4, 4, 4, 4, 4, 4, 4, 5, 5, 5, 5, 5, 5, 5, 5, 5, 5, 5, 5, 5, 5, 5, 5, 6, 6, 6, 6, 6, 6, 6, 6, 6, 6, 6, 6, 6, 6, 6, 6, 6, 6, 6, 6, 6, 6, 6, 6, 6, 6, 6, 6, 6, 6, 6, 6, 7, 7, 7, 7, 7, 7, 7, 7, 7, 7, 7, 7, 7, 7, 7, 7, 7, 7, 7, 7, 7, 7, 7, 7, 7, 7, 7, 7, 7, 7, 7, 7, 7, 7, 7, 7, 7, 7, 7, 7, 7, 7, 7, 7, 7, 7, 7, 7, 7, 7, 7, 7, 7, 7, 7, 7, 7, 7, 7, 7, 7, 7, 7, 7, 8, 8, 8, 8, 8, 8, 8, 8, 8, 8, 8, 8, 8, 8, 8, 8, 8, 8, 8, 8, 8, 8, 8, 8, 8, 8, 8, 8, 8, 8, 8, 8, 8, 8, 8, 8, 8, 8, 8, 8, 8, 8, 8, 8, 8, 8, 8, 8, 8, 8, 8, 8, 8, 8, 8, 8, 8, 8, 8, 8, 8, 8, 8, 8, 8, 8, 8, 8, 8, 8, 8, 8, 8, 8, 8, 8, 8, 8, 8, 8, 8, 8, 8, 8, 8, 8, 8, 8, 8, 8, 8, 8, 8, 8, 8, 8, 8, 8, 8, 8, 8, 8, 8, 8, 8, 8, 8, 8, 8, 8, 8, 8, 8, 8, 8, 8, 8, 8, 8, 8, 8, 8, 8, 8, 8, 8, 8, 8]⟩ : ByteArray) = len8 := rfl
def len8ok (i : Nat) : Bool := let n := bt len8 (i : Int); decide (0 ≤ n) && decide (n ≤ 8) && decide ((i : Int) < 2 ^ n.toNat) && (i == 0 || decide ((2 : Int) ^ n.toNat ≤ 2 * i))
theorem len8_all : (List.range 256).all len8ok = true := by decide +kernel
theorem len8_at {i : Int} (h0 : 0 ≤ i) (h1 : i < 256) : ∃ m : Nat, m ≤ 8 ∧ bt len8 i = m ∧ i < 2 ^ m ∧ (0 < i → (2 : Int) ^ m ≤ 2 * i) := by
  obtain ⟨n, rfl⟩ := Int.eq_ofNat_of_zero_le h0
  have h := List.all_eq_true.mp len8_all n (by simp; omega)
  unfold len8ok at h
  simp only [Bool.and_eq_true, Bool.or_eq_true, decide_eq_true_eq, beq_iff_eq] at h
  obtain ⟨⟨⟨a, b⟩, c⟩, d⟩ := h
  refine ⟨(bt len8 (n : Int)).toNat, by omega, by omega, c, fun hp => ?_⟩
  rcases d with d | d
  · omega
  · exact d

set_option maxRecDepth 100000 in
theorem len64_j0 {x n : Int} (h0 : 0 ≤ x) (h1 : x < 4294967296) (n0 : 0 ≤ n) (n1 : n ≤ 32) (k : Nat) :
    ∃ m : Nat, m ≤ 32 ∧ bits_Len64.j0 (k + 1) x n = some (n + m) ∧ x < 2 ^ m ∧ (0 < x → (2 : Int) ^ m ≤ 2 * x) := by
  rw [bits_Len64.j0.eq_2, len8_eq]
  by_cases a : x ≥ 65536
  · rw [if_pos a]
    by_cases b : x / 65536 ≥ 256
    · rw [if_pos b, if_pos (by omega), if_pos (by omega)]
      obtain ⟨m, m1, m2, m3, m4⟩ := len8_at (i := ((x / 65536) / 256) % 256) (by omega) (by omega)
      refine ⟨m + 24, by omega, ?_, ?_, ?_⟩
      · rw [m2]; congr 1; unfold wrap64; omega
      · rw [Int.pow_add]; generalize (2 : Int) ^ m = P at *; omega
      · intro _; rw [Int.pow_add]; generalize (2 : Int) ^ m = P at *; omega
    · rw [if_neg b, if_pos (by omega), if_pos (by omega)]
      obtain ⟨m, m1, m2, m3, m4⟩ := len8_at (i := (x / 65536) % 256) (by omega) (by omega)
      refine ⟨m + 16, by omega, ?_, ?_, ?_⟩
      · rw [m2]; congr 1; unfold wrap64; omega
      · rw [Int.pow_add]; generalize (2 : Int) ^ m = P at *; omega
      · intro _; rw [Int.pow_add]; generalize (2 : Int) ^ m = P at *; omega
  · rw [if_neg a]
    by_cases b : x ≥ 256
    · rw [if_pos b, if_pos (by omega), if_pos (by omega)]
      obtain ⟨m, m1, m2, m3, m4⟩ := len8_at (i := (x / 256) % 256) (by omega) (by omega)
      refine ⟨m + 8, by omega, ?_, ?_, ?_⟩
      · rw [m2]; congr 1; unfold wrap64; omega
      · rw [Int.pow_add]; generalize (2 : Int) ^ m = P at *; omega
      · intro _; rw [Int.pow_add]; generalize (2 : Int) ^ m = P at *; omega
    · rw [if_neg b, if_pos (by omega), if_pos (by omega)]
      obtain ⟨m, m1, m2, m3, m4⟩ := len8_at (i := x % 256) (by omega) (by omega)
      refine ⟨m, by omega, ?_, ?_, ?_⟩
      · rw [m2]; congr 1; unfold wrap64; omega
      · generalize (2 : Int) ^ m = P at *; omega
      · intro _; generalize (2 : Int) ^ m = P at *; omega

theorem len64 {x : Int} (h0 : 0 ≤ x) (h1 : x < 18446744073709551616) (k : Nat) :
    ∃ m : Nat, m ≤ 64 ∧ bits_Len64.f (k + 1) x = some (m : Int) ∧ x < 2 ^ m ∧ (0 < x → (2 : Int) ^ m ≤ 2 * x) := by
  unfold bits_Len64.f
  by_cases a : x ≥ 4294967296
  · rw [if_pos a]
    obtain ⟨m, m1, m2, m3, m4⟩ := len64_j0 (x := x / 4294967296) (n := 32) (by omega) (by omega) (by omega) (by omega) k
    refine ⟨m + 32, by omega, ?_, ?_, ?_⟩
    · rw [m2]; congr 1; omega
    · rw [Int.pow_add]; generalize (2 : Int) ^ m = P at *; omega
    · intro _; rw [Int.pow_add]; generalize (2 : Int) ^ m = P at *; omega
  · rw [if_neg a]
    obtain ⟨m, m1, m2, m3, m4⟩ := len64_j0 (x := x) (n := 0) (by omega) (by omega) (by omega) (by omega) k
    refine ⟨m, by omega, ?_, m3, m4⟩
    rw [m2]; congr 1; omega

/-- The leading zeros: shifted by them, a number fills 64 bits. -/
theorem lz64 {y : Int} (h0 : 0 < y) (h1 : y < 18446744073709551616) (k : Nat) :
    ∃ s : Nat, s ≤ 63 ∧ bits_LeadingZeros64.f (k + 1) y = some (s : Int) ∧ 9223372036854775808 ≤ y * 2 ^ s ∧ y * 2 ^ s < 18446744073709551616 := by
  obtain ⟨m, m1, m2, m3, m4⟩ := len64 (by omega) h1 k
  have hm : 1 ≤ m := by
    rcases m with _ | m
    · simp at m3; omega
    · omega
  refine ⟨64 - m, by omega, ?_, ?_, ?_⟩
  · unfold bits_LeadingZeros64.f
    rw [m2]; simp only [Option.bind_some]; congr 1; unfold wrap64; omega
  · have e : (2 : Int) ^ m * 2 ^ (64 - m) = 18446744073709551616 := by rw [← Int.pow_add, show m + (64 - m) = 64 by omega]; decide
    have p : (0 : Int) < 2 ^ (64 - m) := Int.pow_pos (by decide)
    have := Int.mul_le_mul_of_nonneg_right (m4 h0) (Int.le_of_lt p)
    rw [e, Int.mul_assoc] at this
    omega
  · have e : (2 : Int) ^ m * 2 ^ (64 - m) = 18446744073709551616 := by rw [← Int.pow_add, show m + (64 - m) = 64 by omega]; decide
    have p : (0 : Int) < 2 ^ (64 - m) := Int.pow_pos (by decide)
    have := Int.mul_lt_mul_of_pos_right m3 p
    omega
end Go.Proofs.Ytpophefonhpnmaa.Q
end

section
/- The quotient and the remainder of a number of 128 bits by one of 64 bits: math/bits.Div64 as printed, for every divisor greater than the upper half. -/
namespace Go.Proofs.Ytpophefonhpnmaa.Q
open Go.RowKit Go.Proofs.YtpophefonhpnmaaW.PrintWords Go.Proofs.YtpophefonhpnmaaW.PrintLast Go.Proofs.YtpophefonhpnmaaW.PrintMore
set_option linter.unusedVariables false
set_option linter.unusedSimpArgs false

theorem ev_fun {α : Type} {g : Nat → Option α} {r r' : α} (h : Ev g r) (e : r = r') : Ev g r' := e ▸ h

/-- One step of the search for a digit, in plain numbers. -/
theorem digit_facts {Y y1 y0 u A n1 q r : Int} (hY : Y = y1 * 4294967296 + y0) (h1 : 2147483648 ≤ y1) (h2 : y1 < 4294967296) (h3 : 0 ≤ y0) (h4 : y0 < 4294967296)
    (hn : 0 ≤ n1) (hn' : n1 < 4294967296) (hA : A = u * 4294967296 + n1) (hu : 0 ≤ u) (huY : u < Y) (hr : r = u - q * y1) (hr0 : 0 ≤ r) (hq1 : q ≤ 4294967297) (hq : A / Y ≤ q) :
    (q ≥ 4294967296 → A / Y ≤ q - 1) ∧ (q * y0 > 4294967296 * r + n1 → A / Y ≤ q - 1) ∧ (q < 4294967296 → ¬ q * y0 > 4294967296 * r + n1 → A / Y = q)
    ∧ (A / Y ≤ q - 1 → r + y1 ≥ 4294967296 → A / Y = q - 1) ∧ 0 ≤ A / Y ∧ A / Y < 4294967296 := by
  have hYp : 0 < Y := by omega
  have hA0 : 0 ≤ A := by omega
  have hQ0 : 0 ≤ A / Y := Int.ediv_nonneg hA0 (by omega)
  have hQ1 : A / Y < 4294967296 := by
    rw [Int.ediv_lt_iff_lt_mul hYp]; omega
  have eU : q * Y = A - n1 - r * 4294967296 + q * y0 := by
    rw [hY, hA, hr]; grind
  have k := Int.le_ediv_iff_mul_le (a := q) (b := A) hYp
  have k' := Int.le_ediv_iff_mul_le (a := q - 1) (b := A) hYp
  have eU' : (q - 1) * Y = q * Y - Y := by grind
  refine ⟨by omega, fun h => ?_, fun _ h => ?_, fun hle hr1 => ?_, hQ0, hQ1⟩
  · rcases Int.lt_or_le (A / Y) q with h' | h'
    · omega
    · have := k.mp h'; omega
  · have : q * Y ≤ A := by omega
    have := k.mpr this; omega
  · have b : (q - 1) * y0 ≤ 4294967296 * 4294967295 := Int.mul_le_mul (by omega) (by omega) h3 (by omega)
    have e : (q - 1) * y0 = q * y0 - y0 := by grind
    have : (q - 1) * Y ≤ A := by omega
    have := k'.mpr this; omega

theorem div_l0 {Y s y1 y0 u n1 n0 : Int} {R : Int × Int} (hY : Y = y1 * 4294967296 + y0) (h1 : 2147483648 ≤ y1) (h2 : y1 < 4294967296) (h3 : 0 ≤ y0) (h4 : y0 < 4294967296)
    (hn : 0 ≤ n1) (hn' : n1 < 4294967296) (hu : 0 ≤ u) (huY : u < Y) (H : Ev (fun k => bits_Div64.j2 k Y s y1 y0 u n1 n0 ((u * 4294967296 + n1) / Y)) R) (n : Nat) :
    ∀ q r : Int, r = u - q * y1 → 0 ≤ r → r < 4294967296 → q ≤ 4294967297 → (u * 4294967296 + n1) / Y ≤ q → 4294967296 - r ≤ n → Ev (fun k => bits_Div64.l0 k Y s y1 y0 u n1 n0 q r) R := by
  induction n with
  | zero => intro q r _ _ _ _ _ _; omega
  | succ n ih =>
    intro q r hr hr0 hr1 hq1 hq hm
    obtain ⟨f1, f2, f3, f4, f5, f6⟩ := digit_facts hY h1 h2 h3 h4 hn hn' rfl hu huY hr hr0 hq1 hq
    generalize hA : (u * 4294967296 + n1) / Y = Q at *
    have go : Q ≤ q - 1 → Ev (fun k => bits_Div64.j1 k Y s y1 y0 u n1 n0 q r true) R := by
      intro hle
      by_cases c : r + y1 ≥ 4294967296
      · refine Ev.step (fun k => by rw [bits_Div64.j1, if_pos rfl, uw_id (x := r + y1) (by omega) (by omega), if_pos c, uw_id (x := q - 1) (by omega) (by omega)]) ?_
        rw [← f4 hle c]; exact H
      · refine Ev.step (fun k => by rw [bits_Div64.j1, if_pos rfl, uw_id (x := r + y1) (by omega) (by omega), if_neg c, uw_id (x := q - 1) (by omega) (by omega)]) ?_
        exact ih (q - 1) (r + y1) (by rw [hr]; grind) (by omega) (by omega) (by omega) hle (by omega)
    by_cases c : q ≥ 4294967296
    · exact Ev.step (fun k => by rw [bits_Div64.l0, if_pos c]) (go (f1 c))
    · have b0 : 0 ≤ q * y0 := Int.mul_nonneg (by omega) h3
      have b1 : q * y0 ≤ 4294967295 * 4294967295 := Int.mul_le_mul (by omega) (by omega) h3 (by omega)
      have e : decide ((IntKind.u64.wrap (q * y0)) > (IntKind.u64.wrap ((IntKind.u64.wrap (4294967296 * r)) + n1))) = decide (q * y0 > 4294967296 * r + n1) := by
        rw [uw_id (x := q * y0) b0 (by omega), uw_id (x := 4294967296 * r) (by omega) (by omega), uw_id (by omega) (by omega)]
      by_cases d : q * y0 > 4294967296 * r + n1
      · exact Ev.step (fun k => by rw [bits_Div64.l0, if_neg c, e, decide_eq_true d]) (go (f2 d))
      · refine Ev.step (fun k => by rw [bits_Div64.l0, if_neg c, e, decide_eq_false d]) ?_
        refine Ev.step (fun k => by rw [bits_Div64.j1, if_neg (by decide)]) ?_
        rw [← f3 (by omega) d]; exact H

theorem div_end {Y y1 u n0 q1 s A : Int} (hY0 : 0 < Y) (hY1 : Y < 18446744073709551616) (hA : A = u * 4294967296 + n0) (hq1 : 0 ≤ q1) (hq1' : q1 < 4294967296) (hQ : 0 ≤ A / Y) (hQ1 : A / Y < 4294967296) :
    (IntKind.u64.wrap ((IntKind.u64.wrap (q1 * 4294967296)) + A / Y), shr .u64 (IntKind.u64.wrap ((IntKind.u64.wrap ((IntKind.u64.wrap (u * 4294967296)) + n0)) - (IntKind.u64.wrap ((A / Y) * Y)))) s)
      = (q1 * 4294967296 + A / Y, shr .u64 (A % Y) s) := by
  have h := Int.emod_add_mul_ediv A Y
  have h0 := Int.emod_nonneg A (show Y ≠ 0 by omega)
  have h1 := Int.emod_lt_of_pos A hY0
  have hc : Y * (A / Y) = A / Y * Y := Int.mul_comm _ _
  rw [hc] at h
  generalize A / Y * Y = P at *
  generalize A / Y = Q at *
  have e : (u * 4294967296 % 18446744073709551616 + n0) % 18446744073709551616 = A % 18446744073709551616 := by rw [hA]; omega
  rw [uw, uw, uw, uw, uw, uw, e]
  congr 1
  · omega
  · congr 1; omega

theorem div_l1 {Y s y1 y0 u n0 q1 : Int} (hY : Y = y1 * 4294967296 + y0) (h1 : 2147483648 ≤ y1) (h2 : y1 < 4294967296) (h3 : 0 ≤ y0) (h4 : y0 < 4294967296)
    (hn : 0 ≤ n0) (hn' : n0 < 4294967296) (hu : 0 ≤ u) (huY : u < Y) (hq1 : 0 ≤ q1) (hq1' : q1 < 4294967296) (hs : 0 ≤ s) (n : Nat) :
    ∀ q r : Int, r = u - q * y1 → 0 ≤ r → r < 4294967296 → q ≤ 4294967297 → (u * 4294967296 + n0) / Y ≤ q → 4294967296 - r ≤ n →
      Ev (fun k => bits_Div64.l1 k Y s y1 y0 n0 q1 r u q) (q1 * 4294967296 + (u * 4294967296 + n0) / Y, shr .u64 ((u * 4294967296 + n0) % Y) s) := by
  induction n with
  | zero => intro q r _ _ _ _ _ _; omega
  | succ n ih =>
    intro q r hr hr0 hr1 hq1 hq hm
    obtain ⟨f1, f2, f3, f4, f5, f6⟩ := digit_facts hY h1 h2 h3 h4 hn hn' rfl hu huY hr hr0 hq1 hq
    have fin := div_end (Y := Y) (y1 := y1) (u := u) (n0 := n0) (q1 := q1) (s := s) (by omega) (by omega) rfl (by omega) (by omega) f5 f6
    generalize hA : u * 4294967296 + n0 = A at *
    have go : A / Y ≤ q - 1 → Ev (fun k => bits_Div64.j4 k Y s y1 y0 n0 q1 r u q true) (q1 * 4294967296 + A / Y, shr .u64 (A % Y) s) := by
      intro hle
      by_cases c : r + y1 ≥ 4294967296
      · have e := f4 hle c
        refine Ev.step (f := fun _ => some (q1 * 4294967296 + A / Y, shr .u64 (A % Y) s)) (fun k => ?_) (Ev.now _)
        rw [bits_Div64.j4, if_pos rfl, uw_id (x := r + y1) (by omega) (by omega), if_pos c, uw_id (x := q - 1) (by omega) (by omega), if_pos hs, ← e]
        rw [fin]
      · refine Ev.step (fun k => by rw [bits_Div64.j4, if_pos rfl, uw_id (x := r + y1) (by omega) (by omega), if_neg c, uw_id (x := q - 1) (by omega) (by omega)]) ?_
        exact ih (q - 1) (r + y1) (by rw [hr]; grind) (by omega) (by omega) (by omega) hle (by omega)
    by_cases c : q ≥ 4294967296
    · exact Ev.step (fun k => by rw [bits_Div64.l1, if_pos c]) (go (f1 c))
    · have b0 : 0 ≤ q * y0 := Int.mul_nonneg (by omega) h3
      have b1 : q * y0 ≤ 4294967295 * 4294967295 := Int.mul_le_mul (by omega) (by omega) h3 (by omega)
      have e : decide ((IntKind.u64.wrap (q * y0)) > (IntKind.u64.wrap ((IntKind.u64.wrap (4294967296 * r)) + n0))) = decide (q * y0 > 4294967296 * r + n0) := by
        rw [uw_id (x := q * y0) b0 (by omega), uw_id (x := 4294967296 * r) (by omega) (by omega), uw_id (by omega) (by omega)]
      by_cases d : q * y0 > 4294967296 * r + n0
      · exact Ev.step (fun k => by rw [bits_Div64.l1, if_neg c, e, decide_eq_true d]) (go (f2 d))
      · refine Ev.step (fun k => by rw [bits_Div64.l1, if_neg c, e, decide_eq_false d]) ?_
        have e := f3 (by omega) d
        refine Ev.step (f := fun _ => some (q1 * 4294967296 + A / Y, shr .u64 (A % Y) s)) (fun k => ?_) (Ev.now _)
        rw [bits_Div64.j4, if_neg (by decide), if_pos hs, ← e]
        rw [fin]

theorem tdiv_eq {a b : Int} (ha : 0 ≤ a) : Int.tdiv a b = a / b := Int.tdiv_eq_ediv_of_nonneg ha
theorem tmod_eq {a b : Int} (ha : 0 ≤ a) : Int.tmod a b = a % b := Int.tmod_eq_emod_of_nonneg ha

/-- The first guess of a digit. -/
theorem guess {Y y1 y0 u A n1 : Int} (hY : Y = y1 * 4294967296 + y0) (h1 : 2147483648 ≤ y1) (h2 : y1 < 4294967296) (h3 : 0 ≤ y0) (h4 : y0 < 4294967296)
    (hn : 0 ≤ n1) (hn' : n1 < 4294967296) (hA : A = u * 4294967296 + n1) (hu : 0 ≤ u) (huY : u < Y) :
    0 ≤ u / y1 ∧ u / y1 ≤ 4294967297 ∧ A / Y ≤ u / y1 ∧ u - u / y1 * y1 = u % y1 ∧ 0 ≤ u % y1 ∧ u % y1 < 4294967296 := by
  have e := Int.emod_add_mul_ediv u y1
  have e0 := Int.emod_nonneg u (show y1 ≠ 0 by omega)
  have e1 := Int.emod_lt_of_pos u (show 0 < y1 by omega)
  have e2 : y1 * (u / y1) = u / y1 * y1 := Int.mul_comm _ _
  refine ⟨Int.ediv_nonneg hu (by omega), ?_, ?_, by omega, e0, by omega⟩
  · have : u / y1 < 4294967298 := by rw [Int.ediv_lt_iff_lt_mul (by omega)]; omega
    omega
  · -- (A / Y) * Y ≤ A, hence (A / Y) * y1 * 2^32 ≤ A, hence (A / Y) * y1 ≤ u
    have hYp : 0 < Y := by omega
    have k := (Int.le_ediv_iff_mul_le (a := A / Y) (b := A) hYp).mp (Int.le_refl _)
    have hQ0 : 0 ≤ A / Y := Int.ediv_nonneg (by omega) (by omega)
    have m0 : 0 ≤ A / Y * y0 := Int.mul_nonneg hQ0 h3
    have eU : A / Y * Y = A / Y * y1 * 4294967296 + A / Y * y0 := by
      generalize A / Y = Q; rw [hY]; grind
    rw [Int.le_ediv_iff_mul_le (by omega)]
    omega

theorem div_j2 {Y s y1 y0 u n1 n0 : Int} (hY : Y = y1 * 4294967296 + y0) (h1 : 2147483648 ≤ y1) (h2 : y1 < 4294967296) (h3 : 0 ≤ y0) (h4 : y0 < 4294967296)
    (hn : 0 ≤ n1) (hn' : n1 < 4294967296) (hm : 0 ≤ n0) (hm' : n0 < 4294967296) (hu : 0 ≤ u) (huY : u < Y) (hs : 0 ≤ s) :
    Ev (fun k => bits_Div64.j2 k Y s y1 y0 u n1 n0 ((u * 4294967296 + n1) / Y))
      ((u * 18446744073709551616 + n1 * 4294967296 + n0) / Y, shr .u64 ((u * 18446744073709551616 + n1 * 4294967296 + n0) % Y) s) := by
  have hYp : 0 < Y := by omega
  have h := Int.emod_add_mul_ediv (u * 4294967296 + n1) Y
  have h0 := Int.emod_nonneg (u * 4294967296 + n1) (show Y ≠ 0 by omega)
  have h1' := Int.emod_lt_of_pos (u * 4294967296 + n1) hYp
  have hc : Y * ((u * 4294967296 + n1) / Y) = (u * 4294967296 + n1) / Y * Y := Int.mul_comm _ _
  have hQ0 : 0 ≤ (u * 4294967296 + n1) / Y := Int.ediv_nonneg (by omega) (by omega)
  have hQ1 : (u * 4294967296 + n1) / Y < 4294967296 := by rw [Int.ediv_lt_iff_lt_mul hYp]; omega
  generalize hQ : (u * 4294967296 + n1) / Y = Q1 at *
  generalize hV : (u * 4294967296 + n1) % Y = V at *
  have eV : IntKind.u64.wrap ((IntKind.u64.wrap ((IntKind.u64.wrap (u * 4294967296)) + n1)) - (IntKind.u64.wrap (Q1 * Y))) = V := by
    rw [uw, uw, uw, uw]; omega
  obtain ⟨g0, g1, g2, g3, g4, g5⟩ := guess (A := V * 4294967296 + n0) hY h1 h2 h3 h4 hm hm' rfl h0 h1'
  have eN : u * 18446744073709551616 + n1 * 4294967296 + n0 = V * 4294967296 + n0 + (Q1 * 4294967296) * Y := by
    have : (Q1 * 4294967296) * Y = Q1 * Y * 4294967296 := by grind
    omega
  have eD : (u * 18446744073709551616 + n1 * 4294967296 + n0) / Y = Q1 * 4294967296 + (V * 4294967296 + n0) / Y := by
    rw [eN, Int.add_mul_ediv_right _ _ (by omega)]; omega
  have eM : (u * 18446744073709551616 + n1 * 4294967296 + n0) % Y = (V * 4294967296 + n0) % Y := by
    rw [eN, Int.add_mul_emod_self_right]
  rw [eD, eM]
  refine Ev.step (f := fun k => bits_Div64.l1 k Y s y1 y0 n0 Q1 (V % y1) V (V / y1)) (fun k => ?_) ?_
  · rw [bits_Div64.j2, if_neg (by omega), eV, tdiv_eq h0, uw_id (x := V / y1) g0 (by omega)]
    rw [uw, uw]
    congr 1
    omega
  · exact div_l1 hY h1 h2 h3 h4 hm hm' h0 h1' hQ0 hQ1 hs 4294967296 _ _ g3.symm g4 g5 g1 g2 (by omega)
end Go.Proofs.Ytpophefonhpnmaa.Q
end

section
/- math/bits.Div64 as printed returns the quotient and the remainder of hi * 2^64 + lo by y, for every y greater than hi. -/
namespace Go.Proofs.Ytpophefonhpnmaa.Q
open Go.RowKit Go.Proofs.YtpophefonhpnmaaW.PrintWords Go.Proofs.YtpophefonhpnmaaW.PrintLast Go.Proofs.YtpophefonhpnmaaW.PrintMore
set_option linter.unusedVariables false
set_option linter.unusedSimpArgs false

theorem shl64 {x : Int} {s : Nat} (hs : s ≤ 64) : shl .u64 x (s : Int) = (x * 2 ^ s) % 18446744073709551616 := by
  unfold shl; rw [uw, Int.toNat_natCast, show IntKind.u64.bits = 64 from rfl, Nat.min_eq_left hs]
theorem shr64 {x : Int} {s : Nat} (hs : s ≤ 64) : shr .u64 x (s : Int) = x / 2 ^ s := by
  unfold shr; rw [Int.toNat_natCast, show IntKind.u64.bits = 64 from rfl, Nat.min_eq_left hs]

theorem div64 {hi lo y : Int} (h0 : 0 ≤ hi) (h1 : hi < y) (h2 : y < 18446744073709551616) (l0 : 0 ≤ lo) (l1 : lo < 18446744073709551616) :
    Ev (fun k => bits_Div64.f k hi lo y) ((hi * 18446744073709551616 + lo) / y, (hi * 18446744073709551616 + lo) % y) := by
  by_cases hz : hi = 0
  · subst hz
    refine Ev.congr (f := fun _ => some (lo / y, lo % y)) (fun k => ?_) ?_
    · unfold bits_Div64.f
      rw [if_neg (by omega), if_neg (by omega), if_pos rfl, tdiv_eq l0, tmod_eq l0, uw_id (Int.ediv_nonneg l0 (by omega))]
      have := Int.ediv_le_self y l0
      omega
    · rw [show 0 * 18446744073709551616 + lo = lo by omega]; exact Ev.now _
  · obtain ⟨K, hK⟩ : ∃ K, ∀ k, K ≤ k → bits_Div64.f k hi lo y = some ((hi * 18446744073709551616 + lo) / y, (hi * 18446744073709551616 + lo) % y) := by
      obtain ⟨s, hs, hsv, hY0, hY1⟩ := lz64 (y := y) (by omega) h2 0
      have hsE : Ev (fun k => bits_LeadingZeros64.f k y) (s : Int) := Ev.of (fun k => bits_LeadingZeros64.mono _ _) hsv
      have hP : (0 : Int) < 2 ^ s := Int.pow_pos (by decide)
      have hPP : (2 : Int) ^ s * 2 ^ (64 - s) = 18446744073709551616 := by rw [← Int.pow_add, show s + (64 - s) = 64 by omega]; decide
      have hP' : (0 : Int) < 2 ^ (64 - s) := Int.pow_pos (by decide)
      have hb : hi * 2 ^ s < y * 2 ^ s := Int.mul_lt_mul_of_pos_right h1 hP
      have hb0 : 0 ≤ hi * 2 ^ s := Int.mul_nonneg h0 (by omega)
      have hlo0 : 0 ≤ lo * 2 ^ s := Int.mul_nonneg l0 (by omega)
      -- the low part of the dividend that moves up
      have hdl : lo / 2 ^ (64 - s) = lo * 2 ^ s / 18446744073709551616 := by
        rw [← hPP, Int.mul_comm lo, Int.mul_ediv_mul_of_pos _ _ hP]
      have hlt : lo * 2 ^ s < 18446744073709551616 * 2 ^ s := Int.mul_lt_mul_of_pos_right l1 hP
      have hdlt : lo * 2 ^ s / 18446744073709551616 < 2 ^ s := by
        rw [Int.ediv_lt_iff_lt_mul (by decide), Int.mul_comm (2 ^ s)]; exact hlt
      have hd0 : 0 ≤ lo * 2 ^ s / 18446744073709551616 := Int.ediv_nonneg hlo0 (by decide)
      have e1 : shl .u64 y (s : Int) = y * 2 ^ s := by rw [shl64 (by omega)]; omega
      have e2 : shl .u64 hi (s : Int) = hi * 2 ^ s := by rw [shl64 (by omega)]; omega
      have e3 : shl .u64 lo (s : Int) = lo * 2 ^ s % 18446744073709551616 := shl64 (by omega)
      have e4 : shr .u64 lo (IntKind.u64.wrap (64 - IntKind.u64.wrap (s : Int))) = lo * 2 ^ s / 18446744073709551616 := by
        rw [uw_id (x := (s : Int)) (by omega) (by omega), uw_id (by omega) (by omega), show (64 : Int) - (s : Int) = ((64 - s : Nat) : Int) by omega, shr64 (by omega), hdl]
      have hle : hi * 2 ^ s + 2 ^ s ≤ y * 2 ^ s := by
        have := Int.mul_le_mul_of_nonneg_right (show hi + 1 ≤ y by omega) (Int.le_of_lt hP)
        rw [Int.add_mul, Int.one_mul] at this; exact this
      have e5 : Go.bits .or .u64 (hi * 2 ^ s) (lo * 2 ^ s / 18446744073709551616) = hi * 2 ^ s + lo * 2 ^ s / 18446744073709551616 :=
        Go.bits_join .u64 64 (by decide) (fun n h h' => by rw [uw]; omega) s _ _ hb0 (Int.mul_emod_left _ _) (by omega) hd0 hdlt (by omega)
      -- the whole
      have key := div_j2 (Y := y * 2 ^ s) (s := (s : Int)) (y1 := y * 2 ^ s / 4294967296) (y0 := y * 2 ^ s % 4294967296) (u := hi * 2 ^ s + lo * 2 ^ s / 18446744073709551616)
        (n1 := lo * 2 ^ s % 18446744073709551616 / 4294967296) (n0 := lo * 2 ^ s % 18446744073709551616 % 4294967296)
        (by omega) (by omega) (by omega) (by omega) (by omega) (by omega) (by omega) (by omega) (by omega) (by omega) (by omega) (by omega)
      have hN : (hi * 2 ^ s + lo * 2 ^ s / 18446744073709551616) * 18446744073709551616 + lo * 2 ^ s % 18446744073709551616 / 4294967296 * 4294967296 + lo * 2 ^ s % 18446744073709551616 % 4294967296
          = (hi * 18446744073709551616 + lo) * 2 ^ s := by
        have : (hi * 18446744073709551616 + lo) * 2 ^ s = hi * 2 ^ s * 18446744073709551616 + lo * 2 ^ s := by grind
        omega
      have eM : (hi * 18446744073709551616 + lo) * 2 ^ s % (y * 2 ^ s) = (hi * 18446744073709551616 + lo) % y * 2 ^ s := by
        rw [Int.mul_comm _ (2 ^ s), Int.mul_comm y, Int.mul_emod_mul_of_pos _ _ hP, Int.mul_comm]
      rw [hN, Int.mul_ediv_mul_of_pos_left _ _ hP, eM, shr64 (by omega), Int.mul_ediv_cancel _ (by omega)] at key
      obtain ⟨g0, g1, g2, g3, g4, g5⟩ := guess (Y := y * 2 ^ s) (y1 := y * 2 ^ s / 4294967296) (y0 := y * 2 ^ s % 4294967296) (u := hi * 2 ^ s + lo * 2 ^ s / 18446744073709551616)
        (A := (hi * 2 ^ s + lo * 2 ^ s / 18446744073709551616) * 4294967296 + lo * 2 ^ s % 18446744073709551616 / 4294967296) (n1 := lo * 2 ^ s % 18446744073709551616 / 4294967296)
        (by omega) (by omega) (by omega) (by omega) (by omega) (by omega) (by omega) rfl (by omega) (by omega)
      have key2 := div_l0 (Y := y * 2 ^ s) (s := (s : Int)) (y1 := y * 2 ^ s / 4294967296) (y0 := y * 2 ^ s % 4294967296) (u := hi * 2 ^ s + lo * 2 ^ s / 18446744073709551616)
        (n1 := lo * 2 ^ s % 18446744073709551616 / 4294967296) (n0 := lo * 2 ^ s % 18446744073709551616 % 4294967296)
        (by omega) (by omega) (by omega) (by omega) (by omega) (by omega) (by omega) (by omega) (by omega) key 4294967296 _ _ g3.symm g4 g5 g1 g2 (by omega)
      obtain ⟨K1, h1'⟩ := hsE
      obtain ⟨K2, h2'⟩ := key2
      refine ⟨max K1 K2, fun k hk => ?_⟩
      unfold bits_Div64.f
      rw [if_neg (by omega), if_neg (by omega), if_neg hz, show bits_LeadingZeros64.f k y = some (s : Int) from h1' k (by omega)]
      simp only [Option.bind_some]
      rw [e4, uw_id (x := (s : Int)) (by omega) (by omega), if_pos (by omega), uw_id (x := 64 - (s : Int)) (by omega) (by omega), if_pos (by omega), e1, e2, e3, e5,
        if_neg (by omega), u64_mask32 (by omega) (by omega), u64_mask32 (by omega) (by omega), tdiv_eq (by omega), uw_id (x := _ / _) g0 (by omega), uw, uw]
      have hmm : ((hi * 2 ^ s + lo * 2 ^ s / 18446744073709551616) - (hi * 2 ^ s + lo * 2 ^ s / 18446744073709551616) / (y * 2 ^ s / 4294967296) * (y * 2 ^ s / 4294967296) % 18446744073709551616) % 18446744073709551616
          = (hi * 2 ^ s + lo * 2 ^ s / 18446744073709551616) % (y * 2 ^ s / 4294967296) := by omega
      rw [hmm]
      exact h2' k (by omega)
    exact ⟨K, hK⟩
end Go.Proofs.Ytpophefonhpnmaa.Q
end

section
/- Package num of the program in plain numbers: products of 128 bits, their sums, order, quotients and remainders; the bounds stand in each statement. -/
-- AUTO
namespace Go.Proofs.Ytpophefonhpnmaa.Q
open Go.RowKit Go.Proofs.YtpophefonhpnmaaW.PrintWords Go.Proofs.YtpophefonhpnmaaW.PrintLast Go.Proofs.YtpophefonhpnmaaW.PrintMore
set_option linter.unusedVariables false
set_option linter.unusedSimpArgs false

/-- What a product of two numbers of 64 bits lies between. -/
theorem prod_bd {a b : Int} (a0 : -9223372036854775808 ≤ a) (a1 : a < 9223372036854775808) (b0 : -9223372036854775808 ≤ b) (b1 : b < 9223372036854775808) :
    -85070591730234615865843651857942052864 ≤ a * b ∧ a * b ≤ 85070591730234615865843651857942052864 := by
  have h : (a * b).natAbs ≤ 9223372036854775808 * 9223372036854775808 := by
    rw [Int.natAbs_mul]; exact Nat.mul_le_mul (by omega) (by omega)
  omega

theorem wide_neg {v : Int} (h0 : -170141183460469231731687303715884105728 < v) (h1 : v < 170141183460469231731687303715884105728) :
    num_Wide_Neg.f (v / 18446744073709551616) (v % 18446744073709551616) = some (-v / 18446744073709551616, -v % 18446744073709551616) := by
  unfold num_Wide_Neg.f
  rw [if_pos (by omega), if_pos (by omega)]
  congr 2
  · unfold wrap64; omega
  · omega

theorem wide_plus {u v : Int} (h0 : -170141183460469231731687303715884105728 ≤ u + v) (h1 : u + v < 170141183460469231731687303715884105728) :
    num_Wide_Plus.f (u / 18446744073709551616) (u % 18446744073709551616) (v / 18446744073709551616) (v % 18446744073709551616)
      = some ((u + v) / 18446744073709551616, (u + v) % 18446744073709551616) := by
  unfold num_Wide_Plus.f
  rw [if_pos (by omega), if_pos (by omega), if_pos (by omega), if_pos (by omega)]
  congr 2
  · unfold wrap64; omega
  · omega

theorem product {a b : Int} (a0 : -9223372036854775808 ≤ a) (a1 : a < 9223372036854775808) (b0 : -9223372036854775808 ≤ b) (b1 : b < 9223372036854775808) :
    num_Product.f a b = some (a * b / 18446744073709551616, a * b % 18446744073709551616) := by
  have hb := prod_bd a0 a1 b0 b1
  unfold num_Product.f
  rw [size_some a0 a1, size_some b0 b1]
  simp only [Option.bind_some]
  rw [mul64 (by split <;> omega) (by split <;> omega) (by split <;> omega) (by split <;> omega)]
  simp only [Option.bind_some]
  by_cases ha : a < 0 <;> by_cases hc : b < 0
  · rw [if_pos ha, if_pos hc, if_neg (by simp [ha, hc]), Int.neg_mul_neg]
    congr 2
    unfold wrap64; omega
  · rw [if_pos ha, if_neg hc, if_pos (by simp [ha]; omega), Int.neg_mul, w64_id (by omega) (by omega), wide_neg (by omega) (by omega)]
    simp only [Option.bind_some, Int.neg_neg]
  · rw [if_neg ha, if_pos hc, if_pos (by simp [hc]; omega), Int.mul_neg, w64_id (by omega) (by omega), wide_neg (by omega) (by omega)]
    simp only [Option.bind_some, Int.neg_neg]
  · rw [if_neg ha, if_neg hc, if_neg (by simp [ha, hc])]
    congr 2
    unfold wrap64; omega

/-- Division of a negative number: by that of the opposite one. -/
theorem neg_div {v d : Int} (hd : 0 < d) : v / d = (if -v % d = 0 then -(-v / d) else -(-v / d) - 1) ∧ v % d = (if -v % d = 0 then 0 else d - -v % d) := by
  have e := Int.emod_add_mul_ediv (-v) d
  have h0 := Int.emod_nonneg (-v) (show d ≠ 0 by omega)
  have h1 := Int.emod_lt_of_pos (-v) hd
  split
  · exact (Int.ediv_emod_unique hd).mpr ⟨by rw [Int.mul_neg]; omega, by omega, by omega⟩
  · exact (Int.ediv_emod_unique hd).mpr ⟨by rw [Int.mul_sub, Int.mul_neg]; omega, by omega, by omega⟩

theorem div_bd {v d : Int} (h0 : 0 ≤ v) (hd : 0 < d) : 0 ≤ v / d ∧ v / d ≤ v := ⟨Int.ediv_nonneg h0 (by omega), Int.ediv_le_self d h0⟩

theorem one_ev {α : Type} {g : Nat → Option α} {r : α} (h : ∀ k, g (k + 1) = some r) : Ev g r := Ev.step (f := fun _ => some r) h (Ev.now _)
theorem now_ev {α : Type} {g : Nat → Option α} {r : α} (h : ∀ k, g k = some r) : Ev g r := Ev.congr (f := fun _ => some r) h (Ev.now _)

theorem wide_div_j1 {p r : Int} (neg : Bool) {h l : Int} (hn : (h < 0) = (neg = true)) (hp0 : 0 ≤ p) (hp1 : p < 18446744073709551616) (hr : 0 ≤ r) :
    Ev (fun k => num_Wide_Div.j1 k p r (if neg then (if r > 0 then 9223372036854775807 else 9223372036854775808) else 9223372036854775807) h l)
      (if neg then (if r = 0 then (if p ≤ 9223372036854775808 then (-p, 0) else (0, 2)) else (if p ≤ 9223372036854775807 then (-p - 1, 0) else (0, 2)))
        else (if p ≤ 9223372036854775807 then (p, 0) else (0, 2))) := by
  refine one_ev fun k => ?_
  rw [num_Wide_Div.j1]
  cases neg
  · have hh : ¬ h < 0 := by rw [hn]; decide
    simp only [Bool.false_eq_true, if_false]
    by_cases c : p ≤ 9223372036854775807
    · rw [if_neg (by omega), if_pos (by omega), if_pos c, w64_id (by omega) (by omega)]
    · rw [if_pos (by omega), if_neg c]
  · have hh : h < 0 := by rw [hn]
    simp only [if_true]
    by_cases z : r = 0
    · rw [if_neg (show ¬ r > 0 by omega), if_pos z]
      by_cases c : p ≤ 9223372036854775808
      · rw [if_neg (by omega), if_neg (by omega), if_neg (by omega), if_pos c, uw_wrap64, w64_id (by omega) (by omega)]
      · rw [if_pos (by omega), if_neg c]
    · rw [if_pos (show r > 0 by omega), if_neg z]
      by_cases c : p ≤ 9223372036854775807
      · rw [if_neg (by omega), if_neg (by omega), if_pos (by omega), if_pos c, uw_wrap64, w64_id (x := -p) (by omega) (by omega), w64_id (by omega) (by omega)]
      · rw [if_pos (by omega), if_neg c]

theorem some_ev {α β : Type} {g : Option α} {f : Nat → α → Option β} {a : α} {r : β} (h : g = some a) (k : Ev (fun n => f n a) r) : Ev (fun n => g.bind (f n)) r := by
  subst h; exact k
theorem pos_ev {α : Type} {c : Prop} [Decidable c] {g f : Nat → Option α} {r : α} (h : c) (k : Ev g r) : Ev (fun n => if c then g n else f n) r := by
  simp only [if_pos h]; exact k
theorem neg_ev {α : Type} {c : Prop} [Decidable c] {g f : Nat → Option α} {r : α} (h : ¬ c) (k : Ev f r) : Ev (fun n => if c then g n else f n) r := by
  simp only [if_neg h]; exact k

/-- Whether a number has 64 bits, with sign. -/
def fits (n : Int) : Bool := decide (-9223372036854775808 ≤ n) && decide (n ≤ 9223372036854775807)

theorem wide_div {v d : Int} (h0 : -170141183460469231731687303715884105728 ≤ v) (h1 : v < 170141183460469231731687303715884105728) (hd1 : d < 9223372036854775808) :
    Ev (fun k => num_Wide_Div.f k (v / 18446744073709551616) (v % 18446744073709551616) d) (if d < 1 then (0, 1) else if fits (v / d) then (v / d, 0) else (0, 2)) := by
  by_cases hd : d < 1
  · rw [if_pos hd]; exact now_ev fun k => by unfold num_Wide_Div.f; rw [if_pos hd]
  rw [if_neg hd]
  have hdp : 0 < d := by omega
  by_cases hv : v < 0
  · by_cases hm : v = -170141183460469231731687303715884105728
    · subst hm
      have hf : fits (-170141183460469231731687303715884105728 / d) = false := by
        have : -170141183460469231731687303715884105728 / d < -9223372036854775808 := by rw [Int.ediv_lt_iff_lt_mul hdp]; omega
        unfold fits; rw [decide_eq_false (by omega)]; rfl
      rw [hf]
      refine Ev.congr (f := fun k => num_Wide_Div.j0 k d (-9223372036854775808) 0 (-9223372036854775808) 0) (fun k => ?_) ?_
      · unfold num_Wide_Div.f
        rw [if_neg hd, if_pos (by omega)]
        have : num_Wide_Neg.f (-170141183460469231731687303715884105728 / 18446744073709551616) (-170141183460469231731687303715884105728 % 18446744073709551616) = some (-9223372036854775808, 0) := by decide +kernel
        rw [this]
        rfl
      · refine one_ev fun k => ?_
        rw [num_Wide_Div.j0, if_pos (by rw [uw, uw]; omega)]
        rfl
    · have b := div_bd (v := -v) (d := d) (by omega) hdp
      have nd := neg_div (v := v) hdp
      have h0' := Int.emod_nonneg (-v) (show d ≠ 0 by omega)
      refine Ev.congr (f := fun k => num_Wide_Div.j0 k d (v / 18446744073709551616) (v % 18446744073709551616) (-v / 18446744073709551616) (-v % 18446744073709551616)) (fun k => ?_) ?_
      · unfold num_Wide_Div.f
        rw [if_neg hd, if_pos (by omega), wide_neg (by omega) (by omega)]
        rfl
      · by_cases c : -v / 18446744073709551616 ≥ d
        · have hq : 18446744073709551616 ≤ -v / d := by rw [Int.le_ediv_iff_mul_le hdp]; omega
          have hf : fits (v / d) = false := by
            unfold fits; rw [decide_eq_false (by rw [nd.1]; split <;> omega)]; rfl
          rw [hf]
          refine one_ev fun k => ?_
          rw [num_Wide_Div.j0, if_pos (by rw [uw, uw]; omega)]
          rfl
        · have D := div64 (hi := -v / 18446744073709551616) (lo := -v % 18446744073709551616) (y := d) (by omega) (by omega) (by omega) (by omega) (by omega)
          rw [show -v / 18446744073709551616 * 18446744073709551616 + -v % 18446744073709551616 = -v by omega] at D
          have hq : -v / d < 18446744073709551616 := by rw [Int.ediv_lt_iff_lt_mul hdp]; omega
          have J := wide_div_j1 (p := -v / d) (r := -v % d) true (h := v / 18446744073709551616) (l := v % 18446744073709551616) (by simp; omega) b.1 hq h0'
          simp only [if_true] at J
          refine Ev.step (f := fun k => (bits_Div64.f k (-v / 18446744073709551616) (-v % 18446744073709551616) d).bind fun bt => num_Wide_Div.j1 k bt.1 bt.2 (if bt.2 > 0 then 9223372036854775807 else 9223372036854775808) (v / 18446744073709551616) (v % 18446744073709551616)) (fun k => ?_) ?_
          · rw [num_Wide_Div.j0, uw_id (x := -v / 18446744073709551616) (by omega) (by omega), uw_id (x := d) (by omega) (by omega), if_neg c]
            congr 1
            funext bt
            rw [if_pos (by omega)]
            split <;> rfl
          · refine ev_fun (Ev.bind D J) ?_
            rw [nd.1]
            unfold fits
            by_cases z : -v % d = 0
            · rw [if_pos z, if_pos z]
              by_cases y : -v / d ≤ 9223372036854775808
              · rw [if_pos y, decide_eq_true (by omega), decide_eq_true (by omega)]; rfl
              · rw [if_neg y, decide_eq_false (by omega)]; rfl
            · rw [if_neg z, if_neg z]
              by_cases y : -v / d ≤ 9223372036854775807
              · rw [if_pos y, decide_eq_true (by omega), decide_eq_true (by omega)]; rfl
              · rw [if_neg y, decide_eq_false (by omega)]; rfl
  · have b := div_bd (v := v) (d := d) (by omega) hdp
    have h0' := Int.emod_nonneg v (show d ≠ 0 by omega)
    refine Ev.congr (f := fun k => num_Wide_Div.j0 k d (v / 18446744073709551616) (v % 18446744073709551616) (v / 18446744073709551616) (v % 18446744073709551616)) (fun k => ?_) ?_
    · unfold num_Wide_Div.f
      rw [if_neg hd, if_neg (by omega)]
    · by_cases c : v / 18446744073709551616 ≥ d
      · have hq : 18446744073709551616 ≤ v / d := by rw [Int.le_ediv_iff_mul_le hdp]; omega
        have hf : fits (v / d) = false := by
          unfold fits; rw [decide_eq_true (by omega), decide_eq_false (by omega)]; rfl
        rw [hf]
        refine one_ev fun k => ?_
        rw [num_Wide_Div.j0, if_pos (by rw [uw, uw]; omega)]
        rfl
      · have D := div64 (hi := v / 18446744073709551616) (lo := v % 18446744073709551616) (y := d) (by omega) (by omega) (by omega) (by omega) (by omega)
        rw [show v / 18446744073709551616 * 18446744073709551616 + v % 18446744073709551616 = v by omega] at D
        have hq : v / d < 18446744073709551616 := by rw [Int.ediv_lt_iff_lt_mul hdp]; omega
        have J := wide_div_j1 (p := v / d) (r := v % d) false (h := v / 18446744073709551616) (l := v % 18446744073709551616) (by simp; omega) b.1 hq h0'
        simp only [Bool.false_eq_true, if_false] at J
        refine Ev.step (f := fun k => (bits_Div64.f k (v / 18446744073709551616) (v % 18446744073709551616) d).bind fun bt => num_Wide_Div.j1 k bt.1 bt.2 9223372036854775807 (v / 18446744073709551616) (v % 18446744073709551616)) (fun k => ?_) ?_
        · rw [num_Wide_Div.j0, uw_id (x := v / 18446744073709551616) (by omega) (by omega), uw_id (x := d) (by omega) (by omega), if_neg c]
          congr 1
          funext bt
          rw [if_neg (by omega)]
        · refine ev_fun (Ev.bind D J) ?_
          unfold fits
          by_cases y : v / d ≤ 9223372036854775807
          · rw [if_pos y, decide_eq_true (by omega), decide_eq_true (by omega)]; rfl
          · rw [if_neg y, decide_eq_true (by omega), decide_eq_false (by omega)]; rfl

theorem wide_mod {v d : Int} (h0 : -170141183460469231731687303715884105728 < v) (h1 : v < 170141183460469231731687303715884105728) (hd1 : d < 9223372036854775808) :
    Ev (fun k => num_Wide_Mod.f k (v / 18446744073709551616) (v % 18446744073709551616) d) (if d < 1 then 0 else v % d) := by
  by_cases hd : d < 1
  · rw [if_pos hd]; exact now_ev fun k => by unfold num_Wide_Mod.f; rw [if_pos hd]
  rw [if_neg hd]
  have hdp : 0 < d := by omega
  -- the upper half may be reduced first
  have red : ∀ u : Int, 0 ≤ u → u < 170141183460469231731687303715884105728 →
      Ev (fun k => bits_Div64.f k (Int.tmod (IntKind.u64.wrap (u / 18446744073709551616)) (IntKind.u64.wrap d)) (u % 18446744073709551616) (IntKind.u64.wrap d))
        ((u / 18446744073709551616 % d * 18446744073709551616 + u % 18446744073709551616) / d, u % d) := by
    intro u u0 u1
    have m0 := Int.emod_nonneg (u / 18446744073709551616) (show d ≠ 0 by omega)
    have m1 := Int.emod_lt_of_pos (u / 18446744073709551616) hdp
    have D := div64 (hi := u / 18446744073709551616 % d) (lo := u % 18446744073709551616) (y := d) m0 m1 (by omega) (by omega) (by omega)
    have e : (u / 18446744073709551616 % d * 18446744073709551616 + u % 18446744073709551616) % d = u % d := by
      have e1 := Int.emod_add_mul_ediv (u / 18446744073709551616) d
      have e2 : u = u / 18446744073709551616 % d * 18446744073709551616 + u % 18446744073709551616 + d * (u / 18446744073709551616 / d * 18446744073709551616) := by
        have : d * (u / 18446744073709551616 / d * 18446744073709551616) = d * (u / 18446744073709551616 / d) * 18446744073709551616 := by grind
        omega
      conv => rhs; rw [e2]
      rw [Int.add_mul_emod_self_left]
    rw [e] at D
    refine Ev.congr (fun k => ?_) D
    rw [uw_id (x := u / 18446744073709551616) (by omega) (by omega), uw_id (x := d) (by omega) (by omega), tmod_eq (by omega)]
  have hw : ¬ IntKind.u64.wrap d = 0 := by rw [uw]; omega
  by_cases hv : v < 0
  · have nd := neg_div (v := v) hdp
    have m0 := Int.emod_nonneg (-v) (show d ≠ 0 by omega)
    have m1 := Int.emod_lt_of_pos (-v) hdp
    refine Ev.congr (f := fun k => (bits_Div64.f k (Int.tmod (IntKind.u64.wrap (-v / 18446744073709551616)) (IntKind.u64.wrap d)) (-v % 18446744073709551616) (IntKind.u64.wrap d)).bind fun bt => if bt.2 > 0 then some (wrap64 (IntKind.u64.wrap (IntKind.u64.wrap d - bt.2))) else some (wrap64 bt.2)) (fun k => ?_) ?_
    · unfold num_Wide_Mod.f
      rw [if_neg hd, if_pos (by omega), wide_neg h0 h1]
      simp only [Option.bind_some]
      rw [if_neg hw]
    · refine Ev.bind (red (-v) (by omega) (by omega)) (now_ev fun k => ?_)
      rw [nd.2]
      by_cases z : -v % d = 0
      · rw [if_neg (by simp only; omega), if_pos z]; simp only [z]; decide +kernel
      · rw [if_pos (by simp only; omega), if_neg z]; simp only; congr 1; rw [uw_id (x := d) (by omega) (by omega), uw_wrap64, w64_id (by omega) (by omega)]
  · have m0 := Int.emod_nonneg v (show d ≠ 0 by omega)
    have m1 := Int.emod_lt_of_pos v hdp
    refine Ev.congr (f := fun k => (bits_Div64.f k (Int.tmod (IntKind.u64.wrap (v / 18446744073709551616)) (IntKind.u64.wrap d)) (v % 18446744073709551616) (IntKind.u64.wrap d)).bind fun bt => some (wrap64 bt.2)) (fun k => ?_) ?_
    · unfold num_Wide_Mod.f
      rw [if_neg hd, if_neg (by omega), if_neg hw]
    · refine Ev.bind (red v (by omega) (by omega)) (now_ev fun k => ?_)
      simp only; congr 1; rw [w64_id (by omega) (by omega)]

theorem cmp_i64 (a b : Int) : cmp_Compare_int64.f a b = some (if a < b then -1 else if a > b then 1 else 0) := by
  unfold cmp_Compare_int64.f cmp_isNaN_int64.f
  simp only [Option.bind_some, bne_self_eq_false, Bool.false_eq_true, if_false]
  split
  · rfl
  · split <;> rfl
theorem cmp_u64 (a b : Int) : cmp_Compare_uint64.f a b = some (if a < b then -1 else if a > b then 1 else 0) := by
  unfold cmp_Compare_uint64.f cmp_isNaN_uint64.f
  simp only [Option.bind_some, bne_self_eq_false, Bool.false_eq_true, if_false]
  split
  · rfl
  · split <;> rfl
theorem or_two (x y : Int) : Ev (fun k => cmp_Or_int.f k [x, y]) (if x = 0 then y else x) := by
  refine Ev.congr (f := fun k => cmp_Or_int.l0 k 0 [x, y] 2 0) (fun k => by unfold cmp_Or_int.f; rfl) ?_
  by_cases hx : x = 0
  · rw [if_pos hx]
    refine Ev.step (f := fun k => cmp_Or_int.l0 k 0 [x, y] 2 1) (fun k => ?_) ?_
    · rw [cmp_Or_int.l0, if_pos (by decide), if_pos (by decide), if_pos (by simp), if_pos (by simpa [rd] using hx), w64_id (by decide) (by decide)]; rfl
    · by_cases hy : y = 0
      · refine Ev.step (f := fun k => cmp_Or_int.l0 k 0 [x, y] 2 2) (fun k => ?_) ?_
        · rw [cmp_Or_int.l0, if_pos (by decide), if_pos (by decide), if_pos (by simp), if_pos (by simpa [rd] using hy), w64_id (by decide) (by decide)]; rfl
        · exact one_ev fun k => by rw [cmp_Or_int.l0, if_neg (by decide), hy]
      · exact one_ev fun k => by rw [cmp_Or_int.l0, if_pos (by decide), if_pos (by decide), if_pos (by simp), if_neg (by simpa [rd] using hy)]; simp [rd]
  · rw [if_neg hx]
    exact one_ev fun k => by rw [cmp_Or_int.l0, if_pos (by decide), if_pos (by decide), if_pos (by simp), if_neg (by simpa [rd] using hx)]; simp [rd]

theorem wide_cmp (u v : Int) : Ev (fun k => num_Wide_Cmp.f k (u / 18446744073709551616) (u % 18446744073709551616) (v / 18446744073709551616) (v % 18446744073709551616)) (if u < v then -1 else if u > v then 1 else 0) := by
  refine Ev.congr (f := fun k => (cmp_Or_int.f k [if u / 18446744073709551616 < v / 18446744073709551616 then -1 else if u / 18446744073709551616 > v / 18446744073709551616 then 1 else 0,
      if u % 18446744073709551616 < v % 18446744073709551616 then -1 else if u % 18446744073709551616 > v % 18446744073709551616 then 1 else 0]).bind fun t => some t) (fun k => ?_) ?_
  · unfold num_Wide_Cmp.f
    rw [cmp_i64, cmp_u64]; rfl
  · refine ev_fun (Ev.bind (or_two _ _) (Ev.now _)) ?_
    by_cases a : u / 18446744073709551616 < v / 18446744073709551616
    · rw [if_pos a, if_neg (by omega), if_pos (by omega)]
    · rw [if_neg a]
      by_cases b : u / 18446744073709551616 > v / 18446744073709551616
      · rw [if_pos b, if_neg (by omega), if_neg (by omega), if_pos (by omega)]
      · rw [if_neg b, if_pos rfl]
        by_cases c : u % 18446744073709551616 < v % 18446744073709551616
        · rw [if_pos c, if_pos (show u < v by omega)]
        · rw [if_neg c, if_neg (show ¬ u < v by omega)]
          by_cases d : u % 18446744073709551616 > v % 18446744073709551616
          · rw [if_pos d, if_pos (show u > v by omega)]
          · rw [if_neg d, if_neg (show ¬ u > v by omega)]

/-- The quotient, rounded up. -/
def upq (v d : Int) : Int := if v % d = 0 then v / d else v / d + 1
theorem muldiv {a b d : Int} (a0 : -9223372036854775808 ≤ a) (a1 : a < 9223372036854775808) (b0 : -9223372036854775808 ≤ b) (b1 : b < 9223372036854775808) (hd1 : d < 9223372036854775808) :
    Ev (fun k => num_MulDiv.f k a b d) (if d < 1 then (0, 1) else if fits (a * b / d) then (a * b / d, 0) else (0, 2)) := by
  have hb := prod_bd a0 a1 b0 b1
  refine Ev.congr (f := fun k => (num_Wide_Div.f k (a * b / 18446744073709551616) (a * b % 18446744073709551616) d).bind fun bt => some (bt.1, bt.2)) (fun k => ?_) ?_
  · unfold num_MulDiv.f
    rw [product a0 a1 b0 b1]; rfl
  · exact Ev.bind (wide_div (by omega) (by omega) hd1) (Ev.now _)


end Go.Proofs.Ytpophefonhpnmaa.Q
end

section
/- The greatest common divisor and the square root of package num in plain numbers; the bounds stand in each statement. -/
-- AUTO
namespace Go.Proofs.Ytpophefonhpnmaa.Q
open Go.RowKit Go.Proofs.YtpophefonhpnmaaW.PrintWords Go.Proofs.YtpophefonhpnmaaW.PrintLast Go.Proofs.YtpophefonhpnmaaW.PrintMore
set_option linter.unusedVariables false
set_option linter.unusedSimpArgs false

theorem andNot63 {x : Int} (h0 : 0 ≤ x) (h1 : x < 18446744073709551616) : Go.bits .andNot .u64 x 9223372036854775808 = x % 9223372036854775808 := by
  obtain ⟨n, rfl⟩ := Int.eq_ofNat_of_zero_le h0
  rw [Go.u64_andNot _ _ (by omega) (by omega) (by decide) (by decide)]
  rw [show (18446744073709551615 - (9223372036854775808 : Int).toNat) = 9223372036854775807 from rfl, Int.toNat_natCast, Go.nat_mask63]
  omega

theorem gcd_l0 (n : Nat) : ∀ x y : Nat, y ≤ n → x ≤ 9223372036854775808 → y ≤ 9223372036854775808 → Ev (fun k => num_Gcd.l0 k (x : Int) (y : Int)) ((Nat.gcd x y : Int) % 9223372036854775808) := by
  induction n with
  | zero =>
    intro x y hy hx hy'
    obtain rfl : y = 0 := by omega
    refine one_ev fun k => ?_
    rw [num_Gcd.l0, if_neg (by decide), andNot63 (by omega) (by omega), w64_id (by omega) (by omega), Nat.gcd_zero_right]
  | succ n ih =>
    intro x y hy hx hy'
    by_cases z : y = 0
    · subst z
      refine one_ev fun k => ?_
      rw [num_Gcd.l0, if_neg (by decide), andNot63 (by omega) (by omega), w64_id (by omega) (by omega), Nat.gcd_zero_right]
    · have hm : x % y < y := Nat.mod_lt _ (by omega)
      refine Ev.step (fun k => by rw [num_Gcd.l0, if_pos (by omega), if_neg (by omega), tmod_eq (by omega), ← Int.natCast_emod]) ?_
      rw [show Nat.gcd x y = Nat.gcd y (x % y) by rw [Nat.gcd_comm, Nat.gcd_rec, Nat.gcd_comm]]
      exact ih y (x % y) (by omega) hy' (by omega)

theorem gcd_ev {a b : Int} (a0 : -9223372036854775808 ≤ a) (a1 : a < 9223372036854775808) (b0 : -9223372036854775808 ≤ b) (b1 : b < 9223372036854775808) :
    Ev (fun k => num_Gcd.f k a b) ((Int.gcd a b : Int) % 9223372036854775808) := by
  have e : ∀ c : Int, (if c < 0 then -c else c) = (c.natAbs : Int) := fun c => by split <;> omega
  refine Ev.congr (f := fun k => num_Gcd.l0 k (a.natAbs : Int) (b.natAbs : Int)) (fun k => ?_) ?_
  · unfold num_Gcd.f
    rw [size_some a0 a1, size_some b0 b1, e, e]; rfl
  · exact gcd_l0 _ _ _ (Nat.le_refl _) (by omega) (by omega)

end Go.Proofs.Ytpophefonhpnmaa.Q
end

section
/- What spymake.Below answers, in plain numbers. -/
namespace Go.Proofs.Ytpophefonhpnmaa.Q
open Go.RowKit Go.Proofs.YtpophefonhpnmaaW.PrintWords Go.Proofs.YtpophefonhpnmaaW.PrintLast Go.Proofs.YtpophefonhpnmaaW.PrintMore
set_option linter.unusedVariables false
set_option linter.unusedSimpArgs false

theorem below {a n : Int} (hn : 1 ≤ n) (hn1 : n < 9223372036854775808) : spymake_Below.f a n = some (a % n) := by
  unfold spymake_Below.f
  rw [if_neg (by omega), if_neg (by omega)]
  have m0 := Int.emod_nonneg a (show n ≠ 0 by omega)
  have m1 := Int.emod_lt_of_pos a (show 0 < n by omega)
  by_cases c : 0 ≤ a
  · rw [tmod_eq c, if_neg (by omega)]
  · have e : Int.tmod a n = -(-a % n) := by
      have := Int.neg_tmod (-a) n
      rw [Int.neg_neg] at this
      rw [this, tmod_eq (by omega)]
    rw [e, (show a % n = (if -a % n = 0 then 0 else n - -a % n) by
      have e1 := Int.emod_add_mul_ediv (-a) n
      have h0 := Int.emod_nonneg (-a) (show n ≠ 0 by omega)
      have h1 := Int.emod_lt_of_pos (-a) (show 0 < n by omega)
      split
      · exact ((Int.ediv_emod_unique (q := -(-a / n)) (show 0 < n by omega)).mpr ⟨by rw [Int.mul_neg]; omega, by omega, by omega⟩).2
      · exact ((Int.ediv_emod_unique (q := -(-a / n) - 1) (show 0 < n by omega)).mpr ⟨by rw [Int.mul_sub, Int.mul_neg]; omega, by omega, by omega⟩).2)]
    have h0 := Int.emod_nonneg (-a) (show n ≠ 0 by omega)
    have h1 := Int.emod_lt_of_pos (-a) (show 0 < n by omega)
    by_cases z : -a % n = 0
    · rw [if_neg (by omega), if_pos z, z]; rfl
    · rw [if_pos (by omega), if_neg z, w64_id (by omega) (by omega)]; congr 1; omega
end Go.Proofs.Ytpophefonhpnmaa.Q
end

section
/- Quotients rounded down and up by a positive number, in plain numbers; the bounds stand in each statement. -/
namespace Go.Proofs.Ytpophefonhpnmaa.Q
open Go.RowKit Go.Proofs.YtpophefonhpnmaaW.PrintWords Go.Proofs.YtpophefonhpnmaaW.PrintLast Go.Proofs.YtpophefonhpnmaaW.PrintMore
set_option linter.unusedVariables false
set_option linter.unusedSimpArgs false

theorem floordiv {a d : Int} (h0 : -9223372036854775807 ≤ a) (h1 : a ≤ 9223372036854775807) (hd : 1 ≤ d) : num_FloorDiv.f a d = some (a / d) := by
  unfold num_FloorDiv.f
  rw [if_neg (by omega), if_neg (by omega)]
  by_cases z : 0 ≤ a
  · have q := div_bd (v := a) (d := d) z (by omega)
    have m := Int.emod_nonneg a (show d ≠ 0 by omega)
    rw [tmod_eq z, tdiv_eq z, if_neg (by omega), w64_id (by omega) (by omega)]
  · have q := div_bd (v := -a) (d := d) (by omega) (by omega)
    have m := Int.emod_nonneg (-a) (show d ≠ 0 by omega)
    have n := (neg_div (v := a) (d := d) (by omega)).1
    rw [show Int.tmod a d = -(-a % d) by rw [← tmod_eq (by omega), Int.neg_tmod, Int.neg_neg], show Int.tdiv a d = -(-a / d) by rw [← tdiv_eq (by omega), Int.neg_tdiv, Int.neg_neg]]
    rw [w64_id (x := -(-a / d)) (by omega) (by omega), w64_id (x := -(-a / d) - 1) (by omega) (by omega), n]
    by_cases c : -a % d = 0
    · rw [if_neg (by omega), if_pos c]
    · rw [if_pos (by omega), if_neg c]

end Go.Proofs.Ytpophefonhpnmaa.Q
end

section
/- Which fractions are valid, in plain numbers. -/
namespace Go.Proofs.Ytpophefonhpnmaa.Q
open Go.RowKit Go.Proofs.YtpophefonhpnmaaW.PrintWords Go.Proofs.YtpophefonhpnmaaW.PrintLast Go.Proofs.YtpophefonhpnmaaW.PrintMore
set_option linter.unusedVariables false
set_option linter.unusedSimpArgs false
/-- Whether a fraction is valid. -/
def vf (n d : Int) : Prop := -1152921504606846976 ≤ n ∧ n ≤ 1152921504606846976 ∧ 1 ≤ d ∧ d ≤ 1152921504606846976 ∧ Int.gcd n d = 1
theorem fcheck_ev {n d : Int} (n0 : -9223372036854775808 ≤ n) (n1 : n < 9223372036854775808) (d0 : -9223372036854775808 ≤ d) (d1 : d < 9223372036854775808) : ∃ e : Int, Ev (fun k => frac_Check.f k n d) e ∧ (e = 0 ↔ vf n d) ∧ (e = 0 ∨ e = 3 ∨ e = 4) := by
  have J1 : Ev (fun k => frac_Check.j0 k true n d) 4 := one_ev fun k => by rw [frac_Check.j0, if_pos rfl]
  have bad (h : ¬ (-1152921504606846976 ≤ n ∧ n ≤ 1152921504606846976 ∧ 1 ≤ d ∧ d ≤ 1152921504606846976)) : (4 : Int) = 0 ↔ vf n d := by
    constructor
    · intro h'; omega
    · rintro ⟨a, b, c, e, _⟩; exact absurd ⟨a, b, c, e⟩ h
  unfold frac_Check.f
  by_cases c0 : n < -1152921504606846976
  · exact ⟨4, pos_ev c0 J1, bad (by omega), by omega⟩
  by_cases c1 : n > 1152921504606846976
  · exact ⟨4, neg_ev c0 (pos_ev c1 J1), bad (by omega), by omega⟩
  by_cases c2 : d < 1
  · exact ⟨4, neg_ev c0 (neg_ev c1 (pos_ev c2 J1)), bad (by omega), by omega⟩
  by_cases c3 : d > 1152921504606846976
  · exact ⟨4, neg_ev c0 (neg_ev c1 (neg_ev c2 (by rw [decide_eq_true c3]; exact J1))), bad (by omega), by omega⟩
  have G := gcd_ev n0 n1 d0 d1
  have hg : (Int.gcd n d : Int) ≤ d := Int.le_of_dvd (by omega) (Int.gcd_dvd_right n d)
  have hm : (Int.gcd n d : Int) % 9223372036854775808 = (Int.gcd n d : Int) := Int.emod_eq_of_lt (by omega) (by omega)
  rw [hm] at G
  by_cases c4 : (Int.gcd n d : Int) = 1
  · refine ⟨0, neg_ev c0 (neg_ev c1 (neg_ev c2 ?_)), ⟨fun _ => ⟨by omega, by omega, by omega, by omega, by omega⟩, fun _ => rfl⟩, by omega⟩
    rw [decide_eq_false c3]
    exact Ev.step (fun k => by rw [frac_Check.j0, if_neg (by decide)]) (Ev.bind G (pos_ev c4 (Ev.now _)))
  · refine ⟨3, neg_ev c0 (neg_ev c1 (neg_ev c2 ?_)), ⟨fun h => by omega, fun h => absurd (by have := h.2.2.2.2; omega) c4⟩, by omega⟩
    rw [decide_eq_false c3]
    exact Ev.step (fun k => by rw [frac_Check.j0, if_neg (by decide)]) (Ev.bind G (neg_ev c4 (Ev.now _)))
theorem fcheck_ok {n d : Int} (h : vf n d) : Ev (fun k => frac_Check.f k n d) 0 := by
  obtain ⟨a, b, c, e, g⟩ := h
  obtain ⟨r, hr, h0, _⟩ := fcheck_ev (n := n) (d := d) (by omega) (by omega) (by omega) (by omega)
  rw [h0.mpr ⟨a, b, c, e, g⟩] at hr
  exact hr
end Go.Proofs.Ytpophefonhpnmaa.Q
end

section
/- Fractions as rational numbers: what the functions of package frac answer; the bounds stand in each statement. -/
namespace Go.Proofs.Ytpophefonhpnmaa.Q
open Go.RowKit Go.Proofs.YtpophefonhpnmaaW.PrintWords Go.Proofs.YtpophefonhpnmaaW.PrintLast Go.Proofs.YtpophefonhpnmaaW.PrintMore
set_option linter.unusedVariables false
set_option linter.unusedSimpArgs false

/-- A rational number that a fraction can be. -/
def sm (x : Rat) : Prop := -1152921504606846976 ≤ x.num ∧ x.num ≤ 1152921504606846976 ∧ (x.den : Int) ≤ 1152921504606846976
instance (x : Rat) : Decidable (sm x) := by unfold sm; infer_instance
/-- What is answered where the result is x. -/
def rat (x : Rat) : Int × Int × Int := if sm x then (x.num, (x.den : Int), 0) else (0, 0, 2)
theorem den1 (x : Rat) : 1 ≤ (x.den : Int) := by have := x.den_pos; omega
theorem sm.vf {x : Rat} (h : sm x) : vf x.num x.den := by
  refine ⟨h.1, h.2.1, den1 x, h.2.2, ?_⟩
  have := x.reduced
  unfold Nat.Coprime at this
  unfold Int.gcd
  simpa using this
theorem vf.rat {n d : Int} (h : vf n d) : ∃ x : Rat, sm x ∧ x.num = n ∧ (x.den : Int) = d := by
  obtain ⟨a, b, c, e, g⟩ := h
  have e2 : (d.toNat : Int) = d := by omega
  refine ⟨⟨n, d.toNat, by omega, ?_⟩, ⟨a, b, by simp only; omega⟩, rfl, e2⟩
  unfold Int.gcd at g
  unfold Nat.Coprime
  rw [show d.toNat = d.natAbs by omega]; exact g
theorem wone : wrap64 (0 + 1) = 1 := by unfold wrap64; omega
theorem wtwo : wrap64 (1 + 1) = 2 := by unfold wrap64; omega
theorem or_err (x y : Int) : Ev (fun k => cmp_Or_api_Errno.f k [x, y]) (if x = 0 then y else x) := by
  unfold cmp_Or_api_Errno.f
  by_cases hx : x = 0
  · rw [if_pos hx]
    refine Ev.step (fun k => by rw [cmp_Or_api_Errno.l0, if_pos (by simp), if_pos (by decide), if_pos (by simp), if_pos (by simpa [rd] using hx), wone]) ?_
    by_cases hy : y = 0
    · refine Ev.step (fun k => by rw [cmp_Or_api_Errno.l0, if_pos (by simp), if_pos (by decide), if_pos (by simp), if_pos (by simpa [rd] using hy), wtwo]) ?_
      refine one_ev fun k => ?_
      rw [cmp_Or_api_Errno.l0, if_neg (by simp), hy]
    · refine one_ev fun k => ?_
      rw [cmp_Or_api_Errno.l0, if_pos (by simp), if_pos (by decide), if_pos (by simp), if_neg (by simpa [rd] using hy)]
      rfl
  · rw [if_neg hx]
    refine one_ev fun k => ?_
    rw [cmp_Or_api_Errno.l0, if_pos (by simp), if_pos (by decide), if_pos (by simp), if_neg (by simpa [rd] using hx)]
    rfl
theorem both_ok {x y : Rat} (hx : sm x) (hy : sm y) : Ev (fun k => frac_both.f k x.num x.den y.num y.den) 0 := by
  unfold frac_both.f
  refine Ev.bind (fcheck_ok hx.vf) (Ev.bind (fcheck_ok hy.vf) (Ev.bind (or_err 0 0) (Ev.now _)))
theorem made_ev (n d : Int) (b1 b2 : Bool) : Ev (fun k => frac_made.f k n d [b1, b2]) (if b1 = true ∧ b2 = true ∧ -1152921504606846976 ≤ n ∧ n ≤ 1152921504606846976 ∧ d ≤ 1152921504606846976 then (n, d, 0) else (0, 0, 2)) := by
  unfold frac_made.f
  cases b1
  · rw [if_neg (by simp)]
    exact one_ev fun k => by rw [frac_made.l0, if_pos (by simp), if_pos (by decide), if_pos (by simp), if_neg (by simp [rdOf])]
  · refine Ev.step (fun k => by rw [frac_made.l0, if_pos (by simp), if_pos (by decide), if_pos (by simp), if_pos (by simp [rdOf]), wone]) ?_
    cases b2
    · rw [if_neg (by simp)]
      exact one_ev fun k => by rw [frac_made.l0, if_pos (by simp), if_pos (by decide), if_pos (by simp), if_neg (by simp [rdOf])]
    · refine Ev.step (fun k => by rw [frac_made.l0, if_pos (by simp), if_pos (by decide), if_pos (by simp), if_pos (by simp [rdOf]), wtwo]) ?_
      refine one_ev fun k => ?_
      rw [frac_made.l0, if_neg (by simp)]
      by_cases c : n < -1152921504606846976
      · rw [if_pos c, if_neg (by omega)]
      rw [if_neg c]
      by_cases c2 : n > 1152921504606846976
      · rw [if_pos c2, if_neg (by omega)]
      rw [if_neg c2]
      by_cases c3 : d > 1152921504606846976
      · rw [if_pos c3, if_neg (by omega)]
      · rw [if_neg c3, if_pos ⟨rfl, rfl, by omega, by omega, by omega⟩]
theorem nmul {a b : Int} (a0 : -9223372036854775808 ≤ a) (a1 : a < 9223372036854775808) (b0 : -9223372036854775808 ≤ b) (b1 : b < 9223372036854775808) :
    num_Mul.f a b = some (if fits (a * b) = true then (a * b, true) else (0, false)) := by
  have hb := prod_bd a0 a1 b0 b1
  unfold num_Mul.f
  rw [product a0 a1 b0 b1, Option.bind_some]
  simp only []
  generalize a * b = v at *
  unfold fits wrap64
  by_cases c : v / 18446744073709551616 = ((v % 18446744073709551616 + 9223372036854775808) % 18446744073709551616 - 9223372036854775808) / 9223372036854775808
  · rw [if_pos c, if_pos (by simp only [Bool.and_eq_true, decide_eq_true_eq]; omega)]
    congr 2; omega
  · rw [if_neg c, if_neg (by simp only [Bool.and_eq_true, decide_eq_true_eq]; omega)]
theorem fits_iff {n : Int} : fits n = true ↔ -9223372036854775808 ≤ n ∧ n ≤ 9223372036854775807 := by unfold fits; simp
end Go.Proofs.Ytpophefonhpnmaa.Q
end

section
/- Sums, products, differences and quotients of fractions as rational numbers; the bounds stand in each statement. -/
namespace Go.Proofs.Ytpophefonhpnmaa.Q
open Go.RowKit Go.Proofs.YtpophefonhpnmaaW.PrintWords Go.Proofs.YtpophefonhpnmaaW.PrintLast Go.Proofs.YtpophefonhpnmaaW.PrintMore
set_option linter.unusedVariables false
set_option linter.unusedSimpArgs false

theorem maybe_nd (num : Int) (den g : Nat) (a b c d) : (Rat.maybeNormalize num den g a b c d).num = num / (g : Int) ∧ (Rat.maybeNormalize num den g a b c d).den = den / g := by
  unfold Rat.maybeNormalize
  split
  · rename_i h1
    subst h1
    simp
  · constructor
    · simp only [Int.divExact_eq_ediv]
    · simp only [Nat.divExact_eq_div]
theorem rat_add (x y : Rat) : ∃ g h : Nat, g = Nat.gcd x.den y.den ∧ h = Nat.gcd (x.num * (y.den / g : Nat) + y.num * (x.den / g : Nat)).natAbs g ∧
    (x + y).num = (x.num * (y.den / g : Nat) + y.num * (x.den / g : Nat)) / (h : Int) ∧ (x + y).den = (x.den / g) * (y.den / h) := by
  refine ⟨_, _, rfl, rfl, ?_⟩
  have e : x + y = Rat.add x y := rfl
  rw [e]
  unfold Rat.add
  by_cases hg : x.den.gcd y.den = 1
  · rw [dif_pos hg, hg]
    simp [Nat.gcd_one_right]
  · rw [dif_neg hg]
    have dv : (x.num * ((y.den / x.den.gcd y.den : Nat) : Int) + y.num * ((x.den / x.den.gcd y.den : Nat) : Int)).natAbs.gcd (x.den.gcd y.den) ∣ y.den := Nat.dvd_trans (Nat.gcd_dvd_right _ _) (Nat.gcd_dvd_right _ _)
    obtain ⟨p, q⟩ := maybe_nd _ _ _ _ _ _ _
    refine ⟨p, q.trans (Nat.mul_div_assoc _ dv)⟩
theorem rat_sub_num (x y : Rat) : (x - y).num * (x.den * y.den) = (x.num * y.den - y.num * x.den) * (x - y).den := by
  have h := Rat.sub_def x y
  have nz : x.den * y.den ≠ 0 := Nat.mul_ne_zero x.den_nz y.den_nz
  have h2 : mkRat (x - y).num (x - y).den = mkRat (x.num * y.den - y.num * x.den) (x.den * y.den) := by
    rw [Rat.mkRat_self]
    rw [h, Rat.normalize_eq_mkRat]
  rw [Rat.mkRat_eq_iff (x - y).den_nz nz] at h2
  push_cast at h2
  exact h2

theorem rat_nd {x : Rat} {n d : Int} (hn : x.num = n) (hd : (x.den : Int) = d) : rat x = if -1152921504606846976 ≤ n ∧ n ≤ 1152921504606846976 ∧ d ≤ 1152921504606846976 then (n, d, 0) else (0, 0, 2) := by
  subst hn; subst hd
  unfold rat
  by_cases h : sm x
  · rw [if_pos h]; exact (if_pos h).symm
  · rw [if_neg h]; exact (if_neg h).symm
theorem made_rat {x : Rat} {n d : Int} (hn : x.num = n) (hd : (x.den : Int) = d) (p q : Int × Bool) (hp : p = if fits n = true then (n, true) else (0, false)) (hq : q = if fits d = true then (d, true) else (0, false)) :
    Ev (fun k => frac_made.f k p.1 q.1 [p.2, q.2]) (rat x) := by
  have M := made_ev p.1 q.1 p.2 q.2
  have e : (if p.2 = true ∧ q.2 = true ∧ -1152921504606846976 ≤ p.1 ∧ p.1 ≤ 1152921504606846976 ∧ q.1 ≤ 1152921504606846976 then (p.1, q.1, (0 : Int)) else (0, 0, 2)) = rat x := by
    rw [rat_nd hn hd, hp, hq]
    by_cases c : fits n = true
    · by_cases c2 : fits d = true
      · rw [if_pos c, if_pos c2]; simp
      · have := fits_iff (n := d)
        have c3 := c2
        rw [this] at c3
        have d1 : 1 ≤ d := by rw [← hd]; exact den1 x
        rw [if_pos c, if_neg c2, if_neg (by simp), if_neg (by omega)]
    · have := fits_iff (n := n)
      have c3 := c
      rw [this] at c3
      rw [if_neg c, if_neg (by simp), if_neg (by omega)]
  rw [e] at M; exact M
theorem quo {n g : Int} (hg : 1 ≤ g) (h0 : -1152921504606846976 ≤ n) (h1 : n ≤ 1152921504606846976) : -1152921504606846976 ≤ n / g ∧ n / g ≤ 1152921504606846976 := by
  constructor
  · rw [Int.le_ediv_iff_mul_le (by omega)]; omega
  · have : n / g < 1152921504606846977 := by rw [Int.ediv_lt_iff_lt_mul (by omega)]; omega
    omega
theorem gcd_at {a b : Int} (a0 : -1152921504606846976 ≤ a) (a1 : a ≤ 1152921504606846976) (b0 : 1 ≤ b) (b1 : b ≤ 1152921504606846976) : Ev (fun k => num_Gcd.f k a b) (Int.gcd a b : Int) ∧ 1 ≤ (Int.gcd a b : Int) ∧ (Int.gcd a b : Int) ≤ 1152921504606846976 := by
  have G := gcd_ev (a := a) (b := b) (by omega) (by omega) (by omega) (by omega)
  have le : (Int.gcd a b : Int) ≤ b := Int.le_of_dvd (by omega) (Int.gcd_dvd_right a b)
  have pos : 0 < Int.gcd a b := Int.gcd_pos_of_ne_zero_right a (by omega)
  rw [Int.emod_eq_of_lt (by omega) (by omega)] at G
  exact ⟨G, by omega, by omega⟩
theorem add_ev {x y : Rat} (hx : sm x) (hy : sm y) : Ev (fun k => frac_Add.f k x.num x.den y.num y.den) (rat (x + y)) := by
  have x1 := den1 x
  have y1 := den1 y
  obtain ⟨a0, a1, a2⟩ := hx
  obtain ⟨b0, b1, b2⟩ := hy
  obtain ⟨G1, g0, g1⟩ := gcd_at (a := x.den) (b := y.den) (by omega) a2 y1 b2
  obtain ⟨g, h, hg, hh, rn, rd⟩ := rat_add x y
  have eg : (Int.gcd x.den y.den : Int) = (g : Int) := by rw [Int.gcd_natCast_natCast, hg]
  rw [eg] at G1 g0 g1
  have q3 := quo (n := x.den) g0 (by omega) a2
  have q4 := quo (n := y.den) g0 (by omega) b2
  have p3 : 0 ≤ (x.den : Int) / g := Int.ediv_nonneg (by omega) (by omega)
  have p4 : 0 ≤ (y.den : Int) / g := Int.ediv_nonneg (by omega) (by omega)
  have P1 := product (a := x.num) (b := (y.den : Int) / g) (by omega) (by omega) (by omega) (by omega)
  have P2 := product (a := y.num) (b := (x.den : Int) / g) (by omega) (by omega) (by omega) (by omega)
  have u0 : -1152921504606846976 * ((y.den : Int) / g) ≤ x.num * ((y.den : Int) / g) := Int.mul_le_mul_of_nonneg_right a0 p4
  have u1 : x.num * ((y.den : Int) / g) ≤ 1152921504606846976 * ((y.den : Int) / g) := Int.mul_le_mul_of_nonneg_right a1 p4
  have v0 : -1152921504606846976 * ((x.den : Int) / g) ≤ y.num * ((x.den : Int) / g) := Int.mul_le_mul_of_nonneg_right b0 p3
  have v1 : y.num * ((x.den : Int) / g) ≤ 1152921504606846976 * ((x.den : Int) / g) := Int.mul_le_mul_of_nonneg_right b1 p3
  have W := wide_plus (u := x.num * ((y.den : Int) / g)) (v := y.num * ((x.den : Int) / g)) (by omega) (by omega)
  have cx : ((x.den / g : Nat) : Int) = (x.den : Int) / g := Int.natCast_ediv _ _
  have cy : ((y.den / g : Nat) : Int) = (y.den : Int) / g := Int.natCast_ediv _ _
  rw [cx, cy] at hh rn
  have hb : h ≤ g := by rw [hh]; exact Nat.le_of_dvd (by omega) (Nat.gcd_dvd_right _ _)
  have hpos : 1 ≤ h := by rw [hh]; exact Nat.gcd_pos_of_pos_right _ (by omega)
  have rd' : ((x + y).den : Int) = (x.den : Int) / g * ((y.den : Int) / h) := by rw [rd]; push_cast; rfl
  generalize ht : x.num * ((y.den : Int) / g) + y.num * ((x.den : Int) / g) = t at *
  have MD := wide_mod (v := t) (d := (g : Int)) (by omega) (by omega) (by omega)
  rw [if_neg (by omega)] at MD
  have m0 : 0 ≤ t % g := Int.emod_nonneg _ (by omega)
  have m1 : t % g < g := Int.emod_lt_of_pos _ (by omega)
  obtain ⟨G2, _, _⟩ := gcd_at (a := t % g) (b := (g : Int)) (by omega) (by omega) (by omega) (by omega)
  have eh : (Int.gcd (t % g) g : Int) = (h : Int) := by
    have e := Int.gcd_add_mul_left_left (g : Int) (t % g) (t / g)
    rw [Int.emod_add_mul_ediv] at e
    rw [← e, hh]; simp [Int.gcd]
  rw [eh] at G2
  have DV := wide_div (v := t) (d := (h : Int)) (by omega) (by omega) (by omega)
  rw [if_neg (by omega)] at DV
  have q5 := quo (n := y.den) (g := (h : Int)) (by omega) (by omega) b2
  have M2 := nmul (a := (x.den : Int) / g) (b := (y.den : Int) / h) (by omega) (by omega) (by omega) (by omega)
  unfold frac_Add.f
  refine Ev.bind (both_ok ⟨a0, a1, a2⟩ ⟨b0, b1, b2⟩) (pos_ev rfl (Ev.bind G1 (neg_ev (by omega) ?_)))
  rw [tdiv_eq (a := (y.den : Int)) (b := (g : Int)) (by omega), tdiv_eq (a := (x.den : Int)) (b := (g : Int)) (by omega), w64_id (x := (y.den : Int) / g) (by omega) (by omega), w64_id (x := (x.den : Int) / g) (by omega) (by omega)]
  refine some_ev P1 (some_ev P2 (some_ev W ?_))
  refine Ev.bind MD (Ev.bind G2 (Ev.bind DV (neg_ev (by omega) ?_)))
  rw [tdiv_eq (a := (y.den : Int)) (b := (h : Int)) (by omega), w64_id (x := (y.den : Int) / h) (by omega) (by omega)]
  refine some_ev M2 (Ev.bind (a := rat (x + y)) ?_ (Ev.now _))
  have K := made_rat rn rd' ((if fits (t / h) = true then (t / h, (0 : Int)) else (0, 2)).1, (if fits (t / h) = true then (t / h, (0 : Int)) else (0, 2)).2 == 0) (if fits ((x.den : Int) / g * ((y.den : Int) / h)) = true then ((x.den : Int) / g * ((y.den : Int) / h), true) else (0, false)) (by split <;> rfl) rfl
  exact K
theorem sm_neg {x : Rat} (h : sm x) : sm (-x) := by
  obtain ⟨a, b, c⟩ := h
  refine ⟨by rw [Rat.neg_num]; omega, by rw [Rat.neg_num]; omega, by rw [Rat.neg_den]; exact c⟩
theorem sub_ev {x y : Rat} (hx : sm x) (hy : sm y) : Ev (fun k => frac_Sub.f k x.num x.den y.num y.den) (rat (x - y)) := by
  have A := add_ev hx (sm_neg hy)
  rw [← Rat.sub_eq_add_neg, Rat.neg_num, Rat.neg_den] at A
  obtain ⟨b0, b1, b2⟩ := hy
  unfold frac_Sub.f
  refine Ev.bind (both_ok hx ⟨b0, b1, b2⟩) (pos_ev rfl ?_)
  rw [w64_id (x := -y.num) (by omega) (by omega)]
  exact Ev.bind A (Ev.now _)
theorem cmp_ev {x y : Rat} (hx : sm x) (hy : sm y) : Ev (fun k => frac_Cmp.f k x.num x.den y.num y.den) (if x.num * y.den < y.num * x.den then -1 else if x.num * y.den > y.num * x.den then 1 else 0) := by
  have x1 := den1 x
  have y1 := den1 y
  have B := both_ok hx hy
  obtain ⟨a0, a1, a2⟩ := hx
  obtain ⟨b0, b1, b2⟩ := hy
  have P1 := product (a := x.num) (b := (y.den : Int)) (by omega) (by omega) (by omega) (by omega)
  have P2 := product (a := y.num) (b := (x.den : Int)) (by omega) (by omega) (by omega) (by omega)
  unfold frac_Cmp.f
  exact Ev.bind B (pos_ev rfl (some_ev P1 (some_ev P2 (Ev.bind (wide_cmp _ _) (Ev.now _)))))
end Go.Proofs.Ytpophefonhpnmaa.Q
end

section
/- Making and rounding fractions, and their calls with any numbers; the bounds stand in each statement. -/
namespace Go.Proofs.Ytpophefonhpnmaa.Q
open Go.RowKit Go.Proofs.YtpophefonhpnmaaW.PrintWords Go.Proofs.YtpophefonhpnmaaW.PrintLast Go.Proofs.YtpophefonhpnmaaW.PrintMore
set_option linter.unusedVariables false
set_option linter.unusedSimpArgs false

theorem rat_ok {x : Rat} (h : sm x) : rat x = (x.num, (x.den : Int), 0) := if_pos h
theorem fsize {a : Int} (a0 : -9223372036854775808 ≤ a) (a1 : a < 9223372036854775808) : frac_size.f a = some (a.natAbs : Int) := by
  unfold frac_size.f
  by_cases c : a < 0
  · rw [if_pos c, u64_wrap_eq, u64_wrap_eq]; congr 1; omega
  · rw [if_neg c, u64_wrap_eq]; congr 1; omega
/-- What Make answers, where the divisor isn't 0. -/
theorem make_l0 {n d : Int} (n0 : -9223372036854775808 ≤ n) (n1 : n < 9223372036854775808) (d0 : -9223372036854775808 ≤ d) (d1 : d < 9223372036854775808) (nz : d ≠ 0) (m : Nat) :
    ∀ a b : Nat, b ≤ m → a ≠ 0 → Nat.gcd a b = Nat.gcd n.natAbs d.natAbs → a ≤ 9223372036854775808 → b ≤ 9223372036854775808 →
    ∃ r : Int × Int × Int, Ev (fun k => frac_Make.l0 k n d (a : Int) (b : Int)) r ∧ (r.2.2 = 0 → vf r.1 r.2.1) := by
  have last : ∀ a : Nat, a ≠ 0 → a = Nat.gcd n.natAbs d.natAbs → ∃ r : Int × Int × Int, Ev (fun k => frac_Make.l0 k n d (a : Int) ((0 : Nat) : Int)) r ∧ (r.2.2 = 0 → vf r.1 r.2.1) := by
    intro a ha hg
    have dn : a ∣ n.natAbs := by rw [hg]; exact Nat.gcd_dvd_left _ _
    have dd : a ∣ d.natAbs := by rw [hg]; exact Nat.gcd_dvd_right _ _
    have gN : a * (n.natAbs / a) = n.natAbs := Nat.mul_div_cancel' dn
    have gD : a * (d.natAbs / a) = d.natAbs := Nat.mul_div_cancel' dd
    have lN := Nat.div_le_self n.natAbs a
    have lD := Nat.div_le_self d.natAbs a
    have D1 : 1 ≤ d.natAbs / a := by
      apply Nat.pos_of_ne_zero; intro h; rw [h] at gD; omega
    have cop : Nat.gcd (n.natAbs / a) (d.natAbs / a) = 1 := by
      rw [hg]; exact Nat.gcd_div_gcd_div_gcd_of_pos_right (by omega)
    have zN : (0 : Int) ≤ ((n.natAbs / a : Nat) : Int) := Int.natCast_nonneg _
    have zD : (0 : Int) ≤ ((d.natAbs / a : Nat) : Int) := Int.natCast_nonneg _
    have tN : IntKind.u64.wrap (Int.tdiv (n.natAbs : Int) (a : Int)) = ((n.natAbs / a : Nat) : Int) := by
      rw [← Int.ofNat_tdiv, u64_wrap_eq]; omega
    have tD : IntKind.u64.wrap (Int.tdiv (d.natAbs : Int) (a : Int)) = ((d.natAbs / a : Nat) : Int) := by
      rw [← Int.ofNat_tdiv, u64_wrap_eq]; omega
    generalize n.natAbs / a = p at *
    generalize d.natAbs / a = q at *
    have st : ∀ r, Ev (fun k => if (p : Int) > 1152921504606846976 then frac_Make.j1 k n d p q true else frac_Make.j1 k n d p q (decide ((q : Int) > 1152921504606846976))) r → Ev (fun k => frac_Make.l0 k n d (a : Int) ((0 : Nat) : Int)) r := by
      intro r hr
      refine Ev.step (fun k => ?_) hr
      rw [frac_Make.l0, if_neg (by decide), fsize n0 n1, Option.bind_some, if_neg (by omega), fsize d0 d1, Option.bind_some, tN, tD]
    have J : Ev (fun k => frac_Make.j1 k n d p q true) (0, 0, 2) := one_ev fun k => by rw [frac_Make.j1, if_pos rfl]
    by_cases c : (p : Int) > 1152921504606846976
    · exact ⟨_, st _ (pos_ev c J), by simp⟩
    by_cases c2 : (q : Int) > 1152921504606846976
    · refine ⟨(0, 0, 2), st _ (neg_ev c ?_), ?_⟩
      · rw [decide_eq_true c2]; exact J
      · simp
    · by_cases s : ((decide (n < 0)) != (decide (d < 0))) = true
      · refine ⟨(-(p : Int), q, 0), st _ (neg_ev c ?_), fun _ => ⟨by simp only; omega, by simp only; omega, by simp only; omega, by simp only; omega, ?_⟩⟩
        · rw [decide_eq_false c2]
          refine one_ev fun k => ?_
          rw [frac_Make.j1, if_neg (by decide), if_pos s, w64_id (x := (p : Int)) (by omega) (by omega), w64_id (x := -(p : Int)) (by omega) (by omega), w64_id (x := (q : Int)) (by omega) (by omega)]
        · simp only [Int.gcd, Int.natAbs_neg, Int.natAbs_natCast]; exact cop
      · refine ⟨((p : Int), q, 0), st _ (neg_ev c ?_), fun _ => ⟨by simp only; omega, by simp only; omega, by simp only; omega, by simp only; omega, ?_⟩⟩
        · rw [decide_eq_false c2]
          refine one_ev fun k => ?_
          rw [frac_Make.j1, if_neg (by decide), if_neg s, w64_id (x := (p : Int)) (by omega) (by omega), w64_id (x := (q : Int)) (by omega) (by omega)]
        · simp only [Int.gcd, Int.natAbs_natCast]; exact cop
  induction m with
  | zero =>
    intro a b hb ha hg _ _
    obtain rfl : b = 0 := by omega
    exact last a ha (by rw [← hg, Nat.gcd_zero_right])
  | succ m ih =>
    intro a b hb ha hg h1 h2
    by_cases z : b = 0
    · subst z; exact last a ha (by rw [← hg, Nat.gcd_zero_right])
    · have hm : a % b < b := Nat.mod_lt _ (by omega)
      obtain ⟨r, hr, h⟩ := ih b (a % b) (by omega) z (by rw [← hg, Nat.gcd_comm a b, Nat.gcd_rec b a, Nat.gcd_comm]) h2 (by omega)
      refine ⟨r, Ev.step (fun k => ?_) hr, h⟩
      rw [frac_Make.l0, if_pos (by omega), if_neg (by omega), tmod_eq (by omega), ← Int.natCast_emod]
theorem make_ev {n d : Int} (n0 : -9223372036854775808 ≤ n) (n1 : n < 9223372036854775808) (d0 : -9223372036854775808 ≤ d) (d1 : d < 9223372036854775808) :
    ∃ r : Int × Int × Int, Ev (fun k => frac_Make.f k n d) r ∧ (r.2.2 = 0 → vf r.1 r.2.1) := by
  unfold frac_Make.f
  by_cases z : d = 0
  · exact ⟨_, pos_ev z (Ev.now _), by simp⟩
  · have go : ∃ r : Int × Int × Int, Ev (fun k => frac_Make.l0 k n d (n.natAbs : Int) (d.natAbs : Int)) r ∧ (r.2.2 = 0 → vf r.1 r.2.1) := by
      by_cases y : n.natAbs = 0
      · -- one step: the divisor comes first
        have nn : n = 0 := by omega
        obtain ⟨r, hr, h⟩ := make_l0 n0 n1 d0 d1 z 0 d.natAbs 0 (Nat.le_refl _) (by omega) (by rw [y]; simp) (by omega) (by omega)
        refine ⟨r, Ev.step (fun k => ?_) hr, h⟩
        rw [frac_Make.l0, if_pos (by omega), if_neg (by omega), y, tmod_eq (by omega), ← Int.natCast_emod, Nat.zero_mod]
      · exact make_l0 n0 n1 d0 d1 z d.natAbs n.natAbs d.natAbs (Nat.le_refl _) y rfl (by omega) (by omega)
    obtain ⟨r, hr, h⟩ := go
    exact ⟨r, neg_ev z (some_ev (fsize n0 n1) (some_ev (fsize d0 d1) hr)), h⟩

end Go.Proofs.Ytpophefonhpnmaa.Q
end

section
/- The nearest fraction with a small denominator: what frac.Best answers, in plain numbers; the bounds stand in each statement. -/
namespace Go.Proofs.Ytpophefonhpnmaa.Q
open Go.RowKit Go.Proofs.YtpophefonhpnmaaW.PrintWords Go.Proofs.YtpophefonhpnmaaW.PrintLast Go.Proofs.YtpophefonhpnmaaW.PrintMore
set_option linter.unusedVariables false
set_option linter.unusedSimpArgs false
/-- Between two neighbours of a row of best fractions there is none with so small a denominator that is nearer than both. -/
theorem core {N D p q P Q d e s a b most : Int} (hs : s = 1 ∨ s = -1) (det : p * Q - P * q = s) (h1 : p * D - N * q = s * d) (h2 : P * D - N * Q = -(s * e)) (d0 : 0 < d) (e0 : 0 < e) (q0 : 0 < q) (Q0 : 0 < Q) (far : most < Q + q) (b0 : 1 ≤ b) (b1 : b ≤ most) :
    d * b ≤ ((a * D - N * b).natAbs : Int) * q ∨ e * b ≤ ((a * D - N * b).natAbs : Int) * Q := by
  have s2 : s * s = 1 := by rcases hs with rfl | rfl <;> rfl
  obtain ⟨u, hu⟩ : ∃ u, u = s * (a * Q - b * P) := ⟨_, rfl⟩
  obtain ⟨v, hv⟩ : ∃ v, v = s * (p * b - q * a) := ⟨_, rfl⟩
  have ea : a = u * p + v * P := by rw [hu, hv]; grind
  have eb : b = u * q + v * Q := by rw [hu, hv]; grind
  have ex : a * D - N * b = s * (u * d - v * e) := by
    have : a * D - N * b = u * (p * D - N * q) + v * (P * D - N * Q) := by rw [ea, eb]; grind
    rw [this, h1, h2]; grind
  have abs : ∀ z : Int, ((s * z).natAbs : Int) = (z.natAbs : Int) := by
    intro z; rcases hs with rfl | rfl <;> omega
  rw [ex, abs]
  -- the signs
  have no : ¬ (1 ≤ u ∧ 1 ≤ v) := by
    rintro ⟨x, y⟩
    have := Int.mul_le_mul_of_nonneg_right x (show 0 ≤ q by omega)
    have := Int.mul_le_mul_of_nonneg_right y (show 0 ≤ Q by omega)
    omega
  have no2 : ¬ (u ≤ 0 ∧ v ≤ 0) := by
    rintro ⟨x, y⟩
    have := Int.mul_le_mul_of_nonneg_right x (show 0 ≤ q by omega)
    have := Int.mul_le_mul_of_nonneg_right y (show 0 ≤ Q by omega)
    omega
  by_cases c : 1 ≤ u
  · left
    have v0 : v ≤ 0 := by omega
    have m1 : v * e ≤ 0 := by have := Int.mul_le_mul_of_nonneg_right v0 (show 0 ≤ e by omega); omega
    have m2 : v * Q ≤ 0 := by have := Int.mul_le_mul_of_nonneg_right v0 (show 0 ≤ Q by omega); omega
    have m3 : 0 ≤ u * d := Int.mul_nonneg (by omega) (by omega)
    have k1 : u * d ≤ ((u * d - v * e).natAbs : Int) := by omega
    have k2 : b ≤ u * q := by omega
    calc d * b ≤ d * (u * q) := Int.mul_le_mul_of_nonneg_left k2 (by omega)
      _ = u * d * q := by grind
      _ ≤ _ := Int.mul_le_mul_of_nonneg_right k1 (by omega)
  · right
    have u0 : u ≤ 0 := by omega
    have v1 : 1 ≤ v := by omega
    have m1 : u * d ≤ 0 := by have := Int.mul_le_mul_of_nonneg_right u0 (show 0 ≤ d by omega); omega
    have m2 : u * q ≤ 0 := by have := Int.mul_le_mul_of_nonneg_right u0 (show 0 ≤ q by omega); omega
    have m3 : 0 ≤ v * e := Int.mul_nonneg (by omega) (by omega)
    have k1 : v * e ≤ ((u * d - v * e).natAbs : Int) := by omega
    have k2 : b ≤ v * Q := by omega
    calc e * b ≤ e * (v * Q) := Int.mul_le_mul_of_nonneg_left k2 (by omega)
      _ = v * e * Q := by grind
      _ ≤ _ := Int.mul_le_mul_of_nonneg_right k1 (by omega)
/-- The nearest one of all with denominators up to most. -/
structure Near (N D most P Q : Int) : Prop where
  q0 : 1 ≤ Q
  q1 : Q ≤ most
  one : Int.gcd P Q = 1
  off : ((P * D - N * Q).natAbs : Int) ≤ D
  p0 : -9007199254740992 ≤ P
  p1 : P ≤ 9007199254740992
  best : ∀ a b : Int, 1 ≤ b → b ≤ most → ((P * D - N * Q).natAbs : Int) * b ≤ ((a * D - N * b).natAbs : Int) * Q
theorem away_ev {N D p q : Int} (n0 : -2147483648 ≤ N) (n1 : N ≤ 2147483648) (d0 : 0 ≤ D) (d1 : D ≤ 2147483648) (p0 : -9007199254740992 ≤ p) (p1 : p ≤ 9007199254740992) (q0 : 0 ≤ q) (q1 : q ≤ 4096) (off : ((p * D - N * q).natAbs : Int) ≤ D) :
    Ev (fun k => frac_away.f k N D p q) ((p * D - N * q).natAbs : Int) := by
  have P1 := product (a := p) (b := D) (by omega) (by omega) (by omega) (by omega)
  have P2 := product (a := -N) (b := q) (by omega) (by omega) (by omega) (by omega)
  have m0 : -N * q ≤ 2147483648 * q := Int.mul_le_mul_of_nonneg_right (by omega) q0
  have m1 : -2147483648 * q ≤ -N * q := Int.mul_le_mul_of_nonneg_right (by omega) q0
  have e : p * D + -N * q = p * D - N * q := by rw [Int.neg_mul]; omega
  have e2 : -N * q = -(N * q) := by rw [Int.neg_mul]
  have W := wide_plus (u := p * D) (v := -N * q) (by omega) (by omega)
  rw [e] at W
  have DV := wide_div (v := p * D - N * q) (d := 1) (by omega) (by omega) (by omega)
  rw [if_neg (by omega), Int.ediv_one, if_pos (by unfold fits; simp; omega)] at DV
  unfold frac_away.f
  rw [w64_id (x := -N) (by omega) (by omega)]
  refine some_ev P1 (some_ev P2 (some_ev W (Ev.bind DV (now_ev fun k => ?_))))
  simp only
  rw [w64_id (x := -(p * D - N * q)) (by omega) (by omega)]
  unfold mx; congr 1; split <;> omega
theorem sgn_abs {s z : Int} (hs : s = 1 ∨ s = -1) (h : 0 < z) : ((s * z).natAbs : Int) = z ∧ ((-(s * z)).natAbs : Int) = z := by
  rcases hs with rfl | rfl <;> omega
theorem cop {p q P Q s : Int} (hs : s = 1 ∨ s = -1) (det : p * Q - P * q = s) : Int.gcd p q = 1 ∧ Int.gcd P Q = 1 := by
  have key : ∀ x y g : Int, g ∣ x → g ∣ y → (∃ z w, x * z - w * y = s ∨ w * y - x * z = s) → g ∣ 1 := by
    rintro x y g hx hy ⟨z, w, h | h⟩
    · have : g ∣ s := h ▸ Int.dvd_sub (Int.dvd_mul_of_dvd_left hx) (Int.dvd_mul_of_dvd_right hy)
      rcases hs with rfl | rfl
      · exact this
      · exact Int.dvd_neg.mp this
    · have : g ∣ s := h ▸ Int.dvd_sub (Int.dvd_mul_of_dvd_right hy) (Int.dvd_mul_of_dvd_left hx)
      rcases hs with rfl | rfl
      · exact this
      · exact Int.dvd_neg.mp this
  have one : ∀ g : Nat, (g : Int) ∣ 1 → g = 1 := fun g h => Nat.dvd_one.mp (Int.natCast_dvd_natCast.mp h)
  constructor
  · exact one _ (key p q _ (Int.gcd_dvd_left _ _) (Int.gcd_dvd_right _ _) ⟨Q, P, .inl det⟩)
  · refine one _ (key P Q _ (Int.gcd_dvd_left _ _) (Int.gcd_dvd_right _ _) ⟨q, p, .inr det⟩)
theorem num_bd {N D p q z : Int} (n0 : -2147483648 ≤ N) (n1 : N ≤ 2147483648) (d0 : 1 ≤ D) (q0 : 0 ≤ q) (q1 : q ≤ 8192) (h : p * D - N * q = z) (z0 : -D ≤ z) (z1 : z ≤ D) : -17592186044417 ≤ p ∧ p ≤ 17592186044417 := by
  have a0 : N * q ≤ 2147483648 * q := Int.mul_le_mul_of_nonneg_right n1 q0
  have a1 : -2147483648 * q ≤ N * q := Int.mul_le_mul_of_nonneg_right n0 q0
  constructor
  · by_cases c : -17592186044417 ≤ p
    · exact c
    · have : p * D ≤ -17592186044418 * D := Int.mul_le_mul_of_nonneg_right (by omega) (by omega)
      omega
  · by_cases c : p ≤ 17592186044417
    · exact c
    · have : 17592186044418 * D ≤ p * D := Int.mul_le_mul_of_nonneg_right (by omega) (by omega)
      omega
/-- The fractions of two neighbours behind some steps. -/
structure Inv (N D n d p0 p1 q0 q1 s : Int) : Prop where
  hs : s = 1 ∨ s = -1
  det : p1 * q0 - p0 * q1 = s
  hN : N = p1 * n + p0 * d
  hD : D = q1 * n + q0 * d
  d0 : 0 < d
  q0 : 0 ≤ q0
  q1 : 0 ≤ q1
theorem Inv.err1 {N D n d p0 p1 q0 q1 s : Int} (h : Inv N D n d p0 p1 q0 q1 s) : p1 * D - N * q1 = s * d := by rw [h.hN, h.hD, ← h.det]; grind
theorem Inv.err0 {N D n d p0 p1 q0 q1 s : Int} (h : Inv N D n d p0 p1 q0 q1 s) (k : Int) : (p0 + k * p1) * D - N * (q0 + k * q1) = -(s * (n - k * d)) := by rw [h.hN, h.hD, ← h.det]; grind
theorem Inv.next {N D n d p0 p1 q0 q1 s t : Int} (h : Inv N D n d p0 p1 q0 q1 s) (ht : 0 ≤ q0 + t * q1) (hd : 0 < n - t * d) : Inv N D d (n - t * d) p1 (p0 + t * p1) q1 (q0 + t * q1) (-s) := by
  refine ⟨?_, ?_, ?_, ?_, hd, h.q1, ht⟩
  · have := h.hs; omega
  · have := h.det; grind
  · have := h.hN; grind
  · have := h.hD; grind
/-- A step does not end in nothing, as long as the denominator is small. -/
theorem Inv.go {N D n d p0 p1 q0 q1 s t : Int} (h : Inv N D n d p0 p1 q0 q1 s) (one : Int.gcd N D = 1) (small : q0 + t * q1 < D) (ht : t = n / d) (hq : 0 < q0 + t * q1) : 0 < n - t * d ∧ n - t * d < d := by
  have e := Int.emod_add_mul_ediv n d
  have m0 := Int.emod_nonneg n (show d ≠ 0 by have := h.d0; omega)
  have m1 := Int.emod_lt_of_pos n h.d0
  have ec : d * (n / d) = n / d * d := Int.mul_comm _ _
  rw [ec, ← ht] at e
  refine ⟨?_, by omega⟩
  by_cases z : n - t * d = 0
  · exfalso
    have en : n = t * d := by omega
    have eN : N = (p0 + t * p1) * d := by rw [h.hN, en]; grind
    have eD : D = (q0 + t * q1) * d := by rw [h.hD, en]; grind
    have dv : d ∣ (Int.gcd N D : Int) := Int.dvd_coe_gcd ⟨p0 + t * p1, by rw [eN]; exact Int.mul_comm _ _⟩ ⟨q0 + t * q1, by rw [eD]; exact Int.mul_comm _ _⟩
    rw [one] at dv
    have : d ≤ 1 := Int.le_of_dvd (by decide) dv
    have d1 : d = 1 := by have := h.d0; omega
    rw [d1, Int.mul_one] at eD
    omega
  · omega
theorem best_end {N D n d p0 p1 q0 q1 s t most : Int} (h : Inv N D n d p0 p1 q0 q1 s) (n0 : -2147483648 ≤ N) (n1 : N ≤ 2147483648) (D1 : D ≤ 2147483648) (m0 : 1 ≤ most) (m1 : most ≤ 4096) (mD : most < D) (hq1 : 1 ≤ q1) (q1m : q1 ≤ most) (q0m : q0 ≤ most) (nD : n ≤ D) (dD : d ≤ D) (ht : t = n / d) (k : Int) (hk : k = (most - q0) / q1) (tk : k < t) :
    ∃ P Q, Near N D most P Q ∧ Ev (fun k_ => (frac_away.f k_ N D (wrap64 (p0 + (wrap64 (k * p1)))) (wrap64 (q0 + (wrap64 (k * q1))))).bind fun t107 => ((num_Product.f t107 q1).bind fun bt108 => ((frac_away.f k_ N D p1 q1).bind fun t110 => ((num_Product.f t110 (wrap64 (q0 + (wrap64 (k * q1))))).bind fun bt111 => ((num_Wide_Cmp.f k_ bt111.1 bt111.2 bt108.1 bt108.2).bind fun t115 => (if t115 ≤ 0 then (some (p1, q1, (0 : Int))) else (some (wrap64 (p0 + (wrap64 (k * p1))), wrap64 (q0 + (wrap64 (k * q1))), 0)))))))) (P, Q, 0) := by
  have hd := h.d0
  have hq0 := h.q0
  have ke := Int.emod_add_mul_ediv (most - q0) q1
  have k0 := Int.emod_nonneg (most - q0) (show q1 ≠ 0 by omega)
  have k1 := Int.emod_lt_of_pos (most - q0) (show 0 < q1 by omega)
  have kp : 0 ≤ (most - q0) / q1 := Int.ediv_nonneg (by omega) (by omega)
  rw [← hk] at ke kp
  have kc : q1 * k = k * q1 := Int.mul_comm _ _
  have km : k ≤ most := by
    have : k * 1 ≤ k * q1 := Int.mul_le_mul_of_nonneg_left hq1 kp
    omega
  have te := Int.emod_add_mul_ediv n d
  have t0 := Int.emod_nonneg n (show d ≠ 0 by omega)
  have tc : d * (n / d) = t * d := by rw [ht]; exact Int.mul_comm _ _
  have ep : 0 < n - k * d := by
    have : (k + 1) * d ≤ t * d := Int.mul_le_mul_of_nonneg_right (by omega) (by omega)
    rw [Int.add_mul] at this; omega
  have kd : 0 ≤ k * d := Int.mul_nonneg kp (by omega)
  obtain ⟨Q, hQ⟩ : ∃ Q, Q = q0 + k * q1 := ⟨_, rfl⟩
  obtain ⟨P, hP⟩ : ∃ P, P = p0 + k * p1 := ⟨_, rfl⟩
  obtain ⟨e, he⟩ : ∃ e, e = n - k * d := ⟨_, rfl⟩
  have E1 := h.err1
  have E0 := h.err0 k
  rw [← hP, ← hQ, ← he] at E0
  obtain ⟨z1, z2⟩ := sgn_abs h.hs hd
  obtain ⟨z3, z4⟩ := sgn_abs h.hs (show 0 < e by omega)
  have A1 : ((p1 * D - N * q1).natAbs : Int) = d := by rw [E1]; exact z1
  have A0 : ((P * D - N * Q).natAbs : Int) = e := by rw [E0]; exact z4
  have B1 := num_bd n0 n1 (show 1 ≤ D by omega) h.q1 (by omega) E1 (by omega) (by omega)
  have B0 := num_bd n0 n1 (show 1 ≤ D by omega) (show 0 ≤ Q by omega) (by omega) E0 (by omega) (by omega)
  have E00 := h.err0 0
  rw [Int.zero_mul, Int.add_zero, Int.zero_mul, Int.add_zero, Int.zero_mul, Int.sub_zero] at E00
  have nn : 0 < n := by omega
  obtain ⟨z5, z6⟩ := sgn_abs h.hs nn
  have B00 := num_bd n0 n1 (show 1 ≤ D by omega) hq0 (by omega) E00 (by omega) (by omega)
  have kp1 : k * p1 = P - p0 := by omega
  have w1 : wrap64 (k * p1) = k * p1 := w64_id (by omega) (by omega)
  have w2 : wrap64 (k * q1) = k * q1 := w64_id (by omega) (by omega)
  rw [w1, w2, ← hP, ← hQ, w64_id (x := P) (by omega) (by omega), w64_id (x := Q) (by omega) (by omega)]
  have det : p1 * Q - P * q1 = s := by have := h.det; rw [hQ, hP]; grind
  obtain ⟨g1, g2⟩ := cop h.hs det
  have V0 := away_ev n0 n1 (show 0 ≤ D by omega) D1 (p := P) (q := Q) (by omega) (by omega) (by omega) (by omega) (by omega)
  have V1 := away_ev n0 n1 (show 0 ≤ D by omega) D1 (p := p1) (q := q1) (by omega) (by omega) (by omega) (by omega) (by omega)
  rw [A0] at V0
  rw [A1] at V1
  have X0 := product (a := e) (b := q1) (by omega) (by omega) (by omega) (by omega)
  have X1 := product (a := d) (b := Q) (by omega) (by omega) (by omega) (by omega)
  have C := wide_cmp (d * Q) (e * q1)
  have main : ∀ a b : Int, 1 ≤ b → b ≤ most → d * b ≤ ((a * D - N * b).natAbs : Int) * q1 ∨ e * b ≤ ((a * D - N * b).natAbs : Int) * Q := fun a b b0 b1 => core h.hs det E1 E0 hd (by omega) (by omega) (by omega) (show most < Q + q1 by omega) b0 b1
  by_cases c : d * Q ≤ e * q1
  · refine ⟨p1, q1, ⟨hq1, q1m, g1, by omega, by omega, by omega, ?_⟩, ?_⟩
    · intro a b b0 b1
      rw [A1]
      rcases main a b b0 b1 with m | m
      · exact m
      · refine Int.le_of_mul_le_mul_right (a := Q) ?_ (by omega)
        generalize ((a * D - N * b).natAbs : Int) = X at *
        have u1 := Int.mul_le_mul_of_nonneg_right c (show 0 ≤ b by omega)
        have u2 := Int.mul_le_mul_of_nonneg_right m (show 0 ≤ q1 by omega)
        grind
    · refine Ev.bind V0 (some_ev X0 (Ev.bind V1 (some_ev X1 (Ev.bind C ?_))))
      exact pos_ev (by split <;> (try split) <;> omega) (Ev.now _)
  · refine ⟨P, Q, ⟨by omega, by omega, g2, by omega, by omega, by omega, ?_⟩, ?_⟩
    · intro a b b0 b1
      rw [A0]
      rcases main a b b0 b1 with m | m
      · refine Int.le_of_mul_le_mul_right (a := q1) ?_ (by omega)
        generalize ((a * D - N * b).natAbs : Int) = X at *
        have u1 := Int.mul_le_mul_of_nonneg_right (show e * q1 ≤ d * Q by omega) (show 0 ≤ b by omega)
        have u2 := Int.mul_le_mul_of_nonneg_right m (show 0 ≤ Q by omega)
        grind
      · exact m
    · refine Ev.bind V0 (some_ev X0 (Ev.bind V1 (some_ev X1 (Ev.bind C ?_))))
      refine neg_ev ?_ (Ev.now _)
      rw [if_neg (by omega), if_pos (by omega)]; decide
theorem best_l0 {N D most : Int} (n0 : -2147483648 ≤ N) (n1 : N ≤ 2147483648) (D1 : D ≤ 2147483648) (m0 : 1 ≤ most) (m1 : most ≤ 4096) (mD : most < D) (one : Int.gcd N D = 1) (m : Nat) :
    ∀ n d p0 p1 q0 q1 s : Int, Inv N D n d p0 p1 q0 q1 s → d.toNat ≤ m → 1 ≤ q1 → q1 ≤ most → q0 ≤ most → d < n → n ≤ D →
    ∃ P Q, Near N D most P Q ∧ Ev (fun k => frac_Best.l0 k most n d N D p0 p1 q0 q1) (P, Q, 0) := by
  induction m with
  | zero => intro n d p0 p1 q0 q1 s h hm; have := h.d0; omega
  | succ m ih =>
    intro n d p0 p1 q0 q1 s h hm hq1 q1m q0m dn nD
    have hd := h.d0
    have hq0 := h.q0
    have F := floordiv (a := n) (d := d) (by omega) (by omega) (by omega)
    obtain ⟨t, ht⟩ : ∃ t, t = n / d := ⟨_, rfl⟩
    rw [← ht] at F
    obtain ⟨k, hk⟩ : ∃ k, k = (most - q0) / q1 := ⟨_, rfl⟩
    have kp : 0 ≤ (most - q0) / q1 := Int.ediv_nonneg (by omega) (by omega)
    have kl : (most - q0) / q1 ≤ most - q0 := Int.ediv_le_self _ (by omega)
    have ke : wrap64 (Int.tdiv (wrap64 (most - q0)) q1) = k := by
      rw [w64_id (x := most - q0) (by omega) (by omega), tdiv_eq (by omega), w64_id (by omega) (by omega), hk]
    have t1 : 1 ≤ t := by rw [ht, Int.le_ediv_iff_mul_le hd]; omega
    have tn : t ≤ n := by rw [ht]; exact Int.ediv_le_self _ (by omega)
    by_cases c : t > k
    · obtain ⟨P, Q, near, E⟩ := best_end h n0 n1 D1 m0 m1 mD hq1 q1m q0m nD (by omega) ht k hk (by omega)
      refine ⟨P, Q, near, Ev.step (fun j => by rw [frac_Best.l0]) ?_⟩
      refine some_ev F (pos_ev (by omega) (neg_ev (by omega) ?_))
      rw [ke]
      exact pos_ev c E
    · have kq : k * q1 ≤ most - q0 := by rw [hk]; exact Int.ediv_mul_le _ (by omega)
      have tq : t * q1 ≤ k * q1 := Int.mul_le_mul_of_nonneg_right (by omega) (by omega)
      have tq0 : 1 * q1 ≤ t * q1 := Int.mul_le_mul_of_nonneg_right t1 (by omega)
      obtain ⟨g0, g1⟩ := h.go one (t := t) (by omega) ht (by omega)
      have I := h.next (t := t) (by omega) g0
      have E1 := I.err1
      have E0 := h.err1
      obtain ⟨z1, z2⟩ := sgn_abs I.hs g0
      obtain ⟨z3, z4⟩ := sgn_abs h.hs hd
      have B1 := num_bd n0 n1 (show 1 ≤ D by omega) I.q1 (by omega) E1 (by omega) (by omega)
      have B0 := num_bd n0 n1 (show 1 ≤ D by omega) h.q1 (by omega) E0 (by omega) (by omega)
      have E00 := h.err0 0
      rw [Int.zero_mul, Int.add_zero, Int.zero_mul, Int.add_zero, Int.zero_mul, Int.sub_zero] at E00
      obtain ⟨z5, z6⟩ := sgn_abs h.hs (show 0 < n by omega)
      have B00 := num_bd n0 n1 (show 1 ≤ D by omega) hq0 (by omega) E00 (by omega) (by omega)
      obtain ⟨P, Q, near, E⟩ := ih d (n - t * d) p1 (p0 + t * p1) q1 (q0 + t * q1) (-s) I (by omega) (by omega) (by omega) q1m g1 (by omega)
      have td : t * d = n - (n - t * d) := by omega
      refine ⟨P, Q, near, Ev.step (fun j => by rw [frac_Best.l0]) ?_⟩
      refine some_ev F (pos_ev (by omega) (neg_ev (by omega) ?_))
      rw [ke]
      refine neg_ev c ?_
      rw [w64_id (x := t * d) (by omega) (by omega), w64_id (x := n - t * d) (by omega) (by omega), w64_id (x := t * p1) (by omega) (by omega), w64_id (x := p0 + t * p1) (by omega) (by omega), w64_id (x := t * q1) (by omega) (by omega), w64_id (x := q0 + t * q1) (by omega) (by omega)]
      exact E
theorem best_ev {N D most : Int} (h : vf N D) (n0 : -2147483648 ≤ N) (n1 : N ≤ 2147483648) (D1 : D ≤ 2147483648) (m0 : 1 ≤ most) (m1 : most ≤ 4096) :
    ∃ P Q, Near N D most P Q ∧ Q ≤ most ∧ Ev (fun k => frac_Best.f k N D most) (P, Q, 0) := by
  have C := fcheck_ok h
  obtain ⟨_, _, d0, _, one⟩ := h
  have J : ∀ r, Ev (fun k => if D ≤ most then (some (N, D, (0 : Int))) else (frac_Best.l0 k most N D N D 0 1 1 0)) r → Ev (fun k => frac_Best.f k N D most) r := by
    intro r hr
    unfold frac_Best.f
    refine Ev.bind C (pos_ev rfl (neg_ev (by omega) ?_))
    rw [decide_eq_false (by omega)]
    exact Ev.step (fun k => by rw [frac_Best.j0, if_neg (by decide)]) hr
  by_cases c : D ≤ most
  · refine ⟨N, D, ⟨d0, c, one, by rw [Int.mul_comm N D]; omega, by omega, by omega, ?_⟩, c, J _ (pos_ev c (Ev.now _))⟩
    intro a b b0 b1
    rw [Int.sub_self]
    have : 0 ≤ ((a * D - N * b).natAbs : Int) * D := Int.mul_nonneg (by omega) (by omega)
    simpa using this
  · -- the first step
    have F := floordiv (a := N) (d := D) (by omega) (by omega) (by omega)
    obtain ⟨t, ht⟩ : ∃ t, t = N / D := ⟨_, rfl⟩
    rw [← ht] at F
    have I0 : Inv N D N D 0 1 1 0 1 := ⟨.inl rfl, by decide, by omega, by omega, by omega, by decide, by decide⟩
    obtain ⟨g0, g1⟩ := I0.go one (t := t) (by omega) ht (by omega)
    have I := I0.next (t := t) (by omega) g0
    have E1 := I.err1
    have B1 : -2147483648 ≤ t ∧ t ≤ 2147483648 := by
      rw [ht]
      constructor
      · rw [Int.le_ediv_iff_mul_le (by omega)]; omega
      · have : N / D < 2147483649 := by rw [Int.ediv_lt_iff_lt_mul (by omega)]; omega
        omega
    obtain ⟨P, Q, near, E⟩ := best_l0 n0 n1 D1 m0 m1 (by omega) one (N - t * D).toNat D (N - t * D) 1 (0 + t * 1) 0 (1 + t * 0) (-1) I (Nat.le_refl _) (by omega) (by omega) (by omega) g1 (Int.le_refl _)
    refine ⟨P, Q, near, near.q1, J _ (neg_ev c (Ev.step (fun j => by rw [frac_Best.l0]) ?_))⟩
    · refine some_ev F (neg_ev (by decide) ?_)
      rw [w64_id (x := t * D) (by omega) (by omega), w64_id (x := N - t * D) (by omega) (by omega), w64_id (x := t * 1) (by omega) (by omega), w64_id (x := 0 + t * 1) (by omega) (by omega), w64_id (x := t * 0) (by omega) (by omega), w64_id (x := 1 + t * 0) (by omega) (by omega)]
      exact E
end Go.Proofs.Ytpophefonhpnmaa.Q
end

section
/- Making a fraction of small numbers, and the difference of near fractions, in plain numbers; the bounds stand in each statement. -/
namespace Go.Proofs.Ytpophefonhpnmaa.Q
open Go.RowKit Go.Proofs.YtpophefonhpnmaaW.PrintWords Go.Proofs.YtpophefonhpnmaaW.PrintLast Go.Proofs.YtpophefonhpnmaaW.PrintMore
set_option linter.unusedVariables false
set_option linter.unusedSimpArgs false
theorem fsz {a : Int} (h0 : -9223372036854775808 ≤ a) (h1 : a < 9223372036854775808) : frac_size.f a = some (a.natAbs : Int) := by
  unfold frac_size.f
  by_cases c : a < 0
  · rw [if_pos c, show IntKind.u64.wrap a = a % 18446744073709551616 from u64_wrap_eq a, u64_wrap_eq]
    congr 1; omega
  · rw [if_neg c, u64_wrap_eq]; congr 1; omega
/-- A fraction of small numbers is made. -/
theorem make_l0b {n d : Int} (n0 : -1152921504606846976 ≤ n) (n1 : n ≤ 1152921504606846976) (d0 : 1 ≤ d) (d1 : d ≤ 1152921504606846976) (m : Nat) :
    ∀ a b : Nat, b ≤ m → a ≠ 0 → Nat.gcd a b = Nat.gcd n.natAbs d.natAbs → a ≤ 9223372036854775808 → b ≤ 9223372036854775808 →
    ∃ p q : Int, Ev (fun k => frac_Make.l0 k n d (a : Int) (b : Int)) (p, q, 0) ∧ vf p q ∧ p * d = n * q ∧ q ≤ d := by
  have last : ∀ a : Nat, a ≠ 0 → a = Nat.gcd n.natAbs d.natAbs → ∃ p q : Int, Ev (fun k => frac_Make.l0 k n d (a : Int) ((0 : Nat) : Int)) (p, q, 0) ∧ vf p q ∧ p * d = n * q ∧ q ≤ d := by
    intro a ha hg
    have dn : a ∣ n.natAbs := by rw [hg]; exact Nat.gcd_dvd_left _ _
    have dd : a ∣ d.natAbs := by rw [hg]; exact Nat.gcd_dvd_right _ _
    have gN : a * (n.natAbs / a) = n.natAbs := Nat.mul_div_cancel' dn
    have gD : a * (d.natAbs / a) = d.natAbs := Nat.mul_div_cancel' dd
    have lN := Nat.div_le_self n.natAbs a
    have lD := Nat.div_le_self d.natAbs a
    have D1 : 1 ≤ d.natAbs / a := by
      apply Nat.pos_of_ne_zero; intro h; rw [h] at gD; omega
    have cop : Nat.gcd (n.natAbs / a) (d.natAbs / a) = 1 := by
      rw [hg]; exact Nat.gcd_div_gcd_div_gcd_of_pos_right (by omega)
    have zN : (0 : Int) ≤ ((n.natAbs / a : Nat) : Int) := Int.natCast_nonneg _
    have zD : (0 : Int) ≤ ((d.natAbs / a : Nat) : Int) := Int.natCast_nonneg _
    have tN : IntKind.u64.wrap (Int.tdiv (n.natAbs : Int) (a : Int)) = ((n.natAbs / a : Nat) : Int) := by
      rw [← Int.ofNat_tdiv, u64_wrap_eq]; omega
    have tD : IntKind.u64.wrap (Int.tdiv (d.natAbs : Int) (a : Int)) = ((d.natAbs / a : Nat) : Int) := by
      rw [← Int.ofNat_tdiv, u64_wrap_eq]; omega
    have cN : (a : Int) * ((n.natAbs / a : Nat) : Int) = (n.natAbs : Int) := by rw [← Int.natCast_mul, gN]
    have cD : (a : Int) * ((d.natAbs / a : Nat) : Int) = d := by rw [← Int.natCast_mul, gD]; omega
    generalize n.natAbs / a = p at *
    generalize d.natAbs / a = q at *
    have st : ∀ r, Ev (fun k => if (p : Int) > 1152921504606846976 then frac_Make.j1 k n d p q true else frac_Make.j1 k n d p q (decide ((q : Int) > 1152921504606846976))) r → Ev (fun k => frac_Make.l0 k n d (a : Int) ((0 : Nat) : Int)) r := by
      intro r hr
      refine Ev.step (fun k => ?_) hr
      rw [frac_Make.l0, if_neg (by decide), fsz (by omega) (by omega), Option.bind_some, if_neg (by omega), fsz (by omega) (by omega), Option.bind_some, tN, tD]
    by_cases s : n < 0
    · refine ⟨-(p : Int), q, st _ (neg_ev (by omega) ?_), ⟨by omega, by omega, by omega, by omega, ?_⟩, ?_, by omega⟩
      · rw [decide_eq_false (by omega)]
        refine one_ev fun k => ?_
        rw [frac_Make.j1, if_neg (by decide), decide_eq_true s, decide_eq_false (by omega), if_pos (by decide), w64_id (x := (p : Int)) (by omega) (by omega), w64_id (x := -(p : Int)) (by omega) (by omega), w64_id (x := (q : Int)) (by omega) (by omega)]
      · simp only [Int.gcd, Int.natAbs_neg, Int.natAbs_natCast]; exact cop
      · have : n = -((a : Int) * (p : Int)) := by omega
        rw [this, ← cD]; grind
    · refine ⟨(p : Int), q, st _ (neg_ev (by omega) ?_), ⟨by omega, by omega, by omega, by omega, ?_⟩, ?_, by omega⟩
      · rw [decide_eq_false (by omega)]
        refine one_ev fun k => ?_
        rw [frac_Make.j1, if_neg (by decide), decide_eq_false s, decide_eq_false (by omega), if_neg (by decide), w64_id (x := (p : Int)) (by omega) (by omega), w64_id (x := (q : Int)) (by omega) (by omega)]
      · simp only [Int.gcd, Int.natAbs_natCast]; exact cop
      · have : n = (a : Int) * (p : Int) := by omega
        rw [this, ← cD]; grind
  induction m with
  | zero =>
    intro a b hb ha hg _ _
    obtain rfl : b = 0 := by omega
    exact last a ha (by rw [← hg, Nat.gcd_zero_right])
  | succ m ih =>
    intro a b hb ha hg h1 h2
    by_cases z : b = 0
    · subst z; exact last a ha (by rw [← hg, Nat.gcd_zero_right])
    · have hm : a % b < b := Nat.mod_lt _ (by omega)
      obtain ⟨p, q, hr, h⟩ := ih b (a % b) (by omega) z (by rw [← hg, Nat.gcd_comm a b, Nat.gcd_rec b a, Nat.gcd_comm]) h2 (by omega)
      refine ⟨p, q, Ev.step (fun k => ?_) hr, h⟩
      rw [frac_Make.l0, if_pos (by omega), if_neg (by omega), tmod_eq (by omega), ← Int.natCast_emod]
theorem make_small {n d : Int} (n0 : -1152921504606846976 ≤ n) (n1 : n ≤ 1152921504606846976) (d0 : 1 ≤ d) (d1 : d ≤ 1152921504606846976) :
    ∃ p q : Int, Ev (fun k => frac_Make.f k n d) (p, q, 0) ∧ vf p q ∧ p * d = n * q ∧ q ≤ d := by
  have go : ∃ p q : Int, Ev (fun k => frac_Make.l0 k n d (n.natAbs : Int) (d.natAbs : Int)) (p, q, 0) ∧ vf p q ∧ p * d = n * q ∧ q ≤ d := by
    by_cases y : n.natAbs = 0
    · obtain ⟨p, q, hr, h⟩ := make_l0b n0 n1 d0 d1 0 d.natAbs 0 (Nat.le_refl _) (by omega) (by rw [y]; simp) (by omega) (by omega)
      refine ⟨p, q, Ev.step (fun k => ?_) hr, h⟩
      rw [frac_Make.l0, if_pos (by omega), if_neg (by omega), y, tmod_eq (by omega), ← Int.natCast_emod, Nat.zero_mod]
    · exact make_l0b n0 n1 d0 d1 d.natAbs n.natAbs d.natAbs (Nat.le_refl _) y rfl (by omega) (by omega)
  obtain ⟨p, q, hr, h⟩ := go
  refine ⟨p, q, ?_, h⟩
  unfold frac_Make.f
  exact neg_ev (by omega) (some_ev (fsz (by omega) (by omega)) (some_ev (fsz (by omega) (by omega)) hr))
theorem sub_den (x y : Rat) : ((x - y).den : Int) ≤ x.den * y.den := by
  obtain ⟨g, h, hg, hh, _, rd⟩ := rat_add x (-y)
  rw [← Rat.sub_eq_add_neg] at rd
  rw [rd, Rat.neg_den]
  have := Nat.mul_le_mul (Nat.div_le_self x.den g) (Nat.div_le_self y.den h)
  exact_mod_cast this
/-- The difference of near fractions is no large one. -/
theorem sm_sub {x y : Rat} {C : Int} (h : ((x.num * y.den - y.num * x.den).natAbs : Int) ≤ C) (hC : C ≤ 1152921504606846976) (hd : (x.den : Int) * y.den ≤ 1152921504606846976) : sm (x - y) := by
  have e := rat_sub_num x y
  have l := sub_den x y
  have d1 := den1 (x - y)
  have xd := den1 x
  have yd := den1 y
  have pos : 0 < (x.den : Int) * y.den := Int.mul_pos (by omega) (by omega)
  unfold sm
  generalize (x - y).num = n at *
  generalize ((x - y).den : Int) = k at *
  generalize (x.den : Int) * y.den = m at *
  generalize x.num * y.den - y.num * x.den = z at *
  have up : n * m ≤ C * m := by
    rw [e]
    have : z * k ≤ C * k := Int.mul_le_mul_of_nonneg_right (by omega) (by omega)
    have : C * k ≤ C * m := Int.mul_le_mul_of_nonneg_left l (by omega)
    omega
  have dn : -C * m ≤ n * m := by
    rw [e]
    have : -C * k ≤ z * k := Int.mul_le_mul_of_nonneg_right (by omega) (by omega)
    have : C * k ≤ C * m := Int.mul_le_mul_of_nonneg_left l (by omega)
    rw [Int.neg_mul] at *; omega
  have u := Int.le_of_mul_le_mul_right up pos
  have v := Int.le_of_mul_le_mul_right dn pos
  exact ⟨by omega, by omega, by omega⟩
/-- A fraction's absolute value. -/
theorem abs_rat {x : Rat} (h : sm x) : ∃ y : Rat, sm y ∧ y.num = mx x.num (wrap64 (-x.num)) ∧ y.num = (x.num.natAbs : Int) ∧ y.den = x.den := by
  have h' := h
  obtain ⟨a, b, c⟩ := h'
  rw [w64_id (x := -x.num) (by omega) (by omega)]
  by_cases s : x.num < 0
  · refine ⟨-x, sm_neg h, ?_, ?_, Rat.neg_den x⟩ <;> rw [Rat.neg_num]
    · unfold mx; split <;> omega
    · omega
  · refine ⟨x, h, ?_, by omega, rfl⟩
    unfold mx; split <;> omega
/-- Of two differences, the one of the nearer fraction is not the greater one. -/
theorem nearer {A B un ud vn vd Q D b : Nat} (hu : un * (Q * D) = A * ud) (hv : vn * (b * D) = B * vd) (h : A * b ≤ B * Q) (Q0 : 0 < Q) (D0 : 0 < D) (b0 : 0 < b) : un * vd ≤ vn * ud := by
  have pos : 0 < Q * D * b := Nat.mul_pos (Nat.mul_pos Q0 D0) b0
  refine Nat.le_of_mul_le_mul_right (c := Q * D * b) ?_ pos
  calc un * vd * (Q * D * b) = un * (Q * D) * (vd * b) := by grind
    _ = A * b * (ud * vd) := by rw [hu]; grind
    _ ≤ B * Q * (ud * vd) := Nat.mul_le_mul_right _ h
    _ = B * vd * (Q * ud) := by grind
    _ = vn * (b * D) * (Q * ud) := by rw [hv]
    _ = vn * ud * (Q * D * b) := by grind
end Go.Proofs.Ytpophefonhpnmaa.Q
end

section
/- FracBestNear in plain numbers: for all numbers the printed function answers true; no other condition. -/
namespace Go.Proofs.Ytpophefonhpnmaa.PureFracBestNear
open Go.RowKit Go.Proofs.Ytpophefonhpnmaa.Q Go.Proofs.YtpophefonhpnmaaW.PrintWords Go.Proofs.YtpophefonhpnmaaW.PrintLast
set_option linter.unusedVariables false
set_option linter.unusedSimpArgs false
set_option maxRecDepth 100000 in
theorem fracFact_ev : Ev (fun k => spykeep1_fracFact.f k) true :=
  Ev.of (fun k => spykeep1_fracFact.mono k) (k := 200) (by decide +kernel)
theorem i64_of {a : Int} (h : (Lit.int .i64 a).wf = true) : -9223372036854775808 ≤ a ∧ a < 9223372036854775808 := by
  simp only [Lit.wf, IntKind.min, IntKind.max, IntKind.signed, IntKind.bits, Bool.and_eq_true, decide_eq_true_eq, if_true] at h
  omega
theorem cmp_le {A B : Int} (h : A ≤ B) : (if A < B then (-1 : Int) else if A > B then 1 else 0) ≤ 0 := by split <;> (try split) <;> omega
theorem below_at {a n : Int} (hn : 1 ≤ n) (hn1 : n < 9223372036854775808) : ∃ v, spymake_Below.f a n = some v ∧ 0 ≤ v ∧ v < n :=
  ⟨a % n, below hn hn1, Int.emod_nonneg _ (by omega), Int.emod_lt_of_pos _ (by omega)⟩
theorem FracBestNear : spykeep1_FracBestNear.Pure := by
  intro a0 a1 a2 a3 a4 h0 h1 h2 h3 h4
  obtain ⟨h00, h01⟩ := i64_of h0
  obtain ⟨h10, h11⟩ := i64_of h1
  refine Ev.rounds (r := true) ?_
  obtain ⟨⟨N, D, er⟩, mx_, vx⟩ := make_ev h00 h01 h10 h11
  have bad : ∀ a b c d e : Int, Ev (fun k => spykeep1_FracBestNear.j0 k a b c true d e) true := by
    intro a b c d e
    refine Ev.step (fun k => by rw [spykeep1_FracBestNear.j0, if_pos rfl]) ?_
    exact Ev.bind fracFact_ev (Ev.now _)
  unfold spykeep1_FracBestNear.f
  refine Ev.bind mx_ (Ev.bind fracFact_ev (pos_ev rfl ?_))
  by_cases ex : er = 0
  case neg => exact neg_ev ex (bad _ _ _ _ _)
  refine pos_ev ex ?_
  by_cases c1 : N < -2147483648
  · exact pos_ev c1 (bad _ _ _ _ _)
  refine neg_ev c1 ?_
  by_cases c2 : N > 2147483648
  · exact pos_ev c2 (bad _ _ _ _ _)
  refine neg_ev c2 ?_
  by_cases c3 : D > 2147483648
  · rw [decide_eq_true c3]; exact bad _ _ _ _ _
  rw [decide_eq_false c3]
  have vX : vf N D := vx ex
  have D0 : 1 ≤ D := vX.2.2.1
  obtain ⟨m, hm, m0, m1⟩ := below_at (a := a2) (n := 4096) (by decide) (by decide)
  obtain ⟨most, hmost⟩ : ∃ k, k = 1 + m := ⟨_, rfl⟩
  obtain ⟨P, Q, near, Qm, hB⟩ := best_ev (most := most) vX (by omega) (by omega) (by omega) (by omega) (by omega)
  obtain ⟨z, hz, z0, z1⟩ := below_at (a := a3) (n := most) (by omega) (by omega)
  obtain ⟨o, ho, o0, o1⟩ := below_at (a := a4) (n := 2) (by decide) (by decide)
  obtain ⟨den, hden⟩ : ∃ k, k = 1 + z := ⟨_, rfl⟩
  have nd0 : -2147483648 * den ≤ N * den := Int.mul_le_mul_of_nonneg_right (by omega) (by omega)
  have nd1 : N * den ≤ 2147483648 * den := Int.mul_le_mul_of_nonneg_right (by omega) (by omega)
  obtain ⟨top, htop⟩ : ∃ t, t = N * den / D := ⟨_, rfl⟩
  have te := Int.emod_add_mul_ediv (N * den) D
  have t0 := Int.emod_nonneg (N * den) (show D ≠ 0 by omega)
  have t1 := Int.emod_lt_of_pos (N * den) (show 0 < D by omega)
  have tc : D * (N * den / D) = top * D := by rw [htop]; exact Int.mul_comm _ _
  have tb : -8796093022208 ≤ top ∧ top ≤ 8796093022208 := by
    rw [htop]
    constructor
    · rw [Int.le_ediv_iff_mul_le (by omega)]; omega
    · have : N * den / D < 8796093022209 := by rw [Int.ediv_lt_iff_lt_mul (by omega)]; omega
      omega
  have MD := muldiv (a := N) (b := den) (d := D) (by omega) (by omega) (by omega) (by omega) (by omega)
  rw [if_neg (by omega), if_pos (by unfold fits; simp; omega), ← htop] at MD
  obtain ⟨a, b, hM, vM, eM, bM⟩ := make_small (n := top + o) (d := den) (by omega) (by omega) (by omega) (by omega)
  -- as rational numbers
  have vB : vf P Q := ⟨by have := near.p0; omega, by have := near.p1; omega, near.q0, by omega, near.one⟩
  obtain ⟨x, sx, x1, x2⟩ := vX.rat
  obtain ⟨y, sy, y1, y2⟩ := vB.rat
  obtain ⟨v, sv, v1, v2⟩ := vM.rat
  have b0 : 1 ≤ b := vM.2.2.1
  have QD : Q * D ≤ 4096 * D := Int.mul_le_mul_of_nonneg_right (by omega) (by omega)
  have bD : b * D ≤ 4096 * D := Int.mul_le_mul_of_nonneg_right (by omega) (by omega)
  have offv : ((a * D - N * b).natAbs : Int) ≤ D := by
    -- den times it is b times what lies between
    have e1 : (a * D - N * b) * den = ((top + o) * D - N * den) * b := by
      have : a * den * D = (top + o) * b * D := by rw [eM]
      grind
    have o2 : o * D = 0 ∨ o * D = D := by
      rcases (show o = 0 ∨ o = 1 by omega) with rfl | rfl
      · left; simp
      · right; simp
    have f0 : -D ≤ (top + o) * D - N * den ∧ (top + o) * D - N * den ≤ D := by
      rw [Int.add_mul]; omega
    have g0 := Int.mul_le_mul_of_nonneg_right f0.1 (show 0 ≤ b by omega)
    have g1 := Int.mul_le_mul_of_nonneg_right f0.2 (show 0 ≤ b by omega)
    have g2 : D * b ≤ D * den := Int.mul_le_mul_of_nonneg_left bM (by omega)
    rw [← e1] at g0 g1
    have u := Int.le_of_mul_le_mul_right (a := den) (show (a * D - N * b) * den ≤ D * den by omega) (by omega)
    have w := Int.le_of_mul_le_mul_right (a := den) (show -D * den ≤ (a * D - N * b) * den by rw [Int.neg_mul] at *; omega) (by omega)
    omega
  have sU : sm (y - x) := sm_sub (C := D) (by rw [y1, y2, x1, x2]; exact near.off) (by omega) (by rw [y2, x2]; omega)
  have sV : sm (v - x) := sm_sub (C := D) (by rw [v1, v2, x1, x2]; exact offv) (by omega) (by rw [v2, x2]; omega)
  have EU := sub_ev sy sx
  have EV := sub_ev sv sx
  rw [rat_ok sU, y1, y2, x1, x2] at EU
  rw [rat_ok sV, v1, v2, x1, x2] at EV
  obtain ⟨p, sp, p1, p2, p3⟩ := abs_rat sU
  obtain ⟨q, sq, q1, q2, q3⟩ := abs_rat sV
  have C := cmp_ev sp sq
  have nu := rat_sub_num y x
  have nv := rat_sub_num v x
  rw [y1, y2, x1, x2] at nu
  rw [v1, v2, x1, x2] at nv
  have nq0 := near.q0
  have le : p.num * q.den ≤ q.num * p.den := by
    rw [p2, q2, p3, q3]
    have hb := near.best a b b0 (by omega)
    have au := congrArg Int.natAbs nu
    have av := congrArg Int.natAbs nv
    rw [Int.natAbs_mul, Int.natAbs_mul, Int.natAbs_mul, Int.natAbs_natCast] at au av
    have r := nearer (Q := Q.natAbs) (D := D.natAbs) (b := b.natAbs) au av (by
      have : ((P * D - N * Q).natAbs : Int) * (b.natAbs : Int) ≤ ((a * D - N * b).natAbs : Int) * (Q.natAbs : Int) := by
        rw [show ((b.natAbs : Nat) : Int) = b by omega, show ((Q.natAbs : Nat) : Int) = Q by omega]; exact hb
      exact_mod_cast this) (by omega) (by omega) (by omega)
    exact_mod_cast r
  rw [p1, q1, p3, q3] at C
  rw [p1, q1, p3, q3] at le
  refine Ev.step (fun k => by rw [spykeep1_FracBestNear.j0, if_neg (by decide)]) ?_
  refine some_ev hm ?_
  rw [w64_id (x := 1 + m) (by omega) (by omega), ← hmost]
  refine Ev.bind hB (pos_ev rfl ?_)
  rw [decide_eq_false (show ¬ Q > most by omega)]
  refine Ev.step (fun k => by rw [spykeep1_FracBestNear.j1, if_neg (by decide)]) ?_
  refine some_ev hz ?_
  rw [w64_id (x := 1 + z) (by omega) (by omega), ← hden]
  refine Ev.bind MD (some_ev ho ?_)
  simp only
  rw [w64_id (x := top + o) (by omega) (by omega)]
  refine Ev.bind hM (Ev.bind EU (Ev.bind EV (pos_ev trivial (pos_ev rfl (pos_ev rfl (pos_ev rfl (Ev.bind C ?_)))))))
  refine now_ev fun k => ?_
  rw [decide_eq_true (cmp_le le)]
end Go.Proofs.Ytpophefonhpnmaa.PureFracBestNear
namespace Go.Proofs.Ytpophefonhpnmaa.Pure
theorem FracBestNear : Go.Proofs.Ytpophefonhpnmaa.Q.spykeep1_FracBestNear.Pure := Go.Proofs.Ytpophefonhpnmaa.PureFracBestNear.FracBestNear
end Go.Proofs.Ytpophefonhpnmaa.Pure
end
