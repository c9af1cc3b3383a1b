/- This session's own texts KFracFieldM1 KFracFieldM2 KFracFieldM3 KFracFieldM4 KFracFieldM5 KFracFieldM6 KFracFieldFD1 KFracFieldFR0 KFracFieldFF1 KFracFieldFF2 KFracFieldFF3 KFracFieldPureFracField, one after the other. -/
import Derived.Test.YtpophefonhpnmaaKFracFieldQx13
import Derived.Test.YtpophefonhpnmaaKFracFieldQx12
import Derived.Test.YtpophefonhpnmaaKFracFieldQx7
import Derived.Test.YtpophefonhpnmaaKFracFieldQx8
import Derived.Test.YtpophefonhpnmaaKFracFieldQx9
import Derived.Test.YtpophefonhpnmaaKFracFieldQx11
import Derived.Test.YtpophefonhpnmaaKFracFieldQx10
import Derived.Test.YtpophefonhpnmaaKFracFieldQx2
import Derived.Test.YtpophefonhpnmaaKFracFieldQx3
import Derived.Test.YtpophefonhpnmaaKFracFieldQx4
import Derived.Test.YtpophefonhpnmaaKFracFieldQx5
import Derived.Test.YtpophefonhpnmaaKFracFieldQx6

section
/- Wrapping, shifts and products of 64 bits: what the printed functions of math/bits compute; no other condition than those that each statement names. -/
namespace Go.Proofs.Ytpophefonhpnmaa.Q
open Go.RowKit Go.Proofs.YtpophefonhpnmaaW.PrintWords Go.Proofs.YtpophefonhpnmaaW.PrintLast Go.Proofs.YtpophefonhpnmaaW.PrintMore
set_option linter.unusedVariables false
set_option linter.unusedSimpArgs false

theorem uw (x : Int) : IntKind.u64.wrap x = x % 18446744073709551616 := u64_wrap_eq x
theorem uw_id {x : Int} (h0 : 0 ≤ x) (h1 : x < 18446744073709551616) : IntKind.u64.wrap x = x := by rw [uw]; omega
theorem w64_id {x : Int} (h0 : -9223372036854775808 ≤ x) (h1 : x < 9223372036854775808) : wrap64 x = x := by unfold wrap64; omega
theorem uw_wrap64 (x : Int) : wrap64 (IntKind.u64.wrap x) = wrap64 x := by rw [uw]; unfold wrap64; omega

theorem u64_mask32 {x : Int} (h0 : 0 ≤ x) (h1 : x < 18446744073709551616) : Go.bits .and .u64 x 4294967295 = x % 4294967296 :=
  Go.bits_mask .u64 64 (by decide) (fun n h h' => by rw [uw]; omega) 32 (by decide) x h0 h1

theorem mul64 {a b : Int} (a0 : 0 ≤ a) (a1 : a < 18446744073709551616) (b0 : 0 ≤ b) (b1 : b < 18446744073709551616) :
    bits_Mul64.f a b = some (a * b / 18446744073709551616, a * b % 18446744073709551616) := by
  unfold bits_Mul64.f
  rw [u64_mask32 a0 a1, u64_mask32 b0 b1]
  generalize hx1 : a / 4294967296 = x1
  generalize hx0 : a % 4294967296 = x0
  generalize hy1 : b / 4294967296 = y1
  generalize hy0 : b % 4294967296 = y0
  have hx : a = x1 * 4294967296 + x0 := by omega
  have hy : b = y1 * 4294967296 + y0 := by omega
  have p : ∀ {u v : Int}, 0 ≤ u → u ≤ 4294967295 → 0 ≤ v → v ≤ 4294967295 → 0 ≤ u * v ∧ u * v ≤ 18446744065119617025 := by
    intro u v hu0 hu1 hv0 hv1
    refine ⟨Int.mul_nonneg hu0 hv0, ?_⟩
    have := Int.mul_le_mul hu1 hv1 hv0 (by omega)
    omega
  have q11 := p (u := x1) (v := y1) (by omega) (by omega) (by omega) (by omega)
  have q10 := p (u := x1) (v := y0) (by omega) (by omega) (by omega) (by omega)
  have q01 := p (u := x0) (v := y1) (by omega) (by omega) (by omega) (by omega)
  have q00 := p (u := x0) (v := y0) (by omega) (by omega) (by omega) (by omega)
  have e : a * b = x1 * y1 * 18446744073709551616 + (x1 * y0 + x0 * y1) * 4294967296 + x0 * y0 := by
    rw [hx, hy]; grind
  rw [e]
  generalize x1 * y1 = P at *
  generalize x1 * y0 = Q at *
  generalize x0 * y1 = R at *
  generalize x0 * y0 = S at *
  rw [uw_id (x := S) (by omega) (by omega), uw_id (x := Q) (by omega) (by omega), uw_id (x := R) (by omega) (by omega), uw_id (x := P) (by omega) (by omega),
    uw_id (x := Q + S / 4294967296) (by omega) (by omega), u64_mask32 (by omega) (by omega), uw, uw, uw]
  congr 2 <;> omega

theorem size_some {a : Int} (h0 : -9223372036854775808 ≤ a) (h1 : a < 9223372036854775808) : num_size.f a = some (if a < 0 then -a else a) := by
  unfold num_size.f
  split
  · rw [uw, uw]; congr 1; omega
  · rw [uw]; congr 1; omega
end Go.Proofs.Ytpophefonhpnmaa.Q
end

section
/- The number of leading zeros of a number of 64 bits, and the quotient of 128 by 64 bits: what the printed functions of math/bits compute, for every divisor greater than the upper half. -/
namespace Go.Proofs.Ytpophefonhpnmaa.Q
open Go.RowKit Go.Proofs.YtpophefonhpnmaaW.PrintWords Go.Proofs.YtpophefonhpnmaaW.PrintLast Go.Proofs.YtpophefonhpnmaaW.PrintMore
set_option linter.unusedVariables false
set_option linter.unusedSimpArgs false

set_option maxRecDepth 100000 in
def len8 : ByteArray := ⟨#[0, 1, 2, 2, 3, 3, 3, 3, 4, 4, 4, 4, 4, 4, 4, 4, 5, 5, 5, 5, 5, 5, 5, 5, 5, 5, 5, 5, 5, 5, 5, 5, 6, 6, 6, 6, 6, 6, 6, 6, 6, 6, 6, 6, 6, 6, 6, 6, 6, 6, 6, 6, 6, 6, 6, 6, 6, 6, 6, 6, 6, 6, 6, 6, 7, 7, 7, 7, 7, 7, 7, 7, 7, 7, 7, 7, 7, 7, 7, 7, 7, 7, 7, 7, 7, 7, 7, 7, 7, 7, 7, 7, 7, 7, 7, 7, 7, 7, 7, 7, 7, 7, 7, 7, 7, 7, 7, 7, 7, 7, 7, 7, 7, 7, 7, 7, 7, 7, 7, 7, 7, 7, 7, 7, 7, 7, 7, 7, 8, 8, 8, 8, 8, 8, 8, 8, 8, 8, 8, 8, 8, 8, 8, 8, 8, 8, 8, 8, 8, 8, 8, 8, 8, 8, 8, 8, 8, 8, 8, 8, 8, 8, 8, 8, 8, 8, 8, 8, 8, 8, 8, 8, 8, 8, 8, 8, 8, 8, 8, 8, 8, 8, 8, 8, 8, 8, 8, 8, 8, 8, 8, 8, 8, 8, 8, 8, 8, 8, 8, 8, 8, 8, 8, 8, 8, 8, 8, 8, 8, 8, 8, 8, 8, 8, 8, 8, 8, 8, 8, 8, 8, 8, 8, 8, 8, 8, 8, 8, 8, 8, 8, 8, 8, 8, 8, 8, 8, 8, 8, 8, 8, 8, 8, 8, 8, 8, 8, 8, 8, 8, 8, 8, 8, 8, 8, 8]⟩
set_option maxRecDepth 100000 in
theorem len8_eq : (⟨#[0, 1, 2, 2, 3, 3, 3, 3, 4, 4, 4, 4, 4, 4, 4, 4, 5, 5, 5, 5, 5, 5, 5, 5, 5, 5, 5, 5, 5, 5, 5, 5, 6, 6, 6, 6, 6, 6, 6, 6, 6, 6, 6, 6, 6, 6, 6, 6, 6, 6, 6, 6, 6, 6, 6, 6, 6, 6, 6, 6, 6, 6, 6, 6, 7, 7, 7, 7, 7, 7, 7, 7, 7, 7, 7, 7, 7, 7, 7, 7, 7, 7, 7, 7, 7, 7, 7, 7, 7, 7, 7, 7, 7, 7, 7, 7, 7, 7, 7, 7, 7, 7, 7, 7, 7, 7, 7, 7, 7, 7, 7, 7, 7, 7, 7, 7, 7, 7, 7, 7, 7, 7, 7, 7, 7, 7, 7, 7, 8, 8, 8, 8, 8, 8, 8, 8, 8, 8, 8, 8, 8, 8, 8, 8, 8, 8, 8, 8, 8, 8, 8, 8, 8, 8, 8, 8, 8, 8, 8, 8, 8, 8, 8, 8, 8, 8, 8, 8, 8, 8, 8, 8, 8, 8, 8, 8, 8, 8, 8, 8, 8, 8, 8, 8, 8, 8, 8, 8, 8, 8, 8, 8, 8, 8, 8, 8, 8, 8, 8, 8, 8, 8, 8, 8, 8, 8, 8, 8, 8, 8, 8, 8, 8, 8, 8, 8, 8, 8, 8, 8, 8, 8, 8, 8, 8, 8, 8, 8, 8, 8, 8, 8, 8, 8, 8, 8, 8, 8, 8, 8, 8, 8, 8, 8, 8, 8, 8, 8, 8, 8, 8, 8, 8, 8, 8, 8]⟩ : ByteArray) = len8 := rfl
def len8ok (i : Nat) : Bool := let n := bt len8 (i : Int); decide (0 ≤ n) && decide (n ≤ 8) && decide ((i : Int) < 2 ^ n.toNat) && (i == 0 || decide ((2 : Int) ^ n.toNat ≤ 2 * i))
theorem len8_all : (List.range 256).all len8ok = true := by decide +kernel
theorem len8_at {i : Int} (h0 : 0 ≤ i) (h1 : i < 256) : ∃ m : Nat, m ≤ 8 ∧ bt len8 i = m ∧ i < 2 ^ m ∧ (0 < i → (2 : Int) ^ m ≤ 2 * i) := by
  obtain ⟨n, rfl⟩ := Int.eq_ofNat_of_zero_le h0
  have h := List.all_eq_true.mp len8_all n (by simp; omega)
  unfold len8ok at h
  simp only [Bool.and_eq_true, Bool.or_eq_true, decide_eq_true_eq, beq_iff_eq] at h
  obtain ⟨⟨⟨a, b⟩, c⟩, d⟩ := h
  refine ⟨(bt len8 (n : Int)).toNat, by omega, by omega, c, fun hp => ?_⟩
  rcases d with d | d
  · omega
  · exact d

set_option maxRecDepth 100000 in
theorem len64_j0 {x n : Int} (h0 : 0 ≤ x) (h1 : x < 4294967296) (n0 : 0 ≤ n) (n1 : n ≤ 32) (k : Nat) :
    ∃ m : Nat, m ≤ 32 ∧ bits_Len64.j0 (k + 1) x n = some (n + m) ∧ x < 2 ^ m ∧ (0 < x → (2 : Int) ^ m ≤ 2 * x) := by
  rw [bits_Len64.j0.eq_2, len8_eq]
  by_cases a : x ≥ 65536
  · rw [if_pos a]
    by_cases b : x / 65536 ≥ 256
    · rw [if_pos b, if_pos (by omega), if_pos (by omega)]
      obtain ⟨m, m1, m2, m3, m4⟩ := len8_at (i := ((x / 65536) / 256) % 256) (by omega) (by omega)
      refine ⟨m + 24, by omega, ?_, ?_, ?_⟩
      · rw [m2]; congr 1; unfold wrap64; omega
      · rw [Int.pow_add]; generalize (2 : Int) ^ m = P at *; omega
      · intro _; rw [Int.pow_add]; generalize (2 : Int) ^ m = P at *; omega
    · rw [if_neg b, if_pos (by omega), if_pos (by omega)]
      obtain ⟨m, m1, m2, m3, m4⟩ := len8_at (i := (x / 65536) % 256) (by omega) (by omega)
      refine ⟨m + 16, by omega, ?_, ?_, ?_⟩
      · rw [m2]; congr 1; unfold wrap64; omega
      · rw [Int.pow_add]; generalize (2 : Int) ^ m = P at *; omega
      · intro _; rw [Int.pow_add]; generalize (2 : Int) ^ m = P at *; omega
  · rw [if_neg a]
    by_cases b : x ≥ 256
    · rw [if_pos b, if_pos (by omega), if_pos (by omega)]
      obtain ⟨m, m1, m2, m3, m4⟩ := len8_at (i := (x / 256) % 256) (by omega) (by omega)
      refine ⟨m + 8, by omega, ?_, ?_, ?_⟩
      · rw [m2]; congr 1; unfold wrap64; omega
      · rw [Int.pow_add]; generalize (2 : Int) ^ m = P at *; omega
      · intro _; rw [Int.pow_add]; generalize (2 : Int) ^ m = P at *; omega
    · rw [if_neg b, if_pos (by omega), if_pos (by omega)]
      obtain ⟨m, m1, m2, m3, m4⟩ := len8_at (i := x % 256) (by omega) (by omega)
      refine ⟨m, by omega, ?_, ?_, ?_⟩
      · rw [m2]; congr 1; unfold wrap64; omega
      · generalize (2 : Int) ^ m = P at *; omega
      · intro _; generalize (2 : Int) ^ m = P at *; omega

theorem len64 {x : Int} (h0 : 0 ≤ x) (h1 : x < 18446744073709551616) (k : Nat) :
    ∃ m : Nat, m ≤ 64 ∧ bits_Len64.f (k + 1) x = some (m : Int) ∧ x < 2 ^ m ∧ (0 < x → (2 : Int) ^ m ≤ 2 * x) := by
  unfold bits_Len64.f
  by_cases a : x ≥ 4294967296
  · rw [if_pos a]
    obtain ⟨m, m1, m2, m3, m4⟩ := len64_j0 (x := x / 4294967296) (n := 32) (by omega) (by omega) (by omega) (by omega) k
    refine ⟨m + 32, by omega, ?_, ?_, ?_⟩
    · rw [m2]; congr 1; omega
    · rw [Int.pow_add]; generalize (2 : Int) ^ m = P at *; omega
    · intro _; rw [Int.pow_add]; generalize (2 : Int) ^ m = P at *; omega
  · rw [if_neg a]
    obtain ⟨m, m1, m2, m3, m4⟩ := len64_j0 (x := x) (n := 0) (by omega) (by omega) (by omega) (by omega) k
    refine ⟨m, by omega, ?_, m3, m4⟩
    rw [m2]; congr 1; omega

/-- The leading zeros: shifted by them, a number fills 64 bits. -/
theorem lz64 {y : Int} (h0 : 0 < y) (h1 : y < 18446744073709551616) (k : Nat) :
    ∃ s : Nat, s ≤ 63 ∧ bits_LeadingZeros64.f (k + 1) y = some (s : Int) ∧ 9223372036854775808 ≤ y * 2 ^ s ∧ y * 2 ^ s < 18446744073709551616 := by
  obtain ⟨m, m1, m2, m3, m4⟩ := len64 (by omega) h1 k
  have hm : 1 ≤ m := by
    rcases m with _ | m
    · simp at m3; omega
    · omega
  refine ⟨64 - m, by omega, ?_, ?_, ?_⟩
  · unfold bits_LeadingZeros64.f
    rw [m2]; simp only [Option.bind_some]; congr 1; unfold wrap64; omega
  · have e : (2 : Int) ^ m * 2 ^ (64 - m) = 18446744073709551616 := by rw [← Int.pow_add, show m + (64 - m) = 64 by omega]; decide
    have p : (0 : Int) < 2 ^ (64 - m) := Int.pow_pos (by decide)
    have := Int.mul_le_mul_of_nonneg_right (m4 h0) (Int.le_of_lt p)
    rw [e, Int.mul_assoc] at this
    omega
  · have e : (2 : Int) ^ m * 2 ^ (64 - m) = 18446744073709551616 := by rw [← Int.pow_add, show m + (64 - m) = 64 by omega]; decide
    have p : (0 : Int) < 2 ^ (64 - m) := Int.pow_pos (by decide)
    have := Int.mul_lt_mul_of_pos_right m3 p
    omega
end Go.Proofs.Ytpophefonhpnmaa.Q
end

section
/- The quotient and the remainder of a number of 128 bits by one of 64 bits: math/bits.Div64 as printed, for every divisor greater than the upper half. -/
namespace Go.Proofs.Ytpophefonhpnmaa.Q
open Go.RowKit Go.Proofs.YtpophefonhpnmaaW.PrintWords Go.Proofs.YtpophefonhpnmaaW.PrintLast Go.Proofs.YtpophefonhpnmaaW.PrintMore
set_option linter.unusedVariables false
set_option linter.unusedSimpArgs false

theorem ev_fun {α : Type} {g : Nat → Option α} {r r' : α} (h : Ev g r) (e : r = r') : Ev g r' := e ▸ h

/-- One step of the search for a digit, in plain numbers. -/
theorem digit_facts {Y y1 y0 u A n1 q r : Int} (hY : Y = y1 * 4294967296 + y0) (h1 : 2147483648 ≤ y1) (h2 : y1 < 4294967296) (h3 : 0 ≤ y0) (h4 : y0 < 4294967296)
    (hn : 0 ≤ n1) (hn' : n1 < 4294967296) (hA : A = u * 4294967296 + n1) (hu : 0 ≤ u) (huY : u < Y) (hr : r = u - q * y1) (hr0 : 0 ≤ r) (hq1 : q ≤ 4294967297) (hq : A / Y ≤ q) :
    (q ≥ 4294967296 → A / Y ≤ q - 1) ∧ (q * y0 > 4294967296 * r + n1 → A / Y ≤ q - 1) ∧ (q < 4294967296 → ¬ q * y0 > 4294967296 * r + n1 → A / Y = q)
    ∧ (A / Y ≤ q - 1 → r + y1 ≥ 4294967296 → A / Y = q - 1) ∧ 0 ≤ A / Y ∧ A / Y < 4294967296 := by
  have hYp : 0 < Y := by omega
  have hA0 : 0 ≤ A := by omega
  have hQ0 : 0 ≤ A / Y := Int.ediv_nonneg hA0 (by omega)
  have hQ1 : A / Y < 4294967296 := by
    rw [Int.ediv_lt_iff_lt_mul hYp]; omega
  have eU : q * Y = A - n1 - r * 4294967296 + q * y0 := by
    rw [hY, hA, hr]; grind
  have k := Int.le_ediv_iff_mul_le (a := q) (b := A) hYp
  have k' := Int.le_ediv_iff_mul_le (a := q - 1) (b := A) hYp
  have eU' : (q - 1) * Y = q * Y - Y := by grind
  refine ⟨by omega, fun h => ?_, fun _ h => ?_, fun hle hr1 => ?_, hQ0, hQ1⟩
  · rcases Int.lt_or_le (A / Y) q with h' | h'
    · omega
    · have := k.mp h'; omega
  · have : q * Y ≤ A := by omega
    have := k.mpr this; omega
  · have b : (q - 1) * y0 ≤ 4294967296 * 4294967295 := Int.mul_le_mul (by omega) (by omega) h3 (by omega)
    have e : (q - 1) * y0 = q * y0 - y0 := by grind
    have : (q - 1) * Y ≤ A := by omega
    have := k'.mpr this; omega

theorem div_l0 {Y s y1 y0 u n1 n0 : Int} {R : Int × Int} (hY : Y = y1 * 4294967296 + y0) (h1 : 2147483648 ≤ y1) (h2 : y1 < 4294967296) (h3 : 0 ≤ y0) (h4 : y0 < 4294967296)
    (hn : 0 ≤ n1) (hn' : n1 < 4294967296) (hu : 0 ≤ u) (huY : u < Y) (H : Ev (fun k => bits_Div64.j2 k Y s y1 y0 u n1 n0 ((u * 4294967296 + n1) / Y)) R) (n : Nat) :
    ∀ q r : Int, r = u - q * y1 → 0 ≤ r → r < 4294967296 → q ≤ 4294967297 → (u * 4294967296 + n1) / Y ≤ q → 4294967296 - r ≤ n → Ev (fun k => bits_Div64.l0 k Y s y1 y0 u n1 n0 q r) R := by
  induction n with
  | zero => intro q r _ _ _ _ _ _; omega
  | succ n ih =>
    intro q r hr hr0 hr1 hq1 hq hm
    obtain ⟨f1, f2, f3, f4, f5, f6⟩ := digit_facts hY h1 h2 h3 h4 hn hn' rfl hu huY hr hr0 hq1 hq
    generalize hA : (u * 4294967296 + n1) / Y = Q at *
    have go : Q ≤ q - 1 → Ev (fun k => bits_Div64.j1 k Y s y1 y0 u n1 n0 q r true) R := by
      intro hle
      by_cases c : r + y1 ≥ 4294967296
      · refine Ev.step (fun k => by rw [bits_Div64.j1, if_pos rfl, uw_id (x := r + y1) (by omega) (by omega), if_pos c, uw_id (x := q - 1) (by omega) (by omega)]) ?_
        rw [← f4 hle c]; exact H
      · refine Ev.step (fun k => by rw [bits_Div64.j1, if_pos rfl, uw_id (x := r + y1) (by omega) (by omega), if_neg c, uw_id (x := q - 1) (by omega) (by omega)]) ?_
        exact ih (q - 1) (r + y1) (by rw [hr]; grind) (by omega) (by omega) (by omega) hle (by omega)
    by_cases c : q ≥ 4294967296
    · exact Ev.step (fun k => by rw [bits_Div64.l0, if_pos c]) (go (f1 c))
    · have b0 : 0 ≤ q * y0 := Int.mul_nonneg (by omega) h3
      have b1 : q * y0 ≤ 4294967295 * 4294967295 := Int.mul_le_mul (by omega) (by omega) h3 (by omega)
      have e : decide ((IntKind.u64.wrap (q * y0)) > (IntKind.u64.wrap ((IntKind.u64.wrap (4294967296 * r)) + n1))) = decide (q * y0 > 4294967296 * r + n1) := by
        rw [uw_id (x := q * y0) b0 (by omega), uw_id (x := 4294967296 * r) (by omega) (by omega), uw_id (by omega) (by omega)]
      by_cases d : q * y0 > 4294967296 * r + n1
      · exact Ev.step (fun k => by rw [bits_Div64.l0, if_neg c, e, decide_eq_true d]) (go (f2 d))
      · refine Ev.step (fun k => by rw [bits_Div64.l0, if_neg c, e, decide_eq_false d]) ?_
        refine Ev.step (fun k => by rw [bits_Div64.j1, if_neg (by decide)]) ?_
        rw [← f3 (by omega) d]; exact H

theorem div_end {Y y1 u n0 q1 s A : Int} (hY0 : 0 < Y) (hY1 : Y < 18446744073709551616) (hA : A = u * 4294967296 + n0) (hq1 : 0 ≤ q1) (hq1' : q1 < 4294967296) (hQ : 0 ≤ A / Y) (hQ1 : A / Y < 4294967296) :
    (IntKind.u64.wrap ((IntKind.u64.wrap (q1 * 4294967296)) + A / Y), shr .u64 (IntKind.u64.wrap ((IntKind.u64.wrap ((IntKind.u64.wrap (u * 4294967296)) + n0)) - (IntKind.u64.wrap ((A / Y) * Y)))) s)
      = (q1 * 4294967296 + A / Y, shr .u64 (A % Y) s) := by
  have h := Int.emod_add_mul_ediv A Y
  have h0 := Int.emod_nonneg A (show Y ≠ 0 by omega)
  have h1 := Int.emod_lt_of_pos A hY0
  have hc : Y * (A / Y) = A / Y * Y := Int.mul_comm _ _
  rw [hc] at h
  generalize A / Y * Y = P at *
  generalize A / Y = Q at *
  have e : (u * 4294967296 % 18446744073709551616 + n0) % 18446744073709551616 = A % 18446744073709551616 := by rw [hA]; omega
  rw [uw, uw, uw, uw, uw, uw, e]
  congr 1
  · omega
  · congr 1; omega

theorem div_l1 {Y s y1 y0 u n0 q1 : Int} (hY : Y = y1 * 4294967296 + y0) (h1 : 2147483648 ≤ y1) (h2 : y1 < 4294967296) (h3 : 0 ≤ y0) (h4 : y0 < 4294967296)
    (hn : 0 ≤ n0) (hn' : n0 < 4294967296) (hu : 0 ≤ u) (huY : u < Y) (hq1 : 0 ≤ q1) (hq1' : q1 < 4294967296) (hs : 0 ≤ s) (n : Nat) :
    ∀ q r : Int, r = u - q * y1 → 0 ≤ r → r < 4294967296 → q ≤ 4294967297 → (u * 4294967296 + n0) / Y ≤ q → 4294967296 - r ≤ n →
      Ev (fun k => bits_Div64.l1 k Y s y1 y0 n0 q1 r u q) (q1 * 4294967296 + (u * 4294967296 + n0) / Y, shr .u64 ((u * 4294967296 + n0) % Y) s) := by
  induction n with
  | zero => intro q r _ _ _ _ _ _; omega
  | succ n ih =>
    intro q r hr hr0 hr1 hq1 hq hm
    obtain ⟨f1, f2, f3, f4, f5, f6⟩ := digit_facts hY h1 h2 h3 h4 hn hn' rfl hu huY hr hr0 hq1 hq
    have fin := div_end (Y := Y) (y1 := y1) (u := u) (n0 := n0) (q1 := q1) (s := s) (by omega) (by omega) rfl (by omega) (by omega) f5 f6
    generalize hA : u * 4294967296 + n0 = A at *
    have go : A / Y ≤ q - 1 → Ev (fun k => bits_Div64.j4 k Y s y1 y0 n0 q1 r u q true) (q1 * 4294967296 + A / Y, shr .u64 (A % Y) s) := by
      intro hle
      by_cases c : r + y1 ≥ 4294967296
      · have e := f4 hle c
        refine Ev.step (f := fun _ => some (q1 * 4294967296 + A / Y, shr .u64 (A % Y) s)) (fun k => ?_) (Ev.now _)
        rw [bits_Div64.j4, if_pos rfl, uw_id (x := r + y1) (by omega) (by omega), if_pos c, uw_id (x := q - 1) (by omega) (by omega), if_pos hs, ← e]
        rw [fin]
      · refine Ev.step (fun k => by rw [bits_Div64.j4, if_pos rfl, uw_id (x := r + y1) (by omega) (by omega), if_neg c, uw_id (x := q - 1) (by omega) (by omega)]) ?_
        exact ih (q - 1) (r + y1) (by rw [hr]; grind) (by omega) (by omega) (by omega) hle (by omega)
    by_cases c : q ≥ 4294967296
    · exact Ev.step (fun k => by rw [bits_Div64.l1, if_pos c]) (go (f1 c))
    · have b0 : 0 ≤ q * y0 := Int.mul_nonneg (by omega) h3
      have b1 : q * y0 ≤ 4294967295 * 4294967295 := Int.mul_le_mul (by omega) (by omega) h3 (by omega)
      have e : decide ((IntKind.u64.wrap (q * y0)) > (IntKind.u64.wrap ((IntKind.u64.wrap (4294967296 * r)) + n0))) = decide (q * y0 > 4294967296 * r + n0) := by
        rw [uw_id (x := q * y0) b0 (by omega), uw_id (x := 4294967296 * r) (by omega) (by omega), uw_id (by omega) (by omega)]
      by_cases d : q * y0 > 4294967296 * r + n0
      · exact Ev.step (fun k => by rw [bits_Div64.l1, if_neg c, e, decide_eq_true d]) (go (f2 d))
      · refine Ev.step (fun k => by rw [bits_Div64.l1, if_neg c, e, decide_eq_false d]) ?_
        have e := f3 (by omega) d
        refine Ev.step (f := fun _ => some (q1 * 4294967296 + A / Y, shr .u64 (A % Y) s)) (fun k => ?_) (Ev.now _)
        rw [bits_Div64.j4, if_neg (by decide), if_pos hs, ← e]
        rw [fin]

theorem tdiv_eq {a b : Int} (ha : 0 ≤ a) : Int.tdiv a b = a / b := Int.tdiv_eq_ediv_of_nonneg ha
theorem tmod_eq {a b : Int} (ha : 0 ≤ a) : Int.tmod a b = a % b := Int.tmod_eq_emod_of_nonneg ha

/-- The first guess of a digit. -/
theorem guess {Y y1 y0 u A n1 : Int} (hY : Y = y1 * 4294967296 + y0) (h1 : 2147483648 ≤ y1) (h2 : y1 < 4294967296) (h3 : 0 ≤ y0) (h4 : y0 < 4294967296)
    (hn : 0 ≤ n1) (hn' : n1 < 4294967296) (hA : A = u * 4294967296 + n1) (hu : 0 ≤ u) (huY : u < Y) :
    0 ≤ u / y1 ∧ u / y1 ≤ 4294967297 ∧ A / Y ≤ u / y1 ∧ u - u / y1 * y1 = u % y1 ∧ 0 ≤ u % y1 ∧ u % y1 < 4294967296 := by
  have e := Int.emod_add_mul_ediv u y1
  have e0 := Int.emod_nonneg u (show y1 ≠ 0 by omega)
  have e1 := Int.emod_lt_of_pos u (show 0 < y1 by omega)
  have e2 : y1 * (u / y1) = u / y1 * y1 := Int.mul_comm _ _
  refine ⟨Int.ediv_nonneg hu (by omega), ?_, ?_, by omega, e0, by omega⟩
  · have : u / y1 < 4294967298 := by rw [Int.ediv_lt_iff_lt_mul (by omega)]; omega
    omega
  · -- (A / Y) * Y ≤ A, hence (A / Y) * y1 * 2^32 ≤ A, hence (A / Y) * y1 ≤ u
    have hYp : 0 < Y := by omega
    have k := (Int.le_ediv_iff_mul_le (a := A / Y) (b := A) hYp).mp (Int.le_refl _)
    have hQ0 : 0 ≤ A / Y := Int.ediv_nonneg (by omega) (by omega)
    have m0 : 0 ≤ A / Y * y0 := Int.mul_nonneg hQ0 h3
    have eU : A / Y * Y = A / Y * y1 * 4294967296 + A / Y * y0 := by
      generalize A / Y = Q; rw [hY]; grind
    rw [Int.le_ediv_iff_mul_le (by omega)]
    omega

theorem div_j2 {Y s y1 y0 u n1 n0 : Int} (hY : Y = y1 * 4294967296 + y0) (h1 : 2147483648 ≤ y1) (h2 : y1 < 4294967296) (h3 : 0 ≤ y0) (h4 : y0 < 4294967296)
    (hn : 0 ≤ n1) (hn' : n1 < 4294967296) (hm : 0 ≤ n0) (hm' : n0 < 4294967296) (hu : 0 ≤ u) (huY : u < Y) (hs : 0 ≤ s) :
    Ev (fun k => bits_Div64.j2 k Y s y1 y0 u n1 n0 ((u * 4294967296 + n1) / Y))
      ((u * 18446744073709551616 + n1 * 4294967296 + n0) / Y, shr .u64 ((u * 18446744073709551616 + n1 * 4294967296 + n0) % Y) s) := by
  have hYp : 0 < Y := by omega
  have h := Int.emod_add_mul_ediv (u * 4294967296 + n1) Y
  have h0 := Int.emod_nonneg (u * 4294967296 + n1) (show Y ≠ 0 by omega)
  have h1' := Int.emod_lt_of_pos (u * 4294967296 + n1) hYp
  have hc : Y * ((u * 4294967296 + n1) / Y) = (u * 4294967296 + n1) / Y * Y := Int.mul_comm _ _
  have hQ0 : 0 ≤ (u * 4294967296 + n1) / Y := Int.ediv_nonneg (by omega) (by omega)
  have hQ1 : (u * 4294967296 + n1) / Y < 4294967296 := by rw [Int.ediv_lt_iff_lt_mul hYp]; omega
  generalize hQ : (u * 4294967296 + n1) / Y = Q1 at *
  generalize hV : (u * 4294967296 + n1) % Y = V at *
  have eV : IntKind.u64.wrap ((IntKind.u64.wrap ((IntKind.u64.wrap (u * 4294967296)) + n1)) - (IntKind.u64.wrap (Q1 * Y))) = V := by
    rw [uw, uw, uw, uw]; omega
  obtain ⟨g0, g1, g2, g3, g4, g5⟩ := guess (A := V * 4294967296 + n0) hY h1 h2 h3 h4 hm hm' rfl h0 h1'
  have eN : u * 18446744073709551616 + n1 * 4294967296 + n0 = V * 4294967296 + n0 + (Q1 * 4294967296) * Y := by
    have : (Q1 * 4294967296) * Y = Q1 * Y * 4294967296 := by grind
    omega
  have eD : (u * 18446744073709551616 + n1 * 4294967296 + n0) / Y = Q1 * 4294967296 + (V * 4294967296 + n0) / Y := by
    rw [eN, Int.add_mul_ediv_right _ _ (by omega)]; omega
  have eM : (u * 18446744073709551616 + n1 * 4294967296 + n0) % Y = (V * 4294967296 + n0) % Y := by
    rw [eN, Int.add_mul_emod_self_right]
  rw [eD, eM]
  refine Ev.step (f := fun k => bits_Div64.l1 k Y s y1 y0 n0 Q1 (V % y1) V (V / y1)) (fun k => ?_) ?_
  · rw [bits_Div64.j2, if_neg (by omega), eV, tdiv_eq h0, uw_id (x := V / y1) g0 (by omega)]
    rw [uw, uw]
    congr 1
    omega
  · exact div_l1 hY h1 h2 h3 h4 hm hm' h0 h1' hQ0 hQ1 hs 4294967296 _ _ g3.symm g4 g5 g1 g2 (by omega)
end Go.Proofs.Ytpophefonhpnmaa.Q
end

section
/- math/bits.Div64 as printed returns the quotient and the remainder of hi * 2^64 + lo by y, for every y greater than hi. -/
namespace Go.Proofs.Ytpophefonhpnmaa.Q
open Go.RowKit Go.Proofs.YtpophefonhpnmaaW.PrintWords Go.Proofs.YtpophefonhpnmaaW.PrintLast Go.Proofs.YtpophefonhpnmaaW.PrintMore
set_option linter.unusedVariables false
set_option linter.unusedSimpArgs false

theorem shl64 {x : Int} {s : Nat} (hs : s ≤ 64) : shl .u64 x (s : Int) = (x * 2 ^ s) % 18446744073709551616 := by
  unfold shl; rw [uw, Int.toNat_natCast, show IntKind.u64.bits = 64 from rfl, Nat.min_eq_left hs]
theorem shr64 {x : Int} {s : Nat} (hs : s ≤ 64) : shr .u64 x (s : Int) = x / 2 ^ s := by
  unfold shr; rw [Int.toNat_natCast, show IntKind.u64.bits = 64 from rfl, Nat.min_eq_left hs]

theorem div64 {hi lo y : Int} (h0 : 0 ≤ hi) (h1 : hi < y) (h2 : y < 18446744073709551616) (l0 : 0 ≤ lo) (l1 : lo < 18446744073709551616) :
    Ev (fun k => bits_Div64.f k hi lo y) ((hi * 18446744073709551616 + lo) / y, (hi * 18446744073709551616 + lo) % y) := by
  by_cases hz : hi = 0
  · subst hz
    refine Ev.congr (f := fun _ => some (lo / y, lo % y)) (fun k => ?_) ?_
    · unfold bits_Div64.f
      rw [if_neg (by omega), if_neg (by omega), if_pos rfl, tdiv_eq l0, tmod_eq l0, uw_id (Int.ediv_nonneg l0 (by omega))]
      have := Int.ediv_le_self y l0
      omega
    · rw [show 0 * 18446744073709551616 + lo = lo by omega]; exact Ev.now _
  · obtain ⟨K, hK⟩ : ∃ K, ∀ k, K ≤ k → bits_Div64.f k hi lo y = some ((hi * 18446744073709551616 + lo) / y, (hi * 18446744073709551616 + lo) % y) := by
      obtain ⟨s, hs, hsv, hY0, hY1⟩ := lz64 (y := y) (by omega) h2 0
      have hsE : Ev (fun k => bits_LeadingZeros64.f k y) (s : Int) := Ev.of (fun k => bits_LeadingZeros64.mono _ _) hsv
      have hP : (0 : Int) < 2 ^ s := Int.pow_pos (by decide)
      have hPP : (2 : Int) ^ s * 2 ^ (64 - s) = 18446744073709551616 := by rw [← Int.pow_add, show s + (64 - s) = 64 by omega]; decide
      have hP' : (0 : Int) < 2 ^ (64 - s) := Int.pow_pos (by decide)
      have hb : hi * 2 ^ s < y * 2 ^ s := Int.mul_lt_mul_of_pos_right h1 hP
      have hb0 : 0 ≤ hi * 2 ^ s := Int.mul_nonneg h0 (by omega)
      have hlo0 : 0 ≤ lo * 2 ^ s := Int.mul_nonneg l0 (by omega)
      -- the low part of the dividend that moves up
      have hdl : lo / 2 ^ (64 - s) = lo * 2 ^ s / 18446744073709551616 := by
        rw [← hPP, Int.mul_comm lo, Int.mul_ediv_mul_of_pos _ _ hP]
      have hlt : lo * 2 ^ s < 18446744073709551616 * 2 ^ s := Int.mul_lt_mul_of_pos_right l1 hP
      have hdlt : lo * 2 ^ s / 18446744073709551616 < 2 ^ s := by
        rw [Int.ediv_lt_iff_lt_mul (by decide), Int.mul_comm (2 ^ s)]; exact hlt
      have hd0 : 0 ≤ lo * 2 ^ s / 18446744073709551616 := Int.ediv_nonneg hlo0 (by decide)
      have e1 : shl .u64 y (s : Int) = y * 2 ^ s := by rw [shl64 (by omega)]; omega
      have e2 : shl .u64 hi (s : Int) = hi * 2 ^ s := by rw [shl64 (by omega)]; omega
      have e3 : shl .u64 lo (s : Int) = lo * 2 ^ s % 18446744073709551616 := shl64 (by omega)
      have e4 : shr .u64 lo (IntKind.u64.wrap (64 - IntKind.u64.wrap (s : Int))) = lo * 2 ^ s / 18446744073709551616 := by
        rw [uw_id (x := (s : Int)) (by omega) (by omega), uw_id (by omega) (by omega), show (64 : Int) - (s : Int) = ((64 - s : Nat) : Int) by omega, shr64 (by omega), hdl]
      have hle : hi * 2 ^ s + 2 ^ s ≤ y * 2 ^ s := by
        have := Int.mul_le_mul_of_nonneg_right (show hi + 1 ≤ y by omega) (Int.le_of_lt hP)
        rw [Int.add_mul, Int.one_mul] at this; exact this
      have e5 : Go.bits .or .u64 (hi * 2 ^ s) (lo * 2 ^ s / 18446744073709551616) = hi * 2 ^ s + lo * 2 ^ s / 18446744073709551616 :=
        Go.bits_join .u64 64 (by decide) (fun n h h' => by rw [uw]; omega) s _ _ hb0 (Int.mul_emod_left _ _) (by omega) hd0 hdlt (by omega)
      -- the whole
      have key := div_j2 (Y := y * 2 ^ s) (s := (s : Int)) (y1 := y * 2 ^ s / 4294967296) (y0 := y * 2 ^ s % 4294967296) (u := hi * 2 ^ s + lo * 2 ^ s / 18446744073709551616)
        (n1 := lo * 2 ^ s % 18446744073709551616 / 4294967296) (n0 := lo * 2 ^ s % 18446744073709551616 % 4294967296)
        (by omega) (by omega) (by omega) (by omega) (by omega) (by omega) (by omega) (by omega) (by omega) (by omega) (by omega) (by omega)
      have hN : (hi * 2 ^ s + lo * 2 ^ s / 18446744073709551616) * 18446744073709551616 + lo * 2 ^ s % 18446744073709551616 / 4294967296 * 4294967296 + lo * 2 ^ s % 18446744073709551616 % 4294967296
          = (hi * 18446744073709551616 + lo) * 2 ^ s := by
        have : (hi * 18446744073709551616 + lo) * 2 ^ s = hi * 2 ^ s * 18446744073709551616 + lo * 2 ^ s := by grind
        omega
      have eM : (hi * 18446744073709551616 + lo) * 2 ^ s % (y * 2 ^ s) = (hi * 18446744073709551616 + lo) % y * 2 ^ s := by
        rw [Int.mul_comm _ (2 ^ s), Int.mul_comm y, Int.mul_emod_mul_of_pos _ _ hP, Int.mul_comm]
      rw [hN, Int.mul_ediv_mul_of_pos_left _ _ hP, eM, shr64 (by omega), Int.mul_ediv_cancel _ (by omega)] at key
      obtain ⟨g0, g1, g2, g3, g4, g5⟩ := guess (Y := y * 2 ^ s) (y1 := y * 2 ^ s / 4294967296) (y0 := y * 2 ^ s % 4294967296) (u := hi * 2 ^ s + lo * 2 ^ s / 18446744073709551616)
        (A := (hi * 2 ^ s + lo * 2 ^ s / 18446744073709551616) * 4294967296 + lo * 2 ^ s % 18446744073709551616 / 4294967296) (n1 := lo * 2 ^ s % 18446744073709551616 / 4294967296)
        (by omega) (by omega) (by omega) (by omega) (by omega) (by omega) (by omega) rfl (by omega) (by omega)
      have key2 := div_l0 (Y := y * 2 ^ s) (s := (s : Int)) (y1 := y * 2 ^ s / 4294967296) (y0 := y * 2 ^ s % 4294967296) (u := hi * 2 ^ s + lo * 2 ^ s / 18446744073709551616)
        (n1 := lo * 2 ^ s % 18446744073709551616 / 4294967296) (n0 := lo * 2 ^ s % 18446744073709551616 % 4294967296)
        (by omega) (by omega) (by omega) (by omega) (by omega) (by omega) (by omega) (by omega) (by omega) key 4294967296 _ _ g3.symm g4 g5 g1 g2 (by omega)
      obtain ⟨K1, h1'⟩ := hsE
      obtain ⟨K2, h2'⟩ := key2
      refine ⟨max K1 K2, fun k hk => ?_⟩
      unfold bits_Div64.f
      rw [if_neg (by omega), if_neg (by omega), if_neg hz, show bits_LeadingZeros64.f k y = some (s : Int) from h1' k (by omega)]
      simp only [Option.bind_some]
      rw [e4, uw_id (x := (s : Int)) (by omega) (by omega), if_pos (by omega), uw_id (x := 64 - (s : Int)) (by omega) (by omega), if_pos (by omega), e1, e2, e3, e5,
        if_neg (by omega), u64_mask32 (by omega) (by omega), u64_mask32 (by omega) (by omega), tdiv_eq (by omega), uw_id (x := _ / _) g0 (by omega), uw, uw]
      have hmm : ((hi * 2 ^ s + lo * 2 ^ s / 18446744073709551616) - (hi * 2 ^ s + lo * 2 ^ s / 18446744073709551616) / (y * 2 ^ s / 4294967296) * (y * 2 ^ s / 4294967296) % 18446744073709551616) % 18446744073709551616
          = (hi * 2 ^ s + lo * 2 ^ s / 18446744073709551616) % (y * 2 ^ s / 4294967296) := by omega
      rw [hmm]
      exact h2' k (by omega)
    exact ⟨K, hK⟩
end Go.Proofs.Ytpophefonhpnmaa.Q
end

section
/- Package num of the program in plain numbers: products of 128 bits, their sums, order, quotients and remainders; the bounds stand in each statement. -/
namespace Go.Proofs.Ytpophefonhpnmaa.Q
open Go.RowKit Go.Proofs.YtpophefonhpnmaaW.PrintWords Go.Proofs.YtpophefonhpnmaaW.PrintLast Go.Proofs.YtpophefonhpnmaaW.PrintMore
set_option linter.unusedVariables false
set_option linter.unusedSimpArgs false

/-- What a product of two numbers of 64 bits lies between. -/
theorem prod_bd {a b : Int} (a0 : -9223372036854775808 ≤ a) (a1 : a < 9223372036854775808) (b0 : -9223372036854775808 ≤ b) (b1 : b < 9223372036854775808) :
    -85070591730234615865843651857942052864 ≤ a * b ∧ a * b ≤ 85070591730234615865843651857942052864 := by
  have h : (a * b).natAbs ≤ 9223372036854775808 * 9223372036854775808 := by
    rw [Int.natAbs_mul]; exact Nat.mul_le_mul (by omega) (by omega)
  omega

theorem wide_neg {v : Int} (h0 : -170141183460469231731687303715884105728 < v) (h1 : v < 170141183460469231731687303715884105728) :
    num_Wide_Neg.f (v / 18446744073709551616) (v % 18446744073709551616) = some (-v / 18446744073709551616, -v % 18446744073709551616) := by
  unfold num_Wide_Neg.f
  rw [if_pos (by omega), if_pos (by omega)]
  congr 2
  · unfold wrap64; omega
  · omega

theorem wide_plus {u v : Int} (h0 : -170141183460469231731687303715884105728 ≤ u + v) (h1 : u + v < 170141183460469231731687303715884105728) :
    num_Wide_Plus.f (u / 18446744073709551616) (u % 18446744073709551616) (v / 18446744073709551616) (v % 18446744073709551616)
      = some ((u + v) / 18446744073709551616, (u + v) % 18446744073709551616) := by
  unfold num_Wide_Plus.f
  rw [if_pos (by omega), if_pos (by omega), if_pos (by omega), if_pos (by omega)]
  congr 2
  · unfold wrap64; omega
  · omega

theorem product {a b : Int} (a0 : -9223372036854775808 ≤ a) (a1 : a < 9223372036854775808) (b0 : -9223372036854775808 ≤ b) (b1 : b < 9223372036854775808) :
    num_Product.f a b = some (a * b / 18446744073709551616, a * b % 18446744073709551616) := by
  have hb := prod_bd a0 a1 b0 b1
  unfold num_Product.f
  rw [size_some a0 a1, size_some b0 b1]
  simp only [Option.bind_some]
  rw [mul64 (by split <;> omega) (by split <;> omega) (by split <;> omega) (by split <;> omega)]
  simp only [Option.bind_some]
  by_cases ha : a < 0 <;> by_cases hc : b < 0
  · rw [if_pos ha, if_pos hc, if_neg (by simp [ha, hc]), Int.neg_mul_neg]
    congr 2
    unfold wrap64; omega
  · rw [if_pos ha, if_neg hc, if_pos (by simp [ha]; omega), Int.neg_mul, w64_id (by omega) (by omega), wide_neg (by omega) (by omega)]
    simp only [Option.bind_some, Int.neg_neg]
  · rw [if_neg ha, if_pos hc, if_pos (by simp [hc]; omega), Int.mul_neg, w64_id (by omega) (by omega), wide_neg (by omega) (by omega)]
    simp only [Option.bind_some, Int.neg_neg]
  · rw [if_neg ha, if_neg hc, if_neg (by simp [ha, hc])]
    congr 2
    unfold wrap64; omega

/-- Division of a negative number: by that of the opposite one. -/
theorem neg_div {v d : Int} (hd : 0 < d) : v / d = (if -v % d = 0 then -(-v / d) else -(-v / d) - 1) ∧ v % d = (if -v % d = 0 then 0 else d - -v % d) := by
  have e := Int.emod_add_mul_ediv (-v) d
  have h0 := Int.emod_nonneg (-v) (show d ≠ 0 by omega)
  have h1 := Int.emod_lt_of_pos (-v) hd
  split
  · exact (Int.ediv_emod_unique hd).mpr ⟨by rw [Int.mul_neg]; omega, by omega, by omega⟩
  · exact (Int.ediv_emod_unique hd).mpr ⟨by rw [Int.mul_sub, Int.mul_neg]; omega, by omega, by omega⟩

theorem div_bd {v d : Int} (h0 : 0 ≤ v) (hd : 0 < d) : 0 ≤ v / d ∧ v / d ≤ v := ⟨Int.ediv_nonneg h0 (by omega), Int.ediv_le_self d h0⟩

theorem bind_ev {α β : Type} {g : Nat → Option α} {f : Nat → α → Option β} {a : α} {r : β} (h : Ev g a) (k : Ev (fun n => f n a) r) : Ev (fun n => (g n).bind (f n)) r := Ev.bind h k
theorem one_ev {α : Type} {g : Nat → Option α} {r : α} (h : ∀ k, g (k + 1) = some r) : Ev g r := Ev.step (f := fun _ => some r) h (Ev.now _)
theorem now_ev {α : Type} {g : Nat → Option α} {r : α} (h : ∀ k, g k = some r) : Ev g r := Ev.congr (f := fun _ => some r) h (Ev.now _)

theorem wide_div_j1 {p r : Int} (neg : Bool) {h l : Int} (hn : (h < 0) = (neg = true)) (hp0 : 0 ≤ p) (hp1 : p < 18446744073709551616) (hr : 0 ≤ r) :
    Ev (fun k => num_Wide_Div.j1 k p r (if neg then (if r > 0 then 9223372036854775807 else 9223372036854775808) else 9223372036854775807) h l)
      (if neg then (if r = 0 then (if p ≤ 9223372036854775808 then (-p, 0) else (0, 2)) else (if p ≤ 9223372036854775807 then (-p - 1, 0) else (0, 2)))
        else (if p ≤ 9223372036854775807 then (p, 0) else (0, 2))) := by
  refine one_ev fun k => ?_
  rw [num_Wide_Div.j1]
  cases neg
  · have hh : ¬ h < 0 := by rw [hn]; decide
    simp only [Bool.false_eq_true, if_false]
    by_cases c : p ≤ 9223372036854775807
    · rw [if_neg (by omega), if_pos (by omega), if_pos c, w64_id (by omega) (by omega)]
    · rw [if_pos (by omega), if_neg c]
  · have hh : h < 0 := by rw [hn]
    simp only [if_true]
    by_cases z : r = 0
    · rw [if_neg (show ¬ r > 0 by omega), if_pos z]
      by_cases c : p ≤ 9223372036854775808
      · rw [if_neg (by omega), if_neg (by omega), if_neg (by omega), if_pos c, uw_wrap64, w64_id (by omega) (by omega)]
      · rw [if_pos (by omega), if_neg c]
    · rw [if_pos (show r > 0 by omega), if_neg z]
      by_cases c : p ≤ 9223372036854775807
      · rw [if_neg (by omega), if_neg (by omega), if_pos (by omega), if_pos c, uw_wrap64, w64_id (x := -p) (by omega) (by omega), w64_id (by omega) (by omega)]
      · rw [if_pos (by omega), if_neg c]

theorem some_ev {α β : Type} {g : Option α} {f : Nat → α → Option β} {a : α} {r : β} (h : g = some a) (k : Ev (fun n => f n a) r) : Ev (fun n => g.bind (f n)) r := by
  subst h; exact k
theorem pos_ev {α : Type} {c : Prop} [Decidable c] {g f : Nat → Option α} {r : α} (h : c) (k : Ev g r) : Ev (fun n => if c then g n else f n) r := by
  simp only [if_pos h]; exact k
theorem neg_ev {α : Type} {c : Prop} [Decidable c] {g f : Nat → Option α} {r : α} (h : ¬ c) (k : Ev f r) : Ev (fun n => if c then g n else f n) r := by
  simp only [if_neg h]; exact k

/-- Whether a number has 64 bits, with sign. -/
def fits (n : Int) : Bool := decide (-9223372036854775808 ≤ n) && decide (n ≤ 9223372036854775807)

theorem wide_div {v d : Int} (h0 : -170141183460469231731687303715884105728 ≤ v) (h1 : v < 170141183460469231731687303715884105728) (hd1 : d < 9223372036854775808) :
    Ev (fun k => num_Wide_Div.f k (v / 18446744073709551616) (v % 18446744073709551616) d) (if d < 1 then (0, 1) else if fits (v / d) then (v / d, 0) else (0, 2)) := by
  by_cases hd : d < 1
  · rw [if_pos hd]; exact now_ev fun k => by unfold num_Wide_Div.f; rw [if_pos hd]
  rw [if_neg hd]
  have hdp : 0 < d := by omega
  by_cases hv : v < 0
  · by_cases hm : v = -170141183460469231731687303715884105728
    · subst hm
      have hf : fits (-170141183460469231731687303715884105728 / d) = false := by
        have : -170141183460469231731687303715884105728 / d < -9223372036854775808 := by rw [Int.ediv_lt_iff_lt_mul hdp]; omega
        unfold fits; rw [decide_eq_false (by omega)]; rfl
      rw [hf]
      refine Ev.congr (f := fun k => num_Wide_Div.j0 k d (-9223372036854775808) 0 (-9223372036854775808) 0) (fun k => ?_) ?_
      · unfold num_Wide_Div.f
        rw [if_neg hd, if_pos (by omega)]
        have : num_Wide_Neg.f (-170141183460469231731687303715884105728 / 18446744073709551616) (-170141183460469231731687303715884105728 % 18446744073709551616) = some (-9223372036854775808, 0) := by decide +kernel
        rw [this]
        rfl
      · refine one_ev fun k => ?_
        rw [num_Wide_Div.j0, if_pos (by rw [uw, uw]; omega)]
        rfl
    · have b := div_bd (v := -v) (d := d) (by omega) hdp
      have nd := neg_div (v := v) hdp
      have h0' := Int.emod_nonneg (-v) (show d ≠ 0 by omega)
      refine Ev.congr (f := fun k => num_Wide_Div.j0 k d (v / 18446744073709551616) (v % 18446744073709551616) (-v / 18446744073709551616) (-v % 18446744073709551616)) (fun k => ?_) ?_
      · unfold num_Wide_Div.f
        rw [if_neg hd, if_pos (by omega), wide_neg (by omega) (by omega)]
        rfl
      · by_cases c : -v / 18446744073709551616 ≥ d
        · have hq : 18446744073709551616 ≤ -v / d := by rw [Int.le_ediv_iff_mul_le hdp]; omega
          have hf : fits (v / d) = false := by
            unfold fits; rw [decide_eq_false (by rw [nd.1]; split <;> omega)]; rfl
          rw [hf]
          refine one_ev fun k => ?_
          rw [num_Wide_Div.j0, if_pos (by rw [uw, uw]; omega)]
          rfl
        · have D := div64 (hi := -v / 18446744073709551616) (lo := -v % 18446744073709551616) (y := d) (by omega) (by omega) (by omega) (by omega) (by omega)
          rw [show -v / 18446744073709551616 * 18446744073709551616 + -v % 18446744073709551616 = -v by omega] at D
          have hq : -v / d < 18446744073709551616 := by rw [Int.ediv_lt_iff_lt_mul hdp]; omega
          have J := wide_div_j1 (p := -v / d) (r := -v % d) true (h := v / 18446744073709551616) (l := v % 18446744073709551616) (by simp; omega) b.1 hq h0'
          simp only [if_true] at J
          refine Ev.step (f := fun k => (bits_Div64.f k (-v / 18446744073709551616) (-v % 18446744073709551616) d).bind fun bt => num_Wide_Div.j1 k bt.1 bt.2 (if bt.2 > 0 then 9223372036854775807 else 9223372036854775808) (v / 18446744073709551616) (v % 18446744073709551616)) (fun k => ?_) ?_
          · rw [num_Wide_Div.j0, uw_id (x := -v / 18446744073709551616) (by omega) (by omega), uw_id (x := d) (by omega) (by omega), if_neg c]
            congr 1
            funext bt
            rw [if_pos (by omega)]
            split <;> rfl
          · refine ev_fun (Ev.bind D J) ?_
            rw [nd.1]
            unfold fits
            by_cases z : -v % d = 0
            · rw [if_pos z, if_pos z]
              by_cases y : -v / d ≤ 9223372036854775808
              · rw [if_pos y, decide_eq_true (by omega), decide_eq_true (by omega)]; rfl
              · rw [if_neg y, decide_eq_false (by omega)]; rfl
            · rw [if_neg z, if_neg z]
              by_cases y : -v / d ≤ 9223372036854775807
              · rw [if_pos y, decide_eq_true (by omega), decide_eq_true (by omega)]; rfl
              · rw [if_neg y, decide_eq_false (by omega)]; rfl
  · have b := div_bd (v := v) (d := d) (by omega) hdp
    have h0' := Int.emod_nonneg v (show d ≠ 0 by omega)
    refine Ev.congr (f := fun k => num_Wide_Div.j0 k d (v / 18446744073709551616) (v % 18446744073709551616) (v / 18446744073709551616) (v % 18446744073709551616)) (fun k => ?_) ?_
    · unfold num_Wide_Div.f
      rw [if_neg hd, if_neg (by omega)]
    · by_cases c : v / 18446744073709551616 ≥ d
      · have hq : 18446744073709551616 ≤ v / d := by rw [Int.le_ediv_iff_mul_le hdp]; omega
        have hf : fits (v / d) = false := by
          unfold fits; rw [decide_eq_true (by omega), decide_eq_false (by omega)]; rfl
        rw [hf]
        refine one_ev fun k => ?_
        rw [num_Wide_Div.j0, if_pos (by rw [uw, uw]; omega)]
        rfl
      · have D := div64 (hi := v / 18446744073709551616) (lo := v % 18446744073709551616) (y := d) (by omega) (by omega) (by omega) (by omega) (by omega)
        rw [show v / 18446744073709551616 * 18446744073709551616 + v % 18446744073709551616 = v by omega] at D
        have hq : v / d < 18446744073709551616 := by rw [Int.ediv_lt_iff_lt_mul hdp]; omega
        have J := wide_div_j1 (p := v / d) (r := v % d) false (h := v / 18446744073709551616) (l := v % 18446744073709551616) (by simp; omega) b.1 hq h0'
        simp only [Bool.false_eq_true, if_false] at J
        refine Ev.step (f := fun k => (bits_Div64.f k (v / 18446744073709551616) (v % 18446744073709551616) d).bind fun bt => num_Wide_Div.j1 k bt.1 bt.2 9223372036854775807 (v / 18446744073709551616) (v % 18446744073709551616)) (fun k => ?_) ?_
        · rw [num_Wide_Div.j0, uw_id (x := v / 18446744073709551616) (by omega) (by omega), uw_id (x := d) (by omega) (by omega), if_neg c]
          congr 1
          funext bt
          rw [if_neg (by omega)]
        · refine ev_fun (Ev.bind D J) ?_
          unfold fits
          by_cases y : v / d ≤ 9223372036854775807
          · rw [if_pos y, decide_eq_true (by omega), decide_eq_true (by omega)]; rfl
          · rw [if_neg y, decide_eq_true (by omega), decide_eq_false (by omega)]; rfl

theorem wide_mod {v d : Int} (h0 : -170141183460469231731687303715884105728 < v) (h1 : v < 170141183460469231731687303715884105728) (hd1 : d < 9223372036854775808) :
    Ev (fun k => num_Wide_Mod.f k (v / 18446744073709551616) (v % 18446744073709551616) d) (if d < 1 then 0 else v % d) := by
  by_cases hd : d < 1
  · rw [if_pos hd]; exact now_ev fun k => by unfold num_Wide_Mod.f; rw [if_pos hd]
  rw [if_neg hd]
  have hdp : 0 < d := by omega
  -- the upper half may be reduced first
  have red : ∀ u : Int, 0 ≤ u → u < 170141183460469231731687303715884105728 →
      Ev (fun k => bits_Div64.f k (Int.tmod (IntKind.u64.wrap (u / 18446744073709551616)) (IntKind.u64.wrap d)) (u % 18446744073709551616) (IntKind.u64.wrap d))
        ((u / 18446744073709551616 % d * 18446744073709551616 + u % 18446744073709551616) / d, u % d) := by
    intro u u0 u1
    have m0 := Int.emod_nonneg (u / 18446744073709551616) (show d ≠ 0 by omega)
    have m1 := Int.emod_lt_of_pos (u / 18446744073709551616) hdp
    have D := div64 (hi := u / 18446744073709551616 % d) (lo := u % 18446744073709551616) (y := d) m0 m1 (by omega) (by omega) (by omega)
    have e : (u / 18446744073709551616 % d * 18446744073709551616 + u % 18446744073709551616) % d = u % d := by
      have e1 := Int.emod_add_mul_ediv (u / 18446744073709551616) d
      have e2 : u = u / 18446744073709551616 % d * 18446744073709551616 + u % 18446744073709551616 + d * (u / 18446744073709551616 / d * 18446744073709551616) := by
        have : d * (u / 18446744073709551616 / d * 18446744073709551616) = d * (u / 18446744073709551616 / d) * 18446744073709551616 := by grind
        omega
      conv => rhs; rw [e2]
      rw [Int.add_mul_emod_self_left]
    rw [e] at D
    refine Ev.congr (fun k => ?_) D
    rw [uw_id (x := u / 18446744073709551616) (by omega) (by omega), uw_id (x := d) (by omega) (by omega), tmod_eq (by omega)]
  have hw : ¬ IntKind.u64.wrap d = 0 := by rw [uw]; omega
  by_cases hv : v < 0
  · have nd := neg_div (v := v) hdp
    have m0 := Int.emod_nonneg (-v) (show d ≠ 0 by omega)
    have m1 := Int.emod_lt_of_pos (-v) hdp
    refine Ev.congr (f := fun k => (bits_Div64.f k (Int.tmod (IntKind.u64.wrap (-v / 18446744073709551616)) (IntKind.u64.wrap d)) (-v % 18446744073709551616) (IntKind.u64.wrap d)).bind fun bt => if bt.2 > 0 then some (wrap64 (IntKind.u64.wrap (IntKind.u64.wrap d - bt.2))) else some (wrap64 bt.2)) (fun k => ?_) ?_
    · unfold num_Wide_Mod.f
      rw [if_neg hd, if_pos (by omega), wide_neg h0 h1]
      simp only [Option.bind_some]
      rw [if_neg hw]
    · refine Ev.bind (red (-v) (by omega) (by omega)) (now_ev fun k => ?_)
      rw [nd.2]
      by_cases z : -v % d = 0
      · rw [if_neg (by simp only; omega), if_pos z]; simp only [z]; decide +kernel
      · rw [if_pos (by simp only; omega), if_neg z]; simp only; congr 1; rw [uw_id (x := d) (by omega) (by omega), uw_wrap64, w64_id (by omega) (by omega)]
  · have m0 := Int.emod_nonneg v (show d ≠ 0 by omega)
    have m1 := Int.emod_lt_of_pos v hdp
    refine Ev.congr (f := fun k => (bits_Div64.f k (Int.tmod (IntKind.u64.wrap (v / 18446744073709551616)) (IntKind.u64.wrap d)) (v % 18446744073709551616) (IntKind.u64.wrap d)).bind fun bt => some (wrap64 bt.2)) (fun k => ?_) ?_
    · unfold num_Wide_Mod.f
      rw [if_neg hd, if_neg (by omega), if_neg hw]
    · refine Ev.bind (red v (by omega) (by omega)) (now_ev fun k => ?_)
      simp only; congr 1; rw [w64_id (by omega) (by omega)]

theorem cmp_i64 (a b : Int) : cmp_Compare_int64.f a b = some (if a < b then -1 else if a > b then 1 else 0) := by
  unfold cmp_Compare_int64.f cmp_isNaN_int64.f
  simp only [Option.bind_some, bne_self_eq_false, Bool.false_eq_true, if_false]
  split
  · rfl
  · split <;> rfl
theorem cmp_u64 (a b : Int) : cmp_Compare_uint64.f a b = some (if a < b then -1 else if a > b then 1 else 0) := by
  unfold cmp_Compare_uint64.f cmp_isNaN_uint64.f
  simp only [Option.bind_some, bne_self_eq_false, Bool.false_eq_true, if_false]
  split
  · rfl
  · split <;> rfl
theorem or_two (x y : Int) : Ev (fun k => cmp_Or_int.f k [x, y]) (if x = 0 then y else x) := by
  refine Ev.congr (f := fun k => cmp_Or_int.l0 k 0 [x, y] 2 0) (fun k => by unfold cmp_Or_int.f; rfl) ?_
  by_cases hx : x = 0
  · rw [if_pos hx]
    refine Ev.step (f := fun k => cmp_Or_int.l0 k 0 [x, y] 2 1) (fun k => ?_) ?_
    · rw [cmp_Or_int.l0, if_pos (by decide), if_pos (by decide), if_pos (by simp), if_pos (by simpa [rd] using hx), w64_id (by decide) (by decide)]; rfl
    · by_cases hy : y = 0
      · refine Ev.step (f := fun k => cmp_Or_int.l0 k 0 [x, y] 2 2) (fun k => ?_) ?_
        · rw [cmp_Or_int.l0, if_pos (by decide), if_pos (by decide), if_pos (by simp), if_pos (by simpa [rd] using hy), w64_id (by decide) (by decide)]; rfl
        · exact one_ev fun k => by rw [cmp_Or_int.l0, if_neg (by decide), hy]
      · exact one_ev fun k => by rw [cmp_Or_int.l0, if_pos (by decide), if_pos (by decide), if_pos (by simp), if_neg (by simpa [rd] using hy)]; simp [rd]
  · rw [if_neg hx]
    exact one_ev fun k => by rw [cmp_Or_int.l0, if_pos (by decide), if_pos (by decide), if_pos (by simp), if_neg (by simpa [rd] using hx)]; simp [rd]

theorem wide_cmp (u v : Int) : Ev (fun k => num_Wide_Cmp.f k (u / 18446744073709551616) (u % 18446744073709551616) (v / 18446744073709551616) (v % 18446744073709551616)) (if u < v then -1 else if u > v then 1 else 0) := by
  refine Ev.congr (f := fun k => (cmp_Or_int.f k [if u / 18446744073709551616 < v / 18446744073709551616 then -1 else if u / 18446744073709551616 > v / 18446744073709551616 then 1 else 0,
      if u % 18446744073709551616 < v % 18446744073709551616 then -1 else if u % 18446744073709551616 > v % 18446744073709551616 then 1 else 0]).bind fun t => some t) (fun k => ?_) ?_
  · unfold num_Wide_Cmp.f
    rw [cmp_i64, cmp_u64]; rfl
  · refine ev_fun (Ev.bind (or_two _ _) (Ev.now _)) ?_
    by_cases a : u / 18446744073709551616 < v / 18446744073709551616
    · rw [if_pos a, if_neg (by omega), if_pos (by omega)]
    · rw [if_neg a]
      by_cases b : u / 18446744073709551616 > v / 18446744073709551616
      · rw [if_pos b, if_neg (by omega), if_neg (by omega), if_pos (by omega)]
      · rw [if_neg b, if_pos rfl]
        by_cases c : u % 18446744073709551616 < v % 18446744073709551616
        · rw [if_pos c, if_pos (show u < v by omega)]
        · rw [if_neg c, if_neg (show ¬ u < v by omega)]
          by_cases d : u % 18446744073709551616 > v % 18446744073709551616
          · rw [if_pos d, if_pos (show u > v by omega)]
          · rw [if_neg d, if_neg (show ¬ u > v by omega)]

/-- The quotient, rounded up. -/
def upq (v d : Int) : Int := if v % d = 0 then v / d else v / d + 1
end Go.Proofs.Ytpophefonhpnmaa.Q
end

section
/- The greatest common divisor and the square root of package num in plain numbers; the bounds stand in each statement. -/
namespace Go.Proofs.Ytpophefonhpnmaa.Q
open Go.RowKit Go.Proofs.YtpophefonhpnmaaW.PrintWords Go.Proofs.YtpophefonhpnmaaW.PrintLast Go.Proofs.YtpophefonhpnmaaW.PrintMore
set_option linter.unusedVariables false
set_option linter.unusedSimpArgs false

theorem andNot63 {x : Int} (h0 : 0 ≤ x) (h1 : x < 18446744073709551616) : Go.bits .andNot .u64 x 9223372036854775808 = x % 9223372036854775808 := by
  obtain ⟨n, rfl⟩ := Int.eq_ofNat_of_zero_le h0
  rw [Go.u64_andNot _ _ (by omega) (by omega) (by decide) (by decide)]
  rw [show (18446744073709551615 - (9223372036854775808 : Int).toNat) = 9223372036854775807 from rfl, Int.toNat_natCast, Go.nat_mask63]
  omega

theorem gcd_l0 (n : Nat) : ∀ x y : Nat, y ≤ n → x ≤ 9223372036854775808 → y ≤ 9223372036854775808 → Ev (fun k => num_Gcd.l0 k (x : Int) (y : Int)) ((Nat.gcd x y : Int) % 9223372036854775808) := by
  induction n with
  | zero =>
    intro x y hy hx hy'
    obtain rfl : y = 0 := by omega
    refine one_ev fun k => ?_
    rw [num_Gcd.l0, if_neg (by decide), andNot63 (by omega) (by omega), w64_id (by omega) (by omega), Nat.gcd_zero_right]
  | succ n ih =>
    intro x y hy hx hy'
    by_cases z : y = 0
    · subst z
      refine one_ev fun k => ?_
      rw [num_Gcd.l0, if_neg (by decide), andNot63 (by omega) (by omega), w64_id (by omega) (by omega), Nat.gcd_zero_right]
    · have hm : x % y < y := Nat.mod_lt _ (by omega)
      refine Ev.step (fun k => by rw [num_Gcd.l0, if_pos (by omega), if_neg (by omega), tmod_eq (by omega), ← Int.natCast_emod]) ?_
      rw [show Nat.gcd x y = Nat.gcd y (x % y) by rw [Nat.gcd_comm, Nat.gcd_rec, Nat.gcd_comm]]
      exact ih y (x % y) (by omega) hy' (by omega)

theorem gcd_ev {a b : Int} (a0 : -9223372036854775808 ≤ a) (a1 : a < 9223372036854775808) (b0 : -9223372036854775808 ≤ b) (b1 : b < 9223372036854775808) :
    Ev (fun k => num_Gcd.f k a b) ((Int.gcd a b : Int) % 9223372036854775808) := by
  have e : ∀ c : Int, (if c < 0 then -c else c) = (c.natAbs : Int) := fun c => by split <;> omega
  refine Ev.congr (f := fun k => num_Gcd.l0 k (a.natAbs : Int) (b.natAbs : Int)) (fun k => ?_) ?_
  · unfold num_Gcd.f
    rw [size_some a0 a1, size_some b0 b1, e, e]; rfl
  · exact gcd_l0 _ _ _ (Nat.le_refl _) (by omega) (by omega)

end Go.Proofs.Ytpophefonhpnmaa.Q
end

section
/- Quotients rounded down and up by a positive number, in plain numbers; the bounds stand in each statement. -/
namespace Go.Proofs.Ytpophefonhpnmaa.Q
open Go.RowKit Go.Proofs.YtpophefonhpnmaaW.PrintWords Go.Proofs.YtpophefonhpnmaaW.PrintLast Go.Proofs.YtpophefonhpnmaaW.PrintMore
set_option linter.unusedVariables false
set_option linter.unusedSimpArgs false

theorem floordiv {a d : Int} (h0 : -9223372036854775807 ≤ a) (h1 : a ≤ 9223372036854775807) (hd : 1 ≤ d) : num_FloorDiv.f a d = some (a / d) := by
  unfold num_FloorDiv.f
  rw [if_neg (by omega), if_neg (by omega)]
  by_cases z : 0 ≤ a
  · have q := div_bd (v := a) (d := d) z (by omega)
    have m := Int.emod_nonneg a (show d ≠ 0 by omega)
    rw [tmod_eq z, tdiv_eq z, if_neg (by omega), w64_id (by omega) (by omega)]
  · have q := div_bd (v := -a) (d := d) (by omega) (by omega)
    have m := Int.emod_nonneg (-a) (show d ≠ 0 by omega)
    have n := (neg_div (v := a) (d := d) (by omega)).1
    rw [show Int.tmod a d = -(-a % d) by rw [← tmod_eq (by omega), Int.neg_tmod, Int.neg_neg], show Int.tdiv a d = -(-a / d) by rw [← tdiv_eq (by omega), Int.neg_tdiv, Int.neg_neg]]
    rw [w64_id (x := -(-a / d)) (by omega) (by omega), w64_id (x := -(-a / d) - 1) (by omega) (by omega), n]
    by_cases c : -a % d = 0
    · rw [if_neg (by omega), if_pos c]
    · rw [if_pos (by omega), if_neg c]

theorem ceildiv {a d : Int} (h0 : -9223372036854775807 ≤ a) (h1 : a ≤ 9223372036854775806) (hd : 1 ≤ d) : num_CeilDiv.f a d = some (upq a d) := by
  unfold num_CeilDiv.f upq
  rw [if_neg (by omega), if_neg (by omega)]
  by_cases z : 0 ≤ a
  · have q := div_bd (v := a) (d := d) z (by omega)
    have m := Int.emod_nonneg a (show d ≠ 0 by omega)
    rw [tmod_eq z, tdiv_eq z, w64_id (x := a / d) (by omega) (by omega), w64_id (x := a / d + 1) (by omega) (by omega)]
    by_cases c : a % d = 0
    · rw [if_neg (by omega), if_pos c]
    · rw [if_pos (by omega), if_neg c]
  · have q := div_bd (v := -a) (d := d) (by omega) (by omega)
    have m := Int.emod_nonneg (-a) (show d ≠ 0 by omega)
    have m' := Int.emod_lt_of_pos (-a) (show 0 < d by omega)
    have n := neg_div (v := a) (d := d) (by omega)
    rw [show Int.tmod a d = -(-a % d) by rw [← tmod_eq (by omega), Int.neg_tmod, Int.neg_neg], show Int.tdiv a d = -(-a / d) by rw [← tdiv_eq (by omega), Int.neg_tdiv, Int.neg_neg]]
    rw [if_neg (by omega), w64_id (x := -(-a / d)) (by omega) (by omega), n.1, n.2]
    by_cases c : -a % d = 0
    · rw [if_pos c, if_pos c, if_pos rfl]
    · rw [if_neg c, if_neg c, if_neg (by omega)]
      congr 1; omega
end Go.Proofs.Ytpophefonhpnmaa.Q
end

section
/- Which fractions are valid, in plain numbers. -/
namespace Go.Proofs.Ytpophefonhpnmaa.Q
open Go.RowKit Go.Proofs.YtpophefonhpnmaaW.PrintWords Go.Proofs.YtpophefonhpnmaaW.PrintLast Go.Proofs.YtpophefonhpnmaaW.PrintMore
set_option linter.unusedVariables false
set_option linter.unusedSimpArgs false
/-- Whether a fraction is valid. -/
def vf (n d : Int) : Prop := -1152921504606846976 ≤ n ∧ n ≤ 1152921504606846976 ∧ 1 ≤ d ∧ d ≤ 1152921504606846976 ∧ Int.gcd n d = 1
theorem fcheck_ev {n d : Int} (n0 : -9223372036854775808 ≤ n) (n1 : n < 9223372036854775808) (d0 : -9223372036854775808 ≤ d) (d1 : d < 9223372036854775808) : ∃ e : Int, Ev (fun k => frac_Check.f k n d) e ∧ (e = 0 ↔ vf n d) ∧ (e = 0 ∨ e = 3 ∨ e = 4) := by
  have J1 : Ev (fun k => frac_Check.j0 k true n d) 4 := one_ev fun k => by rw [frac_Check.j0, if_pos rfl]
  have bad (h : ¬ (-1152921504606846976 ≤ n ∧ n ≤ 1152921504606846976 ∧ 1 ≤ d ∧ d ≤ 1152921504606846976)) : (4 : Int) = 0 ↔ vf n d := by
    constructor
    · intro h'; omega
    · rintro ⟨a, b, c, e, _⟩; exact absurd ⟨a, b, c, e⟩ h
  unfold frac_Check.f
  by_cases c0 : n < -1152921504606846976
  · exact ⟨4, pos_ev c0 J1, bad (by omega), by omega⟩
  by_cases c1 : n > 1152921504606846976
  · exact ⟨4, neg_ev c0 (pos_ev c1 J1), bad (by omega), by omega⟩
  by_cases c2 : d < 1
  · exact ⟨4, neg_ev c0 (neg_ev c1 (pos_ev c2 J1)), bad (by omega), by omega⟩
  by_cases c3 : d > 1152921504606846976
  · exact ⟨4, neg_ev c0 (neg_ev c1 (neg_ev c2 (by rw [decide_eq_true c3]; exact J1))), bad (by omega), by omega⟩
  have G := gcd_ev n0 n1 d0 d1
  have hg : (Int.gcd n d : Int) ≤ d := Int.le_of_dvd (by omega) (Int.gcd_dvd_right n d)
  have hm : (Int.gcd n d : Int) % 9223372036854775808 = (Int.gcd n d : Int) := Int.emod_eq_of_lt (by omega) (by omega)
  rw [hm] at G
  by_cases c4 : (Int.gcd n d : Int) = 1
  · refine ⟨0, neg_ev c0 (neg_ev c1 (neg_ev c2 ?_)), ⟨fun _ => ⟨by omega, by omega, by omega, by omega, by omega⟩, fun _ => rfl⟩, by omega⟩
    rw [decide_eq_false c3]
    exact Ev.step (fun k => by rw [frac_Check.j0, if_neg (by decide)]) (Ev.bind G (pos_ev c4 (Ev.now _)))
  · refine ⟨3, neg_ev c0 (neg_ev c1 (neg_ev c2 ?_)), ⟨fun h => by omega, fun h => absurd (by have := h.2.2.2.2; omega) c4⟩, by omega⟩
    rw [decide_eq_false c3]
    exact Ev.step (fun k => by rw [frac_Check.j0, if_neg (by decide)]) (Ev.bind G (neg_ev c4 (Ev.now _)))
theorem fcheck_ok {n d : Int} (h : vf n d) : Ev (fun k => frac_Check.f k n d) 0 := by
  obtain ⟨a, b, c, e, g⟩ := h
  obtain ⟨r, hr, h0, _⟩ := fcheck_ev (n := n) (d := d) (by omega) (by omega) (by omega) (by omega)
  rw [h0.mpr ⟨a, b, c, e, g⟩] at hr
  exact hr
end Go.Proofs.Ytpophefonhpnmaa.Q
end

section
/- Fractions as rational numbers: what the functions of package frac answer; the bounds stand in each statement. -/
namespace Go.Proofs.Ytpophefonhpnmaa.Q
open Go.RowKit Go.Proofs.YtpophefonhpnmaaW.PrintWords Go.Proofs.YtpophefonhpnmaaW.PrintLast Go.Proofs.YtpophefonhpnmaaW.PrintMore
set_option linter.unusedVariables false
set_option linter.unusedSimpArgs false

/-- A rational number that a fraction can be. -/
def sm (x : Rat) : Prop := -1152921504606846976 ≤ x.num ∧ x.num ≤ 1152921504606846976 ∧ (x.den : Int) ≤ 1152921504606846976
instance (x : Rat) : Decidable (sm x) := by unfold sm; infer_instance
/-- What is answered where the result is x. -/
def rat (x : Rat) : Int × Int × Int := if sm x then (x.num, (x.den : Int), 0) else (0, 0, 2)
theorem den1 (x : Rat) : 1 ≤ (x.den : Int) := by have := x.den_pos; omega
theorem sm.vf {x : Rat} (h : sm x) : vf x.num x.den := by
  refine ⟨h.1, h.2.1, den1 x, h.2.2, ?_⟩
  have := x.reduced
  unfold Nat.Coprime at this
  unfold Int.gcd
  simpa using this
theorem vf.rat {n d : Int} (h : vf n d) : ∃ x : Rat, sm x ∧ x.num = n ∧ (x.den : Int) = d := by
  obtain ⟨a, b, c, e, g⟩ := h
  have e2 : (d.toNat : Int) = d := by omega
  refine ⟨⟨n, d.toNat, by omega, ?_⟩, ⟨a, b, by simp only; omega⟩, rfl, e2⟩
  unfold Int.gcd at g
  unfold Nat.Coprime
  rw [show d.toNat = d.natAbs by omega]; exact g
theorem wone : wrap64 (0 + 1) = 1 := by unfold wrap64; omega
theorem wtwo : wrap64 (1 + 1) = 2 := by unfold wrap64; omega
theorem or_err (x y : Int) : Ev (fun k => cmp_Or_api_Errno.f k [x, y]) (if x = 0 then y else x) := by
  unfold cmp_Or_api_Errno.f
  by_cases hx : x = 0
  · rw [if_pos hx]
    refine Ev.step (fun k => by rw [cmp_Or_api_Errno.l0, if_pos (by simp), if_pos (by decide), if_pos (by simp), if_pos (by simpa [rd] using hx), wone]) ?_
    by_cases hy : y = 0
    · refine Ev.step (fun k => by rw [cmp_Or_api_Errno.l0, if_pos (by simp), if_pos (by decide), if_pos (by simp), if_pos (by simpa [rd] using hy), wtwo]) ?_
      refine one_ev fun k => ?_
      rw [cmp_Or_api_Errno.l0, if_neg (by simp), hy]
    · refine one_ev fun k => ?_
      rw [cmp_Or_api_Errno.l0, if_pos (by simp), if_pos (by decide), if_pos (by simp), if_neg (by simpa [rd] using hy)]
      rfl
  · rw [if_neg hx]
    refine one_ev fun k => ?_
    rw [cmp_Or_api_Errno.l0, if_pos (by simp), if_pos (by decide), if_pos (by simp), if_neg (by simpa [rd] using hx)]
    rfl
theorem both_ok {x y : Rat} (hx : sm x) (hy : sm y) : Ev (fun k => frac_both.f k x.num x.den y.num y.den) 0 := by
  unfold frac_both.f
  refine Ev.bind (fcheck_ok hx.vf) (Ev.bind (fcheck_ok hy.vf) (Ev.bind (or_err 0 0) (Ev.now _)))
theorem both_bad {a b c d : Int} (h : a = 0 ∧ b = 0) (c0 : -9223372036854775808 ≤ c) (c1 : c < 9223372036854775808) (d0 : -9223372036854775808 ≤ d) (d1 : d < 9223372036854775808) : ∃ e : Int, e ≠ 0 ∧ Ev (fun k => frac_both.f k a b c d) e := by
  obtain ⟨rfl, rfl⟩ := h
  obtain ⟨e, he, e0, _⟩ := fcheck_ev (n := 0) (d := 0) (by decide) (by decide) (by decide) (by decide)
  obtain ⟨e2, he2, _, _⟩ := fcheck_ev c0 c1 d0 d1
  have hz : e ≠ 0 := fun h => by have := e0.mp h; exact absurd this.2.2.1 (by decide)
  refine ⟨e, hz, ?_⟩
  unfold frac_both.f
  have O := or_err e e2
  rw [if_neg hz] at O
  exact Ev.bind he (Ev.bind he2 (Ev.bind O (Ev.now _)))
theorem made_ev (n d : Int) (b1 b2 : Bool) : Ev (fun k => frac_made.f k n d [b1, b2]) (if b1 = true ∧ b2 = true ∧ -1152921504606846976 ≤ n ∧ n ≤ 1152921504606846976 ∧ d ≤ 1152921504606846976 then (n, d, 0) else (0, 0, 2)) := by
  unfold frac_made.f
  cases b1
  · rw [if_neg (by simp)]
    exact one_ev fun k => by rw [frac_made.l0, if_pos (by simp), if_pos (by decide), if_pos (by simp), if_neg (by simp [rdOf])]
  · refine Ev.step (fun k => by rw [frac_made.l0, if_pos (by simp), if_pos (by decide), if_pos (by simp), if_pos (by simp [rdOf]), wone]) ?_
    cases b2
    · rw [if_neg (by simp)]
      exact one_ev fun k => by rw [frac_made.l0, if_pos (by simp), if_pos (by decide), if_pos (by simp), if_neg (by simp [rdOf])]
    · refine Ev.step (fun k => by rw [frac_made.l0, if_pos (by simp), if_pos (by decide), if_pos (by simp), if_pos (by simp [rdOf]), wtwo]) ?_
      refine one_ev fun k => ?_
      rw [frac_made.l0, if_neg (by simp)]
      by_cases c : n < -1152921504606846976
      · rw [if_pos c, if_neg (by omega)]
      rw [if_neg c]
      by_cases c2 : n > 1152921504606846976
      · rw [if_pos c2, if_neg (by omega)]
      rw [if_neg c2]
      by_cases c3 : d > 1152921504606846976
      · rw [if_pos c3, if_neg (by omega)]
      · rw [if_neg c3, if_pos ⟨rfl, rfl, by omega, by omega, by omega⟩]
theorem nmul {a b : Int} (a0 : -9223372036854775808 ≤ a) (a1 : a < 9223372036854775808) (b0 : -9223372036854775808 ≤ b) (b1 : b < 9223372036854775808) :
    num_Mul.f a b = some (if fits (a * b) = true then (a * b, true) else (0, false)) := by
  have hb := prod_bd a0 a1 b0 b1
  unfold num_Mul.f
  rw [product a0 a1 b0 b1, Option.bind_some]
  simp only []
  generalize a * b = v at *
  unfold fits wrap64
  by_cases c : v / 18446744073709551616 = ((v % 18446744073709551616 + 9223372036854775808) % 18446744073709551616 - 9223372036854775808) / 9223372036854775808
  · rw [if_pos c, if_pos (by simp only [Bool.and_eq_true, decide_eq_true_eq]; omega)]
    congr 2; omega
  · rw [if_neg c, if_neg (by simp only [Bool.and_eq_true, decide_eq_true_eq]; omega)]
theorem fits_iff {n : Int} : fits n = true ↔ -9223372036854775808 ≤ n ∧ n ≤ 9223372036854775807 := by unfold fits; simp
end Go.Proofs.Ytpophefonhpnmaa.Q
end

section
/- Sums, products, differences and quotients of fractions as rational numbers; the bounds stand in each statement. -/
namespace Go.Proofs.Ytpophefonhpnmaa.Q
open Go.RowKit Go.Proofs.YtpophefonhpnmaaW.PrintWords Go.Proofs.YtpophefonhpnmaaW.PrintLast Go.Proofs.YtpophefonhpnmaaW.PrintMore
set_option linter.unusedVariables false
set_option linter.unusedSimpArgs false

theorem rat_mul (x y : Rat) : (x * y).num = x.num / (Int.gcd x.num y.den : Int) * (y.num / (Int.gcd y.num x.den : Int)) ∧ ((x * y).den : Int) = x.den / (Int.gcd y.num x.den : Int) * (y.den / (Int.gcd x.num y.den : Int)) := by
  have e : x * y = Rat.mul x y := rfl
  have h1 : Int.gcd x.num y.den = Nat.gcd x.num.natAbs y.den := by simp [Int.gcd]
  have h2 : Int.gcd y.num x.den = Nat.gcd y.num.natAbs x.den := by simp [Int.gcd]
  rw [e, h1, h2]
  unfold Rat.mul
  constructor
  · simp only [Int.divExact_eq_ediv]
  · simp only [Nat.divExact_eq_div]; push_cast; rfl
theorem maybe_nd (num : Int) (den g : Nat) (a b c d) : (Rat.maybeNormalize num den g a b c d).num = num / (g : Int) ∧ (Rat.maybeNormalize num den g a b c d).den = den / g := by
  unfold Rat.maybeNormalize
  split
  · rename_i h1
    subst h1
    simp
  · constructor
    · simp only [Int.divExact_eq_ediv]
    · simp only [Nat.divExact_eq_div]
theorem rat_add (x y : Rat) : ∃ g h : Nat, g = Nat.gcd x.den y.den ∧ h = Nat.gcd (x.num * (y.den / g : Nat) + y.num * (x.den / g : Nat)).natAbs g ∧
    (x + y).num = (x.num * (y.den / g : Nat) + y.num * (x.den / g : Nat)) / (h : Int) ∧ (x + y).den = (x.den / g) * (y.den / h) := by
  refine ⟨_, _, rfl, rfl, ?_⟩
  have e : x + y = Rat.add x y := rfl
  rw [e]
  unfold Rat.add
  by_cases hg : x.den.gcd y.den = 1
  · rw [dif_pos hg, hg]
    simp [Nat.gcd_one_right]
  · rw [dif_neg hg]
    have dv : (x.num * ((y.den / x.den.gcd y.den : Nat) : Int) + y.num * ((x.den / x.den.gcd y.den : Nat) : Int)).natAbs.gcd (x.den.gcd y.den) ∣ y.den := Nat.dvd_trans (Nat.gcd_dvd_right _ _) (Nat.gcd_dvd_right _ _)
    obtain ⟨p, q⟩ := maybe_nd _ _ _ _ _ _ _
    refine ⟨p, q.trans (Nat.mul_div_assoc _ dv)⟩
theorem rat_inv (x : Rat) (h : x.num ≠ 0) : (x⁻¹).num = (if x.num < 0 then -(x.den : Int) else x.den) ∧ ((x⁻¹).den : Int) = (if x.num < 0 then -x.num else x.num) := by
  have e : x⁻¹ = Rat.inv x := rfl
  rw [e]
  unfold Rat.inv
  by_cases c : x.num < 0
  · rw [dif_pos c, if_pos c, if_pos c]; exact ⟨rfl, by simp only; omega⟩
  · rw [dif_neg c, dif_pos (by omega), if_neg c, if_neg c]; exact ⟨rfl, by simp only; omega⟩
theorem rat_sub_num (x y : Rat) : (x - y).num * (x.den * y.den) = (x.num * y.den - y.num * x.den) * (x - y).den := by
  have h := Rat.sub_def x y
  have nz : x.den * y.den ≠ 0 := Nat.mul_ne_zero x.den_nz y.den_nz
  have h2 : mkRat (x - y).num (x - y).den = mkRat (x.num * y.den - y.num * x.den) (x.den * y.den) := by
    rw [Rat.mkRat_self]
    rw [h, Rat.normalize_eq_mkRat]
  rw [Rat.mkRat_eq_iff (x - y).den_nz nz] at h2
  push_cast at h2
  exact h2

theorem rat_nd {x : Rat} {n d : Int} (hn : x.num = n) (hd : (x.den : Int) = d) : rat x = if -1152921504606846976 ≤ n ∧ n ≤ 1152921504606846976 ∧ d ≤ 1152921504606846976 then (n, d, 0) else (0, 0, 2) := by
  subst hn; subst hd
  unfold rat
  by_cases h : sm x
  · rw [if_pos h]; exact (if_pos h).symm
  · rw [if_neg h]; exact (if_neg h).symm
theorem made_rat {x : Rat} {n d : Int} (hn : x.num = n) (hd : (x.den : Int) = d) (p q : Int × Bool) (hp : p = if fits n = true then (n, true) else (0, false)) (hq : q = if fits d = true then (d, true) else (0, false)) :
    Ev (fun k => frac_made.f k p.1 q.1 [p.2, q.2]) (rat x) := by
  have M := made_ev p.1 q.1 p.2 q.2
  have e : (if p.2 = true ∧ q.2 = true ∧ -1152921504606846976 ≤ p.1 ∧ p.1 ≤ 1152921504606846976 ∧ q.1 ≤ 1152921504606846976 then (p.1, q.1, (0 : Int)) else (0, 0, 2)) = rat x := by
    rw [rat_nd hn hd, hp, hq]
    by_cases c : fits n = true
    · by_cases c2 : fits d = true
      · rw [if_pos c, if_pos c2]; simp
      · have := fits_iff (n := d)
        have c3 := c2
        rw [this] at c3
        have d1 : 1 ≤ d := by rw [← hd]; exact den1 x
        rw [if_pos c, if_neg c2, if_neg (by simp), if_neg (by omega)]
    · have := fits_iff (n := n)
      have c3 := c
      rw [this] at c3
      rw [if_neg c, if_neg (by simp), if_neg (by omega)]
  rw [e] at M; exact M
theorem quo {n g : Int} (hg : 1 ≤ g) (h0 : -1152921504606846976 ≤ n) (h1 : n ≤ 1152921504606846976) : -1152921504606846976 ≤ n / g ∧ n / g ≤ 1152921504606846976 := by
  constructor
  · rw [Int.le_ediv_iff_mul_le (by omega)]; omega
  · have : n / g < 1152921504606846977 := by rw [Int.ediv_lt_iff_lt_mul (by omega)]; omega
    omega
theorem gcd_at {a b : Int} (a0 : -1152921504606846976 ≤ a) (a1 : a ≤ 1152921504606846976) (b0 : 1 ≤ b) (b1 : b ≤ 1152921504606846976) : Ev (fun k => num_Gcd.f k a b) (Int.gcd a b : Int) ∧ 1 ≤ (Int.gcd a b : Int) ∧ (Int.gcd a b : Int) ≤ 1152921504606846976 := by
  have G := gcd_ev (a := a) (b := b) (by omega) (by omega) (by omega) (by omega)
  have le : (Int.gcd a b : Int) ≤ b := Int.le_of_dvd (by omega) (Int.gcd_dvd_right a b)
  have pos : 0 < Int.gcd a b := Int.gcd_pos_of_ne_zero_right a (by omega)
  rw [Int.emod_eq_of_lt (by omega) (by omega)] at G
  exact ⟨G, by omega, by omega⟩
theorem mul_ev {x y : Rat} (hx : sm x) (hy : sm y) : Ev (fun k => frac_Mul.f k x.num x.den y.num y.den) (rat (x * y)) := by
  have x1 := den1 x
  have y1 := den1 y
  obtain ⟨a0, a1, a2⟩ := hx
  obtain ⟨b0, b1, b2⟩ := hy
  obtain ⟨G1, g0, g1⟩ := gcd_at a0 a1 y1 b2
  obtain ⟨G2, h0, h1⟩ := gcd_at b0 b1 x1 a2
  obtain ⟨rn, rd⟩ := rat_mul x y
  have d1 : (Int.gcd x.num y.den : Int) ∣ x.num := Int.gcd_dvd_left _ _
  have d2 : (Int.gcd y.num x.den : Int) ∣ y.num := Int.gcd_dvd_left _ _
  generalize (Int.gcd x.num y.den : Int) = g at *
  generalize (Int.gcd y.num x.den : Int) = h at *
  have q1 := quo (n := x.num) g0 a0 a1
  have q2 := quo (n := y.num) h0 b0 b1
  have q3 := quo (n := x.den) h0 (by omega) a2
  have q4 := quo (n := y.den) g0 (by omega) b2
  have M1 := nmul (a := x.num / g) (b := y.num / h) (by omega) (by omega) (by omega) (by omega)
  have M2 := nmul (a := x.den / h) (b := y.den / g) (by omega) (by omega) (by omega) (by omega)
  unfold frac_Mul.f
  refine Ev.bind (both_ok ⟨a0, a1, a2⟩ ⟨b0, b1, b2⟩) (pos_ev rfl (Ev.bind G1 (Ev.bind G2 (neg_ev (by omega) (neg_ev (by omega) ?_)))))
  rw [Int.tdiv_eq_ediv_of_dvd d1, Int.tdiv_eq_ediv_of_dvd d2, tdiv_eq (a := x.den) (by omega), tdiv_eq (a := y.den) (by omega), w64_id (x := x.num / g) (by omega) (by omega), w64_id (x := y.num / h) (by omega) (by omega), w64_id (x := (x.den : Int) / h) (by omega) (by omega), w64_id (x := (y.den : Int) / g) (by omega) (by omega)]
  refine some_ev M1 (some_ev M2 (Ev.bind (made_rat rn rd _ _ rfl rfl) (Ev.now _)))
theorem add_ev {x y : Rat} (hx : sm x) (hy : sm y) : Ev (fun k => frac_Add.f k x.num x.den y.num y.den) (rat (x + y)) := by
  have x1 := den1 x
  have y1 := den1 y
  obtain ⟨a0, a1, a2⟩ := hx
  obtain ⟨b0, b1, b2⟩ := hy
  obtain ⟨G1, g0, g1⟩ := gcd_at (a := x.den) (b := y.den) (by omega) a2 y1 b2
  obtain ⟨g, h, hg, hh, rn, rd⟩ := rat_add x y
  have eg : (Int.gcd x.den y.den : Int) = (g : Int) := by rw [Int.gcd_natCast_natCast, hg]
  rw [eg] at G1 g0 g1
  have q3 := quo (n := x.den) g0 (by omega) a2
  have q4 := quo (n := y.den) g0 (by omega) b2
  have p3 : 0 ≤ (x.den : Int) / g := Int.ediv_nonneg (by omega) (by omega)
  have p4 : 0 ≤ (y.den : Int) / g := Int.ediv_nonneg (by omega) (by omega)
  have P1 := product (a := x.num) (b := (y.den : Int) / g) (by omega) (by omega) (by omega) (by omega)
  have P2 := product (a := y.num) (b := (x.den : Int) / g) (by omega) (by omega) (by omega) (by omega)
  have u0 : -1152921504606846976 * ((y.den : Int) / g) ≤ x.num * ((y.den : Int) / g) := Int.mul_le_mul_of_nonneg_right a0 p4
  have u1 : x.num * ((y.den : Int) / g) ≤ 1152921504606846976 * ((y.den : Int) / g) := Int.mul_le_mul_of_nonneg_right a1 p4
  have v0 : -1152921504606846976 * ((x.den : Int) / g) ≤ y.num * ((x.den : Int) / g) := Int.mul_le_mul_of_nonneg_right b0 p3
  have v1 : y.num * ((x.den : Int) / g) ≤ 1152921504606846976 * ((x.den : Int) / g) := Int.mul_le_mul_of_nonneg_right b1 p3
  have W := wide_plus (u := x.num * ((y.den : Int) / g)) (v := y.num * ((x.den : Int) / g)) (by omega) (by omega)
  have cx : ((x.den / g : Nat) : Int) = (x.den : Int) / g := Int.natCast_ediv _ _
  have cy : ((y.den / g : Nat) : Int) = (y.den : Int) / g := Int.natCast_ediv _ _
  rw [cx, cy] at hh rn
  have hb : h ≤ g := by rw [hh]; exact Nat.le_of_dvd (by omega) (Nat.gcd_dvd_right _ _)
  have hpos : 1 ≤ h := by rw [hh]; exact Nat.gcd_pos_of_pos_right _ (by omega)
  have rd' : ((x + y).den : Int) = (x.den : Int) / g * ((y.den : Int) / h) := by rw [rd]; push_cast; rfl
  generalize ht : x.num * ((y.den : Int) / g) + y.num * ((x.den : Int) / g) = t at *
  have MD := wide_mod (v := t) (d := (g : Int)) (by omega) (by omega) (by omega)
  rw [if_neg (by omega)] at MD
  have m0 : 0 ≤ t % g := Int.emod_nonneg _ (by omega)
  have m1 : t % g < g := Int.emod_lt_of_pos _ (by omega)
  obtain ⟨G2, _, _⟩ := gcd_at (a := t % g) (b := (g : Int)) (by omega) (by omega) (by omega) (by omega)
  have eh : (Int.gcd (t % g) g : Int) = (h : Int) := by
    have e := Int.gcd_add_mul_left_left (g : Int) (t % g) (t / g)
    rw [Int.emod_add_mul_ediv] at e
    rw [← e, hh]; simp [Int.gcd]
  rw [eh] at G2
  have DV := wide_div (v := t) (d := (h : Int)) (by omega) (by omega) (by omega)
  rw [if_neg (by omega)] at DV
  have q5 := quo (n := y.den) (g := (h : Int)) (by omega) (by omega) b2
  have M2 := nmul (a := (x.den : Int) / g) (b := (y.den : Int) / h) (by omega) (by omega) (by omega) (by omega)
  unfold frac_Add.f
  refine Ev.bind (both_ok ⟨a0, a1, a2⟩ ⟨b0, b1, b2⟩) (pos_ev rfl (Ev.bind G1 (neg_ev (by omega) ?_)))
  rw [tdiv_eq (a := (y.den : Int)) (b := (g : Int)) (by omega), tdiv_eq (a := (x.den : Int)) (b := (g : Int)) (by omega), w64_id (x := (y.den : Int) / g) (by omega) (by omega), w64_id (x := (x.den : Int) / g) (by omega) (by omega)]
  refine some_ev P1 (some_ev P2 (some_ev W ?_))
  refine Ev.bind MD (Ev.bind G2 (Ev.bind DV (neg_ev (by omega) ?_)))
  rw [tdiv_eq (a := (y.den : Int)) (b := (h : Int)) (by omega), w64_id (x := (y.den : Int) / h) (by omega) (by omega)]
  refine some_ev M2 (Ev.bind (a := rat (x + y)) ?_ (Ev.now _))
  have K := made_rat rn rd' ((if fits (t / h) = true then (t / h, (0 : Int)) else (0, 2)).1, (if fits (t / h) = true then (t / h, (0 : Int)) else (0, 2)).2 == 0) (if fits ((x.den : Int) / g * ((y.den : Int) / h)) = true then ((x.den : Int) / g * ((y.den : Int) / h), true) else (0, false)) (by split <;> rfl) rfl
  exact K
theorem sm_neg {x : Rat} (h : sm x) : sm (-x) := by
  obtain ⟨a, b, c⟩ := h
  refine ⟨by rw [Rat.neg_num]; omega, by rw [Rat.neg_num]; omega, by rw [Rat.neg_den]; exact c⟩
theorem sub_ev {x y : Rat} (hx : sm x) (hy : sm y) : Ev (fun k => frac_Sub.f k x.num x.den y.num y.den) (rat (x - y)) := by
  have A := add_ev hx (sm_neg hy)
  rw [← Rat.sub_eq_add_neg, Rat.neg_num, Rat.neg_den] at A
  obtain ⟨b0, b1, b2⟩ := hy
  unfold frac_Sub.f
  refine Ev.bind (both_ok hx ⟨b0, b1, b2⟩) (pos_ev rfl ?_)
  rw [w64_id (x := -y.num) (by omega) (by omega)]
  exact Ev.bind A (Ev.now _)
theorem div_ev {x y : Rat} (hx : sm x) (hy : sm y) (nz : y.num ≠ 0) : Ev (fun k => frac_Div.f k x.num x.den y.num y.den) (rat (x * y⁻¹)) := by
  obtain ⟨i0, i1⟩ := rat_inv y nz
  have y1 := den1 y
  have hi : sm y⁻¹ := by
    obtain ⟨b0, b1, b2⟩ := hy
    refine ⟨?_, ?_, ?_⟩
    · rw [i0]; split <;> omega
    · rw [i0]; split <;> omega
    · rw [i1]; split <;> omega
  have M := mul_ev hx hi
  rw [i0, i1] at M
  obtain ⟨b0, b1, b2⟩ := hy
  unfold frac_Div.f
  refine Ev.bind (both_ok hx ⟨b0, b1, b2⟩) (pos_ev rfl (neg_ev nz ?_))
  by_cases c : y.num < 0
  · rw [if_pos c, if_pos c] at M
    refine pos_ev c ?_
    rw [w64_id (x := -(y.den : Int)) (by omega) (by omega), w64_id (x := -y.num) (by omega) (by omega)]
    exact Ev.bind M (Ev.now _)
  · rw [if_neg c, if_neg c] at M
    exact neg_ev c (Ev.bind M (Ev.now _))
theorem cmp_ev {x y : Rat} (hx : sm x) (hy : sm y) : Ev (fun k => frac_Cmp.f k x.num x.den y.num y.den) (if x.num * y.den < y.num * x.den then -1 else if x.num * y.den > y.num * x.den then 1 else 0) := by
  have x1 := den1 x
  have y1 := den1 y
  have B := both_ok hx hy
  obtain ⟨a0, a1, a2⟩ := hx
  obtain ⟨b0, b1, b2⟩ := hy
  have P1 := product (a := x.num) (b := (y.den : Int)) (by omega) (by omega) (by omega) (by omega)
  have P2 := product (a := y.num) (b := (x.den : Int)) (by omega) (by omega) (by omega) (by omega)
  unfold frac_Cmp.f
  exact Ev.bind B (pos_ev rfl (some_ev P1 (some_ev P2 (Ev.bind (wide_cmp _ _) (Ev.now _)))))
end Go.Proofs.Ytpophefonhpnmaa.Q
end

section
/- Making and rounding fractions, and their calls with any numbers; the bounds stand in each statement. -/
namespace Go.Proofs.Ytpophefonhpnmaa.Q
open Go.RowKit Go.Proofs.YtpophefonhpnmaaW.PrintWords Go.Proofs.YtpophefonhpnmaaW.PrintLast Go.Proofs.YtpophefonhpnmaaW.PrintMore
set_option linter.unusedVariables false
set_option linter.unusedSimpArgs false

theorem rat_ok {x : Rat} (h : sm x) : rat x = (x.num, (x.den : Int), 0) := if_pos h
theorem rat_no {x : Rat} (h : ¬ sm x) : rat x = (0, 0, 2) := if_neg h
theorem both_any {a b c d : Int} (a0 : -9223372036854775808 ≤ a) (a1 : a < 9223372036854775808) (b0 : -9223372036854775808 ≤ b) (b1 : b < 9223372036854775808) (c0 : -9223372036854775808 ≤ c) (c1 : c < 9223372036854775808) (d0 : -9223372036854775808 ≤ d) (d1 : d < 9223372036854775808) :
    ∃ e : Int, Ev (fun k => frac_both.f k a b c d) e ∧ (e = 0 → vf a b ∧ vf c d) := by
  obtain ⟨e, he, e0, _⟩ := fcheck_ev a0 a1 b0 b1
  obtain ⟨e2, he2, e20, _⟩ := fcheck_ev c0 c1 d0 d1
  refine ⟨if e = 0 then e2 else e, ?_, fun h => ?_⟩
  · unfold frac_both.f
    exact Ev.bind he (Ev.bind he2 (Ev.bind (or_err e e2) (Ev.now _)))
  · by_cases c : e = 0
    · rw [if_pos c] at h; exact ⟨e0.mp c, e20.mp h⟩
    · rw [if_neg c] at h; exact absurd h c
theorem add_any {a b c d : Int} (a0 : -9223372036854775808 ≤ a) (a1 : a < 9223372036854775808) (b0 : -9223372036854775808 ≤ b) (b1 : b < 9223372036854775808) (c0 : -9223372036854775808 ≤ c) (c1 : c < 9223372036854775808) (d0 : -9223372036854775808 ≤ d) (d1 : d < 9223372036854775808) :
    ∃ r, Ev (fun k => frac_Add.f k a b c d) r := by
  obtain ⟨e, he, h⟩ := both_any a0 a1 b0 b1 c0 c1 d0 d1
  by_cases z : e = 0
  · obtain ⟨u, v⟩ := h z
    obtain ⟨x, hx, rfl, rfl⟩ := u.rat
    obtain ⟨y, hy, rfl, rfl⟩ := v.rat
    exact ⟨_, add_ev hx hy⟩
  · refine ⟨(0, 0, e), ?_⟩
    unfold frac_Add.f
    exact Ev.bind he (neg_ev z (Ev.now _))
theorem mul_any {a b c d : Int} (a0 : -9223372036854775808 ≤ a) (a1 : a < 9223372036854775808) (b0 : -9223372036854775808 ≤ b) (b1 : b < 9223372036854775808) (c0 : -9223372036854775808 ≤ c) (c1 : c < 9223372036854775808) (d0 : -9223372036854775808 ≤ d) (d1 : d < 9223372036854775808) :
    ∃ r, Ev (fun k => frac_Mul.f k a b c d) r := by
  obtain ⟨e, he, h⟩ := both_any a0 a1 b0 b1 c0 c1 d0 d1
  by_cases z : e = 0
  · obtain ⟨u, v⟩ := h z
    obtain ⟨x, hx, rfl, rfl⟩ := u.rat
    obtain ⟨y, hy, rfl, rfl⟩ := v.rat
    exact ⟨_, mul_ev hx hy⟩
  · refine ⟨(0, 0, e), ?_⟩
    unfold frac_Mul.f
    exact Ev.bind he (neg_ev z (Ev.now _))

theorem fsize {a : Int} (a0 : -9223372036854775808 ≤ a) (a1 : a < 9223372036854775808) : frac_size.f a = some (a.natAbs : Int) := by
  unfold frac_size.f
  by_cases c : a < 0
  · rw [if_pos c, u64_wrap_eq, u64_wrap_eq]; congr 1; omega
  · rw [if_neg c, u64_wrap_eq]; congr 1; omega
/-- What Make answers, where the divisor isn't 0. -/
theorem make_l0 {n d : Int} (n0 : -9223372036854775808 ≤ n) (n1 : n < 9223372036854775808) (d0 : -9223372036854775808 ≤ d) (d1 : d < 9223372036854775808) (nz : d ≠ 0) (m : Nat) :
    ∀ a b : Nat, b ≤ m → a ≠ 0 → Nat.gcd a b = Nat.gcd n.natAbs d.natAbs → a ≤ 9223372036854775808 → b ≤ 9223372036854775808 →
    ∃ r : Int × Int × Int, Ev (fun k => frac_Make.l0 k n d (a : Int) (b : Int)) r ∧ (r.2.2 = 0 → vf r.1 r.2.1) := by
  have last : ∀ a : Nat, a ≠ 0 → a = Nat.gcd n.natAbs d.natAbs → ∃ r : Int × Int × Int, Ev (fun k => frac_Make.l0 k n d (a : Int) ((0 : Nat) : Int)) r ∧ (r.2.2 = 0 → vf r.1 r.2.1) := by
    intro a ha hg
    have dn : a ∣ n.natAbs := by rw [hg]; exact Nat.gcd_dvd_left _ _
    have dd : a ∣ d.natAbs := by rw [hg]; exact Nat.gcd_dvd_right _ _
    have gN : a * (n.natAbs / a) = n.natAbs := Nat.mul_div_cancel' dn
    have gD : a * (d.natAbs / a) = d.natAbs := Nat.mul_div_cancel' dd
    have lN := Nat.div_le_self n.natAbs a
    have lD := Nat.div_le_self d.natAbs a
    have D1 : 1 ≤ d.natAbs / a := by
      apply Nat.pos_of_ne_zero; intro h; rw [h] at gD; omega
    have cop : Nat.gcd (n.natAbs / a) (d.natAbs / a) = 1 := by
      rw [hg]; exact Nat.gcd_div_gcd_div_gcd_of_pos_right (by omega)
    have zN : (0 : Int) ≤ ((n.natAbs / a : Nat) : Int) := Int.natCast_nonneg _
    have zD : (0 : Int) ≤ ((d.natAbs / a : Nat) : Int) := Int.natCast_nonneg _
    have tN : IntKind.u64.wrap (Int.tdiv (n.natAbs : Int) (a : Int)) = ((n.natAbs / a : Nat) : Int) := by
      rw [← Int.ofNat_tdiv, u64_wrap_eq]; omega
    have tD : IntKind.u64.wrap (Int.tdiv (d.natAbs : Int) (a : Int)) = ((d.natAbs / a : Nat) : Int) := by
      rw [← Int.ofNat_tdiv, u64_wrap_eq]; omega
    generalize n.natAbs / a = p at *
    generalize d.natAbs / a = q at *
    have st : ∀ r, Ev (fun k => if (p : Int) > 1152921504606846976 then frac_Make.j1 k n d p q true else frac_Make.j1 k n d p q (decide ((q : Int) > 1152921504606846976))) r → Ev (fun k => frac_Make.l0 k n d (a : Int) ((0 : Nat) : Int)) r := by
      intro r hr
      refine Ev.step (fun k => ?_) hr
      rw [frac_Make.l0, if_neg (by decide), fsize n0 n1, Option.bind_some, if_neg (by omega), fsize d0 d1, Option.bind_some, tN, tD]
    have J : Ev (fun k => frac_Make.j1 k n d p q true) (0, 0, 2) := one_ev fun k => by rw [frac_Make.j1, if_pos rfl]
    by_cases c : (p : Int) > 1152921504606846976
    · exact ⟨_, st _ (pos_ev c J), by simp⟩
    by_cases c2 : (q : Int) > 1152921504606846976
    · refine ⟨(0, 0, 2), st _ (neg_ev c ?_), ?_⟩
      · rw [decide_eq_true c2]; exact J
      · simp
    · by_cases s : ((decide (n < 0)) != (decide (d < 0))) = true
      · refine ⟨(-(p : Int), q, 0), st _ (neg_ev c ?_), fun _ => ⟨by simp only; omega, by simp only; omega, by simp only; omega, by simp only; omega, ?_⟩⟩
        · rw [decide_eq_false c2]
          refine one_ev fun k => ?_
          rw [frac_Make.j1, if_neg (by decide), if_pos s, w64_id (x := (p : Int)) (by omega) (by omega), w64_id (x := -(p : Int)) (by omega) (by omega), w64_id (x := (q : Int)) (by omega) (by omega)]
        · simp only [Int.gcd, Int.natAbs_neg, Int.natAbs_natCast]; exact cop
      · refine ⟨((p : Int), q, 0), st _ (neg_ev c ?_), fun _ => ⟨by simp only; omega, by simp only; omega, by simp only; omega, by simp only; omega, ?_⟩⟩
        · rw [decide_eq_false c2]
          refine one_ev fun k => ?_
          rw [frac_Make.j1, if_neg (by decide), if_neg s, w64_id (x := (p : Int)) (by omega) (by omega), w64_id (x := (q : Int)) (by omega) (by omega)]
        · simp only [Int.gcd, Int.natAbs_natCast]; exact cop
  induction m with
  | zero =>
    intro a b hb ha hg _ _
    obtain rfl : b = 0 := by omega
    exact last a ha (by rw [← hg, Nat.gcd_zero_right])
  | succ m ih =>
    intro a b hb ha hg h1 h2
    by_cases z : b = 0
    · subst z; exact last a ha (by rw [← hg, Nat.gcd_zero_right])
    · have hm : a % b < b := Nat.mod_lt _ (by omega)
      obtain ⟨r, hr, h⟩ := ih b (a % b) (by omega) z (by rw [← hg, Nat.gcd_comm a b, Nat.gcd_rec b a, Nat.gcd_comm]) h2 (by omega)
      refine ⟨r, Ev.step (fun k => ?_) hr, h⟩
      rw [frac_Make.l0, if_pos (by omega), if_neg (by omega), tmod_eq (by omega), ← Int.natCast_emod]
theorem make_ev {n d : Int} (n0 : -9223372036854775808 ≤ n) (n1 : n < 9223372036854775808) (d0 : -9223372036854775808 ≤ d) (d1 : d < 9223372036854775808) :
    ∃ r : Int × Int × Int, Ev (fun k => frac_Make.f k n d) r ∧ (r.2.2 = 0 → vf r.1 r.2.1) := by
  unfold frac_Make.f
  by_cases z : d = 0
  · exact ⟨_, pos_ev z (Ev.now _), by simp⟩
  · have go : ∃ r : Int × Int × Int, Ev (fun k => frac_Make.l0 k n d (n.natAbs : Int) (d.natAbs : Int)) r ∧ (r.2.2 = 0 → vf r.1 r.2.1) := by
      by_cases y : n.natAbs = 0
      · -- one step: the divisor comes first
        have nn : n = 0 := by omega
        obtain ⟨r, hr, h⟩ := make_l0 n0 n1 d0 d1 z 0 d.natAbs 0 (Nat.le_refl _) (by omega) (by rw [y]; simp) (by omega) (by omega)
        refine ⟨r, Ev.step (fun k => ?_) hr, h⟩
        rw [frac_Make.l0, if_pos (by omega), if_neg (by omega), y, tmod_eq (by omega), ← Int.natCast_emod, Nat.zero_mod]
      · exact make_l0 n0 n1 d0 d1 z d.natAbs n.natAbs d.natAbs (Nat.le_refl _) y rfl (by omega) (by omega)
    obtain ⟨r, hr, h⟩ := go
    exact ⟨r, neg_ev z (some_ev (fsize n0 n1) (some_ev (fsize d0 d1) hr)), h⟩

theorem rounddiv {a b : Int} (a0 : -1152921504606846976 ≤ a) (a1 : a ≤ 1152921504606846976) (b0 : 1 ≤ b) (b1 : b ≤ 1152921504606846976) :
    ∃ r : Int, Ev (fun k => num_RoundDiv.f k a b) r ∧ a / b ≤ r ∧ r ≤ upq a b := by
  have facts : ∃ q s : Int, Int.tdiv a b = q ∧ Int.tmod a b = s ∧ -1152921504606846976 ≤ q ∧ q ≤ 1152921504606846976 ∧ -b < s ∧ s < b ∧
      (s = 0 → a / b = q ∧ upq a b = q) ∧ (0 < s → a / b = q ∧ upq a b = q + 1) ∧ (s < 0 → a / b = q - 1 ∧ upq a b = q) := by
    have qa := quo (n := a) b0 a0 a1
    have qn := quo (n := -a) b0 (by omega) (by omega)
    rcases Int.le_total 0 a with h | h
    · have m0 := Int.emod_nonneg a (show b ≠ 0 by omega)
      have m1 := Int.emod_lt_of_pos a (show 0 < b by omega)
      refine ⟨a / b, a % b, tdiv_eq h, tmod_eq h, qa.1, qa.2, by omega, m1, fun z => ⟨rfl, ?_⟩, fun z => ⟨rfl, ?_⟩, fun z => by omega⟩
      · unfold upq; rw [if_pos z]
      · unfold upq; rw [if_neg (by omega)]
    · have m0 := Int.emod_nonneg (-a) (show b ≠ 0 by omega)
      have m1 := Int.emod_lt_of_pos (-a) (show 0 < b by omega)
      obtain ⟨k0, k1⟩ := neg_div (v := a) (d := b) (by omega)
      have t0 : Int.tdiv a b = -(-a / b) := by rw [← tdiv_eq (a := -a) (by omega), Int.neg_tdiv, Int.neg_neg]
      have t1 : Int.tmod a b = -(-a % b) := by rw [← tmod_eq (a := -a) (by omega), Int.neg_tmod, Int.neg_neg]
      refine ⟨-(-a / b), -(-a % b), t0, t1, by omega, by omega, by omega, by omega, fun z => ?_, fun z => by omega, fun z => ?_⟩
      · rw [if_pos (by omega)] at k0 k1
        refine ⟨k0, ?_⟩
        unfold upq; rw [if_pos k1]; exact k0
      · rw [if_neg (by omega)] at k0 k1
        refine ⟨k0, ?_⟩
        unfold upq; rw [if_neg (by omega)]; omega
  obtain ⟨q, s, hq, hs, q0, q1, s0, s1, f0, f1, f2⟩ := facts
  unfold num_RoundDiv.f
  rw [hq, hs, w64_id (x := q) (by omega) (by omega), w64_id (x := b - s) (by omega) (by omega)]
  by_cases c : s ≥ b - s
  · refine ⟨q + 1, neg_ev (by omega) (neg_ev (by omega) (pos_ev c ?_)), by have := f1 (by omega); omega, by have := f1 (by omega); omega⟩
    rw [decide_eq_true (show s > 0 by omega)]
    exact one_ev fun k => by rw [num_RoundDiv.j0, if_pos rfl, w64_id (x := q + 1) (by omega) (by omega)]
  · by_cases c2 : s < 0
    · by_cases c3 : -s ≥ b + s
      · refine ⟨q - 1, neg_ev (by omega) (neg_ev (by omega) (neg_ev c ?_)), by have := f2 c2; omega, by have := f2 c2; omega⟩
        exact one_ev fun k => by rw [num_RoundDiv.j0, if_neg (by decide), if_pos c2, w64_id (x := -s) (by omega) (by omega), w64_id (x := b + s) (by omega) (by omega), if_pos c3, w64_id (x := q - 1) (by omega) (by omega)]
      · refine ⟨q, neg_ev (by omega) (neg_ev (by omega) (neg_ev c ?_)), by have := f2 c2; omega, by have := f2 c2; omega⟩
        exact one_ev fun k => by rw [num_RoundDiv.j0, if_neg (by decide), if_pos c2, w64_id (x := -s) (by omega) (by omega), w64_id (x := b + s) (by omega) (by omega), if_neg c3]
    · refine ⟨q, neg_ev (by omega) (neg_ev (by omega) (neg_ev c ?_)), ?_, ?_⟩
      · exact one_ev fun k => by rw [num_RoundDiv.j0, if_neg (by decide), if_neg c2]
      · by_cases z : s = 0
        · have := f0 z; omega
        · have := f1 (by omega); omega
      · by_cases z : s = 0
        · have := f0 z; omega
        · have := f1 (by omega); omega
theorem round_ev {x : Rat} (h : sm x) : ∃ r : Int, Ev (fun k => frac_Round.f k x.num x.den) r ∧ x.num / x.den ≤ r ∧ r ≤ upq x.num x.den := by
  obtain ⟨r, hr, r0, r1⟩ := rounddiv h.1 h.2.1 (den1 x) h.2.2
  refine ⟨r, ?_, r0, r1⟩
  unfold frac_Round.f frac_rounded__num_RoundDiv.f
  exact Ev.bind (Ev.bind (fcheck_ok h.vf) (pos_ev rfl (Ev.bind hr (Ev.now _)))) (Ev.now _)
theorem floor_ev {x : Rat} (h : sm x) : Ev (fun k => frac_Floor.f k x.num x.den) (x.num / x.den) := by
  have d1 := den1 x
  obtain ⟨a, b, c⟩ := h
  unfold frac_Floor.f frac_rounded__num_FloorDiv.f
  exact Ev.bind (Ev.bind (fcheck_ok (sm.vf ⟨a, b, c⟩)) (pos_ev rfl (some_ev (floordiv (by omega) (by omega) d1) (Ev.now _)))) (Ev.now _)
theorem ceilq_ev {x : Rat} (h : sm x) : Ev (fun k => frac_Ceil.f k x.num x.den) (upq x.num x.den) := by
  have d1 := den1 x
  obtain ⟨a, b, c⟩ := h
  unfold frac_Ceil.f frac_rounded__num_CeilDiv.f
  exact Ev.bind (Ev.bind (fcheck_ok (sm.vf ⟨a, b, c⟩)) (pos_ev rfl (some_ev (ceildiv (by omega) (by omega) d1) (Ev.now _)))) (Ev.now _)
end Go.Proofs.Ytpophefonhpnmaa.Q
end

section
/- FracField in plain numbers: for all numbers the printed function answers true; no other condition. -/
namespace Go.Proofs.Ytpophefonhpnmaa.Pure
open Go.RowKit Go.Proofs.Ytpophefonhpnmaa.Q Go.Proofs.YtpophefonhpnmaaW.PrintWords Go.Proofs.YtpophefonhpnmaaW.PrintLast
set_option linter.unusedVariables false
set_option linter.unusedSimpArgs false
set_option maxRecDepth 100000 in
theorem fracFact_ev : Ev (fun k => spykeep1_fracFact.f k) true :=
  Ev.of (fun k => spykeep1_fracFact.mono k) (k := 200) (by decide +kernel)

theorem i64_of {a : Int} (h : (Lit.int .i64 a).wf = true) : -9223372036854775808 ≤ a ∧ a < 9223372036854775808 := by
  simp only [Lit.wf, IntKind.min, IntKind.max, IntKind.signed, IntKind.bits, Bool.and_eq_true, decide_eq_true_eq, if_true] at h
  omega
theorem sm_num {x : Rat} (h : sm x) : -9223372036854775808 ≤ x.num ∧ x.num < 9223372036854775808 ∧ -9223372036854775808 ≤ (x.den : Int) ∧ (x.den : Int) < 9223372036854775808 := by
  have := den1 x
  obtain ⟨a, b, c⟩ := h
  omega
theorem rat_in (x : Rat) : -9223372036854775808 ≤ (rat x).1 ∧ (rat x).1 < 9223372036854775808 ∧ -9223372036854775808 ≤ (rat x).2.1 ∧ (rat x).2.1 < 9223372036854775808 := by
  by_cases h : sm x
  · rw [rat_ok h]; exact sm_num h
  · rw [rat_no h]; decide
theorem rat_zero {x : Rat} (h : (rat x).2.2 = 0) : sm x := by
  by_cases c : sm x
  · exact c
  · rw [rat_no c] at h; cases h
theorem sm_zero : sm (0 : Rat) := by unfold sm; decide

theorem neg_of {a p : Int} (hp : 0 < p) (h : a * p < 0) : a < 0 := by
  by_cases c : a < 0
  · exact c
  · have := Int.mul_nonneg (show 0 ≤ a by omega) (show 0 ≤ p by omega); omega
theorem pos_of {a p : Int} (hp : 0 < p) (h : 0 < a * p) : 0 < a := by
  by_cases c : 0 < a
  · exact c
  · have := Int.mul_le_mul_of_nonneg_right (show a ≤ 0 by omega) (show 0 ≤ p by omega)
    rw [Int.zero_mul] at this; omega
theorem order {x y : Rat} : (if x.num * y.den < y.num * x.den then (-1 : Int) else if x.num * y.den > y.num * x.den then 1 else 0) = (if (x - y).num * ((0 : Rat).den : Int) < (0 : Rat).num * (x - y).den then -1 else if (x - y).num * ((0 : Rat).den : Int) > (0 : Rat).num * (x - y).den then 1 else 0) := by
  have h := rat_sub_num x y
  have d1 := den1 (x - y)
  have x1 := den1 x
  have y1 := den1 y
  have pos : 0 < (x.den : Int) * y.den := Int.mul_pos (by omega) (by omega)
  rw [show ((0 : Rat).den : Int) = 1 from rfl, show (0 : Rat).num = 0 from rfl, Int.mul_one, Int.zero_mul]
  generalize (x - y).num = n at *
  generalize ((x - y).den : Int) = e at *
  have hl : x.num * y.den < y.num * x.den ↔ n < 0 := by
    constructor
    · intro c
      have : (x.num * y.den - y.num * x.den) * e < 0 := Int.mul_neg_of_neg_of_pos (by omega) (by omega)
      rw [← h] at this
      exact neg_of pos this
    · intro c
      have : n * (x.den * y.den) < 0 := Int.mul_neg_of_neg_of_pos c pos
      rw [h] at this
      have := neg_of (by omega) this
      omega
  have hg : x.num * y.den > y.num * x.den ↔ n > 0 := by
    constructor
    · intro c
      have : 0 < (x.num * y.den - y.num * x.den) * e := Int.mul_pos (by omega) (by omega)
      rw [← h] at this
      exact pos_of pos this
    · intro c
      have : 0 < n * (x.den * y.den) := Int.mul_pos c pos
      rw [h] at this
      have := pos_of (by omega) this
      omega
  by_cases c : n < 0
  · rw [if_pos (hl.mpr c), if_pos c]
  · rw [if_neg (fun z => c (hl.mp z)), if_neg c]
    by_cases c2 : n > 0
    · rw [if_pos (hg.mpr c2), if_pos c2]
    · rw [if_neg (fun z => c2 (hg.mp z)), if_neg c2]

theorem FracField : spykeep1_FracField.Pure := by
  intro a0 a1 a2 a3 a4 a5 h0 h1 h2 h3 h4 h5
  obtain ⟨h00, h01⟩ := i64_of h0
  obtain ⟨h10, h11⟩ := i64_of h1
  obtain ⟨h20, h21⟩ := i64_of h2
  obtain ⟨h30, h31⟩ := i64_of h3
  obtain ⟨h40, h41⟩ := i64_of h4
  obtain ⟨h50, h51⟩ := i64_of h5
  refine Ev.rounds (r := true) ?_
  obtain ⟨X, mx_, vx⟩ := make_ev h00 h01 h10 h11
  obtain ⟨Y, my_, vy⟩ := make_ev h20 h21 h30 h31
  obtain ⟨Z, mz_, vz⟩ := make_ev h40 h41 h50 h51
  have bad : ∀ a b c d e f : Int, Ev (fun k => spykeep1_FracField.j0 k true a b c d e f) true := by
    intro a b c d e f
    refine Ev.step (fun k => by rw [spykeep1_FracField.j0, if_pos rfl]) ?_
    exact Ev.bind fracFact_ev (Ev.now _)
  unfold spykeep1_FracField.f
  refine Ev.bind mx_ (Ev.bind my_ (Ev.bind mz_ (Ev.bind fracFact_ev (pos_ev rfl ?_))))
  by_cases ex : X.2.2 = 0
  case neg => exact neg_ev ex (bad _ _ _ _ _ _)
  refine pos_ev ex ?_
  by_cases ey : Y.2.2 = 0
  case neg => exact neg_ev ey (bad _ _ _ _ _ _)
  refine pos_ev ey ?_
  by_cases ez : Z.2.2 = 0
  case neg => rw [bne_iff_ne.mpr ez]; exact bad _ _ _ _ _ _
  rw [ez, show ((0 : Int) != 0) = false from rfl]
  obtain ⟨x, sx, x1, x2⟩ := (vx ex).rat
  obtain ⟨y, sy, y1, y2⟩ := (vy ey).rat
  obtain ⟨z, sz, z1, z2⟩ := (vz ez).rat
  rw [← x1, ← x2, ← y1, ← y2, ← z1, ← z2]
  -- the order, and rounding
  have j4 : Ev (fun k => spykeep1_FracField.j4 k false x.num x.den y.num y.den) true := by
    refine Ev.step (fun k => by rw [spykeep1_FracField.j4, if_neg (by decide)]) ?_
    refine Ev.bind (sub_ev sx sy) ?_
    by_cases s : sm (x - y)
    · rw [rat_ok s]
      obtain ⟨r, hr, r0, r1⟩ := round_ev sx
      have C1 := cmp_ev sx sy
      have C2 := cmp_ev s sm_zero
      rw [order (x := x) (y := y)] at C1
      refine pos_ev rfl (Ev.bind C1 (Ev.bind C2 (pos_ev rfl (Ev.bind (floor_ev sx) (Ev.bind hr (pos_ev r0 (Ev.bind hr (Ev.bind (ceilq_ev sx) ?_))))))))
      rw [decide_eq_true r1]
      exact Ev.now _
    · rw [rat_no s]
      exact neg_ev (by decide) (Ev.now _)
  have j3 : ∀ p q : Int, Ev (fun k => spykeep1_FracField.j3 k (rat (x + y)).2.2 x.num x.den y.num y.den z.num z.den (rat (x + y)).1 (rat (x + y)).2.1) true := by
    intro _ _
    refine Ev.step (fun k => by rw [spykeep1_FracField.j3]) ?_
    by_cases s : sm (x + y)
    · rw [rat_ok s]
      refine Ev.bind (mul_ev s sz) (Ev.bind (mul_ev sx sz) (Ev.bind (mul_ev sy sz) ?_))
      obtain ⟨i0, i1, i2, i3⟩ := rat_in (x * z)
      obtain ⟨k0, k1, k2, k3⟩ := rat_in (y * z)
      by_cases c1 : sm (x * z)
      · by_cases c2 : sm (y * z)
        · rw [rat_ok c1, rat_ok c2]
          refine Ev.bind (add_ev c1 c2) (pos_ev rfl ?_)
          rw [← Rat.add_mul]
          by_cases c3 : sm ((x + y) * z)
          · rw [rat_ok c3]
            refine pos_ev rfl (pos_ev rfl (pos_ev rfl (pos_ev rfl ?_)))
            simp only [beq_self_eq_true, Bool.not_true, Bool.or_false]
            exact j4
          · rw [rat_no c3]
            exact neg_ev (by decide) j4
        · obtain ⟨r, hr⟩ := add_any i0 i1 i2 i3 k0 k1 k2 k3
          refine Ev.bind hr (pos_ev rfl ?_)
          by_cases c3 : (rat ((x + y) * z)).2.2 = 0
          · refine pos_ev c3 ?_
            rw [rat_ok c1]
            exact pos_ev rfl (neg_ev (by rw [rat_no c2]; decide) j4)
          · exact neg_ev c3 j4
      · obtain ⟨r, hr⟩ := add_any i0 i1 i2 i3 k0 k1 k2 k3
        refine Ev.bind hr (pos_ev rfl ?_)
        by_cases c3 : (rat ((x + y) * z)).2.2 = 0
        · exact pos_ev c3 (neg_ev (by rw [rat_no c1]; decide) j4)
        · exact neg_ev c3 j4
    · rw [rat_no s]
      obtain ⟨i0, i1, i2, i3⟩ := rat_in (x * z)
      obtain ⟨k0, k1, k2, k3⟩ := rat_in (y * z)
      obtain ⟨n0, n1, n2, n3⟩ := sm_num sz
      obtain ⟨r0, hr0⟩ := mul_any (a := 0) (b := 0) (c := z.num) (d := z.den) (by decide) (by decide) (by decide) (by decide) n0 n1 n2 n3
      obtain ⟨r, hr⟩ := add_any i0 i1 i2 i3 k0 k1 k2 k3
      exact Ev.bind hr0 (Ev.bind (mul_ev sx sz) (Ev.bind (mul_ev sy sz) (Ev.bind hr (neg_ev (by decide) j4))))
  have j2 : Ev (fun k => spykeep1_FracField.j1 k (rat (x + y)).2.2 x.num x.den y.num y.den z.num z.den (rat (x + y)).1 (rat (x + y)).2.1) true := by
    refine Ev.step (fun k => by rw [spykeep1_FracField.j1]) ?_
    refine Ev.bind (mul_ev sx sy) ?_
    by_cases s : sm (x * y)
    · rw [rat_ok s]
      refine pos_ev rfl ?_
      by_cases nz : y.num = 0
      · rw [nz, show ((0 : Int) != 0) = false from rfl]
        refine Ev.step (fun k => by rw [spykeep1_FracField.j2, if_neg (by decide)]) ?_
        rw [← nz]
        exact j3 0 0
      · rw [bne_iff_ne.mpr nz]
        refine Ev.step (fun k => by rw [spykeep1_FracField.j2, if_pos rfl]) ?_
        have D := div_ev s sy nz
        have ynz : y ≠ 0 := fun h => nz (by rw [h]; rfl)
        rw [Rat.mul_assoc, Rat.mul_inv_cancel _ ynz, Rat.mul_one, rat_ok sx] at D
        refine Ev.bind D (pos_ev rfl (neg_ev (by simp) ?_))
        exact j3 0 0
    · rw [rat_no s]
      refine neg_ev (by decide) ?_
      refine Ev.step (fun k => by rw [spykeep1_FracField.j2, if_neg (by decide)]) ?_
      exact j3 0 0
  refine Ev.step (fun k => by rw [spykeep1_FracField.j0, if_neg (by decide)]) ?_
  refine Ev.bind (add_ev sx sy) ?_
  by_cases s : sm (x + y)
  · have B := sub_ev s sy
    rw [Rat.add_sub_cancel, rat_ok sx] at B
    have J := j2
    rw [rat_ok s] at J ⊢
    exact pos_ev rfl (Ev.bind B (pos_ev rfl (neg_ev (by simp) J)))
  · have J := j2
    rw [rat_no s] at J ⊢
    exact neg_ev (by decide) J
end Go.Proofs.Ytpophefonhpnmaa.Pure
end
