/- This session's own texts KTrigBoundsNarrowM1 KTrigBoundsNarrowM2 KTrigBoundsNarrowM3 KTrigBoundsNarrowM4 KTrigBoundsNarrowM5 KTrigBoundsNarrowB1 KTrigBoundsNarrowT1 KTrigBoundsNarrowT2 KTrigBoundsNarrowT3 KTrigBoundsNarrowT4 KTrigBoundsNarrowT5 KTrigBoundsNarrowST1 KTrigBoundsNarrowBD0 KTrigBoundsNarrowBDArc KTrigBoundsNarrowBDFix KTrigBoundsNarrowBDFix2 KTrigBoundsNarrowW1 KTrigBoundsNarrowFD1 KTrigBoundsNarrowW2 KTrigBoundsNarrowWaSin KTrigBoundsNarrowWaCos KTrigBoundsNarrowSBArc KTrigBoundsNarrowPureTrigBoundsNarrow, one after the other. -/
import Derived.Test.YtbaedcjophgiiaaKTrigBoundsNarrowQx32
import Derived.Test.YtbaedcjophgiiaaKTrigBoundsNarrowQx12
import Derived.Test.YtbaedcjophgiiaaKTrigBoundsNarrowQx13
import Derived.Test.YtbaedcjophgiiaaKTrigBoundsNarrowQx14
import Derived.Test.YtbaedcjophgiiaaKTrigBoundsNarrowQx15
import Derived.Test.YtbaedcjophgiiaaKTrigBoundsNarrowQx18
import Derived.Test.YtbaedcjophgiiaaKTrigBoundsNarrowQx16
import Derived.Test.YtbaedcjophgiiaaKTrigBoundsNarrowQx21
import Derived.Test.YtbaedcjophgiiaaKTrigBoundsNarrowQx24
import Derived.Test.YtbaedcjophgiiaaKTrigBoundsNarrowQx4
import Derived.Test.YtbaedcjophgiiaaKTrigBoundsNarrowQx30
import Derived.Test.YtbaedcjophgiiaaKTrigBoundsNarrowQx29
import Derived.Test.YtbaedcjophgiiaaKTrigBoundsNarrowQx22
import Derived.Test.YtbaedcjophgiiaaKTrigBoundsNarrowQx23
import Derived.Test.YtbaedcjophgiiaaKTrigBoundsNarrowQx5

section
/- Wrapping, shifts and products of 64 bits: what the printed functions of math/bits compute; no other condition than those that each statement names. -/
namespace Go.Proofs.Ytbaedcjophgiiaa.Q
open Go.RowKit Go.Proofs.YtbaedcjophgiiaaW.PrintWords Go.Proofs.YtbaedcjophgiiaaW.PrintLast Go.Proofs.YtbaedcjophgiiaaW.PrintMore
set_option linter.unusedVariables false
set_option linter.unusedSimpArgs false

theorem uw (x : Int) : IntKind.u64.wrap x = x % 18446744073709551616 := u64_wrap_eq x
theorem uw_id {x : Int} (h0 : 0 ≤ x) (h1 : x < 18446744073709551616) : IntKind.u64.wrap x = x := by rw [uw]; omega
theorem w64_id {x : Int} (h0 : -9223372036854775808 ≤ x) (h1 : x < 9223372036854775808) : wrap64 x = x := by unfold wrap64; omega
theorem uw_wrap64 (x : Int) : wrap64 (IntKind.u64.wrap x) = wrap64 x := by rw [uw]; unfold wrap64; omega

theorem u64_mask32 {x : Int} (h0 : 0 ≤ x) (h1 : x < 18446744073709551616) : Go.bits .and .u64 x 4294967295 = x % 4294967296 :=
  Go.bits_mask .u64 64 (by decide) (fun n h h' => by rw [uw]; omega) 32 (by decide) x h0 h1

theorem mul64 {a b : Int} (a0 : 0 ≤ a) (a1 : a < 18446744073709551616) (b0 : 0 ≤ b) (b1 : b < 18446744073709551616) :
    bits_Mul64.f a b = some (a * b / 18446744073709551616, a * b % 18446744073709551616) := by
  unfold bits_Mul64.f
  rw [u64_mask32 a0 a1, u64_mask32 b0 b1]
  generalize hx1 : a / 4294967296 = x1
  generalize hx0 : a % 4294967296 = x0
  generalize hy1 : b / 4294967296 = y1
  generalize hy0 : b % 4294967296 = y0
  have hx : a = x1 * 4294967296 + x0 := by omega
  have hy : b = y1 * 4294967296 + y0 := by omega
  have p : ∀ {u v : Int}, 0 ≤ u → u ≤ 4294967295 → 0 ≤ v → v ≤ 4294967295 → 0 ≤ u * v ∧ u * v ≤ 18446744065119617025 := by
    intro u v hu0 hu1 hv0 hv1
    refine ⟨Int.mul_nonneg hu0 hv0, ?_⟩
    have := Int.mul_le_mul hu1 hv1 hv0 (by omega)
    omega
  have q11 := p (u := x1) (v := y1) (by omega) (by omega) (by omega) (by omega)
  have q10 := p (u := x1) (v := y0) (by omega) (by omega) (by omega) (by omega)
  have q01 := p (u := x0) (v := y1) (by omega) (by omega) (by omega) (by omega)
  have q00 := p (u := x0) (v := y0) (by omega) (by omega) (by omega) (by omega)
  have e : a * b = x1 * y1 * 18446744073709551616 + (x1 * y0 + x0 * y1) * 4294967296 + x0 * y0 := by
    rw [hx, hy]; grind
  rw [e]
  generalize x1 * y1 = P at *
  generalize x1 * y0 = Q at *
  generalize x0 * y1 = R at *
  generalize x0 * y0 = S at *
  rw [uw_id (x := S) (by omega) (by omega), uw_id (x := Q) (by omega) (by omega), uw_id (x := R) (by omega) (by omega), uw_id (x := P) (by omega) (by omega),
    uw_id (x := Q + S / 4294967296) (by omega) (by omega), u64_mask32 (by omega) (by omega), uw, uw, uw]
  congr 2 <;> omega

theorem size_some {a : Int} (h0 : -9223372036854775808 ≤ a) (h1 : a < 9223372036854775808) : num_size.f a = some (if a < 0 then -a else a) := by
  unfold num_size.f
  split
  · rw [uw, uw]; congr 1; omega
  · rw [uw]; congr 1; omega
end Go.Proofs.Ytbaedcjophgiiaa.Q
end

section
/- The number of leading zeros of a number of 64 bits, and the quotient of 128 by 64 bits: what the printed functions of math/bits compute, for every divisor greater than the upper half. -/
namespace Go.Proofs.Ytbaedcjophgiiaa.Q
open Go.RowKit Go.Proofs.YtbaedcjophgiiaaW.PrintWords Go.Proofs.YtbaedcjophgiiaaW.PrintLast Go.Proofs.YtbaedcjophgiiaaW.PrintMore
set_option linter.unusedVariables false
set_option linter.unusedSimpArgs false

set_option maxRecDepth 100000 in
def len8 : ByteArray := ⟨#[0, 1, 2, 2, 3, 3, 3, 3, 4, 4, 4, 4, 4, 4, 4, 4, 5, 5, 5, 5, 5, 5, 5, 5, 5, 5, 5, 5, 5, 5, 5, 5, 6, 6, 6, 6, 6, 6, 6, 6, 6, 6, 6, 6, 6, 6, 6, 6, 6, 6, 6, 6, 6, 6, 6, 6, 6, 6, 6, 6, 6, 6, 6, 6, 7, 7, 7, 7, 7, 7, 7, 7, 7, 7, 7, 7, 7, 7, 7, 7, 7, 7, 7, 7, 7, 7, 7, 7, 7, 7, 7, 7, 7, 7, 7, 7, 7, 7, 7, 7, 7, 7, 7, 7, 7, 7, 7, 7, 7, 7, 7, 7, 7, 7, 7, 7, 7, 7, 7, 7, 7, 7, 7, 7, 7, 7, 7, 7, 8, 8, 8, 8, 8, 8, 8, 8, 8, 8, 8, 8, 8, 8, 8, 8, 8, 8, 8, 8, 8, 8, 8, 8, 8, 8, 8, 8, 8, 8, 8, 8, 8, 8, 8, 8, 8, 8, 8, 8, 8, 8, 8, 8, 8, 8, 8, 8, 8, 8, 8, 8, 8, 8, 8, 8, 8, 8, 8, 8, 8, 8, 8, 8, 8, 8, 8, 8, 8, 8, 8, 8, 8, 8, 8, 8, 8, 8, 8, 8, 8, 8, 8, 8, 8, 8, 8, 8, 8, 8, 8, 8, 8, 8, 8, 8, 8, 8, 8, 8, 8, 8, 8, 8, 8, 8, 8, 8, 8, 8, 8, 8, 8, 8, 8, 8, 8, 8, 8, 8, 8, 8, 8, 8, 8, 8, 8, 8]⟩
set_option maxRecDepth 100000 in
theorem len8_eq : (⟨#[0, 1, 2, 2, 3, 3, 3, 3, 4, 4, 4, 4, 4, 4, 4, 4, 5, 5, 5, 5, 5, 5, 5, 5, 5, 5, 5, 5, 5, 5, 5, 5, 6, 6, 6, 6, 6, 6, 6, 6, 6, 6, 6, 6, 6, 6, 6, 6, 6, 6, 6, 6, 6, 6, 6, 6, 6, 6, 6, 6, 6, 6, 6, 6, 7, 7, 7, 7, 7, 7, 7, 7, 7, 7, 7, 7, 7, 7, 7, 7, 7, 7, 7, 7, 7, 7, 7, 7, 7, 7, 7, 7, 7, 7, 7, 7, 7, 7, 7, 7, 7, 7, 7, 7, 7, 7, 7, 7, 7, 7, 7, 7, 7, 7, 7, 7, 7, 7, 7, 7, 7, 7, 7, 7, 7, 7, 7, 7, 8, 8, 8, 8, 8, 8, 8, 8, 8, 8, 8, 8, 8, 8, 8, 8, 8, 8, 8, 8, 8, 8, 8, 8, 8, 8, 8, 8, 8, 8, 8, 8, 8, 8, 8, 8, 8, 8, 8, 8, 8, 8, 8, 8, 8, 8, 8, 8, 8, 8, 8, 8, 8, 8, 8, 8, 8, 8, 8, 8, 8, 8, 8, 8, 8, 8, 8, 8, 8, 8, 8, 8, 8, 8, 8, 8, 8, 8, 8, 8, 8, 8, 8, 8, 8, 8, 8, 8, 8, 8, 8, 8, 8, 8, 8, 8, 8, 8, 8, 8, 8, 8, 8, 8, 8, 8, 8, 8, 8, 8, 8, 8, 8, 8, 8, 8, 8, 8, 8, 8, 8, 8, 8, 8, 8, 8, 8, 8]⟩ : ByteArray) = len8 := rfl
def len8ok (i : Nat) : Bool := let n := bt len8 (i : Int); decide (0 ≤ n) && decide (n ≤ 8) && decide ((i : Int) < 2 ^ n.toNat) && (i == 0 || decide ((2 : Int) ^ n.toNat ≤ 2 * i))
theorem len8_all : (List.range 256).all len8ok = true := by decide +kernel
theorem len8_at {i : Int} (h0 : 0 ≤ i) (h1 : i < 256) : ∃ m : Nat, m ≤ 8 ∧ bt len8 i = m ∧ i < 2 ^ m ∧ (0 < i → (2 : Int) ^ m ≤ 2 * i) := by
  obtain ⟨n, rfl⟩ := Int.eq_ofNat_of_zero_le h0
  have h := List.all_eq_true.mp len8_all n (by simp; omega)
  unfold len8ok at h
  simp only [Bool.and_eq_true, Bool.or_eq_true, decide_eq_true_eq, beq_iff_eq] at h
  obtain ⟨⟨⟨a, b⟩, c⟩, d⟩ := h
  refine ⟨(bt len8 (n : Int)).toNat, by omega, by omega, c, fun hp => ?_⟩
  rcases d with d | d
  · omega
  · exact d

set_option maxRecDepth 100000 in
theorem len64_j0 {x n : Int} (h0 : 0 ≤ x) (h1 : x < 4294967296) (n0 : 0 ≤ n) (n1 : n ≤ 32) (k : Nat) :
    ∃ m : Nat, m ≤ 32 ∧ bits_Len64.j0 (k + 1) x n = some (n + m) ∧ x < 2 ^ m ∧ (0 < x → (2 : Int) ^ m ≤ 2 * x) := by
  rw [bits_Len64.j0.eq_2, len8_eq]
  by_cases a : x ≥ 65536
  · rw [if_pos a]
    by_cases b : x / 65536 ≥ 256
    · rw [if_pos b, if_pos (by omega), if_pos (by omega)]
      obtain ⟨m, m1, m2, m3, m4⟩ := len8_at (i := ((x / 65536) / 256) % 256) (by omega) (by omega)
      refine ⟨m + 24, by omega, ?_, ?_, ?_⟩
      · rw [m2]; congr 1; unfold wrap64; omega
      · rw [Int.pow_add]; generalize (2 : Int) ^ m = P at *; omega
      · intro _; rw [Int.pow_add]; generalize (2 : Int) ^ m = P at *; omega
    · rw [if_neg b, if_pos (by omega), if_pos (by omega)]
      obtain ⟨m, m1, m2, m3, m4⟩ := len8_at (i := (x / 65536) % 256) (by omega) (by omega)
      refine ⟨m + 16, by omega, ?_, ?_, ?_⟩
      · rw [m2]; congr 1; unfold wrap64; omega
      · rw [Int.pow_add]; generalize (2 : Int) ^ m = P at *; omega
      · intro _; rw [Int.pow_add]; generalize (2 : Int) ^ m = P at *; omega
  · rw [if_neg a]
    by_cases b : x ≥ 256
    · rw [if_pos b, if_pos (by omega), if_pos (by omega)]
      obtain ⟨m, m1, m2, m3, m4⟩ := len8_at (i := (x / 256) % 256) (by omega) (by omega)
      refine ⟨m + 8, by omega, ?_, ?_, ?_⟩
      · rw [m2]; congr 1; unfold wrap64; omega
      · rw [Int.pow_add]; generalize (2 : Int) ^ m = P at *; omega
      · intro _; rw [Int.pow_add]; generalize (2 : Int) ^ m = P at *; omega
    · rw [if_neg b, if_pos (by omega), if_pos (by omega)]
      obtain ⟨m, m1, m2, m3, m4⟩ := len8_at (i := x % 256) (by omega) (by omega)
      refine ⟨m, by omega, ?_, ?_, ?_⟩
      · rw [m2]; congr 1; unfold wrap64; omega
      · generalize (2 : Int) ^ m = P at *; omega
      · intro _; generalize (2 : Int) ^ m = P at *; omega

theorem len64 {x : Int} (h0 : 0 ≤ x) (h1 : x < 18446744073709551616) (k : Nat) :
    ∃ m : Nat, m ≤ 64 ∧ bits_Len64.f (k + 1) x = some (m : Int) ∧ x < 2 ^ m ∧ (0 < x → (2 : Int) ^ m ≤ 2 * x) := by
  unfold bits_Len64.f
  by_cases a : x ≥ 4294967296
  · rw [if_pos a]
    obtain ⟨m, m1, m2, m3, m4⟩ := len64_j0 (x := x / 4294967296) (n := 32) (by omega) (by omega) (by omega) (by omega) k
    refine ⟨m + 32, by omega, ?_, ?_, ?_⟩
    · rw [m2]; congr 1; omega
    · rw [Int.pow_add]; generalize (2 : Int) ^ m = P at *; omega
    · intro _; rw [Int.pow_add]; generalize (2 : Int) ^ m = P at *; omega
  · rw [if_neg a]
    obtain ⟨m, m1, m2, m3, m4⟩ := len64_j0 (x := x) (n := 0) (by omega) (by omega) (by omega) (by omega) k
    refine ⟨m, by omega, ?_, m3, m4⟩
    rw [m2]; congr 1; omega

/-- The leading zeros: shifted by them, a number fills 64 bits. -/
theorem lz64 {y : Int} (h0 : 0 < y) (h1 : y < 18446744073709551616) (k : Nat) :
    ∃ s : Nat, s ≤ 63 ∧ bits_LeadingZeros64.f (k + 1) y = some (s : Int) ∧ 9223372036854775808 ≤ y * 2 ^ s ∧ y * 2 ^ s < 18446744073709551616 := by
  obtain ⟨m, m1, m2, m3, m4⟩ := len64 (by omega) h1 k
  have hm : 1 ≤ m := by
    rcases m with _ | m
    · simp at m3; omega
    · omega
  refine ⟨64 - m, by omega, ?_, ?_, ?_⟩
  · unfold bits_LeadingZeros64.f
    rw [m2]; simp only [Option.bind_some]; congr 1; unfold wrap64; omega
  · have e : (2 : Int) ^ m * 2 ^ (64 - m) = 18446744073709551616 := by rw [← Int.pow_add, show m + (64 - m) = 64 by omega]; decide
    have p : (0 : Int) < 2 ^ (64 - m) := Int.pow_pos (by decide)
    have := Int.mul_le_mul_of_nonneg_right (m4 h0) (Int.le_of_lt p)
    rw [e, Int.mul_assoc] at this
    omega
  · have e : (2 : Int) ^ m * 2 ^ (64 - m) = 18446744073709551616 := by rw [← Int.pow_add, show m + (64 - m) = 64 by omega]; decide
    have p : (0 : Int) < 2 ^ (64 - m) := Int.pow_pos (by decide)
    have := Int.mul_lt_mul_of_pos_right m3 p
    omega
end Go.Proofs.Ytbaedcjophgiiaa.Q
end

section
/- The quotient and the remainder of a number of 128 bits by one of 64 bits: math/bits.Div64 as printed, for every divisor greater than the upper half. -/
namespace Go.Proofs.Ytbaedcjophgiiaa.Q
open Go.RowKit Go.Proofs.YtbaedcjophgiiaaW.PrintWords Go.Proofs.YtbaedcjophgiiaaW.PrintLast Go.Proofs.YtbaedcjophgiiaaW.PrintMore
set_option linter.unusedVariables false
set_option linter.unusedSimpArgs false

theorem ev_fun {α : Type} {g : Nat → Option α} {r r' : α} (h : Ev g r) (e : r = r') : Ev g r' := e ▸ h

/-- One step of the search for a digit, in plain numbers. -/
theorem digit_facts {Y y1 y0 u A n1 q r : Int} (hY : Y = y1 * 4294967296 + y0) (h1 : 2147483648 ≤ y1) (h2 : y1 < 4294967296) (h3 : 0 ≤ y0) (h4 : y0 < 4294967296)
    (hn : 0 ≤ n1) (hn' : n1 < 4294967296) (hA : A = u * 4294967296 + n1) (hu : 0 ≤ u) (huY : u < Y) (hr : r = u - q * y1) (hr0 : 0 ≤ r) (hq1 : q ≤ 4294967297) (hq : A / Y ≤ q) :
    (q ≥ 4294967296 → A / Y ≤ q - 1) ∧ (q * y0 > 4294967296 * r + n1 → A / Y ≤ q - 1) ∧ (q < 4294967296 → ¬ q * y0 > 4294967296 * r + n1 → A / Y = q)
    ∧ (A / Y ≤ q - 1 → r + y1 ≥ 4294967296 → A / Y = q - 1) ∧ 0 ≤ A / Y ∧ A / Y < 4294967296 := by
  have hYp : 0 < Y := by omega
  have hA0 : 0 ≤ A := by omega
  have hQ0 : 0 ≤ A / Y := Int.ediv_nonneg hA0 (by omega)
  have hQ1 : A / Y < 4294967296 := by
    rw [Int.ediv_lt_iff_lt_mul hYp]; omega
  have eU : q * Y = A - n1 - r * 4294967296 + q * y0 := by
    rw [hY, hA, hr]; grind
  have k := Int.le_ediv_iff_mul_le (a := q) (b := A) hYp
  have k' := Int.le_ediv_iff_mul_le (a := q - 1) (b := A) hYp
  have eU' : (q - 1) * Y = q * Y - Y := by grind
  refine ⟨by omega, fun h => ?_, fun _ h => ?_, fun hle hr1 => ?_, hQ0, hQ1⟩
  · rcases Int.lt_or_le (A / Y) q with h' | h'
    · omega
    · have := k.mp h'; omega
  · have : q * Y ≤ A := by omega
    have := k.mpr this; omega
  · have b : (q - 1) * y0 ≤ 4294967296 * 4294967295 := Int.mul_le_mul (by omega) (by omega) h3 (by omega)
    have e : (q - 1) * y0 = q * y0 - y0 := by grind
    have : (q - 1) * Y ≤ A := by omega
    have := k'.mpr this; omega

theorem div_l0 {Y s y1 y0 u n1 n0 : Int} {R : Int × Int} (hY : Y = y1 * 4294967296 + y0) (h1 : 2147483648 ≤ y1) (h2 : y1 < 4294967296) (h3 : 0 ≤ y0) (h4 : y0 < 4294967296)
    (hn : 0 ≤ n1) (hn' : n1 < 4294967296) (hu : 0 ≤ u) (huY : u < Y) (H : Ev (fun k => bits_Div64.j2 k Y s y1 y0 u n1 n0 ((u * 4294967296 + n1) / Y)) R) (n : Nat) :
    ∀ q r : Int, r = u - q * y1 → 0 ≤ r → r < 4294967296 → q ≤ 4294967297 → (u * 4294967296 + n1) / Y ≤ q → 4294967296 - r ≤ n → Ev (fun k => bits_Div64.l0 k Y s y1 y0 u n1 n0 q r) R := by
  induction n with
  | zero => intro q r _ _ _ _ _ _; omega
  | succ n ih =>
    intro q r hr hr0 hr1 hq1 hq hm
    obtain ⟨f1, f2, f3, f4, f5, f6⟩ := digit_facts hY h1 h2 h3 h4 hn hn' rfl hu huY hr hr0 hq1 hq
    generalize hA : (u * 4294967296 + n1) / Y = Q at *
    have go : Q ≤ q - 1 → Ev (fun k => bits_Div64.j1 k Y s y1 y0 u n1 n0 q r true) R := by
      intro hle
      by_cases c : r + y1 ≥ 4294967296
      · refine Ev.step (fun k => by rw [bits_Div64.j1, if_pos rfl, uw_id (x := r + y1) (by omega) (by omega), if_pos c, uw_id (x := q - 1) (by omega) (by omega)]) ?_
        rw [← f4 hle c]; exact H
      · refine Ev.step (fun k => by rw [bits_Div64.j1, if_pos rfl, uw_id (x := r + y1) (by omega) (by omega), if_neg c, uw_id (x := q - 1) (by omega) (by omega)]) ?_
        exact ih (q - 1) (r + y1) (by rw [hr]; grind) (by omega) (by omega) (by omega) hle (by omega)
    by_cases c : q ≥ 4294967296
    · exact Ev.step (fun k => by rw [bits_Div64.l0, if_pos c]) (go (f1 c))
    · have b0 : 0 ≤ q * y0 := Int.mul_nonneg (by omega) h3
      have b1 : q * y0 ≤ 4294967295 * 4294967295 := Int.mul_le_mul (by omega) (by omega) h3 (by omega)
      have e : decide ((IntKind.u64.wrap (q * y0)) > (IntKind.u64.wrap ((IntKind.u64.wrap (4294967296 * r)) + n1))) = decide (q * y0 > 4294967296 * r + n1) := by
        rw [uw_id (x := q * y0) b0 (by omega), uw_id (x := 4294967296 * r) (by omega) (by omega), uw_id (by omega) (by omega)]
      by_cases d : q * y0 > 4294967296 * r + n1
      · exact Ev.step (fun k => by rw [bits_Div64.l0, if_neg c, e, decide_eq_true d]) (go (f2 d))
      · refine Ev.step (fun k => by rw [bits_Div64.l0, if_neg c, e, decide_eq_false d]) ?_
        refine Ev.step (fun k => by rw [bits_Div64.j1, if_neg (by decide)]) ?_
        rw [← f3 (by omega) d]; exact H

theorem div_end {Y y1 u n0 q1 s A : Int} (hY0 : 0 < Y) (hY1 : Y < 18446744073709551616) (hA : A = u * 4294967296 + n0) (hq1 : 0 ≤ q1) (hq1' : q1 < 4294967296) (hQ : 0 ≤ A / Y) (hQ1 : A / Y < 4294967296) :
    (IntKind.u64.wrap ((IntKind.u64.wrap (q1 * 4294967296)) + A / Y), shr .u64 (IntKind.u64.wrap ((IntKind.u64.wrap ((IntKind.u64.wrap (u * 4294967296)) + n0)) - (IntKind.u64.wrap ((A / Y) * Y)))) s)
      = (q1 * 4294967296 + A / Y, shr .u64 (A % Y) s) := by
  have h := Int.emod_add_mul_ediv A Y
  have h0 := Int.emod_nonneg A (show Y ≠ 0 by omega)
  have h1 := Int.emod_lt_of_pos A hY0
  have hc : Y * (A / Y) = A / Y * Y := Int.mul_comm _ _
  rw [hc] at h
  generalize A / Y * Y = P at *
  generalize A / Y = Q at *
  have e : (u * 4294967296 % 18446744073709551616 + n0) % 18446744073709551616 = A % 18446744073709551616 := by rw [hA]; omega
  rw [uw, uw, uw, uw, uw, uw, e]
  congr 1
  · omega
  · congr 1; omega

theorem div_l1 {Y s y1 y0 u n0 q1 : Int} (hY : Y = y1 * 4294967296 + y0) (h1 : 2147483648 ≤ y1) (h2 : y1 < 4294967296) (h3 : 0 ≤ y0) (h4 : y0 < 4294967296)
    (hn : 0 ≤ n0) (hn' : n0 < 4294967296) (hu : 0 ≤ u) (huY : u < Y) (hq1 : 0 ≤ q1) (hq1' : q1 < 4294967296) (hs : 0 ≤ s) (n : Nat) :
    ∀ q r : Int, r = u - q * y1 → 0 ≤ r → r < 4294967296 → q ≤ 4294967297 → (u * 4294967296 + n0) / Y ≤ q → 4294967296 - r ≤ n →
      Ev (fun k => bits_Div64.l1 k Y s y1 y0 n0 q1 r u q) (q1 * 4294967296 + (u * 4294967296 + n0) / Y, shr .u64 ((u * 4294967296 + n0) % Y) s) := by
  induction n with
  | zero => intro q r _ _ _ _ _ _; omega
  | succ n ih =>
    intro q r hr hr0 hr1 hq1 hq hm
    obtain ⟨f1, f2, f3, f4, f5, f6⟩ := digit_facts hY h1 h2 h3 h4 hn hn' rfl hu huY hr hr0 hq1 hq
    have fin := div_end (Y := Y) (y1 := y1) (u := u) (n0 := n0) (q1 := q1) (s := s) (by omega) (by omega) rfl (by omega) (by omega) f5 f6
    generalize hA : u * 4294967296 + n0 = A at *
    have go : A / Y ≤ q - 1 → Ev (fun k => bits_Div64.j4 k Y s y1 y0 n0 q1 r u q true) (q1 * 4294967296 + A / Y, shr .u64 (A % Y) s) := by
      intro hle
      by_cases c : r + y1 ≥ 4294967296
      · have e := f4 hle c
        refine Ev.step (f := fun _ => some (q1 * 4294967296 + A / Y, shr .u64 (A % Y) s)) (fun k => ?_) (Ev.now _)
        rw [bits_Div64.j4, if_pos rfl, uw_id (x := r + y1) (by omega) (by omega), if_pos c, uw_id (x := q - 1) (by omega) (by omega), if_pos hs, ← e]
        rw [fin]
      · refine Ev.step (fun k => by rw [bits_Div64.j4, if_pos rfl, uw_id (x := r + y1) (by omega) (by omega), if_neg c, uw_id (x := q - 1) (by omega) (by omega)]) ?_
        exact ih (q - 1) (r + y1) (by rw [hr]; grind) (by omega) (by omega) (by omega) hle (by omega)
    by_cases c : q ≥ 4294967296
    · exact Ev.step (fun k => by rw [bits_Div64.l1, if_pos c]) (go (f1 c))
    · have b0 : 0 ≤ q * y0 := Int.mul_nonneg (by omega) h3
      have b1 : q * y0 ≤ 4294967295 * 4294967295 := Int.mul_le_mul (by omega) (by omega) h3 (by omega)
      have e : decide ((IntKind.u64.wrap (q * y0)) > (IntKind.u64.wrap ((IntKind.u64.wrap (4294967296 * r)) + n0))) = decide (q * y0 > 4294967296 * r + n0) := by
        rw [uw_id (x := q * y0) b0 (by omega), uw_id (x := 4294967296 * r) (by omega) (by omega), uw_id (by omega) (by omega)]
      by_cases d : q * y0 > 4294967296 * r + n0
      · exact Ev.step (fun k => by rw [bits_Div64.l1, if_neg c, e, decide_eq_true d]) (go (f2 d))
      · refine Ev.step (fun k => by rw [bits_Div64.l1, if_neg c, e, decide_eq_false d]) ?_
        have e := f3 (by omega) d
        refine Ev.step (f := fun _ => some (q1 * 4294967296 + A / Y, shr .u64 (A % Y) s)) (fun k => ?_) (Ev.now _)
        rw [bits_Div64.j4, if_neg (by decide), if_pos hs, ← e]
        rw [fin]

theorem tdiv_eq {a b : Int} (ha : 0 ≤ a) : Int.tdiv a b = a / b := Int.tdiv_eq_ediv_of_nonneg ha
theorem tmod_eq {a b : Int} (ha : 0 ≤ a) : Int.tmod a b = a % b := Int.tmod_eq_emod_of_nonneg ha

/-- The first guess of a digit. -/
theorem guess {Y y1 y0 u A n1 : Int} (hY : Y = y1 * 4294967296 + y0) (h1 : 2147483648 ≤ y1) (h2 : y1 < 4294967296) (h3 : 0 ≤ y0) (h4 : y0 < 4294967296)
    (hn : 0 ≤ n1) (hn' : n1 < 4294967296) (hA : A = u * 4294967296 + n1) (hu : 0 ≤ u) (huY : u < Y) :
    0 ≤ u / y1 ∧ u / y1 ≤ 4294967297 ∧ A / Y ≤ u / y1 ∧ u - u / y1 * y1 = u % y1 ∧ 0 ≤ u % y1 ∧ u % y1 < 4294967296 := by
  have e := Int.emod_add_mul_ediv u y1
  have e0 := Int.emod_nonneg u (show y1 ≠ 0 by omega)
  have e1 := Int.emod_lt_of_pos u (show 0 < y1 by omega)
  have e2 : y1 * (u / y1) = u / y1 * y1 := Int.mul_comm _ _
  refine ⟨Int.ediv_nonneg hu (by omega), ?_, ?_, by omega, e0, by omega⟩
  · have : u / y1 < 4294967298 := by rw [Int.ediv_lt_iff_lt_mul (by omega)]; omega
    omega
  · -- (A / Y) * Y ≤ A, hence (A / Y) * y1 * 2^32 ≤ A, hence (A / Y) * y1 ≤ u
    have hYp : 0 < Y := by omega
    have k := (Int.le_ediv_iff_mul_le (a := A / Y) (b := A) hYp).mp (Int.le_refl _)
    have hQ0 : 0 ≤ A / Y := Int.ediv_nonneg (by omega) (by omega)
    have m0 : 0 ≤ A / Y * y0 := Int.mul_nonneg hQ0 h3
    have eU : A / Y * Y = A / Y * y1 * 4294967296 + A / Y * y0 := by
      generalize A / Y = Q; rw [hY]; grind
    rw [Int.le_ediv_iff_mul_le (by omega)]
    omega

theorem div_j2 {Y s y1 y0 u n1 n0 : Int} (hY : Y = y1 * 4294967296 + y0) (h1 : 2147483648 ≤ y1) (h2 : y1 < 4294967296) (h3 : 0 ≤ y0) (h4 : y0 < 4294967296)
    (hn : 0 ≤ n1) (hn' : n1 < 4294967296) (hm : 0 ≤ n0) (hm' : n0 < 4294967296) (hu : 0 ≤ u) (huY : u < Y) (hs : 0 ≤ s) :
    Ev (fun k => bits_Div64.j2 k Y s y1 y0 u n1 n0 ((u * 4294967296 + n1) / Y))
      ((u * 18446744073709551616 + n1 * 4294967296 + n0) / Y, shr .u64 ((u * 18446744073709551616 + n1 * 4294967296 + n0) % Y) s) := by
  have hYp : 0 < Y := by omega
  have h := Int.emod_add_mul_ediv (u * 4294967296 + n1) Y
  have h0 := Int.emod_nonneg (u * 4294967296 + n1) (show Y ≠ 0 by omega)
  have h1' := Int.emod_lt_of_pos (u * 4294967296 + n1) hYp
  have hc : Y * ((u * 4294967296 + n1) / Y) = (u * 4294967296 + n1) / Y * Y := Int.mul_comm _ _
  have hQ0 : 0 ≤ (u * 4294967296 + n1) / Y := Int.ediv_nonneg (by omega) (by omega)
  have hQ1 : (u * 4294967296 + n1) / Y < 4294967296 := by rw [Int.ediv_lt_iff_lt_mul hYp]; omega
  generalize hQ : (u * 4294967296 + n1) / Y = Q1 at *
  generalize hV : (u * 4294967296 + n1) % Y = V at *
  have eV : IntKind.u64.wrap ((IntKind.u64.wrap ((IntKind.u64.wrap (u * 4294967296)) + n1)) - (IntKind.u64.wrap (Q1 * Y))) = V := by
    rw [uw, uw, uw, uw]; omega
  obtain ⟨g0, g1, g2, g3, g4, g5⟩ := guess (A := V * 4294967296 + n0) hY h1 h2 h3 h4 hm hm' rfl h0 h1'
  have eN : u * 18446744073709551616 + n1 * 4294967296 + n0 = V * 4294967296 + n0 + (Q1 * 4294967296) * Y := by
    have : (Q1 * 4294967296) * Y = Q1 * Y * 4294967296 := by grind
    omega
  have eD : (u * 18446744073709551616 + n1 * 4294967296 + n0) / Y = Q1 * 4294967296 + (V * 4294967296 + n0) / Y := by
    rw [eN, Int.add_mul_ediv_right _ _ (by omega)]; omega
  have eM : (u * 18446744073709551616 + n1 * 4294967296 + n0) % Y = (V * 4294967296 + n0) % Y := by
    rw [eN, Int.add_mul_emod_self_right]
  rw [eD, eM]
  refine Ev.step (f := fun k => bits_Div64.l1 k Y s y1 y0 n0 Q1 (V % y1) V (V / y1)) (fun k => ?_) ?_
  · rw [bits_Div64.j2, if_neg (by omega), eV, tdiv_eq h0, uw_id (x := V / y1) g0 (by omega)]
    rw [uw, uw]
    congr 1
    omega
  · exact div_l1 hY h1 h2 h3 h4 hm hm' h0 h1' hQ0 hQ1 hs 4294967296 _ _ g3.symm g4 g5 g1 g2 (by omega)
end Go.Proofs.Ytbaedcjophgiiaa.Q
end

section
/- math/bits.Div64 as printed returns the quotient and the remainder of hi * 2^64 + lo by y, for every y greater than hi. -/
namespace Go.Proofs.Ytbaedcjophgiiaa.Q
open Go.RowKit Go.Proofs.YtbaedcjophgiiaaW.PrintWords Go.Proofs.YtbaedcjophgiiaaW.PrintLast Go.Proofs.YtbaedcjophgiiaaW.PrintMore
set_option linter.unusedVariables false
set_option linter.unusedSimpArgs false

theorem shl64 {x : Int} {s : Nat} (hs : s ≤ 64) : shl .u64 x (s : Int) = (x * 2 ^ s) % 18446744073709551616 := by
  unfold shl; rw [uw, Int.toNat_natCast, show IntKind.u64.bits = 64 from rfl, Nat.min_eq_left hs]
theorem shr64 {x : Int} {s : Nat} (hs : s ≤ 64) : shr .u64 x (s : Int) = x / 2 ^ s := by
  unfold shr; rw [Int.toNat_natCast, show IntKind.u64.bits = 64 from rfl, Nat.min_eq_left hs]

theorem div64 {hi lo y : Int} (h0 : 0 ≤ hi) (h1 : hi < y) (h2 : y < 18446744073709551616) (l0 : 0 ≤ lo) (l1 : lo < 18446744073709551616) :
    Ev (fun k => bits_Div64.f k hi lo y) ((hi * 18446744073709551616 + lo) / y, (hi * 18446744073709551616 + lo) % y) := by
  by_cases hz : hi = 0
  · subst hz
    refine Ev.congr (f := fun _ => some (lo / y, lo % y)) (fun k => ?_) ?_
    · unfold bits_Div64.f
      rw [if_neg (by omega), if_neg (by omega), if_pos rfl, tdiv_eq l0, tmod_eq l0, uw_id (Int.ediv_nonneg l0 (by omega))]
      have := Int.ediv_le_self y l0
      omega
    · rw [show 0 * 18446744073709551616 + lo = lo by omega]; exact Ev.now _
  · obtain ⟨K, hK⟩ : ∃ K, ∀ k, K ≤ k → bits_Div64.f k hi lo y = some ((hi * 18446744073709551616 + lo) / y, (hi * 18446744073709551616 + lo) % y) := by
      obtain ⟨s, hs, hsv, hY0, hY1⟩ := lz64 (y := y) (by omega) h2 0
      have hsE : Ev (fun k => bits_LeadingZeros64.f k y) (s : Int) := Ev.of (fun k => bits_LeadingZeros64.mono _ _) hsv
      have hP : (0 : Int) < 2 ^ s := Int.pow_pos (by decide)
      have hPP : (2 : Int) ^ s * 2 ^ (64 - s) = 18446744073709551616 := by rw [← Int.pow_add, show s + (64 - s) = 64 by omega]; decide
      have hP' : (0 : Int) < 2 ^ (64 - s) := Int.pow_pos (by decide)
      have hb : hi * 2 ^ s < y * 2 ^ s := Int.mul_lt_mul_of_pos_right h1 hP
      have hb0 : 0 ≤ hi * 2 ^ s := Int.mul_nonneg h0 (by omega)
      have hlo0 : 0 ≤ lo * 2 ^ s := Int.mul_nonneg l0 (by omega)
      -- the low part of the dividend that moves up
      have hdl : lo / 2 ^ (64 - s) = lo * 2 ^ s / 18446744073709551616 := by
        rw [← hPP, Int.mul_comm lo, Int.mul_ediv_mul_of_pos _ _ hP]
      have hlt : lo * 2 ^ s < 18446744073709551616 * 2 ^ s := Int.mul_lt_mul_of_pos_right l1 hP
      have hdlt : lo * 2 ^ s / 18446744073709551616 < 2 ^ s := by
        rw [Int.ediv_lt_iff_lt_mul (by decide), Int.mul_comm (2 ^ s)]; exact hlt
      have hd0 : 0 ≤ lo * 2 ^ s / 18446744073709551616 := Int.ediv_nonneg hlo0 (by decide)
      have e1 : shl .u64 y (s : Int) = y * 2 ^ s := by rw [shl64 (by omega)]; omega
      have e2 : shl .u64 hi (s : Int) = hi * 2 ^ s := by rw [shl64 (by omega)]; omega
      have e3 : shl .u64 lo (s : Int) = lo * 2 ^ s % 18446744073709551616 := shl64 (by omega)
      have e4 : shr .u64 lo (IntKind.u64.wrap (64 - IntKind.u64.wrap (s : Int))) = lo * 2 ^ s / 18446744073709551616 := by
        rw [uw_id (x := (s : Int)) (by omega) (by omega), uw_id (by omega) (by omega), show (64 : Int) - (s : Int) = ((64 - s : Nat) : Int) by omega, shr64 (by omega), hdl]
      have hle : hi * 2 ^ s + 2 ^ s ≤ y * 2 ^ s := by
        have := Int.mul_le_mul_of_nonneg_right (show hi + 1 ≤ y by omega) (Int.le_of_lt hP)
        rw [Int.add_mul, Int.one_mul] at this; exact this
      have e5 : Go.bits .or .u64 (hi * 2 ^ s) (lo * 2 ^ s / 18446744073709551616) = hi * 2 ^ s + lo * 2 ^ s / 18446744073709551616 :=
        Go.bits_join .u64 64 (by decide) (fun n h h' => by rw [uw]; omega) s _ _ hb0 (Int.mul_emod_left _ _) (by omega) hd0 hdlt (by omega)
      -- the whole
      have key := div_j2 (Y := y * 2 ^ s) (s := (s : Int)) (y1 := y * 2 ^ s / 4294967296) (y0 := y * 2 ^ s % 4294967296) (u := hi * 2 ^ s + lo * 2 ^ s / 18446744073709551616)
        (n1 := lo * 2 ^ s % 18446744073709551616 / 4294967296) (n0 := lo * 2 ^ s % 18446744073709551616 % 4294967296)
        (by omega) (by omega) (by omega) (by omega) (by omega) (by omega) (by omega) (by omega) (by omega) (by omega) (by omega) (by omega)
      have hN : (hi * 2 ^ s + lo * 2 ^ s / 18446744073709551616) * 18446744073709551616 + lo * 2 ^ s % 18446744073709551616 / 4294967296 * 4294967296 + lo * 2 ^ s % 18446744073709551616 % 4294967296
          = (hi * 18446744073709551616 + lo) * 2 ^ s := by
        have : (hi * 18446744073709551616 + lo) * 2 ^ s = hi * 2 ^ s * 18446744073709551616 + lo * 2 ^ s := by grind
        omega
      have eM : (hi * 18446744073709551616 + lo) * 2 ^ s % (y * 2 ^ s) = (hi * 18446744073709551616 + lo) % y * 2 ^ s := by
        rw [Int.mul_comm _ (2 ^ s), Int.mul_comm y, Int.mul_emod_mul_of_pos _ _ hP, Int.mul_comm]
      rw [hN, Int.mul_ediv_mul_of_pos_left _ _ hP, eM, shr64 (by omega), Int.mul_ediv_cancel _ (by omega)] at key
      obtain ⟨g0, g1, g2, g3, g4, g5⟩ := guess (Y := y * 2 ^ s) (y1 := y * 2 ^ s / 4294967296) (y0 := y * 2 ^ s % 4294967296) (u := hi * 2 ^ s + lo * 2 ^ s / 18446744073709551616)
        (A := (hi * 2 ^ s + lo * 2 ^ s / 18446744073709551616) * 4294967296 + lo * 2 ^ s % 18446744073709551616 / 4294967296) (n1 := lo * 2 ^ s % 18446744073709551616 / 4294967296)
        (by omega) (by omega) (by omega) (by omega) (by omega) (by omega) (by omega) rfl (by omega) (by omega)
      have key2 := div_l0 (Y := y * 2 ^ s) (s := (s : Int)) (y1 := y * 2 ^ s / 4294967296) (y0 := y * 2 ^ s % 4294967296) (u := hi * 2 ^ s + lo * 2 ^ s / 18446744073709551616)
        (n1 := lo * 2 ^ s % 18446744073709551616 / 4294967296) (n0 := lo * 2 ^ s % 18446744073709551616 % 4294967296)
        (by omega) (by omega) (by omega) (by omega) (by omega) (by omega) (by omega) (by omega) (by omega) key 4294967296 _ _ g3.symm g4 g5 g1 g2 (by omega)
      obtain ⟨K1, h1'⟩ := hsE
      obtain ⟨K2, h2'⟩ := key2
      refine ⟨max K1 K2, fun k hk => ?_⟩
      unfold bits_Div64.f
      rw [if_neg (by omega), if_neg (by omega), if_neg hz, show bits_LeadingZeros64.f k y = some (s : Int) from h1' k (by omega)]
      simp only [Option.bind_some]
      rw [e4, uw_id (x := (s : Int)) (by omega) (by omega), if_pos (by omega), uw_id (x := 64 - (s : Int)) (by omega) (by omega), if_pos (by omega), e1, e2, e3, e5,
        if_neg (by omega), u64_mask32 (by omega) (by omega), u64_mask32 (by omega) (by omega), tdiv_eq (by omega), uw_id (x := _ / _) g0 (by omega), uw, uw]
      have hmm : ((hi * 2 ^ s + lo * 2 ^ s / 18446744073709551616) - (hi * 2 ^ s + lo * 2 ^ s / 18446744073709551616) / (y * 2 ^ s / 4294967296) * (y * 2 ^ s / 4294967296) % 18446744073709551616) % 18446744073709551616
          = (hi * 2 ^ s + lo * 2 ^ s / 18446744073709551616) % (y * 2 ^ s / 4294967296) := by omega
      rw [hmm]
      exact h2' k (by omega)
    exact ⟨K, hK⟩
end Go.Proofs.Ytbaedcjophgiiaa.Q
end

section
/- Package num of the program in plain numbers: products of 128 bits, their sums, order, quotients and remainders; the bounds stand in each statement. -/
namespace Go.Proofs.Ytbaedcjophgiiaa.Q
open Go.RowKit Go.Proofs.YtbaedcjophgiiaaW.PrintWords Go.Proofs.YtbaedcjophgiiaaW.PrintLast Go.Proofs.YtbaedcjophgiiaaW.PrintMore
set_option linter.unusedVariables false
set_option linter.unusedSimpArgs false

/-- What a product of two numbers of 64 bits lies between. -/
theorem prod_bd {a b : Int} (a0 : -9223372036854775808 ≤ a) (a1 : a < 9223372036854775808) (b0 : -9223372036854775808 ≤ b) (b1 : b < 9223372036854775808) :
    -85070591730234615865843651857942052864 ≤ a * b ∧ a * b ≤ 85070591730234615865843651857942052864 := by
  have h : (a * b).natAbs ≤ 9223372036854775808 * 9223372036854775808 := by
    rw [Int.natAbs_mul]; exact Nat.mul_le_mul (by omega) (by omega)
  omega

theorem wide_neg {v : Int} (h0 : -170141183460469231731687303715884105728 < v) (h1 : v < 170141183460469231731687303715884105728) :
    num_Wide_Neg.f (v / 18446744073709551616) (v % 18446744073709551616) = some (-v / 18446744073709551616, -v % 18446744073709551616) := by
  unfold num_Wide_Neg.f
  rw [if_pos (by omega), if_pos (by omega)]
  congr 2
  · unfold wrap64; omega
  · omega

theorem wide_plus {u v : Int} (h0 : -170141183460469231731687303715884105728 ≤ u + v) (h1 : u + v < 170141183460469231731687303715884105728) :
    num_Wide_Plus.f (u / 18446744073709551616) (u % 18446744073709551616) (v / 18446744073709551616) (v % 18446744073709551616)
      = some ((u + v) / 18446744073709551616, (u + v) % 18446744073709551616) := by
  unfold num_Wide_Plus.f
  rw [if_pos (by omega), if_pos (by omega), if_pos (by omega), if_pos (by omega)]
  congr 2
  · unfold wrap64; omega
  · omega

theorem product {a b : Int} (a0 : -9223372036854775808 ≤ a) (a1 : a < 9223372036854775808) (b0 : -9223372036854775808 ≤ b) (b1 : b < 9223372036854775808) :
    num_Product.f a b = some (a * b / 18446744073709551616, a * b % 18446744073709551616) := by
  have hb := prod_bd a0 a1 b0 b1
  unfold num_Product.f
  rw [size_some a0 a1, size_some b0 b1]
  simp only [Option.bind_some]
  rw [mul64 (by split <;> omega) (by split <;> omega) (by split <;> omega) (by split <;> omega)]
  simp only [Option.bind_some]
  by_cases ha : a < 0 <;> by_cases hc : b < 0
  · rw [if_pos ha, if_pos hc, if_neg (by simp [ha, hc]), Int.neg_mul_neg]
    congr 2
    unfold wrap64; omega
  · rw [if_pos ha, if_neg hc, if_pos (by simp [ha]; omega), Int.neg_mul, w64_id (by omega) (by omega), wide_neg (by omega) (by omega)]
    simp only [Option.bind_some, Int.neg_neg]
  · rw [if_neg ha, if_pos hc, if_pos (by simp [hc]; omega), Int.mul_neg, w64_id (by omega) (by omega), wide_neg (by omega) (by omega)]
    simp only [Option.bind_some, Int.neg_neg]
  · rw [if_neg ha, if_neg hc, if_neg (by simp [ha, hc])]
    congr 2
    unfold wrap64; omega

/-- Division of a negative number: by that of the opposite one. -/
theorem neg_div {v d : Int} (hd : 0 < d) : v / d = (if -v % d = 0 then -(-v / d) else -(-v / d) - 1) ∧ v % d = (if -v % d = 0 then 0 else d - -v % d) := by
  have e := Int.emod_add_mul_ediv (-v) d
  have h0 := Int.emod_nonneg (-v) (show d ≠ 0 by omega)
  have h1 := Int.emod_lt_of_pos (-v) hd
  split
  · exact (Int.ediv_emod_unique hd).mpr ⟨by rw [Int.mul_neg]; omega, by omega, by omega⟩
  · exact (Int.ediv_emod_unique hd).mpr ⟨by rw [Int.mul_sub, Int.mul_neg]; omega, by omega, by omega⟩

theorem div_bd {v d : Int} (h0 : 0 ≤ v) (hd : 0 < d) : 0 ≤ v / d ∧ v / d ≤ v := ⟨Int.ediv_nonneg h0 (by omega), Int.ediv_le_self d h0⟩

theorem bind_ev {α β : Type} {g : Nat → Option α} {f : Nat → α → Option β} {a : α} {r : β} (h : Ev g a) (k : Ev (fun n => f n a) r) : Ev (fun n => (g n).bind (f n)) r := Ev.bind h k
theorem one_ev {α : Type} {g : Nat → Option α} {r : α} (h : ∀ k, g (k + 1) = some r) : Ev g r := Ev.step (f := fun _ => some r) h (Ev.now _)
theorem now_ev {α : Type} {g : Nat → Option α} {r : α} (h : ∀ k, g k = some r) : Ev g r := Ev.congr (f := fun _ => some r) h (Ev.now _)

theorem wide_div_j1 {p r : Int} (neg : Bool) {h l : Int} (hn : (h < 0) = (neg = true)) (hp0 : 0 ≤ p) (hp1 : p < 18446744073709551616) (hr : 0 ≤ r) :
    Ev (fun k => num_Wide_Div.j1 k p r (if neg then (if r > 0 then 9223372036854775807 else 9223372036854775808) else 9223372036854775807) h l)
      (if neg then (if r = 0 then (if p ≤ 9223372036854775808 then (-p, 0) else (0, 2)) else (if p ≤ 9223372036854775807 then (-p - 1, 0) else (0, 2)))
        else (if p ≤ 9223372036854775807 then (p, 0) else (0, 2))) := by
  refine one_ev fun k => ?_
  rw [num_Wide_Div.j1]
  cases neg
  · have hh : ¬ h < 0 := by rw [hn]; decide
    simp only [Bool.false_eq_true, if_false]
    by_cases c : p ≤ 9223372036854775807
    · rw [if_neg (by omega), if_pos (by omega), if_pos c, w64_id (by omega) (by omega)]
    · rw [if_pos (by omega), if_neg c]
  · have hh : h < 0 := by rw [hn]
    simp only [if_true]
    by_cases z : r = 0
    · rw [if_neg (show ¬ r > 0 by omega), if_pos z]
      by_cases c : p ≤ 9223372036854775808
      · rw [if_neg (by omega), if_neg (by omega), if_neg (by omega), if_pos c, uw_wrap64, w64_id (by omega) (by omega)]
      · rw [if_pos (by omega), if_neg c]
    · rw [if_pos (show r > 0 by omega), if_neg z]
      by_cases c : p ≤ 9223372036854775807
      · rw [if_neg (by omega), if_neg (by omega), if_pos (by omega), if_pos c, uw_wrap64, w64_id (x := -p) (by omega) (by omega), w64_id (by omega) (by omega)]
      · rw [if_pos (by omega), if_neg c]

theorem some_ev {α β : Type} {g : Option α} {f : Nat → α → Option β} {a : α} {r : β} (h : g = some a) (k : Ev (fun n => f n a) r) : Ev (fun n => g.bind (f n)) r := by
  subst h; exact k
theorem pos_ev {α : Type} {c : Prop} [Decidable c] {g f : Nat → Option α} {r : α} (h : c) (k : Ev g r) : Ev (fun n => if c then g n else f n) r := by
  simp only [if_pos h]; exact k
theorem neg_ev {α : Type} {c : Prop} [Decidable c] {g f : Nat → Option α} {r : α} (h : ¬ c) (k : Ev f r) : Ev (fun n => if c then g n else f n) r := by
  simp only [if_neg h]; exact k

/-- Whether a number has 64 bits, with sign. -/
def fits (n : Int) : Bool := decide (-9223372036854775808 ≤ n) && decide (n ≤ 9223372036854775807)

theorem wide_div {v d : Int} (h0 : -170141183460469231731687303715884105728 ≤ v) (h1 : v < 170141183460469231731687303715884105728) (hd1 : d < 9223372036854775808) :
    Ev (fun k => num_Wide_Div.f k (v / 18446744073709551616) (v % 18446744073709551616) d) (if d < 1 then (0, 1) else if fits (v / d) then (v / d, 0) else (0, 2)) := by
  by_cases hd : d < 1
  · rw [if_pos hd]; exact now_ev fun k => by unfold num_Wide_Div.f; rw [if_pos hd]
  rw [if_neg hd]
  have hdp : 0 < d := by omega
  by_cases hv : v < 0
  · by_cases hm : v = -170141183460469231731687303715884105728
    · subst hm
      have hf : fits (-170141183460469231731687303715884105728 / d) = false := by
        have : -170141183460469231731687303715884105728 / d < -9223372036854775808 := by rw [Int.ediv_lt_iff_lt_mul hdp]; omega
        unfold fits; rw [decide_eq_false (by omega)]; rfl
      rw [hf]
      refine Ev.congr (f := fun k => num_Wide_Div.j0 k d (-9223372036854775808) 0 (-9223372036854775808) 0) (fun k => ?_) ?_
      · unfold num_Wide_Div.f
        rw [if_neg hd, if_pos (by omega)]
        have : num_Wide_Neg.f (-170141183460469231731687303715884105728 / 18446744073709551616) (-170141183460469231731687303715884105728 % 18446744073709551616) = some (-9223372036854775808, 0) := by decide +kernel
        rw [this]
        rfl
      · refine one_ev fun k => ?_
        rw [num_Wide_Div.j0, if_pos (by rw [uw, uw]; omega)]
        rfl
    · have b := div_bd (v := -v) (d := d) (by omega) hdp
      have nd := neg_div (v := v) hdp
      have h0' := Int.emod_nonneg (-v) (show d ≠ 0 by omega)
      refine Ev.congr (f := fun k => num_Wide_Div.j0 k d (v / 18446744073709551616) (v % 18446744073709551616) (-v / 18446744073709551616) (-v % 18446744073709551616)) (fun k => ?_) ?_
      · unfold num_Wide_Div.f
        rw [if_neg hd, if_pos (by omega), wide_neg (by omega) (by omega)]
        rfl
      · by_cases c : -v / 18446744073709551616 ≥ d
        · have hq : 18446744073709551616 ≤ -v / d := by rw [Int.le_ediv_iff_mul_le hdp]; omega
          have hf : fits (v / d) = false := by
            unfold fits; rw [decide_eq_false (by rw [nd.1]; split <;> omega)]; rfl
          rw [hf]
          refine one_ev fun k => ?_
          rw [num_Wide_Div.j0, if_pos (by rw [uw, uw]; omega)]
          rfl
        · have D := div64 (hi := -v / 18446744073709551616) (lo := -v % 18446744073709551616) (y := d) (by omega) (by omega) (by omega) (by omega) (by omega)
          rw [show -v / 18446744073709551616 * 18446744073709551616 + -v % 18446744073709551616 = -v by omega] at D
          have hq : -v / d < 18446744073709551616 := by rw [Int.ediv_lt_iff_lt_mul hdp]; omega
          have J := wide_div_j1 (p := -v / d) (r := -v % d) true (h := v / 18446744073709551616) (l := v % 18446744073709551616) (by simp; omega) b.1 hq h0'
          simp only [if_true] at J
          refine Ev.step (f := fun k => (bits_Div64.f k (-v / 18446744073709551616) (-v % 18446744073709551616) d).bind fun bt => num_Wide_Div.j1 k bt.1 bt.2 (if bt.2 > 0 then 9223372036854775807 else 9223372036854775808) (v / 18446744073709551616) (v % 18446744073709551616)) (fun k => ?_) ?_
          · rw [num_Wide_Div.j0, uw_id (x := -v / 18446744073709551616) (by omega) (by omega), uw_id (x := d) (by omega) (by omega), if_neg c]
            congr 1
            funext bt
            rw [if_pos (by omega)]
            split <;> rfl
          · refine ev_fun (Ev.bind D J) ?_
            rw [nd.1]
            unfold fits
            by_cases z : -v % d = 0
            · rw [if_pos z, if_pos z]
              by_cases y : -v / d ≤ 9223372036854775808
              · rw [if_pos y, decide_eq_true (by omega), decide_eq_true (by omega)]; rfl
              · rw [if_neg y, decide_eq_false (by omega)]; rfl
            · rw [if_neg z, if_neg z]
              by_cases y : -v / d ≤ 9223372036854775807
              · rw [if_pos y, decide_eq_true (by omega), decide_eq_true (by omega)]; rfl
              · rw [if_neg y, decide_eq_false (by omega)]; rfl
  · have b := div_bd (v := v) (d := d) (by omega) hdp
    have h0' := Int.emod_nonneg v (show d ≠ 0 by omega)
    refine Ev.congr (f := fun k => num_Wide_Div.j0 k d (v / 18446744073709551616) (v % 18446744073709551616) (v / 18446744073709551616) (v % 18446744073709551616)) (fun k => ?_) ?_
    · unfold num_Wide_Div.f
      rw [if_neg hd, if_neg (by omega)]
    · by_cases c : v / 18446744073709551616 ≥ d
      · have hq : 18446744073709551616 ≤ v / d := by rw [Int.le_ediv_iff_mul_le hdp]; omega
        have hf : fits (v / d) = false := by
          unfold fits; rw [decide_eq_true (by omega), decide_eq_false (by omega)]; rfl
        rw [hf]
        refine one_ev fun k => ?_
        rw [num_Wide_Div.j0, if_pos (by rw [uw, uw]; omega)]
        rfl
      · have D := div64 (hi := v / 18446744073709551616) (lo := v % 18446744073709551616) (y := d) (by omega) (by omega) (by omega) (by omega) (by omega)
        rw [show v / 18446744073709551616 * 18446744073709551616 + v % 18446744073709551616 = v by omega] at D
        have hq : v / d < 18446744073709551616 := by rw [Int.ediv_lt_iff_lt_mul hdp]; omega
        have J := wide_div_j1 (p := v / d) (r := v % d) false (h := v / 18446744073709551616) (l := v % 18446744073709551616) (by simp; omega) b.1 hq h0'
        simp only [Bool.false_eq_true, if_false] at J
        refine Ev.step (f := fun k => (bits_Div64.f k (v / 18446744073709551616) (v % 18446744073709551616) d).bind fun bt => num_Wide_Div.j1 k bt.1 bt.2 9223372036854775807 (v / 18446744073709551616) (v % 18446744073709551616)) (fun k => ?_) ?_
        · rw [num_Wide_Div.j0, uw_id (x := v / 18446744073709551616) (by omega) (by omega), uw_id (x := d) (by omega) (by omega), if_neg c]
          congr 1
          funext bt
          rw [if_neg (by omega)]
        · refine ev_fun (Ev.bind D J) ?_
          unfold fits
          by_cases y : v / d ≤ 9223372036854775807
          · rw [if_pos y, decide_eq_true (by omega), decide_eq_true (by omega)]; rfl
          · rw [if_neg y, decide_eq_true (by omega), decide_eq_false (by omega)]; rfl

theorem wide_mod {v d : Int} (h0 : -170141183460469231731687303715884105728 < v) (h1 : v < 170141183460469231731687303715884105728) (hd1 : d < 9223372036854775808) :
    Ev (fun k => num_Wide_Mod.f k (v / 18446744073709551616) (v % 18446744073709551616) d) (if d < 1 then 0 else v % d) := by
  by_cases hd : d < 1
  · rw [if_pos hd]; exact now_ev fun k => by unfold num_Wide_Mod.f; rw [if_pos hd]
  rw [if_neg hd]
  have hdp : 0 < d := by omega
  -- the upper half may be reduced first
  have red : ∀ u : Int, 0 ≤ u → u < 170141183460469231731687303715884105728 →
      Ev (fun k => bits_Div64.f k (Int.tmod (IntKind.u64.wrap (u / 18446744073709551616)) (IntKind.u64.wrap d)) (u % 18446744073709551616) (IntKind.u64.wrap d))
        ((u / 18446744073709551616 % d * 18446744073709551616 + u % 18446744073709551616) / d, u % d) := by
    intro u u0 u1
    have m0 := Int.emod_nonneg (u / 18446744073709551616) (show d ≠ 0 by omega)
    have m1 := Int.emod_lt_of_pos (u / 18446744073709551616) hdp
    have D := div64 (hi := u / 18446744073709551616 % d) (lo := u % 18446744073709551616) (y := d) m0 m1 (by omega) (by omega) (by omega)
    have e : (u / 18446744073709551616 % d * 18446744073709551616 + u % 18446744073709551616) % d = u % d := by
      have e1 := Int.emod_add_mul_ediv (u / 18446744073709551616) d
      have e2 : u = u / 18446744073709551616 % d * 18446744073709551616 + u % 18446744073709551616 + d * (u / 18446744073709551616 / d * 18446744073709551616) := by
        have : d * (u / 18446744073709551616 / d * 18446744073709551616) = d * (u / 18446744073709551616 / d) * 18446744073709551616 := by grind
        omega
      conv => rhs; rw [e2]
      rw [Int.add_mul_emod_self_left]
    rw [e] at D
    refine Ev.congr (fun k => ?_) D
    rw [uw_id (x := u / 18446744073709551616) (by omega) (by omega), uw_id (x := d) (by omega) (by omega), tmod_eq (by omega)]
  have hw : ¬ IntKind.u64.wrap d = 0 := by rw [uw]; omega
  by_cases hv : v < 0
  · have nd := neg_div (v := v) hdp
    have m0 := Int.emod_nonneg (-v) (show d ≠ 0 by omega)
    have m1 := Int.emod_lt_of_pos (-v) hdp
    refine Ev.congr (f := fun k => (bits_Div64.f k (Int.tmod (IntKind.u64.wrap (-v / 18446744073709551616)) (IntKind.u64.wrap d)) (-v % 18446744073709551616) (IntKind.u64.wrap d)).bind fun bt => if bt.2 > 0 then some (wrap64 (IntKind.u64.wrap (IntKind.u64.wrap d - bt.2))) else some (wrap64 bt.2)) (fun k => ?_) ?_
    · unfold num_Wide_Mod.f
      rw [if_neg hd, if_pos (by omega), wide_neg h0 h1]
      simp only [Option.bind_some]
      rw [if_neg hw]
    · refine Ev.bind (red (-v) (by omega) (by omega)) (now_ev fun k => ?_)
      rw [nd.2]
      by_cases z : -v % d = 0
      · rw [if_neg (by simp only; omega), if_pos z]; simp only [z]; decide +kernel
      · rw [if_pos (by simp only; omega), if_neg z]; simp only; congr 1; rw [uw_id (x := d) (by omega) (by omega), uw_wrap64, w64_id (by omega) (by omega)]
  · have m0 := Int.emod_nonneg v (show d ≠ 0 by omega)
    have m1 := Int.emod_lt_of_pos v hdp
    refine Ev.congr (f := fun k => (bits_Div64.f k (Int.tmod (IntKind.u64.wrap (v / 18446744073709551616)) (IntKind.u64.wrap d)) (v % 18446744073709551616) (IntKind.u64.wrap d)).bind fun bt => some (wrap64 bt.2)) (fun k => ?_) ?_
    · unfold num_Wide_Mod.f
      rw [if_neg hd, if_neg (by omega), if_neg hw]
    · refine Ev.bind (red v (by omega) (by omega)) (now_ev fun k => ?_)
      simp only; congr 1; rw [w64_id (by omega) (by omega)]

theorem cmp_i64 (a b : Int) : cmp_Compare_int64.f a b = some (if a < b then -1 else if a > b then 1 else 0) := by
  unfold cmp_Compare_int64.f cmp_isNaN_int64.f
  simp only [Option.bind_some, bne_self_eq_false, Bool.false_eq_true, if_false]
  split
  · rfl
  · split <;> rfl
theorem cmp_u64 (a b : Int) : cmp_Compare_uint64.f a b = some (if a < b then -1 else if a > b then 1 else 0) := by
  unfold cmp_Compare_uint64.f cmp_isNaN_uint64.f
  simp only [Option.bind_some, bne_self_eq_false, Bool.false_eq_true, if_false]
  split
  · rfl
  · split <;> rfl
theorem or_two (x y : Int) : Ev (fun k => cmp_Or_int.f k [x, y]) (if x = 0 then y else x) := by
  refine Ev.congr (f := fun k => cmp_Or_int.l0 k 0 [x, y] 2 0) (fun k => by unfold cmp_Or_int.f; rfl) ?_
  by_cases hx : x = 0
  · rw [if_pos hx]
    refine Ev.step (f := fun k => cmp_Or_int.l0 k 0 [x, y] 2 1) (fun k => ?_) ?_
    · rw [cmp_Or_int.l0, if_pos (by decide), if_pos (by decide), if_pos (by simp), if_pos (by simpa [rd] using hx), w64_id (by decide) (by decide)]; rfl
    · by_cases hy : y = 0
      · refine Ev.step (f := fun k => cmp_Or_int.l0 k 0 [x, y] 2 2) (fun k => ?_) ?_
        · rw [cmp_Or_int.l0, if_pos (by decide), if_pos (by decide), if_pos (by simp), if_pos (by simpa [rd] using hy), w64_id (by decide) (by decide)]; rfl
        · exact one_ev fun k => by rw [cmp_Or_int.l0, if_neg (by decide), hy]
      · exact one_ev fun k => by rw [cmp_Or_int.l0, if_pos (by decide), if_pos (by decide), if_pos (by simp), if_neg (by simpa [rd] using hy)]; simp [rd]
  · rw [if_neg hx]
    exact one_ev fun k => by rw [cmp_Or_int.l0, if_pos (by decide), if_pos (by decide), if_pos (by simp), if_neg (by simpa [rd] using hx)]; simp [rd]

theorem wide_cmp (u v : Int) : Ev (fun k => num_Wide_Cmp.f k (u / 18446744073709551616) (u % 18446744073709551616) (v / 18446744073709551616) (v % 18446744073709551616)) (if u < v then -1 else if u > v then 1 else 0) := by
  refine Ev.congr (f := fun k => (cmp_Or_int.f k [if u / 18446744073709551616 < v / 18446744073709551616 then -1 else if u / 18446744073709551616 > v / 18446744073709551616 then 1 else 0,
      if u % 18446744073709551616 < v % 18446744073709551616 then -1 else if u % 18446744073709551616 > v % 18446744073709551616 then 1 else 0]).bind fun t => some t) (fun k => ?_) ?_
  · unfold num_Wide_Cmp.f
    rw [cmp_i64, cmp_u64]; rfl
  · refine ev_fun (Ev.bind (or_two _ _) (Ev.now _)) ?_
    by_cases a : u / 18446744073709551616 < v / 18446744073709551616
    · rw [if_pos a, if_neg (by omega), if_pos (by omega)]
    · rw [if_neg a]
      by_cases b : u / 18446744073709551616 > v / 18446744073709551616
      · rw [if_pos b, if_neg (by omega), if_neg (by omega), if_pos (by omega)]
      · rw [if_neg b, if_pos rfl]
        by_cases c : u % 18446744073709551616 < v % 18446744073709551616
        · rw [if_pos c, if_pos (show u < v by omega)]
        · rw [if_neg c, if_neg (show ¬ u < v by omega)]
          by_cases d : u % 18446744073709551616 > v % 18446744073709551616
          · rw [if_pos d, if_pos (show u > v by omega)]
          · rw [if_neg d, if_neg (show ¬ u > v by omega)]

theorem muldiv {a b d : Int} (a0 : -9223372036854775808 ≤ a) (a1 : a < 9223372036854775808) (b0 : -9223372036854775808 ≤ b) (b1 : b < 9223372036854775808) (hd1 : d < 9223372036854775808) :
    Ev (fun k => num_MulDiv.f k a b d) (if d < 1 then (0, 1) else if fits (a * b / d) then (a * b / d, 0) else (0, 2)) := by
  have hb := prod_bd a0 a1 b0 b1
  refine Ev.congr (f := fun k => (num_Wide_Div.f k (a * b / 18446744073709551616) (a * b % 18446744073709551616) d).bind fun bt => some (bt.1, bt.2)) (fun k => ?_) ?_
  · unfold num_MulDiv.f
    rw [product a0 a1 b0 b1]; rfl
  · exact Ev.bind (wide_div (by omega) (by omega) hd1) (Ev.now _)

/-- The quotient, rounded up. -/
def upq (v d : Int) : Int := if v % d = 0 then v / d else v / d + 1

theorem muldivup {a b d : Int} (a0 : -9223372036854775808 ≤ a) (a1 : a < 9223372036854775808) (b0 : -9223372036854775808 ≤ b) (b1 : b < 9223372036854775808) (hd1 : d < 9223372036854775808) :
    Ev (fun k => num_MulDivUp.f k a b d) (if d < 1 then (0, 1) else if fits (a * b / d) then (if fits (upq (a * b) d) then (upq (a * b) d, 0) else (0, 2)) else (0, 2)) := by
  have hb := prod_bd a0 a1 b0 b1
  have hD := wide_div (v := a * b) (d := d) (by omega) (by omega) hd1
  have hM := wide_mod (v := a * b) (d := d) (by omega) (by omega) hd1
  generalize hv : a * b = v at *
  refine Ev.congr (f := fun k => (num_Wide_Div.f k (v / 18446744073709551616) (v % 18446744073709551616) d).bind fun bt => (if bt.2 = 0 then ((num_Wide_Mod.f k (v / 18446744073709551616) (v % 18446744073709551616) d).bind fun t => (num_MulDivUp.j0 k bt.1 bt.2 (t == 0))) else (num_MulDivUp.j0 k bt.1 bt.2 true))) (fun k => ?_) ?_
  · unfold num_MulDivUp.f
    rw [product a0 a1 b0 b1, hv]; rfl
  · refine Ev.bind hD ?_
    by_cases hd : d < 1
    · rw [if_pos hd, if_pos hd]
      exact one_ev fun k => by rw [if_neg (by decide), num_MulDivUp.j0, if_pos rfl]
    · rw [if_neg hd] at hM ⊢
      rw [if_neg hd]
      by_cases f : fits (v / d) = true
      · rw [if_pos f, if_pos f]
        simp only [if_true]
        refine Ev.bind hM ?_
        refine one_ev fun k => ?_
        rw [num_MulDivUp.j0]
        unfold upq
        unfold fits at f
        simp only [Bool.and_eq_true, decide_eq_true_eq] at f
        by_cases z : v % d = 0
        · rw [if_pos (by simp [z]), if_pos z]
          unfold fits
          rw [decide_eq_true f.1, decide_eq_true f.2]; rfl
        · rw [if_neg (by simp [z]), if_neg z]
          unfold fits
          by_cases y : v / d = 9223372036854775807
          · rw [if_pos y, decide_eq_true (by omega), decide_eq_false (by omega)]; rfl
          · rw [if_neg y, decide_eq_true (by omega), decide_eq_true (by omega), w64_id (by omega) (by omega)]; rfl
      · rw [if_neg f, if_neg f]
        exact one_ev fun k => by rw [if_neg (by decide), num_MulDivUp.j0, if_pos rfl]
end Go.Proofs.Ytbaedcjophgiiaa.Q
end

section
/- Small facts for all statements of package num: the bounds of the kinds, and the fact of package num holds; no conditions. -/
namespace Go.Proofs.Ytbaedcjophgiiaa.Q
open Go.RowKit Go.Proofs.YtbaedcjophgiiaaW.PrintWords Go.Proofs.YtbaedcjophgiiaaW.PrintLast Go.Proofs.YtbaedcjophgiiaaW.PrintMore
set_option linter.unusedVariables false
set_option linter.unusedSimpArgs false

theorem i64_bd {a : Int} (h : (Lit.int .i64 a).wf = true) : -9223372036854775808 ≤ a ∧ a < 9223372036854775808 := by
  have h1 : IntKind.i64.min = -9223372036854775808 := by decide
  have h2 : IntKind.i64.max = 9223372036854775807 := by decide
  simp [Lit.wf, h1, h2] at h
  omega
theorem u64_bd {a : Int} (h : (Lit.int .u64 a).wf = true) : 0 ≤ a ∧ a < 18446744073709551616 := by
  have h1 : IntKind.u64.min = 0 := by decide
  have h2 : IntKind.u64.max = 18446744073709551615 := by decide
  simp [Lit.wf, h1, h2] at h
  omega

theorem numFact_ev : Ev (fun k => spykeep1_numFact.f k) true := by
  have h := muldiv (a := 4611686018427387904) (b := 6) (d := 8) (by decide) (by decide) (by decide) (by decide) (by decide)
  rw [show (if (8 : Int) < 1 then ((0 : Int), (1 : Int)) else if fits (4611686018427387904 * 6 / 8) then (4611686018427387904 * 6 / 8, 0) else (0, 2)) = (3458764513820540928, 0) by decide +kernel] at h
  unfold spykeep1_numFact.f
  exact Ev.bind h (now_ev fun k => by decide)
end Go.Proofs.Ytbaedcjophgiiaa.Q
end

section
/- Package trig in plain numbers: sines and cosines as functions of whole numbers, and that the printed functions compute them; no condition but 64 bits. -/
namespace Go.Proofs.Ytbaedcjophgiiaa.Q
open Go.RowKit Go.Proofs.YtbaedcjophgiiaaW.PrintWords Go.Proofs.YtbaedcjophgiiaaW.PrintLast Go.Proofs.YtbaedcjophgiiaaW.PrintMore
set_option linter.unusedVariables false
set_option linter.unusedSimpArgs false

theorem i64_mask {x : Int} (h0 : -9223372036854775808 ≤ x) (h1 : x < 9223372036854775808) (i : Nat) (hi : i ≤ 62) : Go.bits .and .i64 x (2 ^ i - 1) = x % 2 ^ i := by
  have hp : (0 : Int) < 2 ^ i := Int.pow_pos (by decide)
  have hle : (2 : Int) ^ i ≤ 4611686018427387904 := by
    have h : 2 ^ i ≤ 2 ^ 62 := Nat.pow_le_pow_right (by decide) hi
    have h' : ((2 ^ i : Nat) : Int) ≤ ((2 ^ 62 : Nat) : Int) := Int.ofNat_le.mpr h
    rw [show ((2 ^ i : Nat) : Int) = 2 ^ i by simp] at h'
    exact h'
  have hpn : 0 < 2 ^ i := Nat.two_pow_pos i
  have hc : ((2 : Int) ^ i - 1) = ((2 ^ i - 1 : Nat) : Int) := by rw [Int.natCast_sub hpn]; simp
  show IntKind.i64.wrap _ = _
  rw [show IntKind.i64.bits = 64 from rfl, BitVec.toNat_and, BitVec.toNat_ofInt, BitVec.toNat_ofInt, hc]
  have h2 : ((2 ^ i - 1 : Nat) : Int) % ((2 ^ 64 : Nat) : Int) = ((2 ^ i - 1 : Nat) : Int) := by
    rw [← hc]; exact Int.emod_eq_of_lt (by omega) (by omega)
  rw [h2, Int.toNat_natCast, Nat.and_two_pow_sub_one_eq_mod, IntKind.wrap_i64]
  have h3 : (((x % ((2 ^ 64 : Nat) : Int)).toNat % 2 ^ i : Nat) : Int) = x % 2 ^ i := by
    rw [Int.natCast_emod, Int.toNat_of_nonneg (Int.emod_nonneg _ (by decide)), show ((2 ^ i : Nat) : Int) = 2 ^ i by simp, show ((2 ^ 64 : Nat) : Int) = 2 ^ 64 from rfl]
    exact Int.emod_emod_of_dvd x (by
      rw [show (2 : Int) ^ 64 = 2 ^ i * 2 ^ (64 - i) by rw [← Int.pow_add]; congr 1; omega]
      exact Int.dvd_mul_right _ _)
  rw [h3]
  have := Int.emod_nonneg x (show (2 : Int) ^ i ≠ 0 by omega)
  have := Int.emod_lt_of_pos x hp
  omega
theorem mask32 {x : Int} (h0 : -9223372036854775808 ≤ x) (h1 : x < 9223372036854775808) : Go.bits .and .i64 x 4294967295 = x % 4294967296 := i64_mask h0 h1 32 (by decide)
theorem mask30 {x : Int} (h0 : -9223372036854775808 ≤ x) (h1 : x < 9223372036854775808) : Go.bits .and .i64 x 1073741823 = x % 1073741824 := i64_mask h0 h1 30 (by decide)

/-- A product where 2^60 means 1. -/
def tm (a b : Int) : Int := a * b / 1152921504606846976
/-- 1 - u/k1*(1 - u/k2*(..)), from within. -/
def ser (u : Int) : Int → List Int → Int
  | s, [] => s
  | s, k :: l => ser u (1152921504606846976 - tm u s / k) l
/-- To the nearest multiple of 2^30. -/
def rnd (a : Int) : Int := (a + 536870912) / 1073741824
def xof (t : Int) : Int := t * 1811004864519280710 / 1073741824
def cosL : List Int := [182, 132, 90, 56, 30, 12, 2]
def sinL : List Int := [156, 110, 72, 42, 20, 6]
def qt (t : Int) : Int :=
  if t > 536870912 then rnd (ser (tm (xof (1073741824 - t)) (xof (1073741824 - t))) 1152921504606846976 cosL)
  else rnd (tm (xof t) (ser (tm (xof t) (xof t)) 1152921504606846976 sinL))
/-- The sine of an angle. -/
def sn (a : Int) : Int :=
  if a % 4294967296 / 1073741824 = 0 then qt (a % 1073741824)
  else if a % 4294967296 / 1073741824 = 1 then qt (1073741824 - a % 1073741824)
  else if a % 4294967296 / 1073741824 = 2 then -qt (a % 1073741824)
  else -qt (1073741824 - a % 1073741824)
/-- The cosine of an angle. -/
def cs (a : Int) : Int := sn (a % 4294967296 + 1073741824)

theorem times_ev {a b : Int} (a0 : 0 ≤ a) (a1 : a ≤ 1152921504606846976) (b0 : 0 ≤ b) (b1 : b ≤ 1152921504606846976) : Ev (fun k => trig_times.f k a b) (tm a b) := by
  have p0 : 0 ≤ a * b := Int.mul_nonneg a0 b0
  have p1 : a * b ≤ 1152921504606846976 * 1152921504606846976 := Int.mul_le_mul a1 b1 b0 (by decide)
  have h := muldiv (a := a) (b := b) (d := 1152921504606846976) (by omega) (by omega) (by omega) (by omega) (by decide)
  rw [if_neg (by decide), if_pos (by unfold fits; rw [decide_eq_true (by omega), decide_eq_true (by omega)]; rfl)] at h
  unfold trig_times.f
  exact Ev.bind h (Ev.now _)
theorem tm_bd {a b : Int} (a0 : 0 ≤ a) (a1 : a ≤ 1152921504606846976) (b0 : 0 ≤ b) (b1 : b ≤ 1152921504606846976) : 0 ≤ tm a b ∧ tm a b ≤ a ∧ tm a b ≤ b := by
  have p0 : 0 ≤ a * b := Int.mul_nonneg a0 b0
  have p1 : a * b ≤ a * 1152921504606846976 := Int.mul_le_mul_of_nonneg_left b1 a0
  have p2 : a * b ≤ 1152921504606846976 * b := Int.mul_le_mul_of_nonneg_right a1 b0
  unfold tm; omega

theorem ser_step {u s k : Int} (u0 : 0 ≤ u) (u1 : u ≤ 1152921504606846976) (s0 : 0 ≤ s) (s1 : s ≤ 1152921504606846976) (hk : 1 ≤ k) :
    0 ≤ 1152921504606846976 - tm u s / k ∧ 1152921504606846976 - tm u s / k ≤ 1152921504606846976 ∧ 0 ≤ tm u s / k ∧ tm u s / k ≤ tm u s := by
  have b := tm_bd u0 u1 s0 s1
  have d := div_bd (v := tm u s) (d := k) b.1 (by omega)
  omega

theorem series_l0 {u : Int} (u0 : 0 ≤ u) (u1 : u ≤ 1152921504606846976) (l : List Int) (hl : l.length < 1000) (hk : ∀ k ∈ l, 2 ≤ k ∧ k < 1000) (n : Nat) :
    ∀ (i : Nat) (s : Int), l.length - i = n → i ≤ l.length → 0 ≤ s → s ≤ 1152921504606846976 → Ev (fun k => trig_series.l0 k u s l (l.length : Int) (i : Int)) (ser u s (l.drop i)) := by
  induction n with
  | zero =>
    intro i s hn hi s0 s1
    obtain rfl : i = l.length := by omega
    refine one_ev fun k => ?_
    rw [trig_series.l0, if_neg (by omega), List.drop_length]; rfl
  | succ n ih =>
    intro i s hn hi s0 s1
    have hlt : i < l.length := by omega
    have hg : rd l (i : Int) = l[i] := by
      unfold rd; rw [Int.toNat_natCast, List.getD_eq_getElem?_getD, List.getElem?_eq_getElem hlt]; rfl
    obtain ⟨k0, k1⟩ := hk l[i] (List.getElem_mem hlt)
    have st := ser_step u0 u1 s0 s1 (k := l[i]) (by omega)
    have b := tm_bd u0 u1 s0 s1
    refine Ev.step (f := fun k => (trig_times.f k u s).bind fun t => (if (rd l (i : Int)) = 0 then none else trig_series.l0 k u (wrap64 (1152921504606846976 - (wrap64 (Int.tdiv t (rd l (i : Int)))))) l (l.length : Int) (wrap64 ((i : Int) + 1)))) (fun k => ?_) ?_
    · rw [trig_series.l0, if_pos (by omega), if_pos (by omega), if_pos (by omega)]
    · refine Ev.bind (times_ev u0 u1 s0 s1) (neg_ev (by rw [hg]; omega) ?_)
      rw [hg, tdiv_eq b.1, w64_id (x := tm u s / l[i]) (by omega) (by omega), w64_id (x := 1152921504606846976 - tm u s / l[i]) (by omega) (by omega), w64_id (x := (i : Int) + 1) (by omega) (by omega),
        show ((i : Int) + 1) = ((i + 1 : Nat) : Int) by omega, List.drop_eq_getElem_cons hlt]
      exact ih (i + 1) _ (by omega) (by omega) st.1 st.2.1

theorem series_ev {u : Int} (u0 : 0 ≤ u) (u1 : u ≤ 1152921504606846976) (l : List Int) (hl : l.length < 1000) (hk : ∀ k ∈ l, 2 ≤ k ∧ k < 1000) : Ev (fun k => trig_series.f k u l) (ser u 1152921504606846976 l) := by
  have := series_l0 u0 u1 l hl hk l.length 0 1152921504606846976 (by omega) (by omega) (by decide) (by decide)
  rw [List.drop_zero] at this
  exact Ev.congr (fun k => by unfold trig_series.f; rfl) this

theorem ser_bd {u : Int} (u0 : 0 ≤ u) (u1 : u ≤ 1152921504606846976) (l : List Int) : ∀ s : Int, (∀ k ∈ l, 2 ≤ k) → 0 ≤ s → s ≤ 1152921504606846976 → 0 ≤ ser u s l ∧ ser u s l ≤ 1152921504606846976 := by
  induction l with
  | nil => intro s _ s0 s1; exact ⟨s0, s1⟩
  | cons k l ih =>
    intro s hk s0 s1
    have st := ser_step u0 u1 s0 s1 (k := k) (by have := hk k (by simp); omega)
    exact ih _ (fun k h => hk k (by simp [h])) st.1 st.2.1

theorem round_ev {a : Int} (a0 : 0 ≤ a) (a1 : a < 4611686018427387904) : Ev (fun k => num_RoundDiv.f k a 1073741824) (rnd a) := by
  unfold num_RoundDiv.f rnd
  refine neg_ev (by decide) (neg_ev (by decide) ?_)
  rw [tdiv_eq a0, tmod_eq a0, w64_id (x := a / 1073741824) (by omega) (by omega), w64_id (x := 1073741824 - a % 1073741824) (by omega) (by omega)]
  by_cases c : a % 1073741824 ≥ 1073741824 - a % 1073741824
  · refine pos_ev c (one_ev fun k => ?_)
    rw [decide_eq_true (by omega), num_RoundDiv.j0, if_pos rfl, w64_id (by omega) (by omega)]
    congr 1; omega
  · refine neg_ev c (one_ev fun k => ?_)
    rw [num_RoundDiv.j0, if_neg (by decide), if_neg (by omega)]
    congr 1; omega

theorem xof_bd {t : Int} (h0 : 0 ≤ t) (h1 : t ≤ 536870912) : 0 ≤ xof t ∧ xof t ≤ 905502432259640355 := by unfold xof; omega

theorem xof_ev {t : Int} (h0 : 0 ≤ t) (h1 : t ≤ 1073741824) : Ev (fun k => num_MulDiv.f k t 1811004864519280710 1073741824) (xof t, 0) := by
  have h := muldiv (a := t) (b := 1811004864519280710) (d := 1073741824) (by omega) (by omega) (by decide) (by decide) (by decide)
  rw [if_neg (by decide), if_pos (by unfold fits; rw [decide_eq_true (by omega), decide_eq_true (by omega)]; rfl)] at h
  exact h

theorem quarter_ev {t : Int} (h0 : 0 ≤ t) (h1 : t ≤ 1073741824) : Ev (fun k => trig_quarter.f k t) (qt t) := by
  unfold trig_quarter.f qt
  by_cases c : t > 536870912
  · refine pos_ev c ?_
    rw [if_pos c, w64_id (x := 1073741824 - t) (by omega) (by omega)]
    have b := xof_bd (t := 1073741824 - t) (by omega) (by omega)
    refine Ev.bind (xof_ev (t := 1073741824 - t) (by omega) (by omega)) ?_
    generalize xof (1073741824 - t) = x at *
    have b2 := tm_bd (a := x) (b := x) b.1 (by omega) b.1 (by omega)
    refine Ev.bind (times_ev b.1 (by omega) b.1 (by omega)) ?_
    have sb := ser_bd (u := tm x x) b2.1 (by omega) cosL 1152921504606846976 (by decide) (by decide) (by decide)
    refine Ev.bind (series_ev b2.1 (by omega) cosL (by decide) (by decide)) ?_
    exact Ev.bind (round_ev sb.1 (by omega)) (Ev.now _)
  · refine neg_ev c ?_
    rw [if_neg c]
    have b := xof_bd (t := t) (by omega) (by omega)
    refine Ev.bind (xof_ev (t := t) (by omega) (by omega)) ?_
    generalize xof t = x at *
    have b2 := tm_bd (a := x) (b := x) b.1 (by omega) b.1 (by omega)
    refine Ev.bind (times_ev b.1 (by omega) b.1 (by omega)) ?_
    have sb := ser_bd (u := tm x x) b2.1 (by omega) sinL 1152921504606846976 (by decide) (by decide) (by decide)
    refine Ev.bind (series_ev b2.1 (by omega) sinL (by decide) (by decide)) ?_
    have b3 := tm_bd (a := x) (b := ser (tm x x) 1152921504606846976 sinL) b.1 (by omega) sb.1 sb.2
    refine Ev.bind (times_ev b.1 (by omega) sb.1 sb.2) ?_
    exact Ev.bind (round_ev (a := tm x (ser (tm x x) 1152921504606846976 sinL)) b3.1 (by omega)) (Ev.now _)

theorem qt_bd {t : Int} (h0 : 0 ≤ t) (h1 : t ≤ 1073741824) : 0 ≤ qt t ∧ qt t ≤ 1073741824 := by
  unfold qt
  split
  · have b := xof_bd (t := 1073741824 - t) (by omega) (by omega)
    generalize xof (1073741824 - t) = x at *
    have b2 := tm_bd (a := x) (b := x) b.1 (by omega) b.1 (by omega)
    have sb := ser_bd (u := tm x x) b2.1 (by omega) cosL 1152921504606846976 (by decide) (by decide) (by decide)
    unfold rnd; omega
  · have b := xof_bd (t := t) (by omega) (by omega)
    generalize xof t = x at *
    have b2 := tm_bd (a := x) (b := x) b.1 (by omega) b.1 (by omega)
    have sb := ser_bd (u := tm x x) b2.1 (by omega) sinL 1152921504606846976 (by decide) (by decide) (by decide)
    have b3 := tm_bd (a := x) (b := ser (tm x x) 1152921504606846976 sinL) b.1 (by omega) sb.1 sb.2
    unfold rnd; omega

theorem sn_bd (a : Int) : -1073741824 ≤ sn a ∧ sn a ≤ 1073741824 := by
  have q1 := qt_bd (t := a % 1073741824) (by omega) (by omega)
  have q2 := qt_bd (t := 1073741824 - a % 1073741824) (by omega) (by omega)
  unfold sn
  split
  · omega
  · split
    · omega
    · split <;> omega
theorem cs_bd (a : Int) : -1073741824 ≤ cs a ∧ cs a ≤ 1073741824 := sn_bd _

theorem sin_ev {a : Int} (h0 : -9223372036854775808 ≤ a) (h1 : a < 9223372036854775808) : Ev (fun k => trig_Sin.f k a) (sn a) := by
  have q1 := qt_bd (t := a % 1073741824) (by omega) (by omega)
  have q2 := qt_bd (t := 1073741824 - a % 1073741824) (by omega) (by omega)
  unfold trig_Sin.f sn
  rw [mask32 h0 h1, mask30 (by omega) (by omega), tdiv_eq (by omega), w64_id (x := a % 4294967296 / 1073741824) (by omega) (by omega), show a % 4294967296 % 1073741824 = a % 1073741824 by omega, w64_id (x := 1073741824 - a % 1073741824) (by omega) (by omega)]
  by_cases c0 : a % 4294967296 / 1073741824 = 0
  · rw [if_pos c0]; exact pos_ev c0 (Ev.bind (quarter_ev (by omega) (by omega)) (Ev.now _))
  · rw [if_neg c0]
    refine neg_ev c0 ?_
    by_cases c1 : a % 4294967296 / 1073741824 = 1
    · rw [if_pos c1]; exact pos_ev c1 (Ev.bind (quarter_ev (by omega) (by omega)) (Ev.now _))
    · rw [if_neg c1]
      refine neg_ev c1 ?_
      by_cases c2 : a % 4294967296 / 1073741824 = 2
      · rw [if_pos c2]; exact pos_ev c2 (Ev.bind (quarter_ev (by omega) (by omega)) (now_ev fun k => by rw [w64_id (by omega) (by omega)]))
      · rw [if_neg c2]; exact neg_ev c2 (Ev.bind (quarter_ev (by omega) (by omega)) (now_ev fun k => by rw [w64_id (by omega) (by omega)]))

theorem cos_ev {a : Int} (h0 : -9223372036854775808 ≤ a) (h1 : a < 9223372036854775808) : Ev (fun k => trig_Cos.f k a) (cs a) := by
  unfold trig_Cos.f cs
  rw [mask32 h0 h1, w64_id (by omega) (by omega)]
  exact Ev.bind (sin_ev (by omega) (by omega)) (Ev.now _)
end Go.Proofs.Ytbaedcjophgiiaa.Q
end

section
/- The sine of the first quarter grows, by at most 3 from one angle to the next, and by at least 1 from an angle of the first eighth to the third one after it; no conditions but the quarter's bounds. -/
namespace Go.Proofs.Ytbaedcjophgiiaa.Q
open Go.RowKit Go.Proofs.YtbaedcjophgiiaaW.PrintWords Go.Proofs.YtbaedcjophgiiaaW.PrintLast Go.Proofs.YtbaedcjophgiiaaW.PrintMore
set_option linter.unusedVariables false
set_option linter.unusedSimpArgs false

theorem div_half {X k : Int} (hX : 0 ≤ X) (hk : 2 ≤ k) : X / k ≤ X / 2 := by
  have h := Int.ediv_mul_le X (show k ≠ 0 by omega)
  have p : 0 ≤ X / k := Int.ediv_nonneg hX (by omega)
  have m : X / k * 2 ≤ X / k * k := Int.mul_le_mul_of_nonneg_left hk p
  omega
theorem div_grow {X d k : Int} (hd : 0 ≤ d) (hk : 1 ≤ k) : (X + d) / k ≤ X / k + d := by
  have m : d * 1 ≤ d * k := Int.mul_le_mul_of_nonneg_left hk hd
  have h : (X + d) / k ≤ (X + d * k) / k := Int.ediv_le_ediv (by omega) (by omega)
  rw [Int.add_mul_ediv_right _ _ (by omega)] at h
  exact h

theorem tm_two {u u' s s' : Int} (h0 : 0 ≤ u) (h : u ≤ u') (hs : s' ≤ s) (s1 : s ≤ 1152921504606846976) (hu : u ≤ s') (hd : s - s' ≤ u' - u) (hs0 : 0 ≤ s') :
    tm u s ≤ tm u' s' ∧ tm u' s' ≤ tm u s + (u' - u) := by
  have e1 : u' * s' - u * s = (u' - u) * s' - u * (s - s') := by grind
  have e2 : u * (s - s') ≤ u * (u' - u) := Int.mul_le_mul_of_nonneg_left hd h0
  have e3 : (u' - u) * u ≤ (u' - u) * s' := Int.mul_le_mul_of_nonneg_left hu (by omega)
  have e4 : u * (u' - u) = (u' - u) * u := Int.mul_comm _ _
  have f1 : u' * s' ≤ u' * s := Int.mul_le_mul_of_nonneg_left hs (by omega)
  have f2 : u' * s = u * s + (u' - u) * s := by grind
  have f3 : (u' - u) * s ≤ (u' - u) * 1152921504606846976 := Int.mul_le_mul_of_nonneg_left s1 (by omega)
  unfold tm
  constructor
  · omega
  · omega

theorem ser_two {u u' : Int} (h0 : 0 ≤ u) (h : u ≤ u') (h1 : u' ≤ 711500000000000000) (l : List Int) : ∀ s s' : Int, (∀ k ∈ l, 2 ≤ k) → s' ≤ s → s ≤ 1152921504606846976 → 711500000000000000 ≤ s' → s - s' ≤ u' - u →
    ser u' s' l ≤ ser u s l ∧ ser u s l - ser u' s' l ≤ u' - u ∧ 711500000000000000 ≤ ser u' s' l ∧ ser u s l ≤ 1152921504606846976 := by
  induction l with
  | nil => intro s s' _ a b c d; exact ⟨a, d, c, b⟩
  | cons k l ih =>
    intro s s' hk a b c d
    have k2 := hk k (by simp)
    obtain ⟨t1, t2⟩ := tm_two h0 h a b (by omega) d (by omega)
    have b1 := tm_bd (a := u) (b := s) h0 (by omega) (by omega) b
    have b2 := tm_bd (a := u') (b := s') (by omega) (by omega) (by omega) (by omega)
    have m1 : tm u s / k ≤ tm u' s' / k := Int.ediv_le_ediv (by omega) t1
    have m2 : tm u' s' / k ≤ tm u s / k + (u' - u) := by
      have := Int.ediv_le_ediv (a := tm u' s') (b := tm u s + (u' - u)) (c := k) (by omega) t2
      have := div_grow (X := tm u s) (d := u' - u) (k := k) (by omega) (by omega)
      omega
    have m3 := div_half (X := tm u' s') (k := k) b2.1 k2
    have m4 : 0 ≤ tm u s / k := Int.ediv_nonneg b1.1 (by omega)
    exact ih _ _ (fun k h => hk k (by simp [h])) (by omega) (by omega) (by omega) (by omega)

theorem ser_app (u : Int) (k : Int) (l : List Int) : ∀ s, ser u s (l ++ [k]) = 1152921504606846976 - tm u (ser u s l) / k := by
  induction l with
  | nil => intro s; rfl
  | cons a l ih => intro s; exact ih _

/-- Squares of neighbouring numbers. -/
theorem sq_two {x e : Int} (x0 : 0 ≤ x) (x1 : x + e ≤ 905502432259640355) (e0 : 0 ≤ e) (e1 : e ≤ 6000000000) :
    tm x x ≤ tm (x + e) (x + e) ∧ 10 * (tm (x + e) (x + e) - tm x x) ≤ 16 * e + 400 ∧ 0 ≤ tm x x ∧ tm (x + e) (x + e) ≤ 711500000000000000 := by
  have q : (x + e) * (x + e) = x * x + 2 * (x * e) + e * e := by grind
  have p1 : 0 ≤ x * e := Int.mul_nonneg x0 e0
  have p2 : 0 ≤ e * e := Int.mul_nonneg e0 e0
  have p3 : x * e ≤ 905502432259640355 * e := Int.mul_le_mul_of_nonneg_right (by omega) e0
  have p4 : e * e ≤ 6000000000 * 6000000000 := Int.mul_le_mul e1 e1 e0 (by decide)
  have p5 : 0 ≤ x * x := Int.mul_nonneg x0 x0
  have p6 : (x + e) * (x + e) ≤ 905502432259640355 * 905502432259640355 := Int.mul_le_mul x1 x1 (by omega) (by decide)
  unfold tm
  refine ⟨by omega, by omega, by omega, by omega⟩

/-- The value of the sine before it is rounded. -/
def vs (x : Int) : Int := tm x (ser (tm x x) 1152921504606846976 sinL)
theorem vs_two {x e : Int} (x0 : 0 ≤ x) (x1 : x + e ≤ 905502432259640355) (e0 : 20 ≤ e) (e1 : e ≤ 6000000000) :
    vs x ≤ vs (x + e) ∧ vs (x + e) ≤ vs x + e ∧ 10 * (vs (x + e) - vs x) ≥ 4 * e - 100 := by
  obtain ⟨q1, q2, q3, q4⟩ := sq_two x0 x1 (by omega) e1
  have S := ser_two q3 q1 q4 [156, 110, 72, 42, 20] 1152921504606846976 1152921504606846976 (by decide) (by decide) (by decide) (by decide) (by omega)
  have hs : ∀ u, ser u 1152921504606846976 sinL = 1152921504606846976 - tm u (ser u 1152921504606846976 [156, 110, 72, 42, 20]) / 6 := fun u => ser_app u 6 [156, 110, 72, 42, 20] _
  unfold vs
  rw [hs, hs]
  generalize tm x x = u at *
  generalize tm (x + e) (x + e) = u' at *
  obtain ⟨t1, t2⟩ := tm_two q3 q1 S.1 S.2.2.2 (by omega) S.2.1 (by omega)
  have b1 := tm_bd (a := u) (b := ser u 1152921504606846976 [156, 110, 72, 42, 20]) q3 (by omega) (by omega) (by omega)
  have b2 := tm_bd (a := u') (b := ser u' 1152921504606846976 [156, 110, 72, 42, 20]) (by omega) (by omega) (by omega) (by omega)
  generalize tm u (ser u 1152921504606846976 [156, 110, 72, 42, 20]) = X at *
  generalize tm u' (ser u' 1152921504606846976 [156, 110, 72, 42, 20]) = X' at *
  obtain ⟨s, hs1⟩ : ∃ s, s = 1152921504606846976 - X / 6 := ⟨_, rfl⟩
  obtain ⟨s', hs2⟩ : ∃ s', s' = 1152921504606846976 - X' / 6 := ⟨_, rfl⟩
  rw [← hs1, ← hs2]
  have dl : 60 * (s - s') ≤ 16 * e + 1000 := by omega
  have dl0 : s' ≤ s := by omega
  have lo : 711500000000000000 ≤ s' := by omega
  have up : s ≤ 1152921504606846976 := by omega
  have g1 : (x + e) * s' = x * s + e * s' - x * (s - s') := by grind
  have g2 : e * 711500000000000000 ≤ e * s' := Int.mul_le_mul_of_nonneg_left lo (by omega)
  have g3 : x * (s - s') ≤ 905502432259640355 * (s - s') := Int.mul_le_mul_of_nonneg_right (by omega) (by omega)
  have g4 : 0 ≤ x * (s - s') := Int.mul_nonneg x0 (by omega)
  have g5 : e * s' ≤ e * 1152921504606846976 := Int.mul_le_mul_of_nonneg_left (by omega) (by omega)
  unfold tm
  generalize (x + e) * s' = P' at *
  generalize x * s = P at *
  generalize e * s' = R at *
  generalize x * (s - s') = T at *
  refine ⟨by omega, by omega, by omega⟩

/-- The value of the cosine before it is rounded. -/
def vc (x : Int) : Int := ser (tm x x) 1152921504606846976 cosL
theorem vc_two {x e : Int} (x0 : 0 ≤ x) (x1 : x + e ≤ 905502432259640355) (e0 : 0 ≤ e) (e1 : e ≤ 6000000000) :
    vc (x + e) ≤ vc x ∧ 10 * (vc x - vc (x + e)) ≤ 16 * e + 400 := by
  obtain ⟨q1, q2, q3, q4⟩ := sq_two x0 x1 (by omega) e1
  have S := ser_two q3 q1 q4 cosL 1152921504606846976 1152921504606846976 (by decide) (by decide) (by decide) (by decide) (by omega)
  unfold vc
  omega

theorem qt_lo {t : Int} (h : t ≤ 536870912) : qt t = rnd (vs (xof t)) := by unfold qt vs; rw [if_neg (by omega)]
theorem qt_hi {t : Int} (h : t > 536870912) : qt t = rnd (vc (xof (1073741824 - t))) := by unfold qt vc; rw [if_pos h]

theorem qt_mid : qt 536870912 ≤ qt 536870913 ∧ qt 536870913 ≤ qt 536870912 + 3 := by decide +kernel

theorem qt_next {t : Int} (h0 : 0 ≤ t) (h1 : t < 1073741824) : qt t ≤ qt (t + 1) ∧ qt (t + 1) ≤ qt t + 3 := by
  by_cases c : t < 536870912
  · rw [qt_lo (by omega), qt_lo (by omega)]
    have b := xof_bd (t := t) h0 (by omega)
    have b' := xof_bd (t := t + 1) (by omega) (by omega)
    obtain ⟨e, he⟩ : ∃ e, xof (t + 1) = xof t + e := ⟨xof (t + 1) - xof t, by omega⟩
    have he0 : 1686629700 ≤ e ∧ e ≤ 1686629800 := by unfold xof at he; omega
    rw [he] at b' ⊢
    obtain ⟨v1, v2, v3⟩ := vs_two (x := xof t) (e := e) b.1 b'.2 (by omega) (by omega)
    unfold rnd; omega
  · by_cases d : t = 536870912
    · subst d; exact qt_mid
    · rw [qt_hi (by omega), qt_hi (by omega)]
      have b := xof_bd (t := 1073741824 - t) (by omega) (by omega)
      have b' := xof_bd (t := 1073741824 - (t + 1)) (by omega) (by omega)
      obtain ⟨e, he⟩ : ∃ e, xof (1073741824 - t) = xof (1073741824 - (t + 1)) + e := ⟨xof (1073741824 - t) - xof (1073741824 - (t + 1)), by omega⟩
      have he0 : 1686629700 ≤ e ∧ e ≤ 1686629800 := by unfold xof at he; omega
      rw [he] at b ⊢
      obtain ⟨v1, v2⟩ := vc_two (x := xof (1073741824 - (t + 1))) (e := e) b'.1 b.2 (by omega) (by omega)
      unfold rnd; omega

theorem qt_mono_nat (n : Nat) : ∀ t : Int, 0 ≤ t → t + n ≤ 1073741824 → qt t ≤ qt (t + n) := by
  induction n with
  | zero => intro t _ _; simp
  | succ n ih =>
    intro t h0 h1
    have a := ih t h0 (by omega)
    have b := (qt_next (t := t + n) (by omega) (by omega)).1
    rw [show t + ((n + 1 : Nat) : Int) = t + n + 1 by omega]
    omega
theorem qt_mono {t t' : Int} (h0 : 0 ≤ t) (h : t ≤ t') (h1 : t' ≤ 1073741824) : qt t ≤ qt t' := by
  have := qt_mono_nat (t' - t).toNat t h0 (by omega)
  rw [show t + ((t' - t).toNat : Int) = t' by omega] at this
  exact this

theorem qt_three {t : Int} (h0 : 0 ≤ t) (h1 : t + 3 ≤ 536870912) : qt t + 1 ≤ qt (t + 3) := by
  rw [qt_lo (by omega), qt_lo (by omega)]
  have b := xof_bd (t := t) h0 (by omega)
  have b' := xof_bd (t := t + 3) (by omega) (by omega)
  obtain ⟨e, he⟩ : ∃ e, xof (t + 3) = xof t + e := ⟨xof (t + 3) - xof t, by omega⟩
  have he0 : 5059889100 ≤ e ∧ e ≤ 5059889200 := by unfold xof at he; omega
  rw [he] at b' ⊢
  obtain ⟨v1, v2, v3⟩ := vs_two (x := xof t) (e := e) b.1 b'.2 (by omega) (by omega)
  unfold rnd; omega

theorem qt_zero : qt 0 = 0 := by decide +kernel
theorem qt_one : qt 1073741824 = 1073741824 := by decide +kernel
end Go.Proofs.Ytbaedcjophgiiaa.Q
end

section
/- Package trig in plain numbers: the angle of a direction by halving, and that the printed functions compute it, for components up to 2^32, not both 0; the fact of package trig holds. -/
namespace Go.Proofs.Ytbaedcjophgiiaa.Q
open Go.RowKit Go.Proofs.YtbaedcjophgiiaaW.PrintWords Go.Proofs.YtbaedcjophgiiaaW.PrintLast Go.Proofs.YtbaedcjophgiiaaW.PrintMore
set_option linter.unusedVariables false
set_option linter.unusedSimpArgs false

/-- The greatest angle with a sine that is not too great, by halving. -/
def octp (y x : Int) : Nat → Int → Int → Int
  | 0, lo, _ => lo
  | n + 1, lo, hi => if hi - lo > 1 then (if sn ((lo + hi) / 2) * x ≤ cs ((lo + hi) / 2) * y then octp y x n ((lo + hi) / 2) hi else octp y x n lo ((lo + hi) / 2)) else lo
def oct (y x : Int) : Int := octp y x 40 0 536870913

theorem mul_bd {s x : Int} (s0 : -1073741824 ≤ s) (s1 : s ≤ 1073741824) (x0 : 0 ≤ x) (x1 : x ≤ 4294967296) : -4611686018427387904 ≤ s * x ∧ s * x ≤ 4611686018427387904 := by
  have a : s * x ≤ 1073741824 * x := Int.mul_le_mul_of_nonneg_right s1 x0
  have b : -1073741824 * x ≤ s * x := Int.mul_le_mul_of_nonneg_right s0 x0
  omega

theorem octant_l0 {y x : Int} (y0 : 0 ≤ y) (y1 : y ≤ 4294967296) (x0 : 0 ≤ x) (x1 : x ≤ 4294967296) (n : Nat) :
    ∀ lo hi : Int, 0 ≤ lo → lo ≤ hi → hi ≤ 536870913 → hi - lo ≤ 2 ^ n → Ev (fun k => trig_octant.l0 k y x lo hi) (octp y x n lo hi) := by
  induction n with
  | zero =>
    intro lo hi h0 hl h1 h2
    rw [Int.pow_zero] at h2
    exact one_ev fun k => by rw [trig_octant.l0, w64_id (by omega) (by omega), if_neg (by omega)]; rfl
  | succ n ih =>
    intro lo hi h0 hl h1 h2
    rw [Int.pow_succ] at h2
    by_cases c : hi - lo > 1
    · have e : wrap64 (Int.tdiv (wrap64 (lo + hi)) 2) = (lo + hi) / 2 := by
        rw [w64_id (x := lo + hi) (by omega) (by omega), tdiv_eq (by omega), w64_id (by omega) (by omega)]
      have m1 := sn_bd ((lo + hi) / 2)
      have m2 := cs_bd ((lo + hi) / 2)
      have p1 := mul_bd m1.1 m1.2 x0 x1
      have p2 := mul_bd m2.1 m2.2 y0 y1
      refine Ev.step (f := fun k => (trig_Sin.f k ((lo + hi) / 2)).bind fun t101 => ((trig_Cos.f k ((lo + hi) / 2)).bind fun t102 => (if (wrap64 (t101 * x)) ≤ (wrap64 (t102 * y)) then (trig_octant.l0 k y x ((lo + hi) / 2) hi) else (trig_octant.l0 k y x lo ((lo + hi) / 2))))) (fun k => ?_) ?_
      · rw [trig_octant.l0, w64_id (x := hi - lo) (by omega) (by omega), if_pos c, e]
      · refine Ev.bind (sin_ev (by omega) (by omega)) (Ev.bind (cos_ev (by omega) (by omega)) ?_)
        rw [w64_id (x := sn ((lo + hi) / 2) * x) (by omega) (by omega), w64_id (x := cs ((lo + hi) / 2) * y) (by omega) (by omega)]
        unfold octp
        rw [if_pos c]
        by_cases d : sn ((lo + hi) / 2) * x ≤ cs ((lo + hi) / 2) * y
        · rw [if_pos d]; exact pos_ev d (ih _ _ (by omega) (by omega) h1 (by omega))
        · rw [if_neg d]; exact neg_ev d (ih _ _ h0 (by omega) (by omega) (by omega))
    · refine one_ev fun k => ?_
      rw [trig_octant.l0, w64_id (x := hi - lo) (by omega) (by omega), if_neg c]
      unfold octp; rw [if_neg c]

theorem octant_ev {y x : Int} (y0 : 0 ≤ y) (y1 : y ≤ 4294967296) (x0 : 0 ≤ x) (x1 : x ≤ 4294967296) : Ev (fun k => trig_octant.f k y x) (oct y x) := by
  unfold trig_octant.f oct
  exact octant_l0 y0 y1 x0 x1 40 0 536870913 (by decide) (by decide) (by decide) (by decide)

theorem octp_is (y x : Int) (n : Nat) : ∀ lo hi : Int, 0 ≤ lo → lo < hi → hi ≤ 536870913 → hi - lo ≤ 2 ^ n → (lo = 0 ∨ sn lo * x ≤ cs lo * y) → (hi = 536870913 ∨ ¬ sn hi * x ≤ cs hi * y) →
    0 ≤ octp y x n lo hi ∧ octp y x n lo hi ≤ 536870912 ∧ (octp y x n lo hi = 0 ∨ sn (octp y x n lo hi) * x ≤ cs (octp y x n lo hi) * y) ∧ (octp y x n lo hi = 536870912 ∨ ¬ sn (octp y x n lo hi + 1) * x ≤ cs (octp y x n lo hi + 1) * y) := by
  induction n with
  | zero =>
    intro lo hi h0 hl h1 h2 a b
    rw [Int.pow_zero] at h2
    have e : hi = lo + 1 := by omega
    subst e
    unfold octp
    exact ⟨h0, by omega, a, by rcases b with b | b; · left; omega
                               · exact .inr b⟩
  | succ n ih =>
    intro lo hi h0 hl h1 h2 a b
    rw [Int.pow_succ] at h2
    unfold octp
    by_cases c : hi - lo > 1
    · rw [if_pos c]
      by_cases d : sn ((lo + hi) / 2) * x ≤ cs ((lo + hi) / 2) * y
      · rw [if_pos d]; exact ih _ _ (by omega) (by omega) h1 (by omega) (.inr d) b
      · rw [if_neg d]; exact ih _ _ h0 (by omega) (by omega) (by omega) a (.inr d)
    · rw [if_neg c]
      have e : hi = lo + 1 := by omega
      subst e
      exact ⟨h0, by omega, a, by rcases b with b | b; · left; omega
                                 · exact .inr b⟩
theorem oct_is (y x : Int) : 0 ≤ oct y x ∧ oct y x ≤ 536870912 ∧ (oct y x = 0 ∨ sn (oct y x) * x ≤ cs (oct y x) * y) ∧ (oct y x = 536870912 ∨ ¬ sn (oct y x + 1) * x ≤ cs (oct y x + 1) * y) :=
  octp_is y x 40 0 536870913 (by decide) (by decide) (by decide) (by decide) (.inl rfl) (.inl rfl)

/-- The angle of a direction. -/
def at1 (y x : Int) : Int := if mx y (-y) ≤ mx x (-x) then oct (mx y (-y)) (mx x (-x)) else 1073741824 - oct (mx x (-x)) (mx y (-y))
def at2 (y x : Int) : Int := (if y < 0 then 4294967296 - (if x < 0 then 2147483648 - at1 y x else at1 y x) else if x < 0 then 2147483648 - at1 y x else at1 y x) % 4294967296

theorem at1_bd (y x : Int) : 0 ≤ at1 y x ∧ at1 y x ≤ 1073741824 := by
  have a := oct_is (mx y (-y)) (mx x (-x))
  have b := oct_is (mx x (-x)) (mx y (-y))
  unfold at1; split <;> omega

theorem mx_abs {x : Int} (x0 : -4294967296 ≤ x) (x1 : x ≤ 4294967296) : 0 ≤ mx x (-x) ∧ mx x (-x) ≤ 4294967296 := by unfold mx; split <;> omega

theorem atan2_ev {y x : Int} (y0 : -4294967296 ≤ y) (y1 : y ≤ 4294967296) (x0 : -4294967296 ≤ x) (x1 : x ≤ 4294967296) (h : x ≠ 0 ∨ y ≠ 0) : Ev (fun k => trig_Atan2.f k y x) (at2 y x, 0) := by
  have bx := mx_abs x0 x1
  have bY := mx_abs y0 y1
  have b1 := at1_bd y x
  have J2 : Ev (fun k => trig_Atan2.j2 k y x (at1 y x)) (at2 y x, 0) := by
    refine one_ev fun k => ?_
    rw [trig_Atan2.j2]
    unfold at2
    by_cases c : x < 0
    · by_cases d : y < 0
      · rw [if_pos c, if_pos d, if_pos d, if_pos c, w64_id (x := 2147483648 - at1 y x) (by omega) (by omega), w64_id (by omega) (by omega), tmod_eq (by omega)]
      · rw [if_pos c, if_neg d, if_neg d, if_pos c, w64_id (x := 2147483648 - at1 y x) (by omega) (by omega), tmod_eq (by omega)]
    · by_cases d : y < 0
      · rw [if_neg c, if_pos d, if_pos d, if_neg c, w64_id (by omega) (by omega), tmod_eq (by omega)]
      · rw [if_neg c, if_neg d, if_neg d, if_neg c, tmod_eq (by omega)]
  have J1 : Ev (fun k => trig_Atan2.j1 k y x) (at2 y x, 0) := by
    refine Ev.step (f := fun k => if (mx y (-y)) ≤ (mx x (-x)) then ((trig_octant.f k (mx y (-y)) (mx x (-x))).bind fun t101 => (trig_Atan2.j2 k y x t101)) else ((trig_octant.f k (mx x (-x)) (mx y (-y))).bind fun t102 => (trig_Atan2.j2 k y x (wrap64 (1073741824 - t102))))) (fun k => by
      rw [trig_Atan2.j1, w64_id (x := -x) (by omega) (by omega), w64_id (x := -y) (by omega) (by omega)]) ?_
    by_cases c : mx y (-y) ≤ mx x (-x)
    · refine pos_ev c (Ev.bind (octant_ev bY.1 bY.2 bx.1 bx.2) ?_)
      have e : at1 y x = oct (mx y (-y)) (mx x (-x)) := by unfold at1; rw [if_pos c]
      rw [← e]; exact J2
    · refine neg_ev c (Ev.bind (octant_ev bx.1 bx.2 bY.1 bY.2) ?_)
      have e : at1 y x = 1073741824 - oct (mx x (-x)) (mx y (-y)) := by unfold at1; rw [if_neg c]
      rw [← e, w64_id (by omega) (by omega)]; exact J2
  have J0 : Ev (fun k => trig_Atan2.j0 k y x false) (at2 y x, 0) := by
    refine Ev.step (f := fun k => if x = 0 then (if y = 0 then (some (0, 8)) else (trig_Atan2.j1 k y x)) else (trig_Atan2.j1 k y x)) (fun k => by rw [trig_Atan2.j0, if_neg (by decide)]) ?_
    by_cases c : x = 0
    · exact pos_ev c (neg_ev (by omega) J1)
    · exact neg_ev c J1
  refine Ev.congr (fun k => ?_) J0
  unfold trig_Atan2.f
  rw [if_neg (by omega), if_neg (by omega), if_neg (by omega), decide_eq_false (by omega)]

theorem trigFact_ev : Ev (fun k => spykeep1_trigFact.f k) true := by
  have h := atan2_ev (y := -5) (x := 5) (by decide) (by decide) (by decide) (by decide) (by decide)
  rw [show at2 (-5) 5 = 3758096384 by decide +kernel] at h
  have s := sin_ev (a := 536870912) (by decide) (by decide)
  rw [show sn 536870912 = 759250125 by decide +kernel] at s
  unfold spykeep1_trigFact.f
  exact Ev.bind h (Ev.bind s (now_ev fun k => by decide))

/-- A sine by its quarter and its place in it. -/
theorem sn_at {a q t : Int} (hq : a % 4294967296 / 1073741824 = q) (ht : a % 1073741824 = t) : sn a = (if q = 0 then qt t else if q = 1 then qt (1073741824 - t) else if q = 2 then -qt t else -qt (1073741824 - t)) := by
  unfold sn; rw [hq, ht]
end Go.Proofs.Ytbaedcjophgiiaa.Q
end

section
/- The symmetries of the sine in plain numbers: of opposite and supplementary angles and of neighbours; no conditions. -/
namespace Go.Proofs.Ytbaedcjophgiiaa.Q
open Go.RowKit Go.Proofs.YtbaedcjophgiiaaW.PrintWords Go.Proofs.YtbaedcjophgiiaaW.PrintLast Go.Proofs.YtbaedcjophgiiaaW.PrintMore
set_option linter.unusedVariables false
set_option linter.unusedSimpArgs false

theorem sn_mod {a b : Int} (h : a % 4294967296 = b % 4294967296) : sn a = sn b := by
  unfold sn; rw [h, show a % 1073741824 = b % 1073741824 by omega]

theorem quad (a : Int) : (a % 4294967296 / 1073741824 = 0 ∨ a % 4294967296 / 1073741824 = 1 ∨ a % 4294967296 / 1073741824 = 2 ∨ a % 4294967296 / 1073741824 = 3) ∧ 0 ≤ a % 1073741824 ∧ a % 1073741824 < 1073741824 := by omega

theorem sn_neg (a : Int) : sn (-a) = -sn a := by
  obtain ⟨hq, ht0, ht1⟩ := quad a
  generalize ht : a % 1073741824 = t at *
  by_cases z : t = 0
  · subst z
    rcases hq with hq | hq | hq | hq
    · rw [sn_at hq ht, sn_at (a := -a) (q := 0) (t := 0) (by omega) (by omega)]; simp [qt_zero]
    · rw [sn_at hq ht, sn_at (a := -a) (q := 3) (t := 0) (by omega) (by omega)]; simp
    · rw [sn_at hq ht, sn_at (a := -a) (q := 2) (t := 0) (by omega) (by omega)]; simp [qt_zero]
    · rw [sn_at hq ht, sn_at (a := -a) (q := 1) (t := 0) (by omega) (by omega)]; simp
  · have e : 1073741824 - (1073741824 - t) = t := by omega
    rcases hq with hq | hq | hq | hq
    · rw [sn_at hq ht, sn_at (a := -a) (q := 3) (t := 1073741824 - t) (by omega) (by omega)]; simp [e]
    · rw [sn_at hq ht, sn_at (a := -a) (q := 2) (t := 1073741824 - t) (by omega) (by omega)]; simp
    · rw [sn_at hq ht, sn_at (a := -a) (q := 1) (t := 1073741824 - t) (by omega) (by omega)]; simp [e]
    · rw [sn_at hq ht, sn_at (a := -a) (q := 0) (t := 1073741824 - t) (by omega) (by omega)]; simp

theorem sn_half (a : Int) : sn (a + 2147483648) = -sn a := by
  obtain ⟨hq, ht0, ht1⟩ := quad a
  generalize ht : a % 1073741824 = t at *
  rcases hq with hq | hq | hq | hq
  · rw [sn_at hq ht, sn_at (a := a + 2147483648) (q := 2) (t := t) (by omega) (by omega)]; simp
  · rw [sn_at hq ht, sn_at (a := a + 2147483648) (q := 3) (t := t) (by omega) (by omega)]; simp
  · rw [sn_at hq ht, sn_at (a := a + 2147483648) (q := 0) (t := t) (by omega) (by omega)]; simp
  · rw [sn_at hq ht, sn_at (a := a + 2147483648) (q := 1) (t := t) (by omega) (by omega)]; simp

theorem sn_supp (a : Int) : sn (2147483648 - a) = sn a := by
  rw [show 2147483648 - a = -a + 2147483648 by omega, sn_half, sn_neg, Int.neg_neg]

theorem cs_sn (a : Int) : cs a = sn (a + 1073741824) := sn_mod (by omega)
theorem cs_neg (a : Int) : cs (-a) = cs a := by
  rw [cs_sn, cs_sn, show -a + 1073741824 = 2147483648 - (a + 1073741824) by omega, sn_supp]

theorem sn_next {r : Int} (h0 : 0 ≤ r) (h1 : r < 4294967296) :
    -3 ≤ sn (r + 1) - sn r ∧ sn (r + 1) - sn r ≤ 3 ∧ ((r < 1073741824 ∨ r ≥ 3221225472) → 0 ≤ sn (r + 1) - sn r) ∧ (¬ (r < 1073741824 ∨ r ≥ 3221225472) → sn (r + 1) - sn r ≤ 0) := by
  obtain ⟨hq, ht0, ht1⟩ := quad r
  generalize ht : r % 1073741824 = t at *
  have n1 := qt_next ht0 ht1
  have n2 := qt_next (t := 1073741824 - t - 1) (by omega) (by omega)
  rw [show 1073741824 - t - 1 + 1 = 1073741824 - t by omega] at n2
  have z0 := qt_zero
  have z1 := qt_one
  by_cases l : t = 1073741823
  · subst l
    simp only [show (1073741823 : Int) + 1 = 1073741824 by decide, show (1073741824 : Int) - 1073741823 = 1 by decide, show (1 : Int) - 1 = 0 by decide] at n1 n2
    rcases hq with hq | hq | hq | hq
    · rw [sn_at hq ht, sn_at (a := r + 1) (q := 1) (t := 0) (by omega) (by omega)]; simp; omega
    · rw [sn_at hq ht, sn_at (a := r + 1) (q := 2) (t := 0) (by omega) (by omega)]; simp; omega
    · rw [sn_at hq ht, sn_at (a := r + 1) (q := 3) (t := 0) (by omega) (by omega)]; simp; omega
    · rw [sn_at hq ht, sn_at (a := r + 1) (q := 0) (t := 0) (by omega) (by omega)]; simp; omega
  · rcases hq with hq | hq | hq | hq
    · rw [sn_at hq ht, sn_at (a := r + 1) (q := 0) (t := t + 1) (by omega) (by omega)]; simp; omega
    · rw [sn_at hq ht, sn_at (a := r + 1) (q := 1) (t := t + 1) (by omega) (by omega), show 1073741824 - (t + 1) = 1073741824 - t - 1 by omega]; simp; omega
    · rw [sn_at hq ht, sn_at (a := r + 1) (q := 2) (t := t + 1) (by omega) (by omega)]; simp; omega
    · rw [sn_at hq ht, sn_at (a := r + 1) (q := 3) (t := t + 1) (by omega) (by omega), show 1073741824 - (t + 1) = 1073741824 - t - 1 by omega]; simp; omega
end Go.Proofs.Ytbaedcjophgiiaa.Q
end

section
/- The angle of a direction in plain numbers: it depends on the direction alone, and grows when the direction turns to the left, in the first quarter; no conditions but the components' signs. -/
namespace Go.Proofs.Ytbaedcjophgiiaa.Q
open Go.RowKit Go.Proofs.YtbaedcjophgiiaaW.PrintWords Go.Proofs.YtbaedcjophgiiaaW.PrintLast Go.Proofs.YtbaedcjophgiiaaW.PrintMore
set_option linter.unusedVariables false
set_option linter.unusedSimpArgs false

theorem below {a n : Int} (hn : 1 ≤ n) (hn1 : n < 9223372036854775808) : spymake_Below.f a n = some (a % n) := by
  unfold spymake_Below.f
  rw [if_neg (by omega), if_neg (by omega)]
  have m0 := Int.emod_nonneg a (show n ≠ 0 by omega)
  have m1 := Int.emod_lt_of_pos a (show 0 < n by omega)
  by_cases c : 0 ≤ a
  · rw [tmod_eq c, if_neg (by omega)]
  · have e : Int.tmod a n = -(-a % n) := by
      have := Int.neg_tmod (-a) n
      rw [Int.neg_neg] at this
      rw [this, tmod_eq (by omega)]
    rw [e, (show a % n = (if -a % n = 0 then 0 else n - -a % n) by
      have e1 := Int.emod_add_mul_ediv (-a) n
      have h0 := Int.emod_nonneg (-a) (show n ≠ 0 by omega)
      have h1 := Int.emod_lt_of_pos (-a) (show 0 < n by omega)
      split
      · exact ((Int.ediv_emod_unique (q := -(-a / n)) (show 0 < n by omega)).mpr ⟨by rw [Int.mul_neg]; omega, by omega, by omega⟩).2
      · exact ((Int.ediv_emod_unique (q := -(-a / n) - 1) (show 0 < n by omega)).mpr ⟨by rw [Int.mul_sub, Int.mul_neg]; omega, by omega, by omega⟩).2)]
    have h0 := Int.emod_nonneg (-a) (show n ≠ 0 by omega)
    have h1 := Int.emod_lt_of_pos (-a) (show 0 < n by omega)
    by_cases z : -a % n = 0
    · rw [if_neg (by omega), if_pos z, z]; rfl
    · rw [if_pos (by omega), if_neg z, w64_id (by omega) (by omega)]; congr 1; omega

theorem sn_q1 {m : Int} (h0 : 0 ≤ m) (h1 : m ≤ 1073741824) : sn m = qt m := by
  by_cases c : m = 1073741824
  · subst c; rw [sn_at (q := 1) (t := 0) (by decide) (by decide)]; simp
  · rw [sn_at (q := 0) (t := m) (by omega) (by omega)]; simp
theorem cs_q1 {m : Int} (h0 : 0 ≤ m) (h1 : m ≤ 1073741824) : cs m = qt (1073741824 - m) := by
  rw [cs_sn]
  by_cases c : m = 1073741824
  · subst c; rw [sn_at (q := 2) (t := 0) (by decide) (by decide)]; simp [qt_zero]
  · rw [sn_at (q := 1) (t := m) (by omega) (by omega)]; simp

theorem sn_up {m m' : Int} (h0 : 0 ≤ m) (h : m ≤ m') (h1 : m' ≤ 1073741824) : sn m ≤ sn m' := by
  rw [sn_q1 h0 (by omega), sn_q1 (by omega) h1]; exact qt_mono h0 h h1
theorem cs_down {m m' : Int} (h0 : 0 ≤ m) (h : m ≤ m') (h1 : m' ≤ 1073741824) : cs m' ≤ cs m := by
  rw [cs_q1 h0 (by omega), cs_q1 (by omega) h1]; exact qt_mono (by omega) (by omega) (by omega)
theorem cs_pos {m : Int} (h0 : 0 ≤ m) (h1 : m ≤ 1073741824) : 0 ≤ cs m := by
  rw [cs_q1 h0 h1]; exact (qt_bd (by omega) (by omega)).1

theorem meets_down {y x m m' : Int} (y0 : 0 ≤ y) (x0 : 0 ≤ x) (h0 : 0 ≤ m) (h : m ≤ m') (h1 : m' ≤ 1073741824) (hm : sn m' * x ≤ cs m' * y) : sn m * x ≤ cs m * y := by
  have a := Int.mul_le_mul_of_nonneg_right (sn_up h0 h h1) x0
  have b := Int.mul_le_mul_of_nonneg_right (cs_down h0 h h1) y0
  omega

theorem oct_le {y1 x1 y2 x2 : Int} (y0 : 0 ≤ y2) (x0 : 0 ≤ x2) (H : ∀ m, 0 ≤ m → m ≤ 536870912 → sn m * x1 ≤ cs m * y1 → sn m * x2 ≤ cs m * y2) : oct y1 x1 ≤ oct y2 x2 := by
  have a := oct_is y1 x1
  have b := oct_is y2 x2
  rcases Int.lt_or_le (oct y2 x2) (oct y1 x1) with c | c
  · exfalso
    rcases a.2.2.1 with h | h
    · omega
    · have h2 := H _ a.1 a.2.1 h
      rcases b.2.2.2 with h3 | h3
      · omega
      · exact h3 (meets_down y0 x0 (by omega) (by omega) (by omega) h2)
  · exact c

theorem oct_turn {y1 x1 y2 x2 : Int} (y10 : 0 ≤ y1) (x10 : 0 < x1) (y20 : 0 ≤ y2) (x20 : 0 ≤ x2) (h : y1 * x2 ≤ y2 * x1) : oct y1 x1 ≤ oct y2 x2 := by
  refine oct_le y20 x20 (fun m m0 m1 hm => ?_)
  have c0 := cs_pos m0 (by omega)
  have e1 := Int.mul_le_mul_of_nonneg_right hm x20
  have e2 := Int.mul_le_mul_of_nonneg_left h c0
  have f1 : sn m * x1 * x2 = sn m * x2 * x1 := by grind
  have f2 : cs m * (y2 * x1) = cs m * y2 * x1 := by grind
  have f3 : cs m * y1 * x2 = cs m * (y1 * x2) := by grind
  exact Int.le_of_mul_le_mul_right (a := x1) (by omega) x10

theorem oct_scale {n y x : Int} (hn : 1 ≤ n) (y0 : 0 ≤ y) (x0 : 0 ≤ x) : oct (n * y) (n * x) = oct y x := by
  have hy : 0 ≤ n * y := Int.mul_nonneg (by omega) y0
  have hx : 0 ≤ n * x := Int.mul_nonneg (by omega) x0
  have e : ∀ m : Int, sn m * (n * x) ≤ cs m * (n * y) ↔ sn m * x ≤ cs m * y := by
    intro m
    rw [show sn m * (n * x) = n * (sn m * x) by grind, show cs m * (n * y) = n * (cs m * y) by grind]
    exact Int.mul_le_mul_left (by omega)
  exact Int.le_antisymm (oct_le y0 x0 fun m _ _ h => (e m).mp h) (oct_le hy hx fun m _ _ h => (e m).mpr h)

/-- The angle within the first quarter. -/
def at0 (y x : Int) : Int := if y ≤ x then oct y x else 1073741824 - oct x y
theorem at1_abs (y x : Int) : at1 y x = at0 (mx y (-y)) (mx x (-x)) := rfl
theorem at0_bd (y x : Int) : 0 ≤ at0 y x ∧ at0 y x ≤ 1073741824 := by
  have a := oct_is y x
  have b := oct_is x y
  unfold at0; split <;> omega

theorem at0_turn {y1 x1 y2 x2 : Int} (y10 : 0 ≤ y1) (x10 : 0 ≤ x1) (h1 : x1 ≠ 0 ∨ y1 ≠ 0) (y20 : 0 ≤ y2) (x20 : 0 ≤ x2) (h2 : x2 ≠ 0 ∨ y2 ≠ 0) (h : y1 * x2 ≤ y2 * x1) : at0 y1 x1 ≤ at0 y2 x2 := by
  have a1 := oct_is y1 x1
  have a2 := oct_is x2 y2
  unfold at0
  by_cases c1 : y1 ≤ x1
  · rw [if_pos c1]
    by_cases c2 : y2 ≤ x2
    · rw [if_pos c2]; exact oct_turn y10 (by omega) y20 x20 h
    · rw [if_neg c2]; omega
  · rw [if_neg c1]
    by_cases c2 : y2 ≤ x2
    · exfalso
      have e1 : (x1 + 1) * x2 ≤ y1 * x2 := Int.mul_le_mul_of_nonneg_right (by omega) x20
      have e2 : y2 * x1 ≤ x2 * x1 := Int.mul_le_mul_of_nonneg_right c2 x10
      have e3 : (x1 + 1) * x2 = x2 * x1 + x2 := by grind
      omega
    · rw [if_neg c2]
      have := oct_turn (y1 := x2) (x1 := y2) (y2 := x1) (x2 := y1) x20 (by omega) x10 y10 (by
        rw [Int.mul_comm x2 y1, Int.mul_comm x1 y2]; exact h)
      omega

theorem at0_scale {n y x : Int} (hn : 1 ≤ n) (y0 : 0 ≤ y) (x0 : 0 ≤ x) : at0 (n * y) (n * x) = at0 y x := by
  unfold at0
  rw [oct_scale hn y0 x0, oct_scale hn x0 y0]
  by_cases c : y ≤ x
  · rw [if_pos c, if_pos (Int.mul_le_mul_of_nonneg_left c (by omega))]
  · rw [if_neg c, if_neg]
    intro h
    exact c (Int.le_of_mul_le_mul_left h (by omega))

theorem mx_pos {x : Int} (h : 0 ≤ x) : mx x (-x) = x := by unfold mx; split <;> omega
theorem mx_neg {x : Int} (h : x < 0) : mx x (-x) = -x := by unfold mx; split <;> omega

theorem at2_up {y x : Int} (y0 : 0 ≤ y) : at2 y x = (if x < 0 then 2147483648 - at0 y (-x) else at0 y x) := by
  unfold at2
  have b1 := at0_bd y (-x)
  have b2 := at0_bd y x
  rw [if_neg (by omega), at1_abs, mx_pos y0]
  by_cases c : x < 0
  · rw [if_pos c, if_pos c, mx_neg c]; omega
  · rw [if_neg c, if_neg c, mx_pos (by omega)]; omega

/-- In the upper half, the angle grows when the direction turns to the left. -/
theorem at2_turn {p q r s : Int} (q0 : 0 ≤ q) (s0 : 0 ≤ s) (h1 : p ≠ 0 ∨ q ≠ 0) (h2 : r ≠ 0 ∨ s ≠ 0) (n1 : ¬ (q = 0 ∧ p < 0)) (n2 : ¬ (s = 0 ∧ r < 0)) (h : 0 ≤ p * s - q * r) : at2 q p ≤ at2 s r := by
  rw [at2_up q0, at2_up s0]
  have b1 := at0_bd q p
  have b2 := at0_bd s (-r)
  by_cases cp : p < 0
  · rw [if_pos cp]
    by_cases cr : r < 0
    · rw [if_pos cr]
      have := at0_turn (y1 := s) (x1 := -r) (y2 := q) (x2 := -p) s0 (by omega) (by omega) q0 (by omega) (by omega) (by
        rw [Int.mul_neg, Int.mul_neg, Int.mul_comm s p]; omega)
      omega
    · exfalso
      have e1 : s * p ≤ s * (-1) := Int.mul_le_mul_of_nonneg_left (by omega) s0
      have e2 : 1 * r ≤ q * r := Int.mul_le_mul_of_nonneg_right (by omega) (by omega)
      rw [Int.mul_comm p s] at h
      omega
  · rw [if_neg cp]
    by_cases cr : r < 0
    · rw [if_pos cr]; omega
    · rw [if_neg cr]
      exact at0_turn q0 (by omega) (by omega) s0 (by omega) (by omega) (by rw [Int.mul_comm s p]; omega)

theorem at2_scale {n p q : Int} (hn : 1 ≤ n) (q0 : 0 ≤ q) : at2 (n * q) (n * p) = at2 q p := by
  have hq : 0 ≤ n * q := Int.mul_nonneg (by omega) q0
  rw [at2_up q0, at2_up hq]
  by_cases c : p < 0
  · have c' : n * p < 0 := Int.mul_neg_of_pos_of_neg (by omega) c
    rw [if_pos c, if_pos c', show -(n * p) = n * (-p) by rw [Int.mul_neg], at0_scale hn q0 (by omega)]
  · have c' : 0 ≤ n * p := Int.mul_nonneg (by omega) (by omega)
    rw [if_neg c, if_neg (by omega), at0_scale hn q0 (by omega)]
end Go.Proofs.Ytbaedcjophgiiaa.Q
end

section
/- The stream of numbers of package spymake in plain numbers: each answer lies in the range that was asked for; the bounds stand in each statement. -/
namespace Go.Proofs.Ytbaedcjophgiiaa.Q
open Go.RowKit Go.Proofs.YtbaedcjophgiiaaW.PrintWords Go.Proofs.YtbaedcjophgiiaaW.PrintLast Go.Proofs.YtbaedcjophgiiaaW.PrintMore
set_option linter.unusedVariables false
set_option linter.unusedSimpArgs false

theorem below_in {a n : Int} (hn : 1 ≤ n) (hn1 : n < 9223372036854775808) : ∃ v, spymake_Below.f a n = some v ∧ 0 ≤ v ∧ v < n :=
  ⟨a % n, below hn hn1, Int.emod_nonneg a (by omega), Int.emod_lt_of_pos a (by omega)⟩

/-- The next number lies from 0 to n - 1, and the place moves on by one. -/
theorem next_in (l : List Int) {at_ n : Int} (hl : l.length ≤ 9223372036854775807) (a0 : 0 ≤ at_) (a1 : at_ < 4611686018427387904) (n0 : 1 ≤ n) (n1 : n < 9223372036854775808) :
    ∃ v, spymake_Stream_Next.f l at_ n = some (v, at_ + 1) ∧ 0 ≤ v ∧ v < n := by
  unfold spymake_Stream_Next.f
  rw [w64_id (x := at_ + 1) (by omega) (by omega)]
  by_cases z : (l.length : Int) = 0
  · rw [if_pos z]
    obtain ⟨v, hv, v0, v1⟩ := below_in (a := wrap64 ((at_ + 1) * 7919)) n0 n1
    exact ⟨v, by rw [hv]; rfl, v0, v1⟩
  · rw [if_neg z, w64_id (x := at_ + 1 - 1) (by omega) (by omega), tmod_eq (by omega)]
    have m0 := Int.emod_nonneg (at_ + 1 - 1) z
    have m1 := Int.emod_lt_of_pos (at_ + 1 - 1) (show 0 < (l.length : Int) by omega)
    rw [if_pos m0, if_pos m1]
    obtain ⟨v, hv, v0, v1⟩ := below_in (a := rd l ((at_ + 1 - 1) % (l.length : Int))) (n := 1073741824) (by decide) (by decide)
    rw [hv]
    simp only [Option.bind_some]
    obtain ⟨v', hv', v0', v1'⟩ := below_in (a := wrap64 (v + (wrap64 ((wrap64 (Int.tdiv (at_ + 1 - 1) (l.length : Int))) * (wrap64 (7919 + ((at_ + 1 - 1) % (l.length : Int)))))))) n0 n1
    exact ⟨v', by rw [hv']; rfl, v0', v1'⟩

/-- A number of a range lies in it. -/
theorem range_in (l : List Int) {at_ lo hi : Int} (hl : l.length ≤ 9223372036854775807) (a0 : 0 ≤ at_) (a1 : at_ < 4611686018427387904) (h : lo ≤ hi) (h0 : -2305843009213693952 ≤ lo) (h1 : hi < 2305843009213693952) :
    ∃ v, spymake_Stream_Range.f l at_ lo hi = some (v, at_ + 1) ∧ lo ≤ v ∧ v ≤ hi := by
  unfold spymake_Stream_Range.f
  rw [if_neg (by omega), w64_id (x := hi - lo) (by omega) (by omega), w64_id (x := hi - lo + 1) (by omega) (by omega)]
  obtain ⟨v, hv, v0, v1⟩ := next_in l (n := hi - lo + 1) hl a0 a1 (by omega) (by omega)
  refine ⟨lo + v, ?_, by omega, by omega⟩
  rw [hv]
  simp only [Option.bind_some]
  rw [w64_id (by omega) (by omega)]
end Go.Proofs.Ytbaedcjophgiiaa.Q
end

section
/- Which bounds are valid, in plain numbers; definitions alone. -/
namespace Go.Proofs.Ytbaedcjophgiiaa.Q
/-- Whether a bound is valid. -/
def vb (lo hi : Int) (u : Bool) : Bool := if u then lo == 0 && hi == 0 else decide (-1152921504606846976 ≤ lo) && decide (lo ≤ hi) && decide (hi ≤ 1152921504606846976)
/-- A bound itself if it is valid, else an unknown one. -/
def nb (lo hi : Int) (u : Bool) : Int × Int × Bool := if vb lo hi u = true then (lo, hi, u) else (0, 0, true)
theorem nb_ok {lo hi : Int} (h0 : -1152921504606846976 ≤ lo) (h : lo ≤ hi) (h1 : hi ≤ 1152921504606846976) : nb lo hi false = (lo, hi, false) := by
  unfold nb vb; simp [h0, h, h1]
theorem nb_none : nb 0 0 true = (0, 0, true) := by decide
end Go.Proofs.Ytbaedcjophgiiaa.Q
end

section
/- Package bound at one type of numbers in plain numbers: which bounds are valid, and what the smallest functions answer; no conditions but 64 bits where they are named. -/
namespace Go.Proofs.Ytbaedcjophgiiaa.Q
open Go.RowKit Go.Proofs.YtbaedcjophgiiaaW.PrintWords Go.Proofs.YtbaedcjophgiiaaW.PrintLast Go.Proofs.YtbaedcjophgiiaaW.PrintMore
set_option linter.unusedVariables false
set_option linter.unusedSimpArgs false

theorem check_api_Arc (lo hi : Int) (u : Bool) : ∃ e : Int, Ev (fun k => bound_Check_api_Arc.f k lo hi u) e ∧ (e = 0 ↔ vb lo hi u = true) := by
  have J1 : ∀ b : Bool, ∃ e : Int, Ev (fun k => bound_Check_api_Arc.j1 k b lo hi u) e ∧ (e = 0 ↔ (b = false ∧ lo ≤ hi)) := by
    intro b
    cases b
    · by_cases c : lo > hi
      · exact ⟨11, one_ev fun k => by rw [bound_Check_api_Arc.j1, if_neg (by decide), if_pos c], by omega⟩
      · exact ⟨0, one_ev fun k => by rw [bound_Check_api_Arc.j1, if_neg (by decide), if_neg c], by simp; omega⟩
    · exact ⟨4, one_ev fun k => by rw [bound_Check_api_Arc.j1, if_pos rfl], by simp⟩
  have J0 : ∀ b : Bool, ∃ e : Int, Ev (fun k => bound_Check_api_Arc.j0 k b lo hi u) e ∧ (e = 0 ↔ (b = false ∧ -1152921504606846976 ≤ lo ∧ lo ≤ hi ∧ hi ≤ 1152921504606846976)) := by
    intro b
    cases b
    · by_cases c : mn lo hi < -1152921504606846976
      · obtain ⟨e, he, h⟩ := J1 true
        refine ⟨e, Ev.step (fun k => by rw [bound_Check_api_Arc.j0, if_neg (by decide), if_pos c]) he, ?_⟩
        unfold mn at c
        rw [h]; simp; split at c <;> omega
      · obtain ⟨e, he, h⟩ := J1 (decide ((mx lo hi) > 1152921504606846976))
        refine ⟨e, Ev.step (fun k => by rw [bound_Check_api_Arc.j0, if_neg (by decide), if_neg c]) he, ?_⟩
        unfold mn at c
        rw [h]; unfold mx; simp only [decide_eq_false_iff_not, true_and]
        split at c <;> split <;> omega
    · exact ⟨3, one_ev fun k => by rw [bound_Check_api_Arc.j0, if_pos rfl], by simp⟩
  unfold bound_Check_api_Arc.f vb
  cases u
  · obtain ⟨e, he, h⟩ := J0 false
    refine ⟨e, Ev.congr (fun k => by rw [if_neg (by decide)]) he, ?_⟩
    rw [h]; simp; omega
  · by_cases z : lo = 0
    · obtain ⟨e, he, h⟩ := J0 (hi != 0)
      refine ⟨e, Ev.congr (fun k => by rw [if_pos rfl, if_pos z]) he, ?_⟩
      rw [h]
      simp [z]
      intro h'; omega
    · obtain ⟨e, he, h⟩ := J0 true
      refine ⟨e, Ev.congr (fun k => by rw [if_pos rfl, if_neg z]) he, ?_⟩
      rw [h]; simp [z]

theorem norm_api_Arc (lo hi : Int) (u : Bool) : Ev (fun k => bound_Norm_api_Arc.f k lo hi u) (nb lo hi u) := by
  obtain ⟨e, he, h⟩ := check_api_Arc lo hi u
  unfold bound_Norm_api_Arc.f nb
  refine Ev.bind he ?_
  by_cases c : e = 0
  · rw [if_pos (h.mp c)]; exact pos_ev c (Ev.now _)
  · rw [if_neg (fun h' => c (h.mpr h'))]; exact neg_ev c (now_ev fun k => by unfold bound_None_api_Arc.f; rfl)
end Go.Proofs.Ytbaedcjophgiiaa.Q
end

section
/- Package bound at one type of numbers in plain numbers: which bounds are valid, and what the smallest functions answer; no conditions but 64 bits where they are named. -/
namespace Go.Proofs.Ytbaedcjophgiiaa.Q
open Go.RowKit Go.Proofs.YtbaedcjophgiiaaW.PrintWords Go.Proofs.YtbaedcjophgiiaaW.PrintLast Go.Proofs.YtbaedcjophgiiaaW.PrintMore
set_option linter.unusedVariables false
set_option linter.unusedSimpArgs false

theorem check_api_Fix (lo hi : Int) (u : Bool) : ∃ e : Int, Ev (fun k => bound_Check_api_Fix.f k lo hi u) e ∧ (e = 0 ↔ vb lo hi u = true) := by
  have J1 : ∀ b : Bool, ∃ e : Int, Ev (fun k => bound_Check_api_Fix.j1 k b lo hi u) e ∧ (e = 0 ↔ (b = false ∧ lo ≤ hi)) := by
    intro b
    cases b
    · by_cases c : lo > hi
      · exact ⟨11, one_ev fun k => by rw [bound_Check_api_Fix.j1, if_neg (by decide), if_pos c], by omega⟩
      · exact ⟨0, one_ev fun k => by rw [bound_Check_api_Fix.j1, if_neg (by decide), if_neg c], by simp; omega⟩
    · exact ⟨4, one_ev fun k => by rw [bound_Check_api_Fix.j1, if_pos rfl], by simp⟩
  have J0 : ∀ b : Bool, ∃ e : Int, Ev (fun k => bound_Check_api_Fix.j0 k b lo hi u) e ∧ (e = 0 ↔ (b = false ∧ -1152921504606846976 ≤ lo ∧ lo ≤ hi ∧ hi ≤ 1152921504606846976)) := by
    intro b
    cases b
    · by_cases c : mn lo hi < -1152921504606846976
      · obtain ⟨e, he, h⟩ := J1 true
        refine ⟨e, Ev.step (fun k => by rw [bound_Check_api_Fix.j0, if_neg (by decide), if_pos c]) he, ?_⟩
        unfold mn at c
        rw [h]; simp; split at c <;> omega
      · obtain ⟨e, he, h⟩ := J1 (decide ((mx lo hi) > 1152921504606846976))
        refine ⟨e, Ev.step (fun k => by rw [bound_Check_api_Fix.j0, if_neg (by decide), if_neg c]) he, ?_⟩
        unfold mn at c
        rw [h]; unfold mx; simp only [decide_eq_false_iff_not, true_and]
        split at c <;> split <;> omega
    · exact ⟨3, one_ev fun k => by rw [bound_Check_api_Fix.j0, if_pos rfl], by simp⟩
  unfold bound_Check_api_Fix.f vb
  cases u
  · obtain ⟨e, he, h⟩ := J0 false
    refine ⟨e, Ev.congr (fun k => by rw [if_neg (by decide)]) he, ?_⟩
    rw [h]; simp; omega
  · by_cases z : lo = 0
    · obtain ⟨e, he, h⟩ := J0 (hi != 0)
      refine ⟨e, Ev.congr (fun k => by rw [if_pos rfl, if_pos z]) he, ?_⟩
      rw [h]
      simp [z]
      intro h'; omega
    · obtain ⟨e, he, h⟩ := J0 true
      refine ⟨e, Ev.congr (fun k => by rw [if_pos rfl, if_neg z]) he, ?_⟩
      rw [h]; simp [z]

theorem norm_api_Fix (lo hi : Int) (u : Bool) : Ev (fun k => bound_Norm_api_Fix.f k lo hi u) (nb lo hi u) := by
  obtain ⟨e, he, h⟩ := check_api_Fix lo hi u
  unfold bound_Norm_api_Fix.f nb
  refine Ev.bind he ?_
  by_cases c : e = 0
  · rw [if_pos (h.mp c)]; exact pos_ev c (Ev.now _)
  · rw [if_neg (fun h' => c (h.mpr h'))]; exact neg_ev c (now_ev fun k => by unfold bound_None_api_Fix.f; rfl)
end Go.Proofs.Ytbaedcjophgiiaa.Q
end

section
/- Package bound at one type of numbers in plain numbers: vague, Of, Has and Inside; no other condition. -/
namespace Go.Proofs.Ytbaedcjophgiiaa.Q
open Go.RowKit Go.Proofs.YtbaedcjophgiiaaW.PrintWords Go.Proofs.YtbaedcjophgiiaaW.PrintLast Go.Proofs.YtbaedcjophgiiaaW.PrintMore
set_option linter.unusedVariables false
set_option linter.unusedSimpArgs false

theorem vague_api_Fix (lo hi : Int) (u : Bool) (lo2 hi2 : Int) (u2 : Bool) : Ev (fun k => bound_vague_api_Fix.f k lo hi u lo2 hi2 u2) ((nb lo hi u).2.2 || (nb lo2 hi2 u2).2.2) := by
  unfold bound_vague_api_Fix.f
  refine Ev.bind (norm_api_Fix lo hi u) ?_
  by_cases c : (nb lo hi u).2.2 = true
  · rw [c]; exact pos_ev rfl (Ev.now _)
  · rw [Bool.not_eq_true] at c
    rw [c]; refine neg_ev (by decide) (Ev.bind (norm_api_Fix lo2 hi2 u2) (Ev.now _))
theorem of_api_Fix (lo hi : Int) : Ev (fun k => bound_Of_api_Fix.f k lo hi) (nb lo hi false) := by
  unfold bound_Of_api_Fix.f
  exact Ev.bind (norm_api_Fix lo hi false) (Ev.now _)
theorem nbu_api_Fix {lo hi : Int} {u : Bool} (h : (nb lo hi u).2.2 = false) : u = false := by
  cases u
  · rfl
  · unfold nb at h; split at h <;> simp_all
theorem has_api_Fix {lo hi v : Int} {u : Bool} (h : (nb lo hi u).2.2 = false → lo ≤ v ∧ v ≤ hi) : Ev (fun k => bound_Has_api_Fix.f k lo hi u v) true := by
  unfold bound_Has_api_Fix.f
  refine Ev.bind (vague_api_Fix lo hi u lo hi u) ?_
  by_cases c : ((nb lo hi u).2.2 || (nb lo hi u).2.2) = true
  · exact pos_ev c (Ev.now _)
  · refine neg_ev c ?_
    obtain ⟨h0, h1⟩ := h (by simpa using c)
    exact pos_ev h0 (now_ev fun k => by rw [decide_eq_true h1])
theorem inside_api_Fix {lo hi lo2 hi2 : Int} {u u2 : Bool} (h : (nb lo2 hi2 u2).2.2 = false → (nb lo hi u).2.2 = false ∧ lo2 ≤ lo ∧ hi ≤ hi2) : Ev (fun k => bound_Inside_api_Fix.f k lo hi u lo2 hi2 u2) true := by
  unfold bound_Inside_api_Fix.f
  refine Ev.bind (vague_api_Fix lo2 hi2 u2 lo2 hi2 u2) ?_
  by_cases c : ((nb lo2 hi2 u2).2.2 || (nb lo2 hi2 u2).2.2) = true
  · exact pos_ev c (Ev.now _)
  · obtain ⟨h0, h1, h2⟩ := h (by simpa using c)
    refine neg_ev c (Ev.bind (vague_api_Fix lo hi u lo hi u) (neg_ev (by simp [h0]) (pos_ev h1 (now_ev fun k => by rw [decide_eq_true h2]))))
end Go.Proofs.Ytbaedcjophgiiaa.Q
end

section
/- Sines between two angles, in plain numbers: between two troughs none is smaller than at both ends, between two peaks none greater. -/
namespace Go.Proofs.Ytbaedcjophgiiaa.Q
open Go.RowKit Go.Proofs.YtbaedcjophgiiaaW.PrintWords Go.Proofs.YtbaedcjophgiiaaW.PrintLast Go.Proofs.YtbaedcjophgiiaaW.PrintMore
set_option linter.unusedVariables false
set_option linter.unusedSimpArgs false

theorem sn_zero : sn 0 = 0 := by rw [sn_q1 (by decide) (by decide), qt_zero]
theorem sn_inc {x y : Int} (h0 : -1073741824 ≤ x) (h : x ≤ y) (h1 : y ≤ 1073741824) : sn x ≤ sn y := by
  by_cases a : 0 ≤ x
  · exact sn_up a h h1
  · have p : -sn (-x) ≤ 0 := by have := sn_up (m := 0) (m' := -x) (by decide) (by omega) (by omega); rw [sn_zero] at this; omega
    have ex : sn x = -sn (-x) := by rw [← sn_neg, Int.neg_neg]
    by_cases b : y ≤ 0
    · have := sn_up (m := -y) (m' := -x) (by omega) (by omega) (by omega)
      have ey : sn y = -sn (-y) := by rw [← sn_neg, Int.neg_neg]
      omega
    · have := sn_up (m := 0) (m' := y) (by decide) (by omega) (by omega)
      rw [sn_zero] at this; omega
/-- Between two troughs. -/
theorem sn_mid {lo x hi : Int} (h0 : lo ≤ x) (h1 : x ≤ hi) (no : ¬ ∃ k : Int, lo ≤ 3221225472 + k * 4294967296 ∧ 3221225472 + k * 4294967296 ≤ hi) : sn lo ≤ sn x ∨ sn hi ≤ sn x := by
  obtain ⟨k, hk⟩ : ∃ k : Int, k = (lo + 1073741824) / 4294967296 := ⟨_, rfl⟩
  have n1 : ¬ (lo ≤ 3221225472 + k * 4294967296 ∧ 3221225472 + k * 4294967296 ≤ hi) := fun h => no ⟨k, h⟩
  have n2 : ¬ (lo ≤ 3221225472 + (k - 1) * 4294967296 ∧ 3221225472 + (k - 1) * 4294967296 ≤ hi) := fun h => no ⟨k - 1, h⟩
  have e (y : Int) : sn y = sn (y - k * 4294967296) := sn_mod (by omega)
  rw [e lo, e x, e hi]
  by_cases c : x - k * 4294967296 ≤ 1073741824
  · exact .inl (sn_inc (by omega) (by omega) c)
  · refine .inr ?_
    rw [← sn_supp (hi - _), ← sn_supp (x - _)]
    exact sn_inc (by omega) (by omega) (by omega)
theorem sn_top {lo x hi : Int} (h0 : lo ≤ x) (h1 : x ≤ hi) (no : ¬ ∃ k : Int, lo ≤ 1073741824 + k * 4294967296 ∧ 1073741824 + k * 4294967296 ≤ hi) : sn x ≤ sn lo ∨ sn x ≤ sn hi := by
  have := sn_mid (lo := lo + 2147483648) (x := x + 2147483648) (hi := hi + 2147483648) (by omega) (by omega) (fun ⟨k, a, b⟩ => no ⟨k, by omega, by omega⟩)
  rw [sn_half, sn_half, sn_half] at this
  omega
/-- Whether an angle of a bound differs from c by whole turns. -/
def mt (lo hi c : Int) : Bool := decide ((hi - c) / 4294967296 ≥ upq (lo - c) 4294967296)
theorem mt_iff {lo hi c : Int} : mt lo hi c = true ↔ ∃ k : Int, lo ≤ c + k * 4294967296 ∧ c + k * 4294967296 ≤ hi := by
  unfold mt upq
  rw [decide_eq_true_iff]
  constructor
  · intro h
    refine ⟨(hi - c) / 4294967296, ?_, by omega⟩
    split at h <;> omega
  · rintro ⟨k, a, b⟩
    split <;> omega
/-- A function that is between its values at the ends wherever no trough and no peak lies between. -/
structure Wave (f : Int → Int) (p : Int) : Prop where
  bd : ∀ x, -1073741824 ≤ f x ∧ f x ≤ 1073741824
  mid : ∀ lo x hi, lo ≤ x → x ≤ hi → (¬ ∃ k : Int, lo ≤ p + 2147483648 + k * 4294967296 ∧ p + 2147483648 + k * 4294967296 ≤ hi) → f lo ≤ f x ∨ f hi ≤ f x
  top : ∀ lo x hi, lo ≤ x → x ≤ hi → (¬ ∃ k : Int, lo ≤ p + k * 4294967296 ∧ p + k * 4294967296 ≤ hi) → f x ≤ f lo ∨ f x ≤ f hi
theorem wave_sn : Wave sn 1073741824 := ⟨sn_bd, fun _ _ _ a b c => sn_mid a b c, fun _ _ _ a b c => sn_top a b c⟩
theorem wave_cs : Wave cs 0 := ⟨cs_bd, fun lo x hi a b c => by
    rw [cs_sn, cs_sn, cs_sn]
    exact sn_mid (by omega) (by omega) (fun ⟨k, h0, h1⟩ => c ⟨k, by omega, by omega⟩), fun lo x hi a b c => by
    rw [cs_sn, cs_sn, cs_sn]
    exact sn_top (by omega) (by omega) (fun ⟨k, h0, h1⟩ => c ⟨k, by omega, by omega⟩)⟩
def wlo (f : Int → Int) (p lo hi : Int) : Int := if mt lo hi (p + 2147483648) = true then -1073741824 else mx (-1073741824) (mn (f lo) (f hi) - 1)
def whi (f : Int → Int) (p lo hi : Int) : Int := if mt lo hi p = true then 1073741824 else mn 1073741824 (mx (f lo) (f hi) + 1)
theorem mt_wider {lo hi lo2 hi2 c : Int} (h0 : lo2 ≤ lo) (h1 : hi ≤ hi2) (h : mt lo hi c = true) : mt lo2 hi2 c = true := by
  obtain ⟨k, a, b⟩ := mt_iff.mp h
  exact mt_iff.mpr ⟨k, by omega, by omega⟩
theorem wave_bd {f : Int → Int} {p : Int} (W : Wave f p) (lo hi : Int) : -1073741824 ≤ wlo f p lo hi ∧ wlo f p lo hi ≤ whi f p lo hi ∧ whi f p lo hi ≤ 1073741824 := by
  have a := W.bd lo
  have b := W.bd hi
  unfold wlo whi mn mx
  refine ⟨?_, ?_, ?_⟩ <;> (repeat' split) <;> omega
theorem wave_narrow {f : Int → Int} {p lo hi lo2 hi2 : Int} (W : Wave f p) (h0 : lo2 ≤ lo) (h : lo ≤ hi) (h1 : hi ≤ hi2) : wlo f p lo2 hi2 ≤ wlo f p lo hi ∧ whi f p lo hi ≤ whi f p lo2 hi2 := by
  have a := W.bd lo
  have b := W.bd hi
  have a2 := W.bd lo2
  have b2 := W.bd hi2
  constructor
  · unfold wlo
    by_cases c : mt lo2 hi2 (p + 2147483648) = true
    · rw [if_pos c]; unfold mx; (repeat' split) <;> omega
    · rw [if_neg c, if_neg (fun h' => c (mt_wider h0 h1 h'))]
      have x := W.mid lo2 lo hi2 h0 (by omega) (fun h' => c (mt_iff.mpr h'))
      have y := W.mid lo2 hi hi2 (by omega) h1 (fun h' => c (mt_iff.mpr h'))
      unfold mx mn; (repeat' split) <;> omega
  · unfold whi
    by_cases c : mt lo2 hi2 p = true
    · rw [if_pos c]; unfold mn; (repeat' split) <;> omega
    · rw [if_neg c, if_neg (fun h' => c (mt_wider h0 h1 h'))]
      have x := W.top lo2 lo hi2 h0 (by omega) (fun h' => c (mt_iff.mpr h'))
      have y := W.top lo2 hi hi2 (by omega) h1 (fun h' => c (mt_iff.mpr h'))
      unfold mx mn; (repeat' split) <;> omega
theorem wave_has {f : Int → Int} {p lo x hi : Int} (W : Wave f p) (h0 : lo ≤ x) (h1 : x ≤ hi) : wlo f p lo hi ≤ f x ∧ f x ≤ whi f p lo hi := by
  have e := wave_narrow (lo := x) (hi := x) W h0 (Int.le_refl x) h1
  have b := W.bd x
  have z : wlo f p x x ≤ f x ∧ f x ≤ whi f p x x := by
    unfold wlo whi mx mn
    constructor <;> (repeat' split) <;> omega
  omega
end Go.Proofs.Ytbaedcjophgiiaa.Q
end

section
/- Quotients rounded down and up by a positive number, in plain numbers; the bounds stand in each statement. -/
namespace Go.Proofs.Ytbaedcjophgiiaa.Q
open Go.RowKit Go.Proofs.YtbaedcjophgiiaaW.PrintWords Go.Proofs.YtbaedcjophgiiaaW.PrintLast Go.Proofs.YtbaedcjophgiiaaW.PrintMore
set_option linter.unusedVariables false
set_option linter.unusedSimpArgs false

theorem floordiv {a d : Int} (h0 : -9223372036854775807 ≤ a) (h1 : a ≤ 9223372036854775807) (hd : 1 ≤ d) : num_FloorDiv.f a d = some (a / d) := by
  unfold num_FloorDiv.f
  rw [if_neg (by omega), if_neg (by omega)]
  by_cases z : 0 ≤ a
  · have q := div_bd (v := a) (d := d) z (by omega)
    have m := Int.emod_nonneg a (show d ≠ 0 by omega)
    rw [tmod_eq z, tdiv_eq z, if_neg (by omega), w64_id (by omega) (by omega)]
  · have q := div_bd (v := -a) (d := d) (by omega) (by omega)
    have m := Int.emod_nonneg (-a) (show d ≠ 0 by omega)
    have n := (neg_div (v := a) (d := d) (by omega)).1
    rw [show Int.tmod a d = -(-a % d) by rw [← tmod_eq (by omega), Int.neg_tmod, Int.neg_neg], show Int.tdiv a d = -(-a / d) by rw [← tdiv_eq (by omega), Int.neg_tdiv, Int.neg_neg]]
    rw [w64_id (x := -(-a / d)) (by omega) (by omega), w64_id (x := -(-a / d) - 1) (by omega) (by omega), n]
    by_cases c : -a % d = 0
    · rw [if_neg (by omega), if_pos c]
    · rw [if_pos (by omega), if_neg c]

theorem ceildiv {a d : Int} (h0 : -9223372036854775807 ≤ a) (h1 : a ≤ 9223372036854775806) (hd : 1 ≤ d) : num_CeilDiv.f a d = some (upq a d) := by
  unfold num_CeilDiv.f upq
  rw [if_neg (by omega), if_neg (by omega)]
  by_cases z : 0 ≤ a
  · have q := div_bd (v := a) (d := d) z (by omega)
    have m := Int.emod_nonneg a (show d ≠ 0 by omega)
    rw [tmod_eq z, tdiv_eq z, w64_id (x := a / d) (by omega) (by omega), w64_id (x := a / d + 1) (by omega) (by omega)]
    by_cases c : a % d = 0
    · rw [if_neg (by omega), if_pos c]
    · rw [if_pos (by omega), if_neg c]
  · have q := div_bd (v := -a) (d := d) (by omega) (by omega)
    have m := Int.emod_nonneg (-a) (show d ≠ 0 by omega)
    have m' := Int.emod_lt_of_pos (-a) (show 0 < d by omega)
    have n := neg_div (v := a) (d := d) (by omega)
    rw [show Int.tmod a d = -(-a % d) by rw [← tmod_eq (by omega), Int.neg_tmod, Int.neg_neg], show Int.tdiv a d = -(-a / d) by rw [← tdiv_eq (by omega), Int.neg_tdiv, Int.neg_neg]]
    rw [if_neg (by omega), w64_id (x := -(-a / d)) (by omega) (by omega), n.1, n.2]
    by_cases c : -a % d = 0
    · rw [if_pos c, if_pos c, if_pos rfl]
    · rw [if_neg c, if_neg c, if_neg (by omega)]
      congr 1; omega
end Go.Proofs.Ytbaedcjophgiiaa.Q
end

section
/- Whether an angle of a bound differs from another one by whole turns: what trig.meets answers; the bounds stand in the statement. -/
namespace Go.Proofs.Ytbaedcjophgiiaa.Q
open Go.RowKit Go.Proofs.YtbaedcjophgiiaaW.PrintWords Go.Proofs.YtbaedcjophgiiaaW.PrintLast Go.Proofs.YtbaedcjophgiiaaW.PrintMore
set_option linter.unusedVariables false
theorem meets_some {lo hi c : Int} {u : Bool} (h0 : -1152921504606846976 ≤ lo) (h1 : lo ≤ 1152921504606846976) (h2 : -1152921504606846976 ≤ hi) (h3 : hi ≤ 1152921504606846976) (c0 : -4294967296 ≤ c) (c1 : c ≤ 4294967296) :
    trig_meets.f lo hi u c = some (mt lo hi c) := by
  unfold trig_meets.f mt
  rw [w64_id (x := hi - c) (by omega) (by omega), w64_id (x := lo - c) (by omega) (by omega), floordiv (by omega) (by omega) (by decide), Option.bind_some, ceildiv (by omega) (by omega) (by decide), Option.bind_some]
end Go.Proofs.Ytbaedcjophgiiaa.Q
end

section
/- The bound of a wave in plain numbers, for one function: what trig.wave tells for a valid bound; the bounds stand in each statement. -/
namespace Go.Proofs.Ytbaedcjophgiiaa.Q
open Go.RowKit Go.Proofs.YtbaedcjophgiiaaW.PrintWords Go.Proofs.YtbaedcjophgiiaaW.PrintLast Go.Proofs.YtbaedcjophgiiaaW.PrintMore
set_option linter.unusedVariables false
set_option linter.unusedSimpArgs false

theorem wave_Sin {lo hi : Int} (h0 : -1152921504606846976 ≤ lo) (h : lo ≤ hi) (h1 : hi ≤ 1152921504606846976) :
    Ev (fun k => trig_SinBound.f k lo hi false) (wlo sn 1073741824 lo hi, whi sn 1073741824 lo hi, false) := by
  obtain ⟨a0, a1⟩ := (wave_sn).bd lo
  obtain ⟨b0, b1⟩ := (wave_sn).bd hi
  have bd := wave_bd wave_sn lo hi
  unfold trig_SinBound.f trig_wave__trig_Sin.f
  refine Ev.bind (a := (wlo sn 1073741824 lo hi, whi sn 1073741824 lo hi, false)) (Ev.bind (norm_api_Arc lo hi false) ?_) (Ev.now _)
  rw [nb_ok h0 h h1]
  refine neg_ev (by simp) (Ev.bind (sin_ev (by simp only; omega) (by simp only; omega)) (Ev.bind (sin_ev (by simp only; omega) (by simp only; omega)) (some_ev (meets_some (c := 1073741824) (by simp only; omega) (by simp only; omega) (by simp only; omega) (by simp only; omega) (by decide) (by decide)) ?_)))
  simp only
  have m : -1073741824 ≤ mn (sn lo) (sn hi) ∧ mn (sn lo) (sn hi) ≤ 1073741824 := by unfold mn; split <;> omega
  have x : -1073741824 ≤ mx (sn lo) (sn hi) ∧ mx (sn lo) (sn hi) ≤ 1073741824 := by unfold mx; split <;> omega
  rw [w64_id (x := mn _ _ - 1) (by omega) (by omega), w64_id (x := mx _ _ + 1) (by omega) (by omega)]
  have J : ∀ A B : Int, wlo sn 1073741824 lo hi = (if mt lo hi (1073741824 + 2147483648) = true then -1073741824 else A) → B = whi sn 1073741824 lo hi → Ev (fun k => trig_wave__trig_Sin.j0 k 1073741824 A B lo hi false) (wlo sn 1073741824 lo hi, whi sn 1073741824 lo hi, false) := by
    intro A B hA hB
    have step : ∀ k, trig_wave__trig_Sin.j0 (k + 1) 1073741824 A B lo hi false = (bound_Of_api_Fix.f k (wlo sn 1073741824 lo hi) (whi sn 1073741824 lo hi)).bind fun b => some (b.1, b.2.1, b.2.2) := by
      intro k
      rw [trig_wave__trig_Sin.j0, w64_id (x := 1073741824 + 2147483648) (by decide) (by decide), meets_some (c := 1073741824 + 2147483648) (by omega) (by omega) (by omega) (by omega) (by decide) (by decide), Option.bind_some, hA, hB]
      by_cases c : mt lo hi (1073741824 + 2147483648) = true
      · rw [if_pos c, if_pos c]
      · rw [if_neg c, if_neg c]
    refine Ev.step step (Ev.bind (of_api_Fix _ _) ?_)
    rw [nb_ok (by omega) (by omega) (by omega)]
    exact Ev.now _
  by_cases c : mt lo hi 1073741824 = true
  · exact pos_ev c (J _ _ rfl (by unfold whi; rw [if_pos c]))
  · exact neg_ev c (J _ _ rfl (by unfold whi; rw [if_neg c]))
theorem wave_Sin_none : Ev (fun k => trig_SinBound.f k 0 0 true) (0, 0, true) := by
  unfold trig_SinBound.f trig_wave__trig_Sin.f
  refine Ev.bind (a := (0, 0, true)) (Ev.bind (norm_api_Arc 0 0 true) ?_) (Ev.now _)
  rw [nb_none]
  exact pos_ev rfl (now_ev fun k => by unfold bound_None_api_Fix.f; rfl)
end Go.Proofs.Ytbaedcjophgiiaa.Q
end

section
/- The bound of a wave in plain numbers, for one function: what trig.wave tells for a valid bound; the bounds stand in each statement. -/
namespace Go.Proofs.Ytbaedcjophgiiaa.Q
open Go.RowKit Go.Proofs.YtbaedcjophgiiaaW.PrintWords Go.Proofs.YtbaedcjophgiiaaW.PrintLast Go.Proofs.YtbaedcjophgiiaaW.PrintMore
set_option linter.unusedVariables false
set_option linter.unusedSimpArgs false

theorem wave_Cos {lo hi : Int} (h0 : -1152921504606846976 ≤ lo) (h : lo ≤ hi) (h1 : hi ≤ 1152921504606846976) :
    Ev (fun k => trig_CosBound.f k lo hi false) (wlo cs 0 lo hi, whi cs 0 lo hi, false) := by
  obtain ⟨a0, a1⟩ := (wave_cs).bd lo
  obtain ⟨b0, b1⟩ := (wave_cs).bd hi
  have bd := wave_bd wave_cs lo hi
  unfold trig_CosBound.f trig_wave__trig_Cos.f
  refine Ev.bind (a := (wlo cs 0 lo hi, whi cs 0 lo hi, false)) (Ev.bind (norm_api_Arc lo hi false) ?_) (Ev.now _)
  rw [nb_ok h0 h h1]
  refine neg_ev (by simp) (Ev.bind (cos_ev (by simp only; omega) (by simp only; omega)) (Ev.bind (cos_ev (by simp only; omega) (by simp only; omega)) (some_ev (meets_some (c := 0) (by simp only; omega) (by simp only; omega) (by simp only; omega) (by simp only; omega) (by decide) (by decide)) ?_)))
  simp only
  have m : -1073741824 ≤ mn (cs lo) (cs hi) ∧ mn (cs lo) (cs hi) ≤ 1073741824 := by unfold mn; split <;> omega
  have x : -1073741824 ≤ mx (cs lo) (cs hi) ∧ mx (cs lo) (cs hi) ≤ 1073741824 := by unfold mx; split <;> omega
  rw [w64_id (x := mn _ _ - 1) (by omega) (by omega), w64_id (x := mx _ _ + 1) (by omega) (by omega)]
  have J : ∀ A B : Int, wlo cs 0 lo hi = (if mt lo hi (0 + 2147483648) = true then -1073741824 else A) → B = whi cs 0 lo hi → Ev (fun k => trig_wave__trig_Cos.j0 k 0 A B lo hi false) (wlo cs 0 lo hi, whi cs 0 lo hi, false) := by
    intro A B hA hB
    have step : ∀ k, trig_wave__trig_Cos.j0 (k + 1) 0 A B lo hi false = (bound_Of_api_Fix.f k (wlo cs 0 lo hi) (whi cs 0 lo hi)).bind fun b => some (b.1, b.2.1, b.2.2) := by
      intro k
      rw [trig_wave__trig_Cos.j0, w64_id (x := 0 + 2147483648) (by decide) (by decide), meets_some (c := 0 + 2147483648) (by omega) (by omega) (by omega) (by omega) (by decide) (by decide), Option.bind_some, hA, hB]
      by_cases c : mt lo hi (0 + 2147483648) = true
      · rw [if_pos c, if_pos c]
      · rw [if_neg c, if_neg c]
    refine Ev.step step (Ev.bind (of_api_Fix _ _) ?_)
    rw [nb_ok (by omega) (by omega) (by omega)]
    exact Ev.now _
  by_cases c : mt lo hi 0 = true
  · exact pos_ev c (J _ _ rfl (by unfold whi; rw [if_pos c]))
  · exact neg_ev c (J _ _ rfl (by unfold whi; rw [if_neg c]))
theorem wave_Cos_none : Ev (fun k => trig_CosBound.f k 0 0 true) (0, 0, true) := by
  unfold trig_CosBound.f trig_wave__trig_Cos.f
  refine Ev.bind (a := (0, 0, true)) (Ev.bind (norm_api_Arc 0 0 true) ?_) (Ev.now _)
  rw [nb_none]
  exact pos_ev rfl (now_ev fun k => by unfold bound_None_api_Fix.f; rfl)
end Go.Proofs.Ytbaedcjophgiiaa.Q
end

section
/- Bounds out of the stream of numbers, in plain numbers: what spymake.Bound and spymake.Within answer; the bounds stand in each statement. -/
namespace Go.Proofs.Ytbaedcjophgiiaa.Q
open Go.RowKit Go.Proofs.YtbaedcjophgiiaaW.PrintWords Go.Proofs.YtbaedcjophgiiaaW.PrintLast Go.Proofs.YtbaedcjophgiiaaW.PrintMore
set_option linter.unusedVariables false
set_option linter.unusedSimpArgs false

/-- A bound that is drawn: unknown, or of small numbers. -/
theorem bound_api_Arc (l : List Int) {p m : Int} (hl : l.length ≤ 9223372036854775807) (p0 : 0 ≤ p) (p1 : p < 4611686018427380000) (m0 : 0 ≤ m) (m1 : m ≤ 1152921504606846976) :
    ∃ lo hi u q, spymake_Bound_api_Arc.f l p m = some (lo, hi, u, q) ∧ p ≤ q ∧ q ≤ p + 3 ∧ (u = true ∧ lo = 0 ∧ hi = 0 ∨ u = false ∧ -m ≤ lo ∧ lo ≤ hi ∧ hi ≤ m) := by
  unfold spymake_Bound_api_Arc.f
  obtain ⟨v, hv, v0, v1⟩ := next_in l (at_ := p) (n := 8) hl p0 (by omega) (by decide) (by decide)
  rw [hv, Option.bind_some, w64_id (x := -m) (by omega) (by omega)]
  simp only
  by_cases c : v = 0
  · exact ⟨0, 0, true, p + 1, by rw [if_pos c], by omega, by omega, .inl ⟨rfl, rfl, rfl⟩⟩
  · rw [if_neg c]
    obtain ⟨a, ha, a0, a1⟩ := range_in l (at_ := p + 1) (lo := -m) (hi := m) hl (by omega) (by omega) (by omega) (by omega) (by omega)
    by_cases d : v = 1
    · exact ⟨a, a, false, p + 2, by rw [if_pos d, ha, Option.bind_some, show p + 1 + 1 = p + 2 by omega], by omega, by omega, .inr ⟨rfl, a0, Int.le_refl _, a1⟩⟩
    · obtain ⟨b, hb, b0, b1⟩ := range_in l (at_ := p + 1 + 1) (lo := -m) (hi := m) hl (by omega) (by omega) (by omega) (by omega) (by omega)
      refine ⟨mn a b, mx a b, false, p + 3, ?_, by omega, by omega, .inr ⟨rfl, ?_, ?_, ?_⟩⟩
      · rw [if_neg d, ha, Option.bind_some, hb, Option.bind_some, show p + 1 + 1 + 1 = p + 3 by omega]
      · unfold mn; split <;> omega
      · unfold mn mx; split <;> split <;> omega
      · unfold mx; split <;> omega
/-- A narrower bound that is drawn. -/
theorem within_api_Arc (l : List Int) {p lo hi : Int} {u : Bool} (hl : l.length ≤ 9223372036854775807) (p0 : 0 ≤ p) (p1 : p < 4611686018427370000) (h : u = true ∧ lo = 0 ∧ hi = 0 ∨ u = false ∧ -1152921504606846976 ≤ lo ∧ lo ≤ hi ∧ hi ≤ 1152921504606846976) :
    ∃ lo2 hi2 u2 q, spymake_Within_api_Arc.f l p lo hi u = some (lo2, hi2, u2, q) ∧ p ≤ q ∧ q ≤ p + 4 ∧ (u2 = true ∧ lo2 = 0 ∧ hi2 = 0 ∧ u = true ∨ u2 = false ∧ (u = true → -100 ≤ lo2 ∧ hi2 ≤ 100) ∧ lo2 ≤ hi2 ∧ (u = false → lo ≤ lo2 ∧ hi2 ≤ hi)) := by
  unfold spymake_Within_api_Arc.f
  rcases h with ⟨rfl, rfl, rfl⟩ | ⟨rfl, h0, h1, h2⟩
  · rw [if_pos rfl]
    obtain ⟨v, hv, v0, v1⟩ := next_in l (at_ := p) (n := 2) hl p0 (by omega) (by decide) (by decide)
    rw [hv, Option.bind_some]
    by_cases c : v = 0
    · exact ⟨0, 0, true, p + 1, by rw [if_pos c], by omega, by omega, .inl ⟨rfl, rfl, rfl, rfl⟩⟩
    · obtain ⟨lo2, hi2, u2, q, e, q0, q1, r⟩ := bound_api_Arc l (p := p + 1) (m := 100) hl (by omega) (by omega) (by decide) (by decide)
      refine ⟨lo2, hi2, u2, q, by rw [if_neg c, e, Option.bind_some], by omega, by omega, ?_⟩
      rcases r with ⟨rfl, rfl, rfl⟩ | ⟨rfl, r0, r1, r2⟩
      · exact .inl ⟨rfl, rfl, rfl, rfl⟩
      · exact .inr ⟨rfl, fun _ => ⟨r0, r2⟩, r1, fun h => by cases h⟩
  · rw [if_neg (by decide), w64_id (x := hi - lo) (by omega) (by omega)]
    obtain ⟨m, hm⟩ : ∃ m, m = mn (hi - lo) 536870912 := ⟨_, rfl⟩
    rw [← hm]
    have m0 : 0 ≤ m ∧ m ≤ hi - lo ∧ m ≤ 536870912 := by rw [hm]; unfold mn; split <;> omega
    rw [w64_id (x := m + 1) (by omega) (by omega)]
    obtain ⟨v, hv, v0, v1⟩ := next_in l (at_ := p) (n := m + 1) hl p0 (by omega) (by omega) (by omega)
    rw [hv, Option.bind_some]
    simp only
    obtain ⟨y, hy, y0, y1⟩ := range_in l (at_ := p + 1) (lo := v) (hi := m) hl (by omega) (by omega) (by omega) (by omega) (by omega)
    rw [hy, Option.bind_some]
    simp only
    rw [w64_id (x := lo + v) (by omega) (by omega), w64_id (x := lo + y) (by omega) (by omega)]
    exact ⟨_, _, _, _, rfl, by omega, by omega, .inr ⟨rfl, (fun h => by cases h), by omega, fun _ => ⟨by omega, by omega⟩⟩⟩
end Go.Proofs.Ytbaedcjophgiiaa.Q
end

section
/- TrigBoundsNarrow in plain numbers: for every stream of numbers the printed function answers true; no other condition. -/
namespace Go.Proofs.Ytbaedcjophgiiaa.Pure
open Go.RowKit Go.Proofs.Ytbaedcjophgiiaa.Q Go.Proofs.YtbaedcjophgiiaaW.PrintWords Go.Proofs.YtbaedcjophgiiaaW.PrintLast
set_option linter.unusedVariables false
set_option linter.unusedSimpArgs false

/-- What is told of a sine's bound: unknown, or the wave's. -/
def told (f : Int → Int) (p lo hi : Int) (u : Bool) : Int × Int × Bool := if u = true then (0, 0, true) else (wlo f p lo hi, whi f p lo hi, false)
theorem sin_told {lo hi : Int} {u : Bool} (h : u = true ∧ lo = 0 ∧ hi = 0 ∨ u = false ∧ -1152921504606846976 ≤ lo ∧ lo ≤ hi ∧ hi ≤ 1152921504606846976) : Ev (fun k => trig_SinBound.f k lo hi u) (told sn 1073741824 lo hi u) := by
  rcases h with ⟨rfl, rfl, rfl⟩ | ⟨rfl, h0, h1, h2⟩
  · exact wave_Sin_none
  · exact wave_Sin h0 h1 h2
theorem cos_told {lo hi : Int} {u : Bool} (h : u = true ∧ lo = 0 ∧ hi = 0 ∨ u = false ∧ -1152921504606846976 ≤ lo ∧ lo ≤ hi ∧ hi ≤ 1152921504606846976) : Ev (fun k => trig_CosBound.f k lo hi u) (told cs 0 lo hi u) := by
  rcases h with ⟨rfl, rfl, rfl⟩ | ⟨rfl, h0, h1, h2⟩
  · exact wave_Cos_none
  · exact wave_Cos h0 h1 h2
theorem told_in {f : Int → Int} {p lo hi lo2 hi2 : Int} {u u2 : Bool} (W : Wave f p) (h : u = false → u2 = false ∧ lo ≤ lo2 ∧ lo2 ≤ hi2 ∧ hi2 ≤ hi) :
    Ev (fun k => bound_Inside_api_Fix.f k (told f p lo2 hi2 u2).1 (told f p lo2 hi2 u2).2.1 (told f p lo2 hi2 u2).2.2 (told f p lo hi u).1 (told f p lo hi u).2.1 (told f p lo hi u).2.2) true := by
  refine inside_api_Fix fun hn => ?_
  have hu := nbu_api_Fix hn
  cases u
  · obtain ⟨rfl, h0, h1, h2⟩ := h rfl
    have b := wave_bd W lo2 hi2
    obtain ⟨n0, n1⟩ := wave_narrow W h0 h1 h2
    unfold told
    simp only [Bool.false_eq_true, if_false]
    refine ⟨?_, n0, n1⟩
    rw [nb_ok (by omega) (by omega) (by omega)]
  · simp [told] at hu
theorem told_has {f : Int → Int} {p lo hi x : Int} (W : Wave f p) (h0 : lo ≤ x) (h1 : x ≤ hi) :
    Ev (fun k => bound_Has_api_Fix.f k (told f p lo hi false).1 (told f p lo hi false).2.1 (told f p lo hi false).2.2 (f x)) true := by
  refine has_api_Fix fun _ => ?_
  unfold told
  simp only [Bool.false_eq_true, if_false]
  exact wave_has W h0 h1

theorem TrigBoundsNarrow : spykeep1_TrigBoundsNarrow.Pure := by
  intro l most hm _ _ _
  have hl : l.length ≤ 9223372036854775807 := by have h := hm; unfold maxLen at h; omega
  refine Ev.rounds (r := true) ?_
  obtain ⟨i, hi, i0, i1⟩ := below_in (a := most) (n := 4) (by decide) (by decide)
  obtain ⟨m, hm, m0, m1⟩ : ∃ m, rd ([5, 1048576, 1073741824, 3221225472] : List Int) i = m ∧ 0 ≤ m ∧ m ≤ 3221225472 := by
    rcases (show i = 0 ∨ i = 1 ∨ i = 2 ∨ i = 3 by omega) with rfl | rfl | rfl | rfl
    · exact ⟨5, rfl, by decide, by decide⟩
    · exact ⟨1048576, rfl, by decide, by decide⟩
    · exact ⟨1073741824, rfl, by decide, by decide⟩
    · exact ⟨3221225472, rfl, by decide, by decide⟩
  obtain ⟨lo, hi', u, p, hB, p0, p1, A⟩ := bound_api_Arc l (p := 0) (m := m) hl (by decide) (by decide) m0 (by omega)
  have A' : u = true ∧ lo = 0 ∧ hi' = 0 ∨ u = false ∧ -1152921504606846976 ≤ lo ∧ lo ≤ hi' ∧ hi' ≤ 1152921504606846976 := by
    rcases A with A | ⟨a, b, c, d⟩
    · exact .inl A
    · exact .inr ⟨a, by omega, c, by omega⟩
  obtain ⟨lo2, hi2, u2, q, hW, q0, q1, C⟩ := within_api_Arc l (p := p) (lo := lo) (hi := hi') (u := u) hl (by omega) (by omega) A'
  have C' : u2 = true ∧ lo2 = 0 ∧ hi2 = 0 ∨ u2 = false ∧ -1152921504606846976 ≤ lo2 ∧ lo2 ≤ hi2 ∧ hi2 ≤ 1152921504606846976 := by
    rcases C with ⟨a, b, c, _⟩ | ⟨a, b, c, d⟩
    · exact .inl ⟨a, b, c⟩
    · refine .inr ⟨a, ?_, c, ?_⟩ <;> (cases u <;> simp_all <;> omega)
  have N : u = false → u2 = false ∧ lo ≤ lo2 ∧ lo2 ≤ hi2 ∧ hi2 ≤ hi' := by
    intro hu
    rcases C with ⟨_, _, _, c⟩ | ⟨a, b, c, d⟩
    · rw [hu] at c; cases c
    · exact ⟨a, (d hu).1, c, (d hu).2⟩
  unfold spykeep1_TrigBoundsNarrow.f
  refine some_ev rfl (some_ev hi (pos_ev i0 (pos_ev (by simp only [List.length_cons, List.length_nil]; omega) (some_ev (by rw [hm]; exact hB) (some_ev hW (Ev.bind trigFact_ev (pos_ev rfl (Ev.bind (sin_told C') (Ev.bind (sin_told A') (Ev.bind (told_in wave_sn N) (pos_ev rfl (Ev.bind (cos_told C') (Ev.bind (cos_told A') (Ev.bind (told_in wave_cs N) ?_))))))))))))))
  by_cases c : u = true
  · exact one_ev fun k => by rw [spykeep1_TrigBoundsNarrow.j0, if_neg (by decide), if_pos c]
  · rw [Bool.not_eq_true] at c
    subst c
    obtain ⟨h0, h1, h2⟩ : -1152921504606846976 ≤ lo ∧ lo ≤ hi' ∧ hi' ≤ 1152921504606846976 := by simpa using A'
    refine Ev.step (fun k => by rw [spykeep1_TrigBoundsNarrow.j0, if_neg (by decide), if_neg (by simp)]) ?_
    simp only
    exact Ev.bind (sin_told A') (Ev.bind (sin_ev (by omega) (by omega)) (Ev.bind (told_has wave_sn (Int.le_refl lo) h1) (pos_ev rfl (Ev.bind (cos_told A') (Ev.bind (cos_ev (by omega) (by omega)) (Ev.bind (told_has wave_cs h1 (Int.le_refl hi')) (Ev.now _)))))))
end Go.Proofs.Ytbaedcjophgiiaa.Pure
end
