/- math/bits.Div64 as printed returns the quotient and the remainder of hi * 2^64 + lo by y, for every y greater than hi. -/
import Derived.Test.YtoplbhohaaielaaDoorQx7
import Derived.Test.YtoplbhohaaielaaDoorM1
import Derived.Test.YtoplbhohaaielaaDoorM2
import Derived.Test.YtoplbhohaaielaaDoorM3
namespace Go.Proofs.YtoplbhohaaielaaDoor.Q
open Go.RowKit Go.Proofs.YtoplbhohaaielaaDoorW.PrintWords Go.Proofs.YtoplbhohaaielaaDoorW.PrintLast Go.Proofs.YtoplbhohaaielaaDoorW.PrintMore
set_option linter.unusedVariables false
set_option linter.unusedSimpArgs false

theorem shl64 {x : Int} {s : Nat} (hs : s ≤ 64) : shl .u64 x (s : Int) = (x * 2 ^ s) % 18446744073709551616 := by
  unfold shl; rw [uw, Int.toNat_natCast, show IntKind.u64.bits = 64 from rfl, Nat.min_eq_left hs]
theorem shr64 {x : Int} {s : Nat} (hs : s ≤ 64) : shr .u64 x (s : Int) = x / 2 ^ s := by
  unfold shr; rw [Int.toNat_natCast, show IntKind.u64.bits = 64 from rfl, Nat.min_eq_left hs]

theorem div64 {hi lo y : Int} (h0 : 0 ≤ hi) (h1 : hi < y) (h2 : y < 18446744073709551616) (l0 : 0 ≤ lo) (l1 : lo < 18446744073709551616) :
    Ev (fun k => bits_Div64.f k hi lo y) ((hi * 18446744073709551616 + lo) / y, (hi * 18446744073709551616 + lo) % y) := by
  by_cases hz : hi = 0
  · subst hz
    refine Ev.congr (f := fun _ => some (lo / y, lo % y)) (fun k => ?_) ?_
    · unfold bits_Div64.f
      rw [if_neg (by omega), if_neg (by omega), if_pos rfl, tdiv_eq l0, tmod_eq l0, uw_id (Int.ediv_nonneg l0 (by omega))]
      have := Int.ediv_le_self y l0
      omega
    · rw [show 0 * 18446744073709551616 + lo = lo by omega]; exact Ev.now _
  · obtain ⟨K, hK⟩ : ∃ K, ∀ k, K ≤ k → bits_Div64.f k hi lo y = some ((hi * 18446744073709551616 + lo) / y, (hi * 18446744073709551616 + lo) % y) := by
      obtain ⟨s, hs, hsv, hY0, hY1⟩ := lz64 (y := y) (by omega) h2 0
      have hsE : Ev (fun k => bits_LeadingZeros64.f k y) (s : Int) := Ev.of (fun k => bits_LeadingZeros64.mono _ _) hsv
      have hP : (0 : Int) < 2 ^ s := Int.pow_pos (by decide)
      have hPP : (2 : Int) ^ s * 2 ^ (64 - s) = 18446744073709551616 := by rw [← Int.pow_add, show s + (64 - s) = 64 by omega]; decide
      have hP' : (0 : Int) < 2 ^ (64 - s) := Int.pow_pos (by decide)
      have hb : hi * 2 ^ s < y * 2 ^ s := Int.mul_lt_mul_of_pos_right h1 hP
      have hb0 : 0 ≤ hi * 2 ^ s := Int.mul_nonneg h0 (by omega)
      have hlo0 : 0 ≤ lo * 2 ^ s := Int.mul_nonneg l0 (by omega)
      -- the low part of the dividend that moves up
      have hdl : lo / 2 ^ (64 - s) = lo * 2 ^ s / 18446744073709551616 := by
        rw [← hPP, Int.mul_comm lo, Int.mul_ediv_mul_of_pos _ _ hP]
      have hlt : lo * 2 ^ s < 18446744073709551616 * 2 ^ s := Int.mul_lt_mul_of_pos_right l1 hP
      have hdlt : lo * 2 ^ s / 18446744073709551616 < 2 ^ s := by
        rw [Int.ediv_lt_iff_lt_mul (by decide), Int.mul_comm (2 ^ s)]; exact hlt
      have hd0 : 0 ≤ lo * 2 ^ s / 18446744073709551616 := Int.ediv_nonneg hlo0 (by decide)
      have e1 : shl .u64 y (s : Int) = y * 2 ^ s := by rw [shl64 (by omega)]; omega
      have e2 : shl .u64 hi (s : Int) = hi * 2 ^ s := by rw [shl64 (by omega)]; omega
      have e3 : shl .u64 lo (s : Int) = lo * 2 ^ s % 18446744073709551616 := shl64 (by omega)
      have e4 : shr .u64 lo (IntKind.u64.wrap (64 - IntKind.u64.wrap (s : Int))) = lo * 2 ^ s / 18446744073709551616 := by
        rw [uw_id (x := (s : Int)) (by omega) (by omega), uw_id (by omega) (by omega), show (64 : Int) - (s : Int) = ((64 - s : Nat) : Int) by omega, shr64 (by omega), hdl]
      have hle : hi * 2 ^ s + 2 ^ s ≤ y * 2 ^ s := by
        have := Int.mul_le_mul_of_nonneg_right (show hi + 1 ≤ y by omega) (Int.le_of_lt hP)
        rw [Int.add_mul, Int.one_mul] at this; exact this
      have e5 : Go.bits .or .u64 (hi * 2 ^ s) (lo * 2 ^ s / 18446744073709551616) = hi * 2 ^ s + lo * 2 ^ s / 18446744073709551616 :=
        Go.bits_join .u64 64 (by decide) (fun n h h' => by rw [uw]; omega) s _ _ hb0 (Int.mul_emod_left _ _) (by omega) hd0 hdlt (by omega)
      -- the whole
      have key := div_j2 (Y := y * 2 ^ s) (s := (s : Int)) (y1 := y * 2 ^ s / 4294967296) (y0 := y * 2 ^ s % 4294967296) (u := hi * 2 ^ s + lo * 2 ^ s / 18446744073709551616)
        (n1 := lo * 2 ^ s % 18446744073709551616 / 4294967296) (n0 := lo * 2 ^ s % 18446744073709551616 % 4294967296)
        (by omega) (by omega) (by omega) (by omega) (by omega) (by omega) (by omega) (by omega) (by omega) (by omega) (by omega) (by omega)
      have hN : (hi * 2 ^ s + lo * 2 ^ s / 18446744073709551616) * 18446744073709551616 + lo * 2 ^ s % 18446744073709551616 / 4294967296 * 4294967296 + lo * 2 ^ s % 18446744073709551616 % 4294967296
          = (hi * 18446744073709551616 + lo) * 2 ^ s := by
        have : (hi * 18446744073709551616 + lo) * 2 ^ s = hi * 2 ^ s * 18446744073709551616 + lo * 2 ^ s := by grind
        omega
      have eM : (hi * 18446744073709551616 + lo) * 2 ^ s % (y * 2 ^ s) = (hi * 18446744073709551616 + lo) % y * 2 ^ s := by
        rw [Int.mul_comm _ (2 ^ s), Int.mul_comm y, Int.mul_emod_mul_of_pos _ _ hP, Int.mul_comm]
      rw [hN, Int.mul_ediv_mul_of_pos_left _ _ hP, eM, shr64 (by omega), Int.mul_ediv_cancel _ (by omega)] at key
      obtain ⟨g0, g1, g2, g3, g4, g5⟩ := guess (Y := y * 2 ^ s) (y1 := y * 2 ^ s / 4294967296) (y0 := y * 2 ^ s % 4294967296) (u := hi * 2 ^ s + lo * 2 ^ s / 18446744073709551616)
        (A := (hi * 2 ^ s + lo * 2 ^ s / 18446744073709551616) * 4294967296 + lo * 2 ^ s % 18446744073709551616 / 4294967296) (n1 := lo * 2 ^ s % 18446744073709551616 / 4294967296)
        (by omega) (by omega) (by omega) (by omega) (by omega) (by omega) (by omega) rfl (by omega) (by omega)
      have key2 := div_l0 (Y := y * 2 ^ s) (s := (s : Int)) (y1 := y * 2 ^ s / 4294967296) (y0 := y * 2 ^ s % 4294967296) (u := hi * 2 ^ s + lo * 2 ^ s / 18446744073709551616)
        (n1 := lo * 2 ^ s % 18446744073709551616 / 4294967296) (n0 := lo * 2 ^ s % 18446744073709551616 % 4294967296)
        (by omega) (by omega) (by omega) (by omega) (by omega) (by omega) (by omega) (by omega) (by omega) key 4294967296 _ _ g3.symm g4 g5 g1 g2 (by omega)
      obtain ⟨K1, h1'⟩ := hsE
      obtain ⟨K2, h2'⟩ := key2
      refine ⟨max K1 K2, fun k hk => ?_⟩
      unfold bits_Div64.f
      rw [if_neg (by omega), if_neg (by omega), if_neg hz, show bits_LeadingZeros64.f k y = some (s : Int) from h1' k (by omega)]
      simp only [Option.bind_some]
      rw [e4, uw_id (x := (s : Int)) (by omega) (by omega), if_pos (by omega), uw_id (x := 64 - (s : Int)) (by omega) (by omega), if_pos (by omega), e1, e2, e3, e5,
        if_neg (by omega), u64_mask32 (by omega) (by omega), u64_mask32 (by omega) (by omega), tdiv_eq (by omega), uw_id (x := _ / _) g0 (by omega), uw, uw]
      have hmm : ((hi * 2 ^ s + lo * 2 ^ s / 18446744073709551616) - (hi * 2 ^ s + lo * 2 ^ s / 18446744073709551616) / (y * 2 ^ s / 4294967296) * (y * 2 ^ s / 4294967296) % 18446744073709551616) % 18446744073709551616
          = (hi * 2 ^ s + lo * 2 ^ s / 18446744073709551616) % (y * 2 ^ s / 4294967296) := by omega
      rw [hmm]
      exact h2' k (by omega)
    exact ⟨K, hK⟩
end Go.Proofs.YtoplbhohaaielaaDoor.Q
