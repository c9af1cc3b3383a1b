/- The squares of sine and cosine of an angle of the first eighth add up to 1, up to 2 units: by rational polynomials and their rounding; no other condition. -/
import Derived.Test.YtbaedcjophgiiaaQx21
import Derived.Test.YtbaedcjophgiiaaM1
import Derived.Test.YtbaedcjophgiiaaT1
import Derived.Test.YtbaedcjophgiiaaT2
namespace Go.Proofs.Ytbaedcjophgiiaa.Q
open Go.RowKit Go.Proofs.YtbaedcjophgiiaaW.PrintWords Go.Proofs.YtbaedcjophgiiaaW.PrintLast Go.Proofs.YtbaedcjophgiiaaW.PrintMore
set_option linter.unusedVariables false
set_option linter.unusedSimpArgs false

/-- The series without rounding. -/
def hr (z : Rat) : Rat → List Int → Rat
  | e, [] => e
  | e, k :: l => hr z (1 - z * e / (k : Rat)) l

theorem rat_le_of_mul {a b c : Rat} (hc : 0 < c) (h : a * c ≤ b * c) : a ≤ b := Rat.le_of_mul_le_mul_right h hc

theorem ser_err {u : Int} (u0 : 0 ≤ u) (u1 : u ≤ 1152921504606846976) {z : Rat} (hz : z * 1152921504606846976 = (u : Rat)) (l : List Int) :
    ∀ (S : Int) (e : Rat), (∀ k ∈ l, 2 ≤ k) → 0 ≤ S → S ≤ 1152921504606846976 → (S : Rat) - 2 ≤ e * 1152921504606846976 → e * 1152921504606846976 ≤ (S : Rat) + 2 →
      (ser u S l : Rat) - 2 ≤ hr z e l * 1152921504606846976 ∧ hr z e l * 1152921504606846976 ≤ (ser u S l : Rat) + 2 := by
  induction l with
  | nil => intro S e _ _ _ h1 h2; exact ⟨h1, h2⟩
  | cons k l ih =>
    intro S e hk s0 s1 h1 h2
    have k2 := hk k (by simp)
    have st := ser_step u0 u1 s0 s1 (k := k) (by omega)
    refine ih _ _ (fun k h => hk k (by simp [h])) st.1 st.2.1 ?_ ?_
    all_goals
      -- the rounding of one step, in whole numbers
      have f1 : tm u S / k * k ≤ tm u S := Int.ediv_mul_le _ (by omega)
      have f2 : tm u S < (tm u S / k + 1) * k := Int.lt_ediv_add_one_mul_self _ (by omega)
      have f3 : tm u S * 1152921504606846976 ≤ u * S := by unfold tm; omega
      have f4 : u * S < tm u S * 1152921504606846976 + 1152921504606846976 := by unfold tm; omega
      generalize tm u S / k = F at *
      generalize tm u S = T at *
      have g1 : F * k * 1152921504606846976 ≤ u * S := by omega
      have g2 : u * S ≤ (F + 1) * k * 1152921504606846976 := by omega
      have g1' : (F : Rat) * k * 1152921504606846976 ≤ u * S := by
        have := Rat.intCast_le_intCast.mpr g1
        rw [Rat.intCast_mul, Rat.intCast_mul, Rat.intCast_mul, Rat.intCast_ofNat] at this; exact this
      have g2' : (u : Rat) * S ≤ (F + 1) * k * 1152921504606846976 := by
        have := Rat.intCast_le_intCast.mpr g2
        rw [Rat.intCast_mul, Rat.intCast_mul, Rat.intCast_mul, Rat.intCast_ofNat, Rat.intCast_add, Rat.intCast_one] at this; exact this
      have k2' : (2 : Rat) ≤ (k : Rat) := by
        have := Rat.intCast_le_intCast.mpr k2
        rw [Rat.intCast_ofNat] at this; exact this
      have u0' : (0 : Rat) ≤ (u : Rat) := by
        have := Rat.intCast_le_intCast.mpr u0
        exact this
      have u1' : (u : Rat) ≤ 1152921504606846976 := by
        have := Rat.intCast_le_intCast.mpr u1
        rw [Rat.intCast_ofNat] at this; exact this
      have m1 : (u : Rat) * (e * 1152921504606846976) ≤ u * (S + 2) := Rat.mul_le_mul_of_nonneg_left h2 u0'
      have m2 : (u : Rat) * (S - 2) ≤ u * (e * 1152921504606846976) := Rat.mul_le_mul_of_nonneg_left h1 u0'
      obtain ⟨q, hq⟩ : ∃ q : Rat, q = z * e / (k : Rat) * 1152921504606846976 := ⟨_, rfl⟩
      have hqk : q * (k : Rat) * 1152921504606846976 = (u : Rat) * (e * 1152921504606846976) := by
        rw [hq, ← hz]
        have : (k : Rat) ≠ 0 := by grind
        grind
      have kp : (0 : Rat) < (k : Rat) * 1152921504606846976 := by grind
      rw [Rat.intCast_sub, Rat.intCast_ofNat]
      have e1 : (1 - z * e / (k : Rat)) * 1152921504606846976 = 1152921504606846976 - q := by rw [hq]; grind
      rw [e1]
    · have : q ≤ (F : Rat) + 2 := rat_le_of_mul kp (by grind)
      grind
    · have : (F : Rat) - 2 ≤ q := rat_le_of_mul kp (by grind)
      grind

theorem pow01 {z : Rat} (h0 : 0 ≤ z) (h1 : z ≤ 1) (n : Nat) : 0 ≤ z ^ n ∧ z ^ n ≤ 1 := by
  induction n with
  | zero => rw [Rat.pow_zero]; exact ⟨by decide, by decide⟩
  | succ n ih =>
    rw [Rat.pow_succ]
    have a := Rat.mul_le_mul_of_nonneg_left h1 ih.1
    have b := Rat.mul_le_mul_of_nonneg_left h0 ih.1
    grind

theorem id14 (z : Rat) : z * (hr z 1 sinL * hr z 1 sinL) + hr z 1 cosL * hr z 1 cosL = 1 + ((1/697426329600 : Rat)*z^8 + (-(1/4707627724800 : Rat))*z^9 + (1/104613949440000 : Rat)*z^10 + (-(1/4833164464128000 : Rat))*z^11 + (1/379623099727872000 : Rat)*z^12 + (-(1/45238419384238080000 : Rat))*z^13 + (1/7600054456551997440000 : Rat)*z^14) := by
  simp only [hr, sinL, cosL, Rat.intCast_ofNat]
  grind

theorem near1 {z : Rat} (h0 : 0 ≤ z) (h1 : z ≤ 1) : z * (hr z 1 sinL * hr z 1 sinL) + hr z 1 cosL * hr z 1 cosL ≤ 1 + 1/100000000000 ∧ 1 - 1/100000000000 ≤ z * (hr z 1 sinL * hr z 1 sinL) + hr z 1 cosL * hr z 1 cosL := by
  rw [id14]
  have p8 := pow01 h0 h1 8
  have p9 := pow01 h0 h1 9
  have p10 := pow01 h0 h1 10
  have p11 := pow01 h0 h1 11
  have p12 := pow01 h0 h1 12
  have p13 := pow01 h0 h1 13
  have p14 := pow01 h0 h1 14
  generalize z ^ 8 = y8 at *
  generalize z ^ 9 = y9 at *
  generalize z ^ 10 = y10 at *
  generalize z ^ 11 = y11 at *
  generalize z ^ 12 = y12 at *
  generalize z ^ 13 = y13 at *
  generalize z ^ 14 = y14 at *
  constructor <;> grind

/-- Products of numbers between 0 and 1, and of their neighbours. -/
theorem sq_near {a b e : Rat} (a0 : 0 ≤ a) (a1 : a ≤ 1) (e0 : 0 ≤ e) (e1 : e ≤ 1) (h1 : a - e ≤ b) (h2 : b ≤ a + e) : b * b ≤ a * a + 3 * e ∧ a * a - 3 * e ≤ b * b := by
  obtain ⟨d, hd⟩ : ∃ d, d = b - a := ⟨_, rfl⟩
  have hb : b = a + d := by grind
  have d1 : d ≤ e := by grind
  have d2 : -e ≤ d := by grind
  have k1 : a * d ≤ a * e := Rat.mul_le_mul_of_nonneg_left d1 a0
  have k2 : a * (-e) ≤ a * d := Rat.mul_le_mul_of_nonneg_left d2 a0
  have k3 : e * a ≤ e * 1 := Rat.mul_le_mul_of_nonneg_left a1 e0
  have k4 : e * e ≤ e * 1 := Rat.mul_le_mul_of_nonneg_left e1 e0
  have k5 : 0 ≤ (e - d) * (e + d) := Rat.mul_nonneg (by grind) (by grind)
  have k6 : 0 ≤ d * d := by
    rcases Rat.le_total (a := 0) (b := d) with h | h
    · exact Rat.mul_nonneg h h
    · have := Rat.mul_nonneg (a := -d) (b := -d) (by grind) (by grind)
      grind
  rw [hb]
  constructor <;> grind
end Go.Proofs.Ytbaedcjophgiiaa.Q
