/- The squares of sine and cosine of every angle add up to 1, up to 2 units, in plain numbers; no conditions. -/
import Derived.Test.YtbaedcjophgiiaaQx21
import Derived.Test.YtbaedcjophgiiaaM1
import Derived.Test.YtbaedcjophgiiaaT1
import Derived.Test.YtbaedcjophgiiaaT2
import Derived.Test.YtbaedcjophgiiaaT3
import Derived.Test.YtbaedcjophgiiaaT4
import Derived.Test.YtbaedcjophgiiaaT5
import Derived.Test.YtbaedcjophgiiaaT7
namespace Go.Proofs.Ytbaedcjophgiiaa.Q
open Go.RowKit Go.Proofs.YtbaedcjophgiiaaW.PrintWords Go.Proofs.YtbaedcjophgiiaaW.PrintLast Go.Proofs.YtbaedcjophgiiaaW.PrintMore
set_option linter.unusedVariables false
set_option linter.unusedSimpArgs false

theorem cast_le {a b : Int} (h : a ≤ b) : (a : Rat) ≤ (b : Rat) := Rat.intCast_le_intCast.mpr h

/-- The estimates in rational numbers: what is left of the rounding. -/
theorem circ_rat {v k p q m : Rat} (v0 : 0 ≤ v) (k0 : 0 ≤ k) (h1 : v * v + k * k ≤ 1 + 2/100000000000) (h2 : 1 - 2/100000000000 ≤ v * v + k * k)
    (p1 : p ≤ v + 1/2147483648) (p2 : v - 1/2147483648 ≤ p) (q1 : q ≤ k + 1/2147483648) (q2 : k - 1/2147483648 ≤ q) :
    p * p + q * q ≤ 1 + 1/536870912 ∧ 1 - 1/536870912 ≤ p * p + q * q := by
  have hs : v + k ≤ 3/2 := by
    rcases Rat.le_total (a := v + k) (b := 3/2) with h | h
    · exact h
    · exfalso
      have a := Rat.mul_le_mul_of_nonneg_left (c := v + k) h (by grind)
      have b := Rat.mul_le_mul_of_nonneg_left (c := 3/2) h (by grind)
      have c : 0 ≤ (v - k) * (v - k) := by
        rcases Rat.le_total (a := 0) (b := v - k) with h | h
        · exact Rat.mul_nonneg h h
        · have := Rat.mul_nonneg (a := k - v) (b := k - v) (by grind) (by grind)
          grind
      grind
  obtain ⟨e, he⟩ : ∃ e, e = p - v := ⟨_, rfl⟩
  obtain ⟨f, hf⟩ : ∃ f, f = q - k := ⟨_, rfl⟩
  have hp : p = v + e := by grind
  have hq : q = k + f := by grind
  have a1 : v * e ≤ v * (1/2147483648) := Rat.mul_le_mul_of_nonneg_left (by grind) v0
  have a2 : v * (-(1/2147483648)) ≤ v * e := Rat.mul_le_mul_of_nonneg_left (by grind) v0
  have a3 : k * f ≤ k * (1/2147483648) := Rat.mul_le_mul_of_nonneg_left (by grind) k0
  have a4 : k * (-(1/2147483648)) ≤ k * f := Rat.mul_le_mul_of_nonneg_left (by grind) k0
  have sq : ∀ d : Rat, d ≤ 1/2147483648 → -(1/2147483648) ≤ d → 0 ≤ d * d ∧ d * d ≤ 1/2147483648 * (1/2147483648) := by
    intro d d1 d2
    have k5 : 0 ≤ (1/2147483648 - d) * (1/2147483648 + d) := Rat.mul_nonneg (by grind) (by grind)
    refine ⟨?_, by grind⟩
    rcases Rat.le_total (a := 0) (b := d) with h | h
    · exact Rat.mul_nonneg h h
    · have := Rat.mul_nonneg (a := -d) (b := -d) (by grind) (by grind)
      grind
  have b1 := sq e (by grind) (by grind)
  have b2 := sq f (by grind) (by grind)
  rw [hp, hq]
  constructor <;> grind

theorem circ0 {t : Int} (h0 : 0 ≤ t) (h1 : t < 536870912) :
    qt t * qt t + qt (1073741824 - t) * qt (1073741824 - t) - 1152921504606846976 ≤ 2147483648 ∧ -2147483648 ≤ qt t * qt t + qt (1073741824 - t) * qt (1073741824 - t) - 1152921504606846976 := by
  rw [qt_lo (by omega), qt_hi (by omega), show 1073741824 - (1073741824 - t) = t by omega]
  have bx := xof_bd (t := t) h0 (by omega)
  generalize xof t = x at *
  unfold vs vc
  have bu := tm_bd (a := x) (b := x) bx.1 (by omega) bx.1 (by omega)
  have ux : tm x x * 1152921504606846976 ≤ x * x ∧ x * x ≤ tm x x * 1152921504606846976 + 1152921504606846976 := by unfold tm; omega
  generalize tm x x = u at *
  have bS := ser_bd (u := u) bu.1 (by omega) sinL 1152921504606846976 (by decide) (by decide) (by decide)
  have bC := ser_bd (u := u) bu.1 (by omega) cosL 1152921504606846976 (by decide) (by decide) (by decide)
  obtain ⟨z, hz⟩ : ∃ z : Rat, z * 1152921504606846976 = (u : Rat) := ⟨(u : Rat) / 1152921504606846976, by grind⟩
  have eS := ser_err bu.1 (by omega) hz sinL 1152921504606846976 1 (by decide) (by decide) (by decide) (by rw [Rat.intCast_ofNat]; grind) (by rw [Rat.intCast_ofNat]; grind)
  have eC := ser_err bu.1 (by omega) hz cosL 1152921504606846976 1 (by decide) (by decide) (by decide) (by rw [Rat.intCast_ofNat]; grind) (by rw [Rat.intCast_ofNat]; grind)
  generalize ser u 1152921504606846976 sinL = S at *
  generalize ser u 1152921504606846976 cosL = C at *
  have bV := tm_bd (a := x) (b := S) bx.1 (by omega) bS.1 bS.2
  have Vx : tm x S * 1152921504606846976 ≤ x * S ∧ x * S ≤ tm x S * 1152921504606846976 + 1152921504606846976 := by unfold tm; omega
  generalize tm x S = V at *
  have rV : rnd V * 1073741824 ≤ V + 536870912 ∧ V ≤ rnd V * 1073741824 + 536870912 := by unfold rnd; omega
  have rC : rnd C * 1073741824 ≤ C + 536870912 ∧ C ≤ rnd C * 1073741824 + 536870912 := by unfold rnd; omega
  generalize rnd V = a at *
  generalize rnd C = b at *
  -- all in parts of 1
  obtain ⟨ξ, hξ⟩ : ∃ r : Rat, r * 1152921504606846976 = (x : Rat) := ⟨(x : Rat) / 1152921504606846976, by grind⟩
  obtain ⟨σ, hσ⟩ : ∃ r : Rat, r * 1152921504606846976 = (S : Rat) := ⟨(S : Rat) / 1152921504606846976, by grind⟩
  obtain ⟨κ, hκ⟩ : ∃ r : Rat, r * 1152921504606846976 = (C : Rat) := ⟨(C : Rat) / 1152921504606846976, by grind⟩
  obtain ⟨v, hv⟩ : ∃ r : Rat, r * 1152921504606846976 = (V : Rat) := ⟨(V : Rat) / 1152921504606846976, by grind⟩
  obtain ⟨p, hp⟩ : ∃ r : Rat, r * 1073741824 = (a : Rat) := ⟨(a : Rat) / 1073741824, by grind⟩
  obtain ⟨q, hq⟩ : ∃ r : Rat, r * 1073741824 = (b : Rat) := ⟨(b : Rat) / 1073741824, by grind⟩
  have c0 : ∀ {n : Int} {r : Rat}, r * 1152921504606846976 = (n : Rat) → 0 ≤ n → n ≤ 1152921504606846976 → 0 ≤ r ∧ r ≤ 1 := by
    intro n r h n0 n1
    have a := cast_le n0
    have b := cast_le n1
    rw [Rat.intCast_ofNat] at b
    have a' : (0 : Rat) ≤ (n : Rat) := a
    constructor <;> grind
  have z01 := c0 hz bu.1 (by omega)
  have x01 := c0 hξ bx.1 (by omega)
  have s01 := c0 hσ bS.1 bS.2
  have k01 := c0 hκ bC.1 bC.2
  have v01 := c0 hv bV.1 (by omega)
  have i1 := cast_le ux.1
  have i2 := cast_le ux.2
  have i3 := cast_le Vx.1
  have i4 := cast_le Vx.2
  have i5 := cast_le rV.1
  have i6 := cast_le rV.2
  have i7 := cast_le rC.1
  have i8 := cast_le rC.2
  simp only [Rat.intCast_mul, Rat.intCast_add, Rat.intCast_ofNat] at i1 i2 i3 i4 i5 i6 i7 i8
  rw [← hz, ← hξ] at i1 i2
  rw [← hv, ← hξ, ← hσ] at i3 i4
  rw [← hv, ← hp] at i5 i6
  rw [← hκ, ← hq] at i7 i8
  rw [← hσ] at eS
  rw [← hκ] at eC
  have WW : (0 : Rat) < 1152921504606846976 * 1152921504606846976 := by decide +kernel
  have j1 : z ≤ ξ * ξ := rat_le_of_mul WW (by grind)
  have j2 : ξ * ξ ≤ z + 1/1152921504606846976 := rat_le_of_mul WW (by grind)
  have j3 : v ≤ ξ * σ := rat_le_of_mul WW (by grind)
  have j4 : ξ * σ ≤ v + 1/1152921504606846976 := rat_le_of_mul WW (by grind)
  have N := near1 z01.1 z01.2
  generalize hr z 1 sinL = s at *
  generalize hr z 1 cosL = c at *
  have n1 := sq_near (a := σ) (b := s) (e := 2/1152921504606846976) s01.1 s01.2 (by decide +kernel) (by decide +kernel) (by grind) (by grind)
  have n2 := sq_near (a := κ) (b := c) (e := 2/1152921504606846976) k01.1 k01.2 (by decide +kernel) (by decide +kernel) (by grind) (by grind)
  have n3 := sq_near (a := v) (b := ξ * σ) (e := 1/1152921504606846976) v01.1 v01.2 (by decide +kernel) (by decide +kernel) (by grind) (by grind)
  have m1 : z * (s * s) ≤ z * (σ * σ + 3 * (2/1152921504606846976)) := Rat.mul_le_mul_of_nonneg_left n1.1 z01.1
  have m2 : z * (σ * σ - 3 * (2/1152921504606846976)) ≤ z * (s * s) := Rat.mul_le_mul_of_nonneg_left n1.2 z01.1
  have ss0 : 0 ≤ σ * σ := Rat.mul_nonneg s01.1 s01.1
  have ss1 : σ * σ ≤ σ * 1 := Rat.mul_le_mul_of_nonneg_left s01.2 s01.1
  have m3 : (σ * σ) * z ≤ (σ * σ) * (ξ * ξ) := Rat.mul_le_mul_of_nonneg_left j1 ss0
  have m4 : (σ * σ) * (ξ * ξ) ≤ (σ * σ) * (z + 1/1152921504606846976) := Rat.mul_le_mul_of_nonneg_left j2 ss0
  have e1 : ξ * σ * (ξ * σ) = (σ * σ) * (ξ * ξ) := by grind
  rw [e1] at n3
  have F1 : v * v + κ * κ ≤ 1 + 2/100000000000 := by grind
  have F2 : 1 - 2/100000000000 ≤ v * v + κ * κ := by grind
  have R := circ_rat (v := v) (k := κ) (p := p) (q := q) (m := 0) v01.1 k01.1 F1 F2 (by grind) (by grind) (by grind) (by grind)
  have fin1 : ((a * a + b * b : Int) : Rat) ≤ ((1152921504606846976 + 2147483648 : Int) : Rat) := by
    simp only [Rat.intCast_mul, Rat.intCast_add, Rat.intCast_ofNat]
    rw [← hp, ← hq]; grind
  have fin2 : ((1152921504606846976 - 2147483648 : Int) : Rat) ≤ ((a * a + b * b : Int) : Rat) := by
    simp only [Rat.intCast_mul, Rat.intCast_add, Rat.intCast_sub, Rat.intCast_ofNat]
    rw [← hp, ← hq]; grind
  have g1 := Rat.intCast_le_intCast.mp fin1
  have g2 := Rat.intCast_le_intCast.mp fin2
  omega

theorem circ_mid : qt 536870912 * qt 536870912 + qt 536870912 * qt 536870912 - 1152921504606846976 ≤ 2147483648 ∧ -2147483648 ≤ qt 536870912 * qt 536870912 + qt 536870912 * qt 536870912 - 1152921504606846976 := by decide +kernel

theorem circ1 {t : Int} (h0 : 0 ≤ t) (h1 : t ≤ 1073741824) :
    qt t * qt t + qt (1073741824 - t) * qt (1073741824 - t) - 1152921504606846976 ≤ 2147483648 ∧ -2147483648 ≤ qt t * qt t + qt (1073741824 - t) * qt (1073741824 - t) - 1152921504606846976 := by
  by_cases c : t < 536870912
  · exact circ0 h0 c
  · by_cases d : t = 536870912
    · subst d; exact circ_mid
    · have := circ0 (t := 1073741824 - t) (by omega) (by omega)
      rw [show 1073741824 - (1073741824 - t) = t by omega] at this
      omega

theorem circle (a : Int) : sn a * sn a + cs a * cs a - 1152921504606846976 ≤ 2147483648 ∧ -2147483648 ≤ sn a * sn a + cs a * cs a - 1152921504606846976 := by
  obtain ⟨hq, ht0, ht1⟩ := quad a
  generalize ht : a % 1073741824 = t at *
  have o := circ1 (t := t) ht0 (by omega)
  rw [cs_sn]
  rcases hq with hq | hq | hq | hq
  · rw [sn_at hq ht, sn_at (a := a + 1073741824) (q := 1) (t := t) (by omega) (by omega)]; simp [Int.neg_mul_neg]; omega
  · rw [sn_at hq ht, sn_at (a := a + 1073741824) (q := 2) (t := t) (by omega) (by omega)]; simp [Int.neg_mul_neg]; omega
  · rw [sn_at hq ht, sn_at (a := a + 1073741824) (q := 3) (t := t) (by omega) (by omega)]; simp [Int.neg_mul_neg]; omega
  · rw [sn_at hq ht, sn_at (a := a + 1073741824) (q := 0) (t := t) (by omega) (by omega)]; simp [Int.neg_mul_neg]; omega
end Go.Proofs.Ytbaedcjophgiiaa.Q
