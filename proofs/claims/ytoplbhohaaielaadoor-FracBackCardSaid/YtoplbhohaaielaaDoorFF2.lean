/- Sums, products, differences and quotients of fractions as rational numbers; the bounds stand in each statement. -/
import Derived.Test.YtoplbhohaaielaaDoorQx3
import Derived.Test.YtoplbhohaaielaaDoorQx2
import Derived.Test.YtoplbhohaaielaaDoorQx5
import Derived.Test.YtoplbhohaaielaaDoorM1
import Derived.Test.YtoplbhohaaielaaDoorM2
import Derived.Test.YtoplbhohaaielaaDoorM3
import Derived.Test.YtoplbhohaaielaaDoorM4
import Derived.Test.YtoplbhohaaielaaDoorM5
import Derived.Test.YtoplbhohaaielaaDoorM6
import Derived.Test.YtoplbhohaaielaaDoorFR0
import Derived.Test.YtoplbhohaaielaaDoorFF1
-- AUTO
namespace Go.Proofs.YtoplbhohaaielaaDoor.Q
open Go.RowKit Go.Proofs.YtoplbhohaaielaaDoorW.PrintWords Go.Proofs.YtoplbhohaaielaaDoorW.PrintLast Go.Proofs.YtoplbhohaaielaaDoorW.PrintMore
set_option linter.unusedVariables false
set_option linter.unusedSimpArgs false

theorem rat_mul (x y : Rat) : (x * y).num = x.num / (Int.gcd x.num y.den : Int) * (y.num / (Int.gcd y.num x.den : Int)) ∧ ((x * y).den : Int) = x.den / (Int.gcd y.num x.den : Int) * (y.den / (Int.gcd x.num y.den : Int)) := by
  have e : x * y = Rat.mul x y := rfl
  have h1 : Int.gcd x.num y.den = Nat.gcd x.num.natAbs y.den := by simp [Int.gcd]
  have h2 : Int.gcd y.num x.den = Nat.gcd y.num.natAbs x.den := by simp [Int.gcd]
  rw [e, h1, h2]
  unfold Rat.mul
  constructor
  · simp only [Int.divExact_eq_ediv]
  · simp only [Nat.divExact_eq_div]; push_cast; rfl
theorem maybe_nd (num : Int) (den g : Nat) (a b c d) : (Rat.maybeNormalize num den g a b c d).num = num / (g : Int) ∧ (Rat.maybeNormalize num den g a b c d).den = den / g := by
  unfold Rat.maybeNormalize
  split
  · rename_i h1
    subst h1
    simp
  · constructor
    · simp only [Int.divExact_eq_ediv]
    · simp only [Nat.divExact_eq_div]
theorem rat_add (x y : Rat) : ∃ g h : Nat, g = Nat.gcd x.den y.den ∧ h = Nat.gcd (x.num * (y.den / g : Nat) + y.num * (x.den / g : Nat)).natAbs g ∧
    (x + y).num = (x.num * (y.den / g : Nat) + y.num * (x.den / g : Nat)) / (h : Int) ∧ (x + y).den = (x.den / g) * (y.den / h) := by
  refine ⟨_, _, rfl, rfl, ?_⟩
  have e : x + y = Rat.add x y := rfl
  rw [e]
  unfold Rat.add
  by_cases hg : x.den.gcd y.den = 1
  · rw [dif_pos hg, hg]
    simp [Nat.gcd_one_right]
  · rw [dif_neg hg]
    have dv : (x.num * ((y.den / x.den.gcd y.den : Nat) : Int) + y.num * ((x.den / x.den.gcd y.den : Nat) : Int)).natAbs.gcd (x.den.gcd y.den) ∣ y.den := Nat.dvd_trans (Nat.gcd_dvd_right _ _) (Nat.gcd_dvd_right _ _)
    obtain ⟨p, q⟩ := maybe_nd _ _ _ _ _ _ _
    refine ⟨p, q.trans (Nat.mul_div_assoc _ dv)⟩
theorem rat_inv (x : Rat) (h : x.num ≠ 0) : (x⁻¹).num = (if x.num < 0 then -(x.den : Int) else x.den) ∧ ((x⁻¹).den : Int) = (if x.num < 0 then -x.num else x.num) := by
  have e : x⁻¹ = Rat.inv x := rfl
  rw [e]
  unfold Rat.inv
  by_cases c : x.num < 0
  · rw [dif_pos c, if_pos c, if_pos c]; exact ⟨rfl, by simp only; omega⟩
  · rw [dif_neg c, dif_pos (by omega), if_neg c, if_neg c]; exact ⟨rfl, by simp only; omega⟩
theorem rat_sub_num (x y : Rat) : (x - y).num * (x.den * y.den) = (x.num * y.den - y.num * x.den) * (x - y).den := by
  have h := Rat.sub_def x y
  have nz : x.den * y.den ≠ 0 := Nat.mul_ne_zero x.den_nz y.den_nz
  have h2 : mkRat (x - y).num (x - y).den = mkRat (x.num * y.den - y.num * x.den) (x.den * y.den) := by
    rw [Rat.mkRat_self]
    rw [h, Rat.normalize_eq_mkRat]
  rw [Rat.mkRat_eq_iff (x - y).den_nz nz] at h2
  push_cast at h2
  exact h2

theorem rat_nd {x : Rat} {n d : Int} (hn : x.num = n) (hd : (x.den : Int) = d) : rat x = if -1152921504606846976 ≤ n ∧ n ≤ 1152921504606846976 ∧ d ≤ 1152921504606846976 then (n, d, 0) else (0, 0, 2) := by
  subst hn; subst hd
  unfold rat
  by_cases h : sm x
  · rw [if_pos h]; exact (if_pos h).symm
  · rw [if_neg h]; exact (if_neg h).symm
theorem made_rat {x : Rat} {n d : Int} (hn : x.num = n) (hd : (x.den : Int) = d) (p q : Int × Bool) (hp : p = if fits n = true then (n, true) else (0, false)) (hq : q = if fits d = true then (d, true) else (0, false)) :
    Ev (fun k => frac_made.f k p.1 q.1 [p.2, q.2]) (rat x) := by
  have M := made_ev p.1 q.1 p.2 q.2
  have e : (if p.2 = true ∧ q.2 = true ∧ -1152921504606846976 ≤ p.1 ∧ p.1 ≤ 1152921504606846976 ∧ q.1 ≤ 1152921504606846976 then (p.1, q.1, (0 : Int)) else (0, 0, 2)) = rat x := by
    rw [rat_nd hn hd, hp, hq]
    by_cases c : fits n = true
    · by_cases c2 : fits d = true
      · rw [if_pos c, if_pos c2]; simp
      · have := fits_iff (n := d)
        have c3 := c2
        rw [this] at c3
        have d1 : 1 ≤ d := by rw [← hd]; exact den1 x
        rw [if_pos c, if_neg c2, if_neg (by simp), if_neg (by omega)]
    · have := fits_iff (n := n)
      have c3 := c
      rw [this] at c3
      rw [if_neg c, if_neg (by simp), if_neg (by omega)]
  rw [e] at M; exact M
theorem quo {n g : Int} (hg : 1 ≤ g) (h0 : -1152921504606846976 ≤ n) (h1 : n ≤ 1152921504606846976) : -1152921504606846976 ≤ n / g ∧ n / g ≤ 1152921504606846976 := by
  constructor
  · rw [Int.le_ediv_iff_mul_le (by omega)]; omega
  · have : n / g < 1152921504606846977 := by rw [Int.ediv_lt_iff_lt_mul (by omega)]; omega
    omega
theorem gcd_at {a b : Int} (a0 : -1152921504606846976 ≤ a) (a1 : a ≤ 1152921504606846976) (b0 : 1 ≤ b) (b1 : b ≤ 1152921504606846976) : Ev (fun k => num_Gcd.f k a b) (Int.gcd a b : Int) ∧ 1 ≤ (Int.gcd a b : Int) ∧ (Int.gcd a b : Int) ≤ 1152921504606846976 := by
  have G := gcd_ev (a := a) (b := b) (by omega) (by omega) (by omega) (by omega)
  have le : (Int.gcd a b : Int) ≤ b := Int.le_of_dvd (by omega) (Int.gcd_dvd_right a b)
  have pos : 0 < Int.gcd a b := Int.gcd_pos_of_ne_zero_right a (by omega)
  rw [Int.emod_eq_of_lt (by omega) (by omega)] at G
  exact ⟨G, by omega, by omega⟩
theorem add_ev {x y : Rat} (hx : sm x) (hy : sm y) : Ev (fun k => frac_Add.f k x.num x.den y.num y.den) (rat (x + y)) := by
  have x1 := den1 x
  have y1 := den1 y
  obtain ⟨a0, a1, a2⟩ := hx
  obtain ⟨b0, b1, b2⟩ := hy
  obtain ⟨G1, g0, g1⟩ := gcd_at (a := x.den) (b := y.den) (by omega) a2 y1 b2
  obtain ⟨g, h, hg, hh, rn, rd⟩ := rat_add x y
  have eg : (Int.gcd x.den y.den : Int) = (g : Int) := by rw [Int.gcd_natCast_natCast, hg]
  rw [eg] at G1 g0 g1
  have q3 := quo (n := x.den) g0 (by omega) a2
  have q4 := quo (n := y.den) g0 (by omega) b2
  have p3 : 0 ≤ (x.den : Int) / g := Int.ediv_nonneg (by omega) (by omega)
  have p4 : 0 ≤ (y.den : Int) / g := Int.ediv_nonneg (by omega) (by omega)
  have P1 := product (a := x.num) (b := (y.den : Int) / g) (by omega) (by omega) (by omega) (by omega)
  have P2 := product (a := y.num) (b := (x.den : Int) / g) (by omega) (by omega) (by omega) (by omega)
  have u0 : -1152921504606846976 * ((y.den : Int) / g) ≤ x.num * ((y.den : Int) / g) := Int.mul_le_mul_of_nonneg_right a0 p4
  have u1 : x.num * ((y.den : Int) / g) ≤ 1152921504606846976 * ((y.den : Int) / g) := Int.mul_le_mul_of_nonneg_right a1 p4
  have v0 : -1152921504606846976 * ((x.den : Int) / g) ≤ y.num * ((x.den : Int) / g) := Int.mul_le_mul_of_nonneg_right b0 p3
  have v1 : y.num * ((x.den : Int) / g) ≤ 1152921504606846976 * ((x.den : Int) / g) := Int.mul_le_mul_of_nonneg_right b1 p3
  have W := wide_plus (u := x.num * ((y.den : Int) / g)) (v := y.num * ((x.den : Int) / g)) (by omega) (by omega)
  have cx : ((x.den / g : Nat) : Int) = (x.den : Int) / g := Int.natCast_ediv _ _
  have cy : ((y.den / g : Nat) : Int) = (y.den : Int) / g := Int.natCast_ediv _ _
  rw [cx, cy] at hh rn
  have hb : h ≤ g := by rw [hh]; exact Nat.le_of_dvd (by omega) (Nat.gcd_dvd_right _ _)
  have hpos : 1 ≤ h := by rw [hh]; exact Nat.gcd_pos_of_pos_right _ (by omega)
  have rd' : ((x + y).den : Int) = (x.den : Int) / g * ((y.den : Int) / h) := by rw [rd]; push_cast; rfl
  generalize ht : x.num * ((y.den : Int) / g) + y.num * ((x.den : Int) / g) = t at *
  have MD := wide_mod (v := t) (d := (g : Int)) (by omega) (by omega) (by omega)
  rw [if_neg (by omega)] at MD
  have m0 : 0 ≤ t % g := Int.emod_nonneg _ (by omega)
  have m1 : t % g < g := Int.emod_lt_of_pos _ (by omega)
  obtain ⟨G2, _, _⟩ := gcd_at (a := t % g) (b := (g : Int)) (by omega) (by omega) (by omega) (by omega)
  have eh : (Int.gcd (t % g) g : Int) = (h : Int) := by
    have e := Int.gcd_add_mul_left_left (g : Int) (t % g) (t / g)
    rw [Int.emod_add_mul_ediv] at e
    rw [← e, hh]; simp [Int.gcd]
  rw [eh] at G2
  have DV := wide_div (v := t) (d := (h : Int)) (by omega) (by omega) (by omega)
  rw [if_neg (by omega)] at DV
  have q5 := quo (n := y.den) (g := (h : Int)) (by omega) (by omega) b2
  have M2 := nmul (a := (x.den : Int) / g) (b := (y.den : Int) / h) (by omega) (by omega) (by omega) (by omega)
  unfold frac_Add.f
  refine Ev.bind (both_ok ⟨a0, a1, a2⟩ ⟨b0, b1, b2⟩) (pos_ev rfl (Ev.bind G1 (neg_ev (by omega) ?_)))
  rw [tdiv_eq (a := (y.den : Int)) (b := (g : Int)) (by omega), tdiv_eq (a := (x.den : Int)) (b := (g : Int)) (by omega), w64_id (x := (y.den : Int) / g) (by omega) (by omega), w64_id (x := (x.den : Int) / g) (by omega) (by omega)]
  refine some_ev P1 (some_ev P2 (some_ev W ?_))
  refine Ev.bind MD (Ev.bind G2 (Ev.bind DV (neg_ev (by omega) ?_)))
  rw [tdiv_eq (a := (y.den : Int)) (b := (h : Int)) (by omega), w64_id (x := (y.den : Int) / h) (by omega) (by omega)]
  refine some_ev M2 (Ev.bind (a := rat (x + y)) ?_ (Ev.now _))
  have K := made_rat rn rd' ((if fits (t / h) = true then (t / h, (0 : Int)) else (0, 2)).1, (if fits (t / h) = true then (t / h, (0 : Int)) else (0, 2)).2 == 0) (if fits ((x.den : Int) / g * ((y.den : Int) / h)) = true then ((x.den : Int) / g * ((y.den : Int) / h), true) else (0, false)) (by split <;> rfl) rfl
  exact K
theorem sm_neg {x : Rat} (h : sm x) : sm (-x) := by
  obtain ⟨a, b, c⟩ := h
  refine ⟨by rw [Rat.neg_num]; omega, by rw [Rat.neg_num]; omega, by rw [Rat.neg_den]; exact c⟩
end Go.Proofs.YtoplbhohaaielaaDoor.Q
