/- NumDivisors in plain numbers: for all numbers a, b of 64 bits the printed function answers true; no other condition. -/
import Derived.Test.YtbaedcjophgiiaaQx19
import Derived.Test.YtbaedcjophgiiaaQx16
import Derived.Test.YtbaedcjophgiiaaM1
import Derived.Test.YtbaedcjophgiiaaM2
import Derived.Test.YtbaedcjophgiiaaM3
import Derived.Test.YtbaedcjophgiiaaM4
import Derived.Test.YtbaedcjophgiiaaM5
import Derived.Test.YtbaedcjophgiiaaM6
import Derived.Test.YtbaedcjophgiiaaB1
namespace Go.Proofs.Ytbaedcjophgiiaa.PureNumDivisors
open Go.RowKit Go.Proofs.Ytbaedcjophgiiaa.Q Go.Proofs.YtbaedcjophgiiaaW.PrintWords Go.Proofs.YtbaedcjophgiiaaW.PrintLast
set_option linter.unusedVariables false
set_option linter.unusedSimpArgs false

theorem j1_neg {a b r : Int} (hr : r = 0) : Ev (fun k => spykeep1_NumDivisors.j1 k a b r true) true :=
  one_ev fun k => by rw [spykeep1_NumDivisors.j1, if_pos rfl, hr]; rfl

theorem j1_pos {a b r : Int} (a0 : 0 ≤ a) (a1 : a < 9223372036854775808) (b0 : 0 ≤ b) (b1 : b < 9223372036854775808) (r0 : 0 ≤ r) (r1 : r < 9223372036854775808) (h0 : r * r ≤ a * b) (h1 : a * b < (r + 1) * (r + 1)) :
    Ev (fun k => spykeep1_NumDivisors.j1 k a b r false) true := by
  have hb := prod_bd (a := a) (b := b) (by omega) a1 (by omega) b1
  have hr := prod_bd (a := r) (b := r) (by omega) r1 (by omega) r1
  have e : (r + 1) * (r + 1) = r * r + 2 * r + 1 := by grind
  refine Ev.step (f := fun k => (num_Product.f a b).bind fun bt147 => ((num_Product.f r r).bind fun bt150 => ((num_Wide_Cmp.f k bt150.1 bt150.2 bt147.1 bt147.2).bind fun t152 => (if t152 ≤ 0 then ((num_Product.f r r).bind fun bt153 => ((num_Product.f 2 r).bind fun bt155 => ((num_Wide_Plus.f bt150.1 bt150.2 bt155.1 bt155.2).bind fun bt157 => ((num_Product.f 1 1).bind fun bt159 => ((num_Wide_Plus.f bt157.1 bt157.2 bt159.1 bt159.2).bind fun bt161 => ((num_Wide_Cmp.f k bt161.1 bt161.2 bt147.1 bt147.2).bind fun t163 => (some (decide (t163 > 0))))))))) else (none))))) (fun k => by rw [spykeep1_NumDivisors.j1, if_neg (by decide)]) ?_
  refine some_ev (product (a := a) (b := b) (by omega) a1 (by omega) b1) ?_
  refine some_ev (product (a := r) (b := r) (by omega) r1 (by omega) r1) ?_
  refine Ev.bind (wide_cmp (r * r) (a * b)) ?_
  refine pos_ev (by split <;> (try split) <;> omega) ?_
  refine some_ev (product (a := r) (b := r) (by omega) r1 (by omega) r1) ?_
  refine some_ev (product (a := 2) (b := r) (by decide) (by decide) (by omega) r1) ?_
  refine some_ev (wide_plus (u := r * r) (v := 2 * r) (by omega) (by omega)) ?_
  refine some_ev (product (a := 1) (b := 1) (by decide) (by decide) (by decide) (by decide)) ?_
  refine some_ev (wide_plus (u := r * r + 2 * r) (v := 1 * 1) (by omega) (by omega)) ?_
  refine Ev.bind (wide_cmp (r * r + 2 * r + 1 * 1) (a * b)) ?_
  exact now_ev fun k => by rw [decide_eq_true]; rw [if_neg (by omega), if_pos (by omega)]; decide

theorem j0_ev {a b : Int} (a0 : -9223372036854775808 ≤ a) (a1 : a < 9223372036854775808) (b0 : -9223372036854775808 ≤ b) (b1 : b < 9223372036854775808) :
    Ev (fun k => spykeep1_NumDivisors.j0 k a b false) true := by
  refine Ev.step (f := fun k => (num_SqrtMul.f k a b).bind fun t146 => (if a < 0 then (spykeep1_NumDivisors.j1 k a b t146 true) else (spykeep1_NumDivisors.j1 k a b t146 (decide (b < 0))))) (fun k => by rw [spykeep1_NumDivisors.j0, if_neg (by decide)]) ?_
  by_cases ha : a < 0
  · exact Ev.bind (sqrt_neg (.inl ha)) (pos_ev ha (j1_neg rfl))
  · by_cases hb : b < 0
    · refine Ev.bind (sqrt_neg (.inr hb)) (neg_ev ha ?_)
      rw [decide_eq_true hb]; exact j1_neg rfl
    · obtain ⟨r, hr, r0, r1, r2, r3⟩ := sqrt_ev (a := a) (b := b) (by omega) a1 (by omega) b1
      refine Ev.bind hr (neg_ev ha ?_)
      rw [decide_eq_false hb]; exact j1_pos (by omega) a1 (by omega) b1 r0 r1 r2 r3

/-- What a common divisor leaves. -/
theorem quot_ev {a b : Int} (a0 : -9223372036854775808 < a) (a1 : a < 9223372036854775808) (b0 : -9223372036854775808 < b) (b1 : b < 9223372036854775808) (h : a ≠ 0 ∨ b ≠ 0) :
    let g : Int := (Int.gcd a b : Int)
    1 ≤ g ∧ g < 9223372036854775808 ∧ Int.tmod a g = 0 ∧ Int.tmod b g = 0 ∧ Ev (fun k => num_Gcd.f k (wrap64 (Int.tdiv a g)) (wrap64 (Int.tdiv b g))) 1 := by
  have hg : 0 < Int.gcd a b := Int.gcd_pos_iff.mpr h
  have ha := Int.gcd_dvd_left a b
  have hb := Int.gcd_dvd_right a b
  have hlt : Int.gcd a b < 9223372036854775808 := by
    rcases h with h | h
    · have := Nat.le_of_dvd (by omega) (Int.natAbs_dvd_natAbs.mpr ha); simp at this; omega
    · have := Nat.le_of_dvd (by omega) (Int.natAbs_dvd_natAbs.mpr hb); simp at this; omega
  have bd : ∀ c : Int, -9223372036854775808 < c → c < 9223372036854775808 → -9223372036854775808 < Int.tdiv c (Int.gcd a b : Int) ∧ Int.tdiv c (Int.gcd a b : Int) < 9223372036854775808 := by
    intro c c0 c1
    have := Int.natAbs_tdiv_le_natAbs c (Int.gcd a b : Int)
    omega
  refine ⟨by omega, by omega, Int.tmod_eq_zero_of_dvd ha, Int.tmod_eq_zero_of_dvd hb, ?_⟩
  have b1' := bd a a0 a1
  have b2' := bd b b0 b1
  rw [w64_id (by omega) (by omega), w64_id (by omega) (by omega)]
  refine ev_fun (gcd_ev (by omega) (by omega) (by omega) (by omega)) ?_
  have e : Int.gcd (Int.tdiv a (Int.gcd a b : Int)) (Int.tdiv b (Int.gcd a b : Int)) = 1 := by
    rw [Int.tdiv_eq_ediv_of_dvd ha, Int.tdiv_eq_ediv_of_dvd hb]
    exact Int.gcd_ediv_gcd_ediv_gcd hg
  rw [e]; rfl

theorem NumDivisors : spykeep1_NumDivisors.Pure := by
  intro a b wa wb
  obtain ⟨a0, a1⟩ := i64_bd wa
  obtain ⟨b0, b1⟩ := i64_bd wb
  refine Ev.rounds (r := true) ?_
  unfold spykeep1_NumDivisors.f
  refine Ev.bind (gcd_ev a0 a1 b0 b1) (Ev.bind numFact_ev ?_)
  simp only [if_true]
  have J := j0_ev a0 a1 b0 b1
  by_cases c1 : a > -9223372036854775808
  · refine pos_ev c1 ?_
    by_cases c2 : b > -9223372036854775808
    · refine pos_ev c2 ?_
      by_cases z : a ≠ 0 ∨ b ≠ 0
      · obtain ⟨g0, g1, g2, g3, g4⟩ := quot_ev (a := a) (b := b) c1 a1 c2 b1 z
        rw [Int.emod_eq_of_lt (by omega) g1]
        have rest : Ev (fun k => (if (Int.gcd a b : Int) < 1 then none else (if (Int.gcd a b : Int) = 0 then none else (if (Int.tmod a (Int.gcd a b : Int)) = 0 then (if (Int.tmod b (Int.gcd a b : Int)) = 0 then ((num_Gcd.f k (wrap64 (Int.tdiv a (Int.gcd a b : Int))) (wrap64 (Int.tdiv b (Int.gcd a b : Int)))).bind fun t213 => (spykeep1_NumDivisors.j0 k a b (t213 != 1))) else none) else none)) : Option Bool)) true := by
          refine neg_ev (by omega) (neg_ev (by omega) (pos_ev g2 (pos_ev g3 (Ev.bind g4 ?_))))
          exact J
        by_cases za : a = 0
        · exact pos_ev za (neg_ev (by omega) rest)
        · exact neg_ev za rest
      · exact pos_ev (by omega) (pos_ev (by omega) J)
    · exact neg_ev c2 J
  · exact neg_ev c1 J
end Go.Proofs.Ytbaedcjophgiiaa.PureNumDivisors
namespace Go.Proofs.Ytbaedcjophgiiaa.Pure
theorem NumDivisors : Go.Proofs.Ytbaedcjophgiiaa.Q.spykeep1_NumDivisors.Pure := Go.Proofs.Ytbaedcjophgiiaa.PureNumDivisors.NumDivisors
end Go.Proofs.Ytbaedcjophgiiaa.Pure
