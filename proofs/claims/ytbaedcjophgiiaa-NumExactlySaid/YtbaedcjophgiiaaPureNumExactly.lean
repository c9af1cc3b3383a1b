/- NumExactly in plain numbers: for all numbers a, b, c of 64 bits the printed function answers true; no other condition. -/
import Derived.Test.YtbaedcjophgiiaaQx20
import Derived.Test.YtbaedcjophgiiaaQx16
import Derived.Test.YtbaedcjophgiiaaM1
import Derived.Test.YtbaedcjophgiiaaM2
import Derived.Test.YtbaedcjophgiiaaM3
import Derived.Test.YtbaedcjophgiiaaM4
import Derived.Test.YtbaedcjophgiiaaM5
import Derived.Test.YtbaedcjophgiiaaB1
namespace Go.Proofs.Ytbaedcjophgiiaa.Pure
open Go.RowKit Go.Proofs.Ytbaedcjophgiiaa.Q Go.Proofs.YtbaedcjophgiiaaW.PrintWords Go.Proofs.YtbaedcjophgiiaaW.PrintLast
set_option linter.unusedVariables false
set_option linter.unusedSimpArgs false

theorem exactly_j0 {c e m f v : Int} (c0 : -9223372036854775808 ≤ c) (c1 : c < 9223372036854775808) (he : (e = 1) ↔ (c < 1)) (hf : (f = 1) ↔ (c < 1))
    (hm : f = 0 → 1 ≤ c ∧ -9223372036854775808 ≤ m ∧ m < 9223372036854775808 ∧ m * c ≥ v ∧ m * c - c < v) :
    Ev (fun k => spykeep1_NumExactly.j0 k c e m f (v / 18446744073709551616) (v % 18446744073709551616)) true := by
  have fin : ∀ x : Int, ((x = 1) ↔ (c < 1)) → ((x == 1) == (decide (c < 1))) = true := by
    intro x hx
    by_cases h : c < 1
    · simp [h, hx.mpr h]
    · have : ¬ x = 1 := fun h' => h (hx.mp h')
      simp [h, this]
  by_cases z : f = 0
  · obtain ⟨hc, m0, m1, m2, m3⟩ := hm z
    have hb := prod_bd m0 m1 c0 c1
    refine Ev.step (fun k => by rw [spykeep1_NumExactly.j0, if_pos z, product m0 m1 c0 c1, Option.bind_some]) ?_
    refine Ev.bind (wide_cmp _ _) ?_
    refine neg_ev (by split <;> (try split) <;> omega) ?_
    rw [w64_id (by omega) (by omega)]
    refine some_ev (product (a := -c) (b := 1) (by omega) (by omega) (by decide) (by decide)) ?_
    refine some_ev (wide_plus (u := m * c) (v := -c * 1) (by omega) (by omega)) ?_
    refine Ev.bind (wide_cmp _ _) ?_
    exact now_ev fun k => by rw [if_neg (by rw [if_pos (by omega)]; decide), if_pos (fin e he), fin f hf]
  · exact one_ev fun k => by rw [spykeep1_NumExactly.j0, if_neg z, if_pos (fin e he), fin f hf]

theorem NumExactly : spykeep1_NumExactly.Pure := by
  intro a b c wa wb wc
  obtain ⟨a0, a1⟩ := i64_bd wa
  obtain ⟨b0, b1⟩ := i64_bd wb
  obtain ⟨c0, c1⟩ := i64_bd wc
  refine Ev.rounds (r := true) ?_
  have hp := prod_bd a0 a1 b0 b1
  have M := muldiv (d := c) a0 a1 b0 b1 c1
  have U := muldivup (d := c) a0 a1 b0 b1 c1
  refine Ev.congr (fun k => by unfold spykeep1_NumExactly.f; rw [product a0 a1 b0 b1, Option.bind_some]) ?_
  generalize hv : a * b = v at *
  refine Ev.bind M (Ev.bind U (Ev.bind numFact_ev ?_))
  simp only [if_true]
  by_cases hc : c < 1
  · simp only [if_pos hc]
    refine Ev.congr (fun k => if_neg (by decide)) ?_
    exact exactly_j0 c0 c1 (by simp [hc]) (by simp [hc]) (fun h => by simp at h)
  · simp only [if_neg hc]
    have hcp : 0 < c := by omega
    have e := Int.emod_add_mul_ediv v c
    have e0 := Int.emod_nonneg v (show c ≠ 0 by omega)
    have e1 := Int.emod_lt_of_pos v hcp
    have ec : c * (v / c) = v / c * c := Int.mul_comm _ _
    by_cases hq : fits (v / c) = true
    · rw [if_pos hq, if_pos hq]
      simp only [if_true]
      have hq' := hq
      unfold fits at hq'
      simp only [Bool.and_eq_true, decide_eq_true_eq] at hq'
      have hb := prod_bd (a := v / c) (b := c) (by omega) (by omega) c0 c1
      refine some_ev (product (a := v / c) (b := c) (by omega) (by omega) c0 c1) ?_
      refine Ev.bind (wide_cmp _ _) ?_
      refine neg_ev (by split <;> (try split) <;> omega) ?_
      refine some_ev (product (a := c) (b := 1) (by omega) (by omega) (by decide) (by decide)) ?_
      refine some_ev (wide_plus (u := v / c * c) (v := c * 1) (by omega) (by omega)) ?_
      refine Ev.bind (wide_cmp _ _) ?_
      refine Ev.congr (fun k => if_neg (by rw [if_neg (by omega), if_pos (by omega)]; decide)) ?_
      by_cases hu : fits (upq v c) = true
      · rw [if_pos hu]
        have hu' := hu
        unfold fits at hu'
        simp only [Bool.and_eq_true, decide_eq_true_eq] at hu'
        refine exactly_j0 c0 c1 (by simp; omega) (by simp; omega) (fun _ => ⟨by omega, by simp only; omega, by simp only; omega, ?_⟩)
        simp only
        unfold upq
        split
        · omega
        · rw [Int.add_mul]; omega
      · rw [if_neg hu]
        exact exactly_j0 c0 c1 (by simp; omega) (by simp; omega) (fun h => by simp at h)
    · rw [if_neg hq, if_neg hq]
      refine Ev.congr (fun k => if_neg (by decide)) ?_
      exact exactly_j0 c0 c1 (by simp; omega) (by simp; omega) (fun h => by simp at h)
end Go.Proofs.Ytbaedcjophgiiaa.Pure
