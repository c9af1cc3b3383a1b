/- TrigTurns in plain numbers: for all five numbers of 64 bits the printed function answers true; no other condition. -/
import Derived.Test.YtbaedcjophgiiaaQx26
import Derived.Test.YtbaedcjophgiiaaQx4
import Derived.Test.YtbaedcjophgiiaaM1
import Derived.Test.YtbaedcjophgiiaaM2
import Derived.Test.YtbaedcjophgiiaaM3
import Derived.Test.YtbaedcjophgiiaaM4
import Derived.Test.YtbaedcjophgiiaaM5
import Derived.Test.YtbaedcjophgiiaaB1
import Derived.Test.YtbaedcjophgiiaaT1
import Derived.Test.YtbaedcjophgiiaaT2
import Derived.Test.YtbaedcjophgiiaaT3
import Derived.Test.YtbaedcjophgiiaaT4
import Derived.Test.YtbaedcjophgiiaaT5
namespace Go.Proofs.Ytbaedcjophgiiaa.PureTrigTurns
open Go.RowKit Go.Proofs.Ytbaedcjophgiiaa.Q Go.Proofs.YtbaedcjophgiiaaW.PrintWords Go.Proofs.YtbaedcjophgiiaaW.PrintLast
set_option linter.unusedVariables false
set_option linter.unusedSimpArgs false

theorem j2_ev {a b d : Int} {x : Bool} (hx : x = false → (0 < d → a ≤ b) ∧ (d < 0 → b ≤ a) ∧ (d = 0 → a = b)) : Ev (fun k => spykeep1_TrigTurns.j2 k a b d x) true := by
  refine one_ev fun k => ?_
  rw [spykeep1_TrigTurns.j2]
  cases x
  · obtain ⟨h1, h2, h3⟩ := hx rfl
    rw [if_neg (by decide)]
    by_cases c : d > 0
    · rw [if_pos c, decide_eq_true (h1 c)]
    · rw [if_neg c]
      by_cases e : d < 0
      · rw [if_pos e, decide_eq_true (h2 e)]
      · rw [if_neg e, h3 (by omega)]; simp
  · rw [if_pos rfl]

theorem j1_ev {p q r s : Int} (p0 : -1000 ≤ p) (p1 : p ≤ 1000) (q0 : 0 ≤ q) (q1 : q ≤ 1000) (r0 : -1000 ≤ r) (r1 : r ≤ 1000) (s0 : 0 ≤ s) (s1 : s ≤ 1000) (h1 : p ≠ 0 ∨ q ≠ 0) (h2 : r ≠ 0 ∨ s ≠ 0) :
    Ev (fun k => spykeep1_TrigTurns.j1 k p q r s (at2 q p) (at2 s r) false) true := by
  have bd : ∀ u v : Int, -1000 ≤ u → u ≤ 1000 → 0 ≤ v → v ≤ 1000 → -1000000 ≤ u * v ∧ u * v ≤ 1000000 := by
    intro u v u0 u1 v0 v1
    have a : u * v ≤ 1000 * v := Int.mul_le_mul_of_nonneg_right u1 v0
    have b : -1000 * v ≤ u * v := Int.mul_le_mul_of_nonneg_right u0 v0
    omega
  have b1 := bd p s p0 p1 s0 s1
  have b2 := bd r q r0 r1 q0 q1
  rw [Int.mul_comm r q] at b2
  have J : ∀ x : Bool, (x = false → ¬ (q = 0 ∧ p < 0) ∧ ¬ (s = 0 ∧ r < 0)) → Ev (fun k => spykeep1_TrigTurns.j2 k (at2 q p) (at2 s r) (p * s - q * r) x) true := by
    intro x hx
    refine j2_ev (fun hf => ?_)
    obtain ⟨n1, n2⟩ := hx hf
    have e : r * q - s * p = -(p * s - q * r) := by grind
    refine ⟨fun h => at2_turn q0 s0 h1 h2 n1 n2 (by omega), fun h => at2_turn s0 q0 h2 h1 n2 n1 (by omega), fun h => Int.le_antisymm (at2_turn q0 s0 h1 h2 n1 n2 (by omega)) (at2_turn s0 q0 h2 h1 n2 n1 (by omega))⟩
  refine Ev.step (fun k => by rw [spykeep1_TrigTurns.j1, if_neg (by decide), w64_id (x := p * s) (by omega) (by omega), w64_id (x := q * r) (by omega) (by omega), w64_id (x := p * s - q * r) (by omega) (by omega)]) ?_
  by_cases c1 : q = 0
  · refine pos_ev c1 ?_
    by_cases c2 : p < 0
    · exact pos_ev c2 (J true (by simp))
    · refine neg_ev c2 ?_
      by_cases c3 : s = 0
      · exact pos_ev c3 (J _ (by intro h; simp at h; omega))
      · exact neg_ev c3 (J _ (by intro h; omega))
  · refine neg_ev c1 ?_
    by_cases c3 : s = 0
    · exact pos_ev c3 (J _ (by intro h; simp at h; omega))
    · exact neg_ev c3 (J _ (by intro h; omega))

theorem j0_ev {p q r s n : Int} {x : Bool} (p0 : -1000 ≤ p) (p1 : p ≤ 1000) (q0 : 0 ≤ q) (q1 : q ≤ 1000) (r0 : -1000 ≤ r) (r1 : r ≤ 1000) (s0 : 0 ≤ s) (s1 : s ≤ 1000) (n0 : 1 ≤ n) (n1 : n ≤ 4000000)
    (h : x = false → (p ≠ 0 ∨ q ≠ 0) ∧ (r ≠ 0 ∨ s ≠ 0)) : Ev (fun k => spykeep1_TrigTurns.j0 k p q r s n x) true := by
  cases x
  · obtain ⟨h1, h2⟩ := h rfl
    have bd : ∀ u : Int, -1000 ≤ u → u ≤ 1000 → -4000000000 ≤ n * u ∧ n * u ≤ 4000000000 := by
      intro u u0 u1
      have a : n * u ≤ n * 1000 := Int.mul_le_mul_of_nonneg_left u1 (by omega)
      have b : n * (-1000) ≤ n * u := Int.mul_le_mul_of_nonneg_left u0 (by omega)
      omega
    have b1 := bd p p0 p1
    have b2 := bd q (by omega) q1
    have h3 : n * p ≠ 0 ∨ n * q ≠ 0 := by
      rcases h1 with h | h
      · left; exact Int.mul_ne_zero (by omega) h
      · right; exact Int.mul_ne_zero (by omega) h
    refine Ev.step (fun k => by rw [spykeep1_TrigTurns.j0, if_neg (by decide), w64_id (x := n * q) (by omega) (by omega), w64_id (x := n * p) (by omega) (by omega)]) ?_
    refine Ev.bind (atan2_ev (by omega) (by omega) (by omega) (by omega) h1) (Ev.bind (atan2_ev (by omega) (by omega) (by omega) (by omega) h2) (Ev.bind (atan2_ev (by omega) (by omega) (by omega) (by omega) h3) (Ev.bind trigFact_ev ?_)))
    refine pos_ev rfl (pos_ev rfl (pos_ev rfl (pos_ev rfl ?_)))
    simp only [at2_scale n0 q0, bne_self_eq_false]
    exact j1_ev p0 p1 q0 q1 r0 r1 s0 s1 h1 h2
  · refine Ev.step (fun k => by rw [spykeep1_TrigTurns.j0, if_pos rfl]) ?_
    exact Ev.bind trigFact_ev (Ev.now _)

theorem TrigTurns : spykeep1_TrigTurns.Pure := by
  intro a0 a1 a2 a3 a4 _ _ _ _ _
  refine Ev.rounds (r := true) ?_
  unfold spykeep1_TrigTurns.f
  refine some_ev (below (by decide) (by decide)) (some_ev (below (by decide) (by decide)) (some_ev (below (by decide) (by decide)) (some_ev (below (by decide) (by decide)) (some_ev (below (by decide) (by decide)) ?_))))
  rw [w64_id (x := a0 % 2001 - 1000) (by omega) (by omega), w64_id (x := a2 % 2001 - 1000) (by omega) (by omega), w64_id (x := 1 + a4 % 4000000) (by omega) (by omega)]
  have J : ∀ x : Bool, (x = false → (a0 % 2001 - 1000 ≠ 0 ∨ a1 % 1001 ≠ 0) ∧ (a2 % 2001 - 1000 ≠ 0 ∨ a3 % 1001 ≠ 0)) → Ev (fun k => spykeep1_TrigTurns.j0 k (a0 % 2001 - 1000) (a1 % 1001) (a2 % 2001 - 1000) (a3 % 1001) (1 + a4 % 4000000) x) true :=
    fun x h => j0_ev (by omega) (by omega) (by omega) (by omega) (by omega) (by omega) (by omega) (by omega) (by omega) (by omega) h
  by_cases c1 : a0 % 2001 - 1000 = 0
  · refine pos_ev c1 ?_
    by_cases c2 : a1 % 1001 = 0
    · exact pos_ev c2 (J _ (by simp))
    · refine neg_ev c2 ?_
      by_cases c3 : a2 % 2001 - 1000 = 0
      · exact pos_ev c3 (J _ (by intro h; simp at h; omega))
      · exact neg_ev c3 (J _ (by intro h; omega))
  · refine neg_ev c1 ?_
    by_cases c3 : a2 % 2001 - 1000 = 0
    · exact pos_ev c3 (J _ (by intro h; simp at h; omega))
    · exact neg_ev c3 (J _ (by intro h; omega))
end Go.Proofs.Ytbaedcjophgiiaa.PureTrigTurns
namespace Go.Proofs.Ytbaedcjophgiiaa.Pure
theorem TrigTurns : Go.Proofs.Ytbaedcjophgiiaa.Q.spykeep1_TrigTurns.Pure := Go.Proofs.Ytbaedcjophgiiaa.PureTrigTurns.TrigTurns
end Go.Proofs.Ytbaedcjophgiiaa.Pure
