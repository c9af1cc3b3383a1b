/- TrigSymmetries in plain numbers: for every angle of 64 bits the printed function answers true; no other condition. -/
import Derived.Test.YtbaedcjophgiiaaQx23
import Derived.Test.YtbaedcjophgiiaaM1
import Derived.Test.YtbaedcjophgiiaaM2
import Derived.Test.YtbaedcjophgiiaaM3
import Derived.Test.YtbaedcjophgiiaaM4
import Derived.Test.YtbaedcjophgiiaaM5
import Derived.Test.YtbaedcjophgiiaaB1
import Derived.Test.YtbaedcjophgiiaaT1
import Derived.Test.YtbaedcjophgiiaaT2
import Derived.Test.YtbaedcjophgiiaaT3
import Derived.Test.YtbaedcjophgiiaaT4
namespace Go.Proofs.Ytbaedcjophgiiaa.PureTrigSymmetries
open Go.RowKit Go.Proofs.Ytbaedcjophgiiaa.Q Go.Proofs.YtbaedcjophgiiaaW.PrintWords Go.Proofs.YtbaedcjophgiiaaW.PrintLast
set_option linter.unusedVariables false
set_option linter.unusedSimpArgs false

theorem j1_ev {a : Int} {up : Bool} (h0 : -9223372036854775808 < a) (h1 : a < 9223372036854775808) (hup : up = true ↔ (a % 4294967296 < 1073741824 ∨ a % 4294967296 ≥ 3221225472)) :
    Ev (fun k => spykeep1_TrigSymmetries.j1 k a (a % 4294967296) up) true := by
  have b0 := sn_bd a
  have b1 := sn_bd (a % 4294967296)
  have b2 := sn_bd (a % 4294967296 + 1)
  have m : sn (a % 4294967296) = sn a := sn_mod (by omega)
  obtain ⟨n1, n2, n3, n4⟩ := sn_next (r := a % 4294967296) (by omega) (by omega)
  refine Ev.step (fun k => by rw [spykeep1_TrigSymmetries.j1, w64_id (x := a % 4294967296 + 1) (by omega) (by omega), w64_id (x := -a) (by omega) (by omega), w64_id (x := a % 4294967296 + 2147483648) (by omega) (by omega), w64_id (x := 2147483648 - a % 4294967296) (by omega) (by omega), w64_id (x := a % 4294967296 + 1073741824) (by omega) (by omega)]) ?_
  refine Ev.bind (sin_ev (by omega) (by omega)) (Ev.bind (sin_ev (by omega) (by omega)) (Ev.bind (sin_ev (by omega) (by omega)) (Ev.bind (sin_ev (by omega) (by omega)) ?_)))
  rw [w64_id (x := -sn a) (by omega) (by omega)]
  refine pos_ev (sn_neg a) (Ev.bind (cos_ev (by omega) (by omega)) (Ev.bind (cos_ev (by omega) (by omega)) ?_))
  refine pos_ev (cs_neg a) (Ev.bind (sin_ev (by omega) (by omega)) (Ev.bind (sin_ev (by omega) (by omega)) ?_))
  refine pos_ev (by rw [sn_half, m]) (Ev.bind (sin_ev (by omega) (by omega)) (Ev.bind (sin_ev (by omega) (by omega)) ?_))
  refine pos_ev (by rw [sn_supp, m]) (Ev.bind (cos_ev (by omega) (by omega)) (Ev.bind (sin_ev (by omega) (by omega)) ?_))
  refine pos_ev (by rw [cs_sn]; exact sn_mod (by omega)) ?_
  rw [w64_id (x := sn (a % 4294967296 + 1) - sn (a % 4294967296)) (by omega) (by omega)]
  cases up
  · have hn : ¬ (a % 4294967296 < 1073741824 ∨ a % 4294967296 ≥ 3221225472) := fun h => by have := hup.mpr h; simp at this
    have n4 := n4 hn
    by_cases c : sn (a % 4294967296 + 1) - sn (a % 4294967296) ≥ 0
    · exact pos_ev c (pos_ev (by omega) (pos_ev (by omega) (now_ev fun k => by rw [decide_eq_true (by omega)])))
    · exact neg_ev c (neg_ev (by decide) (pos_ev (by omega) (pos_ev (by omega) (now_ev fun k => by rw [decide_eq_true (by omega)]))))
  · have n3 := n3 (hup.mp rfl)
    refine pos_ev (by omega) ?_
    by_cases c : sn (a % 4294967296 + 1) - sn (a % 4294967296) ≤ 0
    · exact pos_ev c (pos_ev (by omega) (now_ev fun k => by rw [decide_eq_true (by omega)]))
    · exact neg_ev c (pos_ev rfl (pos_ev (by omega) (now_ev fun k => by rw [decide_eq_true (by omega)])))

theorem TrigSymmetries : spykeep1_TrigSymmetries.Pure := by
  intro a wa
  obtain ⟨a0, a1⟩ := i64_bd wa
  refine Ev.rounds (r := true) ?_
  unfold spykeep1_TrigSymmetries.f
  refine Ev.bind trigFact_ev (pos_ev rfl ?_)
  by_cases z : a = -9223372036854775808
  · refine Ev.step (fun k => by rw [spykeep1_TrigSymmetries.j0, if_pos (by simp [z])]) ?_
    exact Ev.bind trigFact_ev (Ev.now _)
  · refine Ev.step (fun k => by rw [spykeep1_TrigSymmetries.j0, if_neg (by simp [z]), mask32 a0 a1]) ?_
    by_cases c : a % 4294967296 < 1073741824
    · exact pos_ev c (j1_ev (by omega) a1 (by simp [c]))
    · exact neg_ev c (j1_ev (by omega) a1 (by simp [c]))
end Go.Proofs.Ytbaedcjophgiiaa.PureTrigSymmetries
namespace Go.Proofs.Ytbaedcjophgiiaa.Pure
theorem TrigSymmetries : Go.Proofs.Ytbaedcjophgiiaa.Q.spykeep1_TrigSymmetries.Pure := Go.Proofs.Ytbaedcjophgiiaa.PureTrigSymmetries.TrigSymmetries
end Go.Proofs.Ytbaedcjophgiiaa.Pure
