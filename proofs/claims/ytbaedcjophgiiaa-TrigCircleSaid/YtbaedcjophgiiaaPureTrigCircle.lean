/- TrigCircle in plain numbers: for every angle of 64 bits the printed function answers true; no other condition. -/
import Derived.Test.YtbaedcjophgiiaaQx24
import Derived.Test.YtbaedcjophgiiaaM1
import Derived.Test.YtbaedcjophgiiaaM2
import Derived.Test.YtbaedcjophgiiaaM3
import Derived.Test.YtbaedcjophgiiaaM4
import Derived.Test.YtbaedcjophgiiaaM5
import Derived.Test.YtbaedcjophgiiaaB1
import Derived.Test.YtbaedcjophgiiaaT1
import Derived.Test.YtbaedcjophgiiaaT2
import Derived.Test.YtbaedcjophgiiaaT3
import Derived.Test.YtbaedcjophgiiaaT4
import Derived.Test.YtbaedcjophgiiaaT5
import Derived.Test.YtbaedcjophgiiaaT7
import Derived.Test.YtbaedcjophgiiaaT8
namespace Go.Proofs.Ytbaedcjophgiiaa.PureTrigCircle
open Go.RowKit Go.Proofs.Ytbaedcjophgiiaa.Q Go.Proofs.YtbaedcjophgiiaaW.PrintWords Go.Proofs.YtbaedcjophgiiaaW.PrintLast
set_option linter.unusedVariables false
set_option linter.unusedSimpArgs false

theorem sq_bd {s : Int} (h0 : -1073741824 ≤ s) (h1 : s ≤ 1073741824) : 0 ≤ s * s ∧ s * s ≤ 1152921504606846976 := by
  have h : (s * s).natAbs ≤ 1073741824 * 1073741824 := by
    rw [Int.natAbs_mul]; exact Nat.mul_le_mul (by omega) (by omega)
  have h2 : 0 ≤ s * s := by
    rcases Int.le_total 0 s with h | h
    · exact Int.mul_nonneg h h
    · exact Int.mul_nonneg_of_nonpos_of_nonpos h h
  omega

theorem TrigCircle : spykeep1_TrigCircle.Pure := by
  intro a wa
  obtain ⟨a0, a1⟩ := i64_bd wa
  refine Ev.rounds (r := true) ?_
  unfold spykeep1_TrigCircle.f
  have bs := sn_bd a
  have bc := cs_bd a
  have s1 := sq_bd bs.1 bs.2
  have s2 := sq_bd bc.1 bc.2
  have c := circle a
  refine Ev.bind (sin_ev a0 a1) (Ev.bind (cos_ev a0 a1) (Ev.bind trigFact_ev (pos_ev rfl ?_)))
  rw [w64_id (x := sn a * sn a) (by omega) (by omega), w64_id (x := cs a * cs a) (by omega) (by omega), w64_id (x := sn a * sn a + cs a * cs a) (by omega) (by omega), w64_id (by omega) (by omega)]
  exact pos_ev c.1 (now_ev fun k => by rw [decide_eq_true (by omega)])
end Go.Proofs.Ytbaedcjophgiiaa.PureTrigCircle
namespace Go.Proofs.Ytbaedcjophgiiaa.Pure
theorem TrigCircle : Go.Proofs.Ytbaedcjophgiiaa.Q.spykeep1_TrigCircle.Pure := Go.Proofs.Ytbaedcjophgiiaa.PureTrigCircle.TrigCircle
end Go.Proofs.Ytbaedcjophgiiaa.Pure
