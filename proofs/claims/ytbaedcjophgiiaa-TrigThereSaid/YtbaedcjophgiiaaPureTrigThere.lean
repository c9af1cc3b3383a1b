/- TrigThere in plain numbers: for every angle of 64 bits the printed function answers true; no other condition. -/
import Derived.Test.YtbaedcjophgiiaaQx25
import Derived.Test.YtbaedcjophgiiaaM1
import Derived.Test.YtbaedcjophgiiaaM2
import Derived.Test.YtbaedcjophgiiaaM3
import Derived.Test.YtbaedcjophgiiaaM4
import Derived.Test.YtbaedcjophgiiaaM5
import Derived.Test.YtbaedcjophgiiaaB1
import Derived.Test.YtbaedcjophgiiaaT1
import Derived.Test.YtbaedcjophgiiaaT2
import Derived.Test.YtbaedcjophgiiaaT3
import Derived.Test.YtbaedcjophgiiaaT4
import Derived.Test.YtbaedcjophgiiaaT5
import Derived.Test.YtbaedcjophgiiaaT6
namespace Go.Proofs.Ytbaedcjophgiiaa.PureTrigThere
open Go.RowKit Go.Proofs.Ytbaedcjophgiiaa.Q Go.Proofs.YtbaedcjophgiiaaW.PrintWords Go.Proofs.YtbaedcjophgiiaaW.PrintLast
set_option linter.unusedVariables false
set_option linter.unusedSimpArgs false

theorem not_both (a : Int) : cs a ≠ 0 ∨ sn a ≠ 0 := by
  obtain ⟨hq, ht0, ht1⟩ := quad a
  generalize ht : a % 1073741824 = t at *
  have p2 := qt_pos (t := 1073741824 - t) (by omega) (by omega)
  rw [cs_sn]
  rcases hq with hq | hq | hq | hq
  · left; rw [sn_at (a := a + 1073741824) (q := 1) (t := t) (by omega) (by omega)]; simp; omega
  · right; rw [sn_at hq ht]; simp; omega
  · left; rw [sn_at (a := a + 1073741824) (q := 3) (t := t) (by omega) (by omega)]; simp; omega
  · right; rw [sn_at hq ht]; simp; omega

theorem TrigThere : spykeep1_TrigThere.Pure := by
  intro a wa
  obtain ⟨a0, a1⟩ := i64_bd wa
  refine Ev.rounds (r := true) ?_
  unfold spykeep1_TrigThere.f
  have bs := sn_bd a
  have bc := cs_bd a
  refine Ev.bind (sin_ev a0 a1) (Ev.bind (cos_ev a0 a1) (Ev.bind (atan2_ev (by omega) (by omega) (by omega) (by omega) (not_both a)) (Ev.bind trigFact_ev (pos_ev rfl (pos_ev rfl ?_)))))
  refine now_ev fun k => ?_
  have h := there a
  have hw : ∀ x : Int, -9223372036854775808 ≤ wrap64 x ∧ wrap64 x < 9223372036854775808 ∧ wrap64 x % 4294967296 = x % 4294967296 := by
    intro x; unfold wrap64; omega
  have w1 := hw (at2 (sn a) (cs a) - a)
  have w2 := hw (wrap64 (at2 (sn a) (cs a) - a) + 2)
  simp only []
  rw [mask32 w2.1 w2.2.1, decide_eq_true (by omega)]
end Go.Proofs.Ytbaedcjophgiiaa.PureTrigThere
namespace Go.Proofs.Ytbaedcjophgiiaa.Pure
theorem TrigThere : Go.Proofs.Ytbaedcjophgiiaa.Q.spykeep1_TrigThere.Pure := Go.Proofs.Ytbaedcjophgiiaa.PureTrigThere.TrigThere
end Go.Proofs.Ytbaedcjophgiiaa.Pure
