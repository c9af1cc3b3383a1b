/- ScaleDays in plain numbers: for every number of 64 bits the printed function answers true; no other condition. -/
import Derived.Test.YtbaedcjophgiiaaQx11
import Derived.Test.YtbaedcjophgiiaaQx10
import Derived.Test.YtbaedcjophgiiaaQx4
import Derived.Test.YtbaedcjophgiiaaM1
import Derived.Test.YtbaedcjophgiiaaM2
import Derived.Test.YtbaedcjophgiiaaM3
import Derived.Test.YtbaedcjophgiiaaM4
import Derived.Test.YtbaedcjophgiiaaM5
import Derived.Test.YtbaedcjophgiiaaB1
import Derived.Test.YtbaedcjophgiiaaT5
import Derived.Test.YtbaedcjophgiiaaS1
namespace Go.Proofs.Ytbaedcjophgiiaa.PureScaleDays
open Go.RowKit Go.Proofs.Ytbaedcjophgiiaa.Q Go.Proofs.YtbaedcjophgiiaaW.PrintWords Go.Proofs.YtbaedcjophgiiaaW.PrintLast
set_option linter.unusedVariables false
set_option linter.unusedSimpArgs false

theorem scaleFact_ev : Ev (fun k => spykeep1_scaleFact.f k) true :=
  Ev.of (fun k => spykeep1_scaleFact.mono k) (k := 30) (by decide +kernel)

theorem ScaleDays : spykeep1_ScaleDays.Pure := by
  intro a wa
  refine Ev.rounds (r := true) ?_
  unfold spykeep1_ScaleDays.f
  refine some_ev (below (by decide) (by decide)) ?_
  have hn : -700000 ≤ a % 3600000 - 700000 ∧ a % 3600000 - 700000 ≤ 2899999 := by omega
  rw [w64_id (x := a % 3600000 - 700000) (by omega) (by omega)]
  generalize a % 3600000 - 700000 = n at *
  rw [w64_id (x := n + 1) (by omega) (by omega)]
  have e0 : dn 1 1 1 = -730119 := by decide
  have e1 : dn 9999 12 31 = 2921939 := by decide
  obtain ⟨y, m, ⟨y0, y1, m0, m1, h0, h1⟩, hd⟩ := date_ev (N := n) (by omega) (by omega)
  obtain ⟨p, q, ⟨p0, p1, q0, q1, k0, k1⟩, hd2⟩ := date_ev (N := n + 1) (by omega) (by omega)
  have lb := len_bd y m
  have dd := dn_day y m (n - dn y m 1 + 1)
  have D := Days_ev (y := y) (m := m) (d := n - dn y m 1 + 1) y0 y1 m0 m1 (by omega) (by omega)
  have l12 := len12 y
  rw [show dn y m (n - dn y m 1 + 1) = n by omega] at D
  refine Ev.bind hd (Ev.bind hd2 (Ev.bind scaleFact_ev (pos_ev rfl (pos_ev rfl (pos_ev rfl (Ev.bind D ?_))))))
  simp only []
  rw [w64_id (x := n - dn y m 1 + 1 + 1) (by omega) (by omega), w64_id (x := y + 1) (by omega) (by omega), w64_id (x := m + 1) (by omega) (by omega)]
  rcases month_after m0 m1 q0 q1 h0 h1 k0 k1 with ⟨hp, hq⟩ | ⟨g1, g2, g3⟩
  · subst hp hq
    exact pos_ev rfl (pos_ev rfl (pos_ev (by omega) (pos_ev trivial (pos_ev trivial (Ev.now _)))))
  · by_cases c : p = y
    · subst c
      exact pos_ev rfl (neg_ev (by omega) (pos_ev (by omega) (pos_ev (by omega) (pos_ev (by omega) (pos_ev trivial (pos_ev trivial (Ev.now _)))))))
    · have hm : m = 12 := by omega
      subst hm
      refine neg_ev c (pos_ev (by omega) (pos_ev (by omega) (pos_ev (by omega) (pos_ev (by omega) (pos_ev rfl (pos_ev trivial (pos_ev trivial (now_ev fun k => ?_))))))))
      congr 1
      simp; omega
end Go.Proofs.Ytbaedcjophgiiaa.PureScaleDays
namespace Go.Proofs.Ytbaedcjophgiiaa.Pure
theorem ScaleDays : Go.Proofs.Ytbaedcjophgiiaa.Q.spykeep1_ScaleDays.Pure := Go.Proofs.Ytbaedcjophgiiaa.PureScaleDays.ScaleDays
end Go.Proofs.Ytbaedcjophgiiaa.Pure
