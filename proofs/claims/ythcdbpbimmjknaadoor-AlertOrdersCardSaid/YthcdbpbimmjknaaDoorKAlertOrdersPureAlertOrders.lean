/- AlertOrders in plain numbers: for every stream of numbers the printed function answers true; no other condition. -/
import Derived.Test.YthcdbpbimmjknaaDoorKAlertOrdersQx21
import Derived.Test.YthcdbpbimmjknaaDoorKAlertOrdersQx20
import Derived.Test.YthcdbpbimmjknaaDoorKAlertOrdersQx3
import Derived.Test.YthcdbpbimmjknaaDoorKAlertOrdersQx6
import Derived.Test.YthcdbpbimmjknaaDoorKAlertOrdersAO0
import Derived.Test.YthcdbpbimmjknaaDoorKAlertOrdersAO1
import Derived.Test.YthcdbpbimmjknaaDoorKAlertOrdersAO1Tick
import Derived.Test.YthcdbpbimmjknaaDoorKAlertOrdersAO1Arc
import Derived.Test.YthcdbpbimmjknaaDoorKAlertOrdersAO1Quanta
import Derived.Test.YthcdbpbimmjknaaDoorKAlertOrdersAMK
import Derived.Test.YthcdbpbimmjknaaDoorKAlertOrdersAO2
import Derived.Test.YthcdbpbimmjknaaDoorKAlertOrdersAO3
import Derived.Test.YthcdbpbimmjknaaDoorKAlertOrdersAO4
import Derived.Test.YthcdbpbimmjknaaDoorKAlertOrdersAO5
import Derived.Test.YthcdbpbimmjknaaDoorKAlertOrdersAO6
import Derived.Test.YthcdbpbimmjknaaDoorKAlertOrdersAO7
namespace Go.Proofs.YthcdbpbimmjknaaDoor.Pure
open Go.RowKit Go.Proofs.YthcdbpbimmjknaaDoor.Q Go.Proofs.YthcdbpbimmjknaaDoorW.PrintWords Go.Proofs.YthcdbpbimmjknaaDoorW.PrintLast
set_option linter.unusedVariables false
set_option linter.unusedSimpArgs false
set_option maxRecDepth 100000 in
theorem alertFact_ev : Ev (fun k => spykeep1_alertFact.f k) true := Ev.of (fun k => spykeep1_alertFact.mono k) (k := 300) (by decide +kernel)
theorem AlertOrders : spykeep1_AlertOrders.Pure := by
  intro l hm _ _
  have hl : l.length ≤ 9223372036854775807 := by have h := hm; unfold maxLen at h; omega
  refine Ev.rounds (r := true) ?_
  obtain ⟨i, hi, i0, i1⟩ := next_in l (at_ := 0) (n := 2) hl (by decide) (by decide) (by decide) (by decide)
  obtain ⟨a0, a1, a2, a3, a4, a5, a6, a7, a8, a9, a10, a11, a12, a13, a14, a15, p, hA, oa, p0, p1⟩ := alert_in l (at_ := 0 + 1) (id := 1 + i) hl (by omega) (by omega) (by omega) (by omega)
  obtain ⟨b0, b1, b2, b3, b4, b5, b6, b7, b8, b9, b10, b11, b12, b13, b14, b15, q, hB, ob, ba, q0, q1⟩ := narrow_in l (at_ := p) hl (by omega) (by omega) a0 a1 a2 a3 a4 a5 a6 a7 a8 a9 a10 a11 a12 a13 a14 a15 oa
  obtain ⟨c0, c1, c2, c3, c4, c5, c6, c7, c8, c9, c10, c11, c12, c13, c14, c15, r, hC, oc, cb, r0, r1⟩ := narrow_in l (at_ := q) hl (by omega) (by omega) b0 b1 b2 b3 b4 b5 b6 b7 b8 b9 b10 b11 b12 b13 b14 b15 ob
  obtain ⟨j, hj, j0, j1⟩ := next_in l (at_ := r) (n := 2) hl (by omega) (by omega) (by decide) (by decide)
  obtain ⟨d0, d1, d2, d3, d4, d5, d6, d7, d8, d9, d10, d11, d12, d13, d14, d15, s, hD, od, s0, s1⟩ := alert_in l (at_ := r + 1) (id := 1 + j) hl (by omega) (by omega) (by omega) (by omega)
  unfold spykeep1_AlertOrders.f
  refine some_ev hi ?_
  simp only
  rw [w64_id (x := 1 + i) (by omega) (by omega)]
  refine some_ev hA (some_ev hB (some_ev hC (some_ev hj ?_)))
  simp only
  rw [w64_id (x := 1 + j) (by omega) (by omega)]
  refine some_ev hD (some_ev rfl ?_)
  simp only [List.length_cons, List.length_nil]
  exact over_step _ (by rfl) (by decide) (by decide) (by decide) _ _ _ _ _ _ _ _ _ _ _ _ _ _ _ _ _ _ _ _ _ _ _ _ _ _ _ _ _ _ _ _ _ _ _ _ _ _ _ _ _ _ _ _ _ _ _ _
    (over_step _ (by rfl) (by decide) (by decide) (by decide) _ _ _ _ _ _ _ _ _ _ _ _ _ _ _ _ _ _ _ _ _ _ _ _ _ _ _ _ _ _ _ _ _ _ _ _ _ _ _ _ _ _ _ _ _ _ _ _
      (over_step _ (by rfl) (by decide) (by decide) (by decide) _ _ _ _ _ _ _ _ _ _ _ _ _ _ _ _ _ _ _ _ _ _ _ _ _ _ _ _ _ _ _ _ _ _ _ _ _ _ _ _ _ _ _ _ _ _ _ _
        (over_end _ (by decide) oa ob oc ba cb alertFact_ev)))
end Go.Proofs.YthcdbpbimmjknaaDoor.Pure
