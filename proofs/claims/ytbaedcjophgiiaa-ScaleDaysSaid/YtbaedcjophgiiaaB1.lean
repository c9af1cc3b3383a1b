/- Small facts for all statements of package num: the bounds of the kinds, and the fact of package num holds; no conditions. -/
import Derived.Test.YtbaedcjophgiiaaQx16
import Derived.Test.YtbaedcjophgiiaaM1
import Derived.Test.YtbaedcjophgiiaaM2
import Derived.Test.YtbaedcjophgiiaaM3
import Derived.Test.YtbaedcjophgiiaaM4
import Derived.Test.YtbaedcjophgiiaaM5
namespace Go.Proofs.Ytbaedcjophgiiaa.Q
open Go.RowKit Go.Proofs.YtbaedcjophgiiaaW.PrintWords Go.Proofs.YtbaedcjophgiiaaW.PrintLast Go.Proofs.YtbaedcjophgiiaaW.PrintMore
set_option linter.unusedVariables false
set_option linter.unusedSimpArgs false

theorem i64_bd {a : Int} (h : (Lit.int .i64 a).wf = true) : -9223372036854775808 ≤ a ∧ a < 9223372036854775808 := by
  have h1 : IntKind.i64.min = -9223372036854775808 := by decide
  have h2 : IntKind.i64.max = 9223372036854775807 := by decide
  simp [Lit.wf, h1, h2] at h
  omega
theorem u64_bd {a : Int} (h : (Lit.int .u64 a).wf = true) : 0 ≤ a ∧ a < 18446744073709551616 := by
  have h1 : IntKind.u64.min = 0 := by decide
  have h2 : IntKind.u64.max = 18446744073709551615 := by decide
  simp [Lit.wf, h1, h2] at h
  omega

theorem numFact_ev : Ev (fun k => spykeep1_numFact.f k) true := by
  have h := muldiv (a := 4611686018427387904) (b := 6) (d := 8) (by decide) (by decide) (by decide) (by decide) (by decide)
  rw [show (if (8 : Int) < 1 then ((0 : Int), (1 : Int)) else if fits (4611686018427387904 * 6 / 8) then (4611686018427387904 * 6 / 8, 0) else (0, 2)) = (3458764513820540928, 0) by decide +kernel] at h
  unfold spykeep1_numFact.f
  exact Ev.bind h (now_ev fun k => by decide)
end Go.Proofs.Ytbaedcjophgiiaa.Q
