/- An alert of the stream passes the check; the bounds stand in the statement. -/
import Derived.Test.YthcdbpbimmjknaaDoorKAlertOrdersQx9
import Derived.Test.YthcdbpbimmjknaaDoorKAlertOrdersQx7
import Derived.Test.YthcdbpbimmjknaaDoorKAlertOrdersAO0
import Derived.Test.YthcdbpbimmjknaaDoorKAlertOrdersAO1
import Derived.Test.YthcdbpbimmjknaaDoorKAlertOrdersAO1Tick
import Derived.Test.YthcdbpbimmjknaaDoorKAlertOrdersAO1Arc
import Derived.Test.YthcdbpbimmjknaaDoorKAlertOrdersAO1Quanta
import Derived.Test.YthcdbpbimmjknaaDoorKAlertOrdersAMK
import Derived.Test.YthcdbpbimmjknaaDoorKAlertOrdersAO3
namespace Go.Proofs.YthcdbpbimmjknaaDoor.Q
open Go.RowKit Go.Proofs.YthcdbpbimmjknaaDoorW.PrintWords Go.Proofs.YthcdbpbimmjknaaDoorW.PrintLast Go.Proofs.YthcdbpbimmjknaaDoorW.PrintMore
set_option linter.unusedVariables false
set_option linter.unusedSimpArgs false
theorem orz_ev : Ev (fun k => cmp_Or_api_Errno.f k [0, 0, 0, 0]) 0 := Ev.of (fun k => cmp_Or_api_Errno.mono _ k) (k := 8) (by decide +kernel)
theorem Check_ev {a0 a1 a2 a3 a4 : Int} {a5 : Bool} {a6 a7 : Int} {a8 : Bool} {a9 a10 : Int} {a11 : Bool} {a12 a13 : Int} {a14 : Bool} {a15 : Int} (h : oka a0 a1 a2 a3 a4 a5 a6 a7 a8 a9 a10 a11 a12 a13 a14 a15) :
    Ev (fun k => alert_Check.f k a0 a1 a2 a3 a4 a5 a6 a7 a8 a9 a10 a11 a12 a13 a14 a15) 0 := by
  obtain ⟨g0, g1, g2, g3, g4, g5, ht, hr, hd, hq, g6⟩ := h
  subst g6
  have t : -17592186044416 ≤ a3 ∧ a4 ≤ 17592186044416 := by rcases ht with ⟨_, h1, h2⟩ | ⟨_, h1, h2, h3⟩ <;> omega
  have d : -1073741824 ≤ a9 ∧ a10 ≤ 1073741824 := by rcases hd with ⟨_, h1, h2⟩ | ⟨_, h1, h2, h3⟩ <;> omega
  have r : 0 ≤ a6 ∧ a6 < 4294967296 ∧ 0 ≤ a7 - a6 ∧ a7 - a6 < 4294967296 := by rcases hr with ⟨_, h1, h2⟩ | ⟨_, h1, h2, h3, h4⟩ <;> omega
  unfold alert_Check.f
  refine neg_ev (by omega) (neg_ev (by omega) (neg_ev (by omega) (neg_ev (by omega) (neg_ev (by decide) ?_))))
  refine Ev.step (fun k => by rw [alert_Check.j0]) (neg_ev (by decide) (neg_ev (by omega) ?_))
  refine Ev.step (fun k => by rw [alert_Check.j1]) (neg_ev (by simp only [decide_eq_true_eq]; omega) ?_)
  refine Ev.bind (api_Tick.check (okm_ok ht (by decide))) (Ev.bind (api_Arc.check (okr_ok hr)) (Ev.bind (api_Arc.check (okm_ok hd (by decide))) (Ev.bind (api_Quanta.check (okm_ok hq (by decide))) (Ev.bind orz_ev ?_))))
  refine pos_ev rfl (neg_ev (by omega) (neg_ev (by omega) (neg_ev (by omega) ?_)))
  refine Ev.step (fun k => by rw [alert_Check.j2]) (neg_ev (by simp only [decide_eq_true_eq]; omega) (neg_ev (by omega) (neg_ev (by omega) ?_)))
  rw [w64_id (x := a7 - a6) (by omega) (by omega)]
  refine Ev.step (fun k => by rw [alert_Check.j3]) (neg_ev (by simp only [decide_eq_true_eq]; omega) (neg_ev (by omega) ?_))
  exact Ev.step (fun k => by rw [alert_Check.j4]) (neg_ev (by decide) (neg_ev (by omega) (Ev.now _)))
end Go.Proofs.YthcdbpbimmjknaaDoor.Q
