/- Bounds of api_Quanta in plain numbers: validity, what is inside, and what the stream of numbers draws; the bounds stand in each statement. -/
import Derived.Test.YthcdbpbimmjknaaDoorKAlertOrdersQx13
import Derived.Test.YthcdbpbimmjknaaDoorKAlertOrdersQx14
import Derived.Test.YthcdbpbimmjknaaDoorKAlertOrdersQx2
import Derived.Test.YthcdbpbimmjknaaDoorKAlertOrdersQx4
import Derived.Test.YthcdbpbimmjknaaDoorKAlertOrdersAO0
import Derived.Test.YthcdbpbimmjknaaDoorKAlertOrdersAO1
namespace Go.Proofs.YthcdbpbimmjknaaDoor.Q
open Go.RowKit Go.Proofs.YthcdbpbimmjknaaDoorW.PrintWords Go.Proofs.YthcdbpbimmjknaaDoorW.PrintLast Go.Proofs.YthcdbpbimmjknaaDoorW.PrintMore
set_option linter.unusedVariables false
set_option linter.unusedSimpArgs false
theorem api_Quanta.check {lo hi : Int} {u : Bool} (h : okb lo hi u) : Ev (fun k => bound_Check_api_Quanta.f k lo hi u) 0 := by
  unfold bound_Check_api_Quanta.f
  rcases h with ⟨rfl, rfl, rfl⟩ | ⟨rfl, h0, h1, h2⟩
  · refine pos_ev rfl (pos_ev rfl (Ev.step (fun k => by rw [bound_Check_api_Quanta.j0]) (neg_ev (by decide) (neg_ev (by decide) ?_))))
    exact Ev.step (fun k => by rw [bound_Check_api_Quanta.j1]) (neg_ev (by decide) (neg_ev (by decide) (Ev.now _)))
  · refine neg_ev (by decide) (Ev.step (fun k => by rw [bound_Check_api_Quanta.j0]) (neg_ev (by decide) (neg_ev (by unfold mn; split <;> omega) ?_)))
    refine Ev.step (fun k => by rw [bound_Check_api_Quanta.j1]) (neg_ev ?_ (neg_ev (by omega) (Ev.now _)))
    simp only [decide_eq_true_eq]
    unfold mx
    split <;> omega
theorem api_Quanta.norm {lo hi : Int} {u : Bool} (h : okb lo hi u) : Ev (fun k => bound_Norm_api_Quanta.f k lo hi u) (lo, hi, u) := by
  unfold bound_Norm_api_Quanta.f
  exact Ev.bind (api_Quanta.check h) (pos_ev rfl (Ev.now _))
theorem api_Quanta.vague {lo hi : Int} {u : Bool} (h : okb lo hi u) : Ev (fun k => bound_vague_api_Quanta.f k lo hi u lo hi u) u := by
  unfold bound_vague_api_Quanta.f
  refine Ev.bind (api_Quanta.norm h) ?_
  cases u
  · exact neg_ev (by simp) (Ev.bind (api_Quanta.norm h) (Ev.now _))
  · exact pos_ev rfl (Ev.now _)
theorem api_Quanta.inside {lo hi lo' hi' : Int} {u u' : Bool} (h : okb lo hi u) (h' : okb lo' hi' u') (hi_ : inb lo hi u lo' hi' u') : Ev (fun k => bound_Inside_api_Quanta.f k lo hi u lo' hi' u') true := by
  unfold bound_Inside_api_Quanta.f
  refine Ev.bind (api_Quanta.vague h') ?_
  rcases hi_ with rfl | ⟨rfl, rfl, h1, h2⟩
  · exact pos_ev rfl (Ev.now _)
  · exact neg_ev (by decide) (Ev.bind (api_Quanta.vague h) (neg_ev (by decide) (pos_ev h1 (now_ev fun _ => by rw [decide_eq_true h2]))))
theorem api_Quanta.drawn (l : List Int) {at_ most : Int} (hl : l.length ≤ 9223372036854775807) (a0 : 0 ≤ at_) (a1 : at_ < 4000000000000000000) (m0 : 0 ≤ most) (m1 : most ≤ 1000000) :
    ∃ lo hi u at2, spymake_Bound_api_Quanta.f l at_ most = some (lo, hi, u, at2) ∧ okm most lo hi u ∧ at_ ≤ at2 ∧ at2 ≤ at_ + 4 := by
  unfold spymake_Bound_api_Quanta.f
  obtain ⟨v, hv, v0, v1⟩ := next_in l (n := 8) hl a0 (by omega) (by decide) (by decide)
  rw [hv, w64_id (x := -most) (by omega) (by omega)]
  simp only [Option.bind_some]
  by_cases z : v = 0
  · rw [if_pos z]; exact ⟨0, 0, true, at_ + 1, rfl, .inl ⟨rfl, rfl, rfl⟩, by omega, by omega⟩
  rw [if_neg z]
  obtain ⟨x, hx, x0, x1⟩ := range_in l (at_ := at_ + 1) (lo := -most) (hi := most) hl (by omega) (by omega) (by omega) (by omega) (by omega)
  by_cases o : v = 1
  · rw [if_pos o, hx]; exact ⟨x, x, false, at_ + 1 + 1, rfl, .inr ⟨rfl, by omega, by omega, by omega⟩, by omega, by omega⟩
  rw [if_neg o, hx]
  simp only [Option.bind_some]
  obtain ⟨y, hy, y0, y1⟩ := range_in l (at_ := at_ + 1 + 1) (lo := -most) (hi := most) hl (by omega) (by omega) (by omega) (by omega) (by omega)
  rw [hy]
  simp only [Option.bind_some]
  refine ⟨_, _, false, at_ + 1 + 1 + 1, rfl, .inr ⟨rfl, ?_, ?_, ?_⟩, by omega, by omega⟩ <;> (try unfold mn) <;> (try unfold mx) <;> (repeat' split) <;> omega
theorem api_Quanta.narrow (l : List Int) {at_ lo hi : Int} {u : Bool} (hl : l.length ≤ 9223372036854775807) (a0 : 0 ≤ at_) (a1 : at_ < 3000000000000000000) (h : okb lo hi u) (hs : hi - lo ≤ 4611686018427387904) :
    ∃ lo' hi' u' at2, spymake_Within_api_Quanta.f l at_ lo hi u = some (lo', hi', u', at2) ∧ at_ ≤ at2 ∧ at2 ≤ at_ + 6 ∧
      ((u = true ∧ okm 100 lo' hi' u') ∨ (u = false ∧ u' = false ∧ ∃ i j : Int, 0 ≤ i ∧ i ≤ j ∧ j ≤ hi - lo ∧ lo' = lo + i ∧ hi' = lo + j)) := by
  unfold spymake_Within_api_Quanta.f
  rcases h with ⟨rfl, rfl, rfl⟩ | ⟨rfl, h0, h1, h2⟩
  · rw [if_pos rfl]
    obtain ⟨v, hv, v0, v1⟩ := next_in l (n := 2) hl a0 (by omega) (by decide) (by decide)
    rw [hv]
    simp only [Option.bind_some]
    by_cases z : v = 0
    · rw [if_pos z]; exact ⟨0, 0, true, at_ + 1, rfl, by omega, by omega, .inl ⟨by simp, .inl ⟨rfl, rfl, rfl⟩⟩⟩
    · rw [if_neg z]
      obtain ⟨lo', hi', u', at2, e, ho, p0, p1⟩ := api_Quanta.drawn l (at_ := at_ + 1) (most := 100) hl (by omega) (by omega) (by decide) (by decide)
      rw [e]
      exact ⟨lo', hi', u', at2, rfl, by omega, by omega, .inl ⟨by simp, ho⟩⟩
  · rw [if_neg (by decide)]
    have em : ∃ m, mn (wrap64 (hi - lo)) 536870912 = m ∧ 0 ≤ m ∧ m ≤ hi - lo ∧ m ≤ 536870912 := by
      rw [w64_id (by omega) (by omega)]
      refine ⟨_, rfl, ?_, ?_, ?_⟩ <;> unfold mn <;> split <;> omega
    obtain ⟨m, e1, m0, m1, m2⟩ := em
    rw [e1, w64_id (x := m + 1) (by omega) (by omega)]
    obtain ⟨i, hi', i0, i1⟩ := next_in l (n := m + 1) hl a0 (by omega) (by omega) (by omega)
    rw [hi']
    simp only [Option.bind_some]
    obtain ⟨j, hj, j0, j1⟩ := range_in l (at_ := at_ + 1) (lo := i) (hi := m) hl (by omega) (by omega) (by omega) (by omega) (by omega)
    rw [hj]
    simp only [Option.bind_some]
    rw [w64_id (x := lo + i) (by omega) (by omega), w64_id (x := lo + j) (by omega) (by omega)]
    exact ⟨lo + i, lo + j, false, at_ + 1 + 1, rfl, by omega, by omega, .inr ⟨by simp, by simp, i, j, i0, j0, by omega, rfl, rfl⟩⟩
end Go.Proofs.YthcdbpbimmjknaaDoor.Q
