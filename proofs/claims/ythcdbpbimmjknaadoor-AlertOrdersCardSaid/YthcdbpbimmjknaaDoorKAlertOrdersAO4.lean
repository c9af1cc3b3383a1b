/- Narrower alerts: valid, and inside; the bounds stand in each statement. -/
import Derived.Test.YthcdbpbimmjknaaDoorKAlertOrdersQx6
import Derived.Test.YthcdbpbimmjknaaDoorKAlertOrdersQx12
import Derived.Test.YthcdbpbimmjknaaDoorKAlertOrdersAO0
import Derived.Test.YthcdbpbimmjknaaDoorKAlertOrdersAO1
import Derived.Test.YthcdbpbimmjknaaDoorKAlertOrdersAO1Tick
import Derived.Test.YthcdbpbimmjknaaDoorKAlertOrdersAO1Arc
import Derived.Test.YthcdbpbimmjknaaDoorKAlertOrdersAO1Quanta
import Derived.Test.YthcdbpbimmjknaaDoorKAlertOrdersAMK
import Derived.Test.YthcdbpbimmjknaaDoorKAlertOrdersAO3
namespace Go.Proofs.YthcdbpbimmjknaaDoor.Q
open Go.RowKit Go.Proofs.YthcdbpbimmjknaaDoorW.PrintWords Go.Proofs.YthcdbpbimmjknaaDoorW.PrintLast Go.Proofs.YthcdbpbimmjknaaDoorW.PrintMore
set_option linter.unusedVariables false
set_option linter.unusedSimpArgs false
/-- A narrower bound is valid, and inside. -/
theorem nar_ok {m lo hi lo' hi' : Int} {u u' : Bool} (h : okm m lo hi u) (hm : 100 ≤ m)
    (n : (u = true ∧ okm 100 lo' hi' u') ∨ (u = false ∧ u' = false ∧ ∃ i j : Int, 0 ≤ i ∧ i ≤ j ∧ j ≤ hi - lo ∧ lo' = lo + i ∧ hi' = lo + j)) : okm m lo' hi' u' ∧ inb lo' hi' u' lo hi u := by
  rcases n with ⟨hu, n⟩ | ⟨hu, hu', i, j, i0, ij, j1, e1, e2⟩
  · exact ⟨okm_mono n hm, .inl hu⟩
  · rcases h with ⟨h, _, _⟩ | ⟨h1, h2, h3, h4⟩
    · rw [h] at hu; cases hu
    · exact ⟨.inr ⟨hu', by omega, by omega, by omega⟩, .inr ⟨hu', hu, by omega, by omega⟩⟩
/-- What Narrow makes. -/
def ins (a0 a1 a2 a3 a4 : Int) (a5 : Bool) (a6 a7 : Int) (a8 : Bool) (a9 a10 : Int) (a11 : Bool) (a12 a13 : Int) (a14 : Bool) (a15 : Int) (b0 b1 b2 b3 b4 : Int) (b5 : Bool) (b6 b7 : Int) (b8 : Bool) (b9 b10 : Int) (b11 : Bool) (b12 b13 : Int) (b14 : Bool) (b15 : Int) : Prop :=
  a0 = b0 ∧ a1 = b1 ∧ a2 = b2 ∧ a15 = b15 ∧ inb a3 a4 a5 b3 b4 b5 ∧ inr a6 a7 a8 b6 b7 b8 ∧ inb a9 a10 a11 b9 b10 b11 ∧ inb a12 a13 a14 b12 b13 b14
theorem narrow_in (l : List Int) {at_ : Int} (hl : l.length ≤ 9223372036854775807) (p0 : 0 ≤ at_) (p1 : at_ < 1000000000000000000)
    (a0 a1 a2 a3 a4 : Int) (a5 : Bool) (a6 a7 : Int) (a8 : Bool) (a9 a10 : Int) (a11 : Bool) (a12 a13 : Int) (a14 : Bool) (a15 : Int) (h : oka a0 a1 a2 a3 a4 a5 a6 a7 a8 a9 a10 a11 a12 a13 a14 a15) :
    ∃ (x0 x1 x2 x3 x4 : Int) (x5 : Bool) (x6 x7 : Int) (x8 : Bool) (x9 x10 : Int) (x11 : Bool) (x12 x13 : Int) (x14 : Bool) (x15 at2 : Int), spymake_Stream_Narrow.f l at_ a0 a1 a2 a3 a4 a5 a6 a7 a8 a9 a10 a11 a12 a13 a14 a15 = some (x0, x1, x2, x3, x4, x5, x6, x7, x8, x9, x10, x11, x12, x13, x14, x15, at2) ∧
      oka x0 x1 x2 x3 x4 x5 x6 x7 x8 x9 x10 x11 x12 x13 x14 x15 ∧ ins x0 x1 x2 x3 x4 x5 x6 x7 x8 x9 x10 x11 x12 x13 x14 x15 a0 a1 a2 a3 a4 a5 a6 a7 a8 a9 a10 a11 a12 a13 a14 a15 ∧ at_ ≤ at2 ∧ at2 ≤ at_ + 100 := by
  obtain ⟨g0, g1, g2, g3, g4, g5, ht, hr, hd, hq, g6⟩ := h
  unfold spymake_Stream_Narrow.f
  have sm : ∀ {m lo hi : Int} {u : Bool}, okm m lo hi u → m ≤ 1152921504606846976 → hi - lo ≤ 4611686018427387904 := by
    intro m lo hi u h hm; rcases h with ⟨_, h1, h2⟩ | ⟨_, h1, h2, h3⟩ <;> omega
  obtain ⟨tl, th, tu, q1, e1, s1, f1, n1⟩ := api_Tick.narrow l (at_ := at_) hl p0 (by omega) (okm_ok ht (by decide)) (sm ht (by decide))
  rw [e1]; simp only [Option.bind_some]
  obtain ⟨ql, qh, qu, q2, e2, s2, f2, n2⟩ := api_Quanta.narrow l (at_ := q1) hl (by omega) (by omega) (okm_ok hq (by decide)) (sm hq (by decide))
  rw [e2]; simp only [Option.bind_some]
  obtain ⟨t1, t2⟩ := nar_ok ht (by decide) n1
  obtain ⟨z1, z2⟩ := nar_ok hq (by decide) n2
  -- a bound on the circle, narrowed
  have arc : ∀ q : Int, 0 ≤ q → q < 2000000000000000000 → a8 = false → ∃ lo hi q', spymake_Within_api_Arc.f l q a6 a7 a8 = some (lo, hi, false, q') ∧ q ≤ q' ∧ q' ≤ q + 6 ∧
      okr (Go.bits .and .i64 lo 4294967295) (wrap64 ((Go.bits .and .i64 lo 4294967295) + (wrap64 (hi - lo)))) false ∧ inr (Go.bits .and .i64 lo 4294967295) (wrap64 ((Go.bits .and .i64 lo 4294967295) + (wrap64 (hi - lo)))) false a6 a7 a8 := by
    intro q h0 h1 ha
    rcases hr with ⟨c, _, _⟩ | ⟨_, r0, r1, r2, r3⟩
    · rw [c] at ha; cases ha
    obtain ⟨lo, hi, u, q', e, s, f, n⟩ := api_Arc.narrow l (at_ := q) (lo := a6) (hi := a7) (u := a8) hl h0 (by omega) (.inr ⟨ha, by omega, r2, by omega⟩) (by omega)
    rcases n with ⟨c, _⟩ | ⟨_, hu, i, j, i0, ij, j1, el, eh⟩
    · rw [c] at ha; cases ha
    subst hu
    refine ⟨lo, hi, q', e, s, f, ?_⟩
    rw [w64_id (x := hi - lo) (by omega) (by omega), mask32 (by omega) (by omega), w64_id (by omega) (by omega)]
    exact ⟨.inr ⟨rfl, by omega, by omega, by omega, by omega⟩, .inr ⟨rfl, ha, by omega⟩⟩
  have dec : ∀ q : Int, 0 ≤ q → q < 2000000000000000000 → a11 = false → ∃ lo hi u q', spymake_Within_api_Arc.f l q a9 a10 a11 = some (lo, hi, u, q') ∧ q ≤ q' ∧ q' ≤ q + 6 ∧ okm 1073741824 lo hi u ∧ inb lo hi u a9 a10 a11 := by
    intro q h0 h1 ha
    obtain ⟨lo, hi, u, q', e, s, f, n⟩ := api_Arc.narrow l (at_ := q) hl h0 (by omega) (okm_ok hd (by decide)) (sm hd (by decide))
    obtain ⟨y1, y2⟩ := nar_ok hd (by decide) n
    exact ⟨lo, hi, u, q', e, s, f, y1, y2⟩
  by_cases cd : a11 = true
  · rw [if_pos cd]
    by_cases cr : a8 = true
    · rw [if_pos cr]
      exact ⟨_, _, _, _, _, _, _, _, _, _, _, _, _, _, _, _, _, rfl, ⟨g0, g1, g2, g3, g4, g5, t1, hr, hd, z1, g6⟩, ⟨rfl, rfl, rfl, rfl, t2, inr_refl _ _ _, inb_refl _ _ _, z2⟩, by omega, by omega⟩
    · rw [if_neg cr]
      obtain ⟨lo, hi, q', e, s, f, y1, y2⟩ := arc q2 (by omega) (by omega) (by simpa using cr)
      rw [e]; simp only [Option.bind_some]
      exact ⟨_, _, _, _, _, _, _, _, _, _, _, _, _, _, _, _, _, rfl, ⟨g0, g1, g2, g3, g4, g5, t1, y1, hd, z1, g6⟩, ⟨rfl, rfl, rfl, rfl, t2, y2, inb_refl _ _ _, z2⟩, by omega, by omega⟩
  · rw [if_neg cd]
    obtain ⟨dl, dh, du, q3, e3, s3, f3, d1, d2⟩ := dec q2 (by omega) (by omega) (by simpa using cd)
    rw [e3]; simp only [Option.bind_some]
    by_cases cr : a8 = true
    · rw [if_pos cr]
      exact ⟨_, _, _, _, _, _, _, _, _, _, _, _, _, _, _, _, _, rfl, ⟨g0, g1, g2, g3, g4, g5, t1, hr, d1, z1, g6⟩, ⟨rfl, rfl, rfl, rfl, t2, inr_refl _ _ _, d2, z2⟩, by omega, by omega⟩
    · rw [if_neg cr]
      obtain ⟨lo, hi, q', e, s, f, y1, y2⟩ := arc q3 (by omega) (by omega) (by simpa using cr)
      rw [e]; simp only [Option.bind_some]
      exact ⟨_, _, _, _, _, _, _, _, _, _, _, _, _, _, _, _, _, rfl, ⟨g0, g1, g2, g3, g4, g5, t1, y1, d1, z1, g6⟩, ⟨rfl, rfl, rfl, rfl, t2, y2, d2, z2⟩, by omega, by omega⟩
theorem ins_refl (a0 a1 a2 a3 a4 : Int) (a5 : Bool) (a6 a7 : Int) (a8 : Bool) (a9 a10 : Int) (a11 : Bool) (a12 a13 : Int) (a14 : Bool) (a15 : Int) : ins a0 a1 a2 a3 a4 a5 a6 a7 a8 a9 a10 a11 a12 a13 a14 a15 a0 a1 a2 a3 a4 a5 a6 a7 a8 a9 a10 a11 a12 a13 a14 a15 :=
  ⟨rfl, rfl, rfl, rfl, inb_refl _ _ _, inr_refl _ _ _, inb_refl _ _ _, inb_refl _ _ _⟩
theorem arcInside_ev {lo hi lo' hi' : Int} {u u' : Bool} (h : okr lo hi u) (h' : okr lo' hi' u') (i : inr lo hi u lo' hi' u') : Ev (fun k => alert_arcInside.f k lo hi u lo' hi' u') true := by
  unfold alert_arcInside.f
  refine Ev.bind (api_Arc.norm (okr_ok h)) (Ev.bind (api_Arc.norm (okr_ok h')) ?_)
  rcases i with rfl | ⟨rfl, rfl, i⟩
  · by_cases c : u = true
    · exact pos_ev c (Ev.now _)
    · exact neg_ev c (pos_ev rfl (Ev.now _))
  · refine neg_ev (fun e_ => Bool.noConfusion e_) (neg_ev (fun e_ => Bool.noConfusion e_) (now_ev fun _ => ?_))
    rcases h with ⟨c, _, _⟩ | ⟨_, r0, r1, r2, r3⟩
    · cases c
    rcases h' with ⟨c, _, _⟩ | ⟨_, s0, s1, s2, s3⟩
    · cases c
    simp only
    rw [w64_id (x := lo - lo') (by omega) (by omega), mask32 (by omega) (by omega), w64_id (x := (lo - lo') % 4294967296 + hi) (by omega) (by omega), w64_id (x := (lo - lo') % 4294967296 + hi - lo) (by omega) (by omega), w64_id (x := hi' - lo') (by omega) (by omega), decide_eq_true (by omega)]
theorem Inside_ev {a0 a1 a2 a3 a4 : Int} {a5 : Bool} {a6 a7 : Int} {a8 : Bool} {a9 a10 : Int} {a11 : Bool} {a12 a13 : Int} {a14 : Bool} {a15 : Int} {b0 b1 b2 b3 b4 : Int} {b5 : Bool} {b6 b7 : Int} {b8 : Bool} {b9 b10 : Int} {b11 : Bool} {b12 b13 : Int} {b14 : Bool} {b15 : Int}
    (h : oka a0 a1 a2 a3 a4 a5 a6 a7 a8 a9 a10 a11 a12 a13 a14 a15) (h' : oka b0 b1 b2 b3 b4 b5 b6 b7 b8 b9 b10 b11 b12 b13 b14 b15) (i : ins a0 a1 a2 a3 a4 a5 a6 a7 a8 a9 a10 a11 a12 a13 a14 a15 b0 b1 b2 b3 b4 b5 b6 b7 b8 b9 b10 b11 b12 b13 b14 b15) :
    Ev (fun k => alert_Inside.f k a0 a1 a2 a3 a4 a5 a6 a7 a8 a9 a10 a11 a12 a13 a14 a15 b0 b1 b2 b3 b4 b5 b6 b7 b8 b9 b10 b11 b12 b13 b14 b15) true := by
  unfold alert_Inside.f
  obtain ⟨-, -, -, -, -, -, ht, hr, hd, hq, -⟩ := h
  obtain ⟨-, -, -, -, -, -, ht', hr', hd', hq', -⟩ := h'
  obtain ⟨e0, e1, e2, e3, i1, i2, i3, i4⟩ := i
  refine pos_ev e0 (pos_ev e1 (pos_ev e2 (pos_ev e3 ?_)))
  refine Ev.bind (api_Tick.inside (okm_ok ht (by decide)) (okm_ok ht' (by decide)) i1) (pos_ev rfl ?_)
  refine Ev.bind (arcInside_ev hr hr' i2) (pos_ev rfl ?_)
  refine Ev.bind (api_Arc.inside (okm_ok hd (by decide)) (okm_ok hd' (by decide)) i3) (pos_ev rfl ?_)
  exact Ev.bind (api_Quanta.inside (okm_ok hq (by decide)) (okm_ok hq' (by decide)) i4) (Ev.now _)
end Go.Proofs.YthcdbpbimmjknaaDoor.Q
