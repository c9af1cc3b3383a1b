/- Alerts as the stream makes them, and narrower ones; the bounds stand in each statement. -/
import Derived.Test.YthcdbpbimmjknaaDoorKAlertOrdersQx2
import Derived.Test.YthcdbpbimmjknaaDoorKAlertOrdersQx3
import Derived.Test.YthcdbpbimmjknaaDoorKAlertOrdersQx6
import Derived.Test.YthcdbpbimmjknaaDoorKAlertOrdersAO0
import Derived.Test.YthcdbpbimmjknaaDoorKAlertOrdersAO1
import Derived.Test.YthcdbpbimmjknaaDoorKAlertOrdersAO1Tick
import Derived.Test.YthcdbpbimmjknaaDoorKAlertOrdersAO1Arc
import Derived.Test.YthcdbpbimmjknaaDoorKAlertOrdersAO1Quanta
import Derived.Test.YthcdbpbimmjknaaDoorKAlertOrdersAMK
namespace Go.Proofs.YthcdbpbimmjknaaDoor.Q
open Go.RowKit Go.Proofs.YthcdbpbimmjknaaDoorW.PrintWords Go.Proofs.YthcdbpbimmjknaaDoorW.PrintLast Go.Proofs.YthcdbpbimmjknaaDoorW.PrintMore
set_option linter.unusedVariables false
set_option linter.unusedSimpArgs false
/-- A bound on the circle. -/
def okr (lo hi : Int) (u : Bool) : Prop := (u = true ∧ lo = 0 ∧ hi = 0) ∨ (u = false ∧ 0 ≤ lo ∧ lo < 4294967296 ∧ lo ≤ hi ∧ hi - lo ≤ 4294967295)
/-- A bound on the circle inside another one. -/
def inr (lo hi : Int) (u : Bool) (lo' hi' : Int) (u' : Bool) : Prop := u' = true ∨ (u = false ∧ u' = false ∧ (lo - lo') % 4294967296 + (hi - lo) ≤ hi' - lo')
theorem okr_ok {lo hi : Int} {u : Bool} (h : okr lo hi u) : okb lo hi u := by
  rcases h with h | ⟨h1, h2, h3, h4, h5⟩
  · exact .inl h
  · exact .inr ⟨h1, by omega, h4, by omega⟩
theorem inb_refl (lo hi : Int) (u : Bool) : inb lo hi u lo hi u := by
  cases u
  · exact .inr ⟨rfl, rfl, by omega, by omega⟩
  · exact .inl rfl
theorem inb_trans {a b c d e f : Int} {u v w : Bool} (h : inb a b u c d v) (h' : inb c d v e f w) : inb a b u e f w := by
  rcases h' with h' | ⟨h1, h2, h3, h4⟩
  · exact .inl h'
  · rcases h with h | ⟨g1, g2, g3, g4⟩
    · rw [h] at h1; cases h1
    · exact .inr ⟨g1, h2, by omega, by omega⟩
theorem inr_refl (lo hi : Int) (u : Bool) : inr lo hi u lo hi u := by
  cases u
  · exact .inr ⟨rfl, rfl, by omega⟩
  · exact .inl rfl
theorem inr_trans {a b c d e f : Int} {u v w : Bool} (h : inr a b u c d v) (h' : inr c d v e f w) : inr a b u e f w := by
  rcases h' with h' | ⟨h1, h2, h3⟩
  · exact .inl h'
  · rcases h with h | ⟨g1, g2, g3⟩
    · rw [h] at h1; cases h1
    · exact .inr ⟨g1, h2, by omega⟩
theorem arc_in (l : List Int) {at_ : Int} (hl : l.length ≤ 9223372036854775807) (a0 : 0 ≤ at_) (a1 : at_ < 4000000000000000000) :
    ∃ v at2, spymake_Stream_Arc.f l at_ = some (v, at2) ∧ 0 ≤ v ∧ v < 4294967296 ∧ at_ ≤ at2 ∧ at2 ≤ at_ + 10 := by
  unfold spymake_Stream_Arc.f
  obtain ⟨x, hx, x0, x1⟩ := next_in l (n := 1073741824) hl a0 (by omega) (by decide) (by decide)
  obtain ⟨y, hy, y0, y1⟩ := next_in l (at_ := at_ + 1) (n := 4) hl (by omega) (by omega) (by decide) (by decide)
  obtain ⟨z, hz, z0, z1⟩ := next_in l (at_ := at_ + 1 + 1) (n := 3) hl (by omega) (by omega) (by decide) (by decide)
  rw [hx]; simp only [Option.bind_some]
  rw [hy]; simp only [Option.bind_some]
  rw [hz]; simp only [Option.bind_some]
  by_cases c : z = 0
  · rw [if_pos c]
    obtain ⟨p, hp, p0, p1⟩ := next_in l (at_ := at_ + 1 + 1 + 1) (n := 8) hl (by omega) (by omega) (by decide) (by decide)
    obtain ⟨q, hq, q0, q1⟩ := range_in l (at_ := at_ + 1 + 1 + 1 + 1) (lo := -3) (hi := 3) hl (by omega) (by omega) (by decide) (by decide) (by decide)
    rw [hp]; simp only [Option.bind_some]
    rw [hq]; simp only [Option.bind_some]
    rw [w64_id (x := p * 536870912) (by omega) (by omega), w64_id (x := p * 536870912 + q) (by omega) (by omega), mask32 (by omega) (by omega)]
    exact ⟨_, _, rfl, by omega, by omega, by omega, by omega⟩
  · rw [if_neg c, w64_id (x := x * 4) (by omega) (by omega), w64_id (x := x * 4 + y) (by omega) (by omega), mask32 (by omega) (by omega)]
    exact ⟨_, _, rfl, by omega, by omega, by omega, by omega⟩
theorem slope_in (l : List Int) {at_ : Int} (hl : l.length ≤ 9223372036854775807) (a0 : 0 ≤ at_) (a1 : at_ < 4000000000000000000) :
    ∃ v at2, spymake_Stream_Slope.f l at_ = some (v, at2) ∧ -1073741824 ≤ v ∧ v < 1073741824 ∧ at_ ≤ at2 ∧ at2 ≤ at_ + 10 := by
  unfold spymake_Stream_Slope.f
  obtain ⟨v, at2, e, v0, v1, p0, p1⟩ := arc_in l hl a0 a1
  rw [e]; simp only [Option.bind_some]
  rw [tdiv_eq v0, w64_id (x := v / 2) (by omega) (by omega), w64_id (by omega) (by omega)]
  exact ⟨_, _, rfl, by omega, by omega, p0, p1⟩
/-- What an alert of the stream is. -/
def oka (a0 a1 a2 a3 a4 : Int) (a5 : Bool) (a6 a7 : Int) (a8 : Bool) (a9 a10 : Int) (a11 : Bool) (a12 a13 : Int) (a14 : Bool) (a15 : Int) : Prop :=
  1 ≤ a0 ∧ a0 ≤ 2 ∧ 1 ≤ a1 ∧ a1 ≤ 5 ∧ 0 ≤ a2 ∧ a2 ≤ 8 ∧ okm 17592186044416 a3 a4 a5 ∧ okr a6 a7 a8 ∧ okm 1073741824 a9 a10 a11 ∧ okm 1152921504606846976 a12 a13 a14 ∧ a15 = 0
theorem okm_mono {m n lo hi : Int} {u : Bool} (h : okm m lo hi u) (hm : m ≤ n) : okm n lo hi u := by
  rcases h with h | ⟨h1, h2, h3, h4⟩
  · exact .inl h
  · exact .inr ⟨h1, by omega, h3, by omega⟩
theorem alert_in (l : List Int) {at_ id : Int} (hl : l.length ≤ 9223372036854775807) (a0 : 0 ≤ at_) (a1 : at_ < 1000000000000000000) (i0 : 1 ≤ id) (i1 : id ≤ 2) :
    ∃ (x0 x1 x2 x3 x4 : Int) (x5 : Bool) (x6 x7 : Int) (x8 : Bool) (x9 x10 : Int) (x11 : Bool) (x12 x13 : Int) (x14 : Bool) (x15 at2 : Int), spymake_Stream_Alert.f l at_ id = some (x0, x1, x2, x3, x4, x5, x6, x7, x8, x9, x10, x11, x12, x13, x14, x15, at2) ∧
      oka x0 x1 x2 x3 x4 x5 x6 x7 x8 x9 x10 x11 x12 x13 x14 x15 ∧ at_ ≤ at2 ∧ at2 ≤ at_ + 100 := by
  unfold spymake_Stream_Alert.f
  obtain ⟨k, hk, k0, k1⟩ := next_in l (at_ := at_) (n := 5) hl (by omega) (by omega) (by decide) (by decide)
  obtain ⟨o, ho, o0, o1⟩ := next_in l (at_ := at_ + 1) (n := 9) hl (by omega) (by omega) (by decide) (by decide)
  rw [hk]; simp only [Option.bind_some]
  rw [ho]; simp only [Option.bind_some]
  obtain ⟨tl, th, tu, p3, e3, t0, s3, f3⟩ := api_Tick.drawn l (at_ := at_ + 1 + 1) (most := 2000) hl (by omega) (by omega) (by decide) (by decide)
  rw [e3]; simp only [Option.bind_some]
  obtain ⟨ql, qh, qu, p4, e4, q0, s4, f4⟩ := api_Quanta.drawn l (at_ := p3) (most := 300) hl (by omega) (by omega) (by decide) (by decide)
  rw [e4]; simp only [Option.bind_some]
  obtain ⟨w, hw, w0, w1⟩ := next_in l (at_ := p4) (n := 4) hl (by omega) (by omega) (by decide) (by decide)
  rw [hw]; simp only [Option.bind_some, List.length_cons, List.length_nil]
  rw [if_pos w0, if_pos (by omega)]
  obtain ⟨a, p5, e5, r0, r1, s5, f5⟩ := arc_in l (at_ := p4 + 1) hl (by omega) (by omega)
  rw [e5]; simp only [Option.bind_some]
  obtain ⟨s, p6, e6, d0, d1, s6, f6⟩ := slope_in l (at_ := p5) hl (by omega) (by omega)
  rw [e6]; simp only [Option.bind_some]
  obtain ⟨v, hv, v0, v1⟩ := next_in l (at_ := p6) (n := 1000) hl (by omega) (by omega) (by decide) (by decide)
  rw [hv]; simp only [Option.bind_some]
  obtain ⟨m, hm, m0, m1⟩ := next_in l (at_ := p6 + 1) (n := 8) hl (by omega) (by omega) (by decide) (by decide)
  rw [hm]; simp only [Option.bind_some]
  obtain ⟨n, hn, n0, n1⟩ := next_in l (at_ := p6 + 1 + 1) (n := 8) hl (by omega) (by omega) (by decide) (by decide)
  rw [hn]; simp only [Option.bind_some]
  rw [w64_id (x := 1 + k) (by omega) (by omega), w64_id (x := s + v) (by omega) (by omega)]
  have er : ∃ g, rd [0, 5, 1048576, 4294967295] w = g ∧ 0 ≤ g ∧ g ≤ 4294967295 := by
    rcases (by omega : w = 0 ∨ w = 1 ∨ w = 2 ∨ w = 3) with h | h | h | h <;> subst h
    · exact ⟨0, rfl, by decide, by decide⟩
    · exact ⟨5, rfl, by decide, by decide⟩
    · exact ⟨1048576, rfl, by decide, by decide⟩
    · exact ⟨4294967295, rfl, by decide, by decide⟩
  obtain ⟨g, hg, g0, g1⟩ := er
  rw [hg, w64_id (x := a + g) (by omega) (by omega)]
  have ra : okr a (a + g) false := .inr ⟨rfl, r0, r1, by omega, by omega⟩
  have de : okm 1073741824 s (mn 1073741824 (s + v)) false := .inr ⟨rfl, by omega, by unfold mn; split <;> omega, by unfold mn; split <;> omega⟩
  have no : okr 0 0 true := .inl ⟨rfl, rfl, rfl⟩
  have no' : okm 1073741824 0 0 true := .inl ⟨rfl, rfl, rfl⟩
  by_cases c : m = 0
  · rw [if_pos c]
    by_cases d : n = 0
    · rw [if_pos d]; exact ⟨_, _, _, _, _, _, _, _, _, _, _, _, _, _, _, _, _, rfl, ⟨i0, i1, by omega, by omega, o0, by omega, okm_mono t0 (by decide), no, no', okm_mono q0 (by decide), rfl⟩, by omega, by omega⟩
    · rw [if_neg d]; exact ⟨_, _, _, _, _, _, _, _, _, _, _, _, _, _, _, _, _, rfl, ⟨i0, i1, by omega, by omega, o0, by omega, okm_mono t0 (by decide), no, de, okm_mono q0 (by decide), rfl⟩, by omega, by omega⟩
  · rw [if_neg c]
    by_cases d : n = 0
    · rw [if_pos d]; exact ⟨_, _, _, _, _, _, _, _, _, _, _, _, _, _, _, _, _, rfl, ⟨i0, i1, by omega, by omega, o0, by omega, okm_mono t0 (by decide), ra, no', okm_mono q0 (by decide), rfl⟩, by omega, by omega⟩
    · rw [if_neg d]; exact ⟨_, _, _, _, _, _, _, _, _, _, _, _, _, _, _, _, _, rfl, ⟨i0, i1, by omega, by omega, o0, by omega, okm_mono t0 (by decide), ra, de, okm_mono q0 (by decide), rfl⟩, by omega, by omega⟩
end Go.Proofs.YthcdbpbimmjknaaDoor.Q
