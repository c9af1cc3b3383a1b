/- Dates in plain numbers: the day numbers of months, and that the printed functions of package scale compute them; years 1 to 9999. -/
import Derived.Test.YtpbfjcohiibpcaaDoorQx2
import Derived.Test.YtpbfjcohiibpcaaDoorQx3
import Derived.Test.YtpbfjcohiibpcaaDoorAO0
namespace Go.Proofs.YtpbfjcohiibpcaaDoor.Q
open Go.RowKit Go.Proofs.YtpbfjcohiibpcaaDoorW.PrintWords Go.Proofs.YtpbfjcohiibpcaaDoorW.PrintLast Go.Proofs.YtpbfjcohiibpcaaDoorW.PrintMore
set_option linter.unusedVariables false
set_option linter.unusedSimpArgs false

/-- The number of a day, of a year that begins in March. -/
def dm (y m d : Int) : Int := 365 * y + y / 4 - y / 100 + y / 400 + (153 * m + 2) / 5 + d - 730426
def dn (y m d : Int) : Int := if m < 3 then dm (y - 1) (m + 9) d else dm y (m - 3) d
/-- The length of a month. -/
def len (y m : Int) : Int := if m = 2 then (if y % 4 = 0 ∧ (¬ y % 100 = 0 ∨ y % 400 = 0) then 29 else 28) else if m = 4 ∨ m = 6 ∨ m = 9 ∨ m = 11 then 30 else 31

theorem dn_next {y m : Int} (m0 : 1 ≤ m) (m1 : m < 12) : dn y (m + 1) 1 = dn y m 1 + len y m := by
  have hm : m = 1 ∨ m = 2 ∨ m = 3 ∨ m = 4 ∨ m = 5 ∨ m = 6 ∨ m = 7 ∨ m = 8 ∨ m = 9 ∨ m = 10 ∨ m = 11 := by omega
  rcases hm with rfl | rfl | rfl | rfl | rfl | rfl | rfl | rfl | rfl | rfl | rfl <;> simp [dn, dm, len] <;> (try split) <;> omega
theorem dn_year (y : Int) : dn (y + 1) 1 1 = dn y 12 1 + len y 12 := by
  simp [dn, dm, len]; omega
theorem dn_day (y m d : Int) : dn y m d = dn y m 1 + d - 1 := by unfold dn dm; split <;> omega
theorem len_bd (y m : Int) : 28 ≤ len y m ∧ len y m ≤ 31 := by unfold len; split <;> (try split) <;> omega
theorem len12 (y : Int) : len y 12 = 31 := by simp [len]

/-- The first days of months in their order: month j is month j % 12 + 1 of year j / 12. -/
def gm (j : Int) : Int := dn (j / 12) (j % 12 + 1) 1
def lm (j : Int) : Int := len (j / 12) (j % 12 + 1)
theorem gm_next (j : Int) : gm (j + 1) = gm j + lm j := by
  unfold gm lm
  by_cases c : j % 12 < 11
  · rw [show (j + 1) / 12 = j / 12 by omega, show (j + 1) % 12 = j % 12 + 1 by omega, ← dn_next (by omega) (by omega)]
  · rw [show (j + 1) / 12 = j / 12 + 1 by omega, show (j + 1) % 12 + 1 = 1 by omega, show j % 12 + 1 = 12 by omega, dn_year]
theorem gm_later (n : Nat) : ∀ i : Int, gm i + lm i ≤ gm (i + 1 + n) := by
  induction n with
  | zero => intro i; rw [show i + 1 + ((0 : Nat) : Int) = i + 1 by omega, gm_next]; omega
  | succ n ih =>
    intro i
    have a := ih i
    have b := gm_next (i + 1 + n)
    have c := len_bd ((i + 1 + n) / 12) ((i + 1 + n) % 12 + 1)
    unfold lm at b
    rw [show i + 1 + ((n + 1 : Nat) : Int) = i + 1 + n + 1 by omega]
    omega
theorem gm_lt {i j : Int} (h : i < j) : gm i + lm i ≤ gm j := by
  have := gm_later (j - i - 1).toNat i
  rw [show i + 1 + ((j - i - 1).toNat : Int) = j by omega] at this
  exact this
theorem gm_of {y m : Int} (m0 : 1 ≤ m) (m1 : m ≤ 12) : gm (12 * y + m - 1) = dn y m 1 ∧ lm (12 * y + m - 1) = len y m := by
  unfold gm lm
  rw [show (12 * y + m - 1) / 12 = y by omega, show (12 * y + m - 1) % 12 + 1 = m by omega]
  exact ⟨rfl, rfl⟩

/-- The month of the day after a day: the same one, or the next one if it was the last day. -/
theorem month_after {n y m p q : Int} (m0 : 1 ≤ m) (m1 : m ≤ 12) (q0 : 1 ≤ q) (q1 : q ≤ 12) (h0 : dn y m 1 ≤ n) (h1 : n < dn y m 1 + len y m) (k0 : dn p q 1 ≤ n + 1) (k1 : n + 1 < dn p q 1 + len p q) :
    (p = y ∧ q = m) ∨ (n + 1 = dn p q 1 ∧ n + 1 = dn y m 1 + len y m ∧ 12 * p + q = 12 * y + m + 1) := by
  obtain ⟨a1, a2⟩ := gm_of (y := y) m0 m1
  obtain ⟨b1, b2⟩ := gm_of (y := p) q0 q1
  rcases Int.lt_trichotomy (12 * y + m - 1) (12 * p + q - 1) with c | c | c
  · right
    have h := gm_lt c
    rw [a1, a2, b1] at h
    refine ⟨by omega, by omega, ?_⟩
    rcases Int.lt_or_le (12 * y + m - 1 + 1) (12 * p + q - 1) with d | d
    · exfalso
      have h2 := gm_lt d
      rw [gm_next, a1, a2, b1] at h2
      have := len_bd ((12 * y + m - 1 + 1) / 12) ((12 * y + m - 1 + 1) % 12 + 1)
      unfold lm at h2
      omega
    · omega
  · left; omega
  · exfalso
    have h := gm_lt c
    rw [a1, b1, b2] at h
    omega

theorem days_some {y m d : Int} (y0 : 1 ≤ y) (y1 : y ≤ 100000) (m0 : 1 ≤ m) (m1 : m ≤ 12) (d0 : 0 ≤ d) (d1 : d ≤ 100000) : scale_days.f y m d = some (dn y m d) := by
  unfold scale_days.f dn dm
  by_cases c : m < 3
  · rw [w64_id (x := m - 3) (by omega) (by omega), if_pos (by omega), if_pos c, w64_id (x := y - 1) (by omega) (by omega), w64_id (x := m - 3 + 12) (by omega) (by omega), w64_id (x := 153 * (m - 3 + 12)) (by omega) (by omega), w64_id (x := 365 * (y - 1)) (by omega) (by omega),
      tdiv_eq (a := y - 1) (b := 4) (by omega), tdiv_eq (a := y - 1) (b := 100) (by omega), tdiv_eq (a := y - 1) (b := 400) (by omega), w64_id (x := 153 * (m - 3 + 12) + 2) (by omega) (by omega), tdiv_eq (a := 153 * (m - 3 + 12) + 2) (by omega)]
    congr 1
    unfold wrap64; omega
  · rw [w64_id (x := m - 3) (by omega) (by omega), if_neg (by omega), if_neg c, w64_id (x := 153 * (m - 3)) (by omega) (by omega), w64_id (x := 365 * y) (by omega) (by omega),
      tdiv_eq (a := y) (b := 4) (by omega), tdiv_eq (a := y) (b := 100) (by omega), tdiv_eq (a := y) (b := 400) (by omega), w64_id (x := 153 * (m - 3) + 2) (by omega) (by omega), tdiv_eq (a := 153 * (m - 3) + 2) (by omega)]
    congr 1
    unfold wrap64; omega

theorem dn_bd {y m d : Int} (y0 : 1 ≤ y) (y1 : y ≤ 100000) (m0 : 1 ≤ m) (m1 : m ≤ 12) (d0 : 0 ≤ d) (d1 : d ≤ 100000) : -731000 ≤ dn y m d ∧ dn y m d ≤ 40000000 := by
  unfold dn dm; split <;> omega

/-- A date that is found: its month begins at or before the day, and the day lies in it. -/
def Found (N y m : Int) : Prop := 1 ≤ y ∧ y ≤ 9999 ∧ 1 ≤ m ∧ m ≤ 12 ∧ dn y m 1 ≤ N ∧ N < dn y m 1 + len y m

theorem date_l2 {N y : Int} (y0 : 1 ≤ y) (y1 : y ≤ 9999) (h0 : dn y 1 1 ≤ N) (n : Nat) : ∀ m : Int, m = n + 1 → m ≤ 12 → N < dn y m 1 + len y m →
    ∃ m' : Int, Found N y m' ∧ Ev (fun k => scale_Date.l2 k N y m) (y, m', N - dn y m' 1 + 1, 0) := by
  induction n with
  | zero =>
    intro m hm m1 h1
    obtain rfl : m = 1 := by omega
    have b := dn_bd (y := y) (m := 1) (d := 1) y0 (by omega) (by omega) (by omega) (by decide) (by decide)
    have lb := len_bd y 1
    refine ⟨1, ⟨y0, y1, by omega, by omega, h0, h1⟩, one_ev fun k => ?_⟩
    rw [scale_Date.l2, days_some y0 (by omega) (by omega) (by omega) (by decide) (by decide)]
    simp only [Option.bind_some]
    rw [if_neg (by omega), w64_id (x := N - dn y 1 1) (by omega) (by omega), w64_id (by omega) (by omega)]
  | succ n ih =>
    intro m hm m1 h1
    have b := dn_bd (y := y) (m := m) (d := 1) y0 (by omega) (by omega) m1 (by decide) (by decide)
    have lb := len_bd y m
    by_cases c : dn y m 1 > N
    · have e := dn_next (y := y) (m := m - 1) (by omega) (by omega)
      rw [show m - 1 + 1 = m by omega] at e
      obtain ⟨m', f, g⟩ := ih (m - 1) (by omega) (by omega) (by omega)
      refine ⟨m', f, Ev.step (fun k => ?_) g⟩
      rw [scale_Date.l2, days_some y0 (by omega) (by omega) m1 (by decide) (by decide)]
      simp only [Option.bind_some]
      rw [if_pos c, w64_id (by omega) (by omega)]
    · refine ⟨m, ⟨y0, y1, by omega, m1, by omega, h1⟩, one_ev fun k => ?_⟩
      rw [scale_Date.l2, days_some y0 (by omega) (by omega) m1 (by decide) (by decide)]
      simp only [Option.bind_some]
      rw [if_neg c, w64_id (x := N - dn y m 1) (by omega) (by omega), w64_id (by omega) (by omega)]

theorem date_l1 {N : Int} (hN : dn 1 1 1 ≤ N) (n : Nat) : ∀ y : Int, y = n + 1 → y ≤ 9999 → N < dn (y + 1) 1 1 →
    ∃ y' m' : Int, Found N y' m' ∧ Ev (fun k => scale_Date.l1 k N y) (y', m', N - dn y' m' 1 + 1, 0) := by
  have last : ∀ y : Int, 1 ≤ y → y ≤ 9999 → N < dn (y + 1) 1 1 → ¬ dn y 1 1 > N → ∃ y' m' : Int, Found N y' m' ∧ Ev (fun k => scale_Date.l1 k N y) (y', m', N - dn y' m' 1 + 1, 0) := by
    intro y y0 y1 h1 c
    rw [dn_year] at h1
    obtain ⟨m', f, g⟩ := date_l2 y0 y1 (by omega) 11 12 (by decide) (by decide) h1
    refine ⟨y, m', f, Ev.step (fun k => ?_) g⟩
    rw [scale_Date.l1, days_some y0 (by omega) (by decide) (by decide) (by decide) (by decide)]
    simp only [Option.bind_some]
    rw [if_neg c]
  induction n with
  | zero =>
    intro y hy y1 h1
    obtain rfl : y = 1 := by omega
    exact last 1 (by decide) (by decide) h1 (by omega)
  | succ n ih =>
    intro y hy y1 h1
    by_cases c : dn y 1 1 > N
    · obtain ⟨y', m', f, g⟩ := ih (y - 1) (by omega) (by omega) (by rw [show y - 1 + 1 = y by omega]; omega)
      refine ⟨y', m', f, Ev.step (fun k => ?_) g⟩
      rw [scale_Date.l1, days_some (by omega) (by omega) (by decide) (by decide) (by decide) (by decide)]
      simp only [Option.bind_some]
      rw [if_pos c, w64_id (by omega) (by omega)]
    · exact last y (by omega) y1 h1 c

theorem date_l0 {N : Int} (hN : dn 1 1 1 ≤ N) (hM : N < dn 10000 1 1) (n : Nat) : ∀ y : Int, 9999 - y = n → 1 ≤ y →
    ∃ y' m' : Int, Found N y' m' ∧ Ev (fun k => scale_Date.l0 k N y) (y', m', N - dn y' m' 1 + 1, 0) := by
  have j2 : ∀ y : Int, 1 ≤ y → y ≤ 9999 → N < dn (y + 1) 1 1 → ∃ y' m' : Int, Found N y' m' ∧ Ev (fun k => scale_Date.j2 k N y) (y', m', N - dn y' m' 1 + 1, 0) := by
    intro y y0 y1 h1
    obtain ⟨y', m', f, g⟩ := date_l1 hN (y - 1).toNat y (by omega) y1 h1
    exact ⟨y', m', f, Ev.step (fun k => by rw [scale_Date.j2]) g⟩
  induction n with
  | zero =>
    intro y hy y0
    obtain rfl : y = 9999 := by omega
    obtain ⟨y', m', f, g⟩ := j2 9999 (by decide) (by decide) hM
    exact ⟨y', m', f, Ev.step (fun k => by rw [scale_Date.l0, if_neg (by decide)]) g⟩
  | succ n ih =>
    intro y hy y0
    by_cases c : dn (y + 1) 1 1 ≤ N
    · obtain ⟨y', m', f, g⟩ := ih (y + 1) (by omega) (by omega)
      refine ⟨y', m', f, Ev.step (fun k => ?_) g⟩
      rw [scale_Date.l0, if_pos (by omega), w64_id (x := y + 1) (by omega) (by omega), days_some (by omega) (by omega) (by decide) (by decide) (by decide) (by decide)]
      simp only [Option.bind_some]
      rw [if_pos c]
    · obtain ⟨y', m', f, g⟩ := j2 y y0 (by omega) (by omega)
      refine ⟨y', m', f, Ev.step (fun k => ?_) g⟩
      rw [scale_Date.l0, if_pos (by omega), w64_id (x := y + 1) (by omega) (by omega), days_some (by omega) (by omega) (by decide) (by decide) (by decide) (by decide)]
      simp only [Option.bind_some]
      rw [if_neg c]

theorem date_ev {N : Int} (h0 : dn 1 1 1 ≤ N) (h1 : N ≤ dn 9999 12 31) : ∃ y m : Int, Found N y m ∧ Ev (fun k => scale_Date.f k N) (y, m, N - dn y m 1 + 1, 0) := by
  have e0 : dn 1 1 1 = -730119 := by decide
  have e1 : dn 9999 12 31 = 2921939 := by decide
  have e2 : dn 10000 1 1 = 2921940 := by decide
  obtain ⟨s, hs⟩ : ∃ s, s = mn 9999 (mx 1 (wrap64 (2000 + (wrap64 (Int.tdiv N 366))))) := ⟨_, rfl⟩
  have sb : 1 ≤ s ∧ s ≤ 9999 := by
    rw [hs]; unfold mn mx
    split <;> split <;> omega
  obtain ⟨y', m', f, g⟩ := date_l0 h0 (by omega) (9999 - s).toNat s (by omega) sb.1
  refine ⟨y', m', f, Ev.congr (f := fun k => scale_Date.j0 k N false) (fun k => ?_) (Ev.step (fun k => by rw [scale_Date.j0, if_neg (by decide), ← hs]) g)⟩
  unfold scale_Date.f
  rw [days_some (by decide) (by decide) (by decide) (by decide) (by decide) (by decide), days_some (by decide) (by decide) (by decide) (by decide) (by decide) (by decide)]
  simp only [Option.bind_some]
  rw [if_neg (by omega), decide_eq_false (by omega)]

theorem length_ev {y m : Int} (y0 : 1 ≤ y) : Ev (fun k => scale_length.f k y m) (len y m) := by
  have J : ∀ b : Bool, (m = 2 → (b = true ↔ (y % 4 = 0 ∧ (¬ y % 100 = 0 ∨ y % 400 = 0)))) → (m ≠ 2 → b = false) → Ev (fun k => scale_length.j0 k m b) (len y m) := by
    intro b h1 h2
    refine one_ev fun k => ?_
    rw [scale_length.j0]
    unfold len
    by_cases c : m = 2
    · have h := h1 c
      rw [if_pos c]
      cases b
      · have : ¬ (y % 4 = 0 ∧ (¬ y % 100 = 0 ∨ y % 400 = 0)) := fun h' => by have := h.mpr h'; simp at this
        rw [if_neg (by decide), if_pos c, if_neg this]
      · rw [if_pos rfl, if_pos (h.mp rfl), if_pos c]
    · have hb := h2 c
      subst hb
      rw [if_neg (by decide), if_neg c, if_neg c]
      by_cases c4 : m = 4
      · simp [c4]
      · by_cases c6 : m = 6
        · simp [c6]
        · by_cases c9 : m = 9
          · simp [c9]
          · by_cases c11 : m = 11
            · simp [c11]
            · simp [c4, c6, c9, c11]
  unfold scale_length.f
  rw [tmod_eq (a := y) (by omega), tmod_eq (a := y) (by omega), tmod_eq (a := y) (by omega)]
  by_cases c : m = 2
  · refine pos_ev c ?_
    by_cases d : y % 4 = 0
    · refine pos_ev d ?_
      by_cases e : y % 100 = 0
      · exact pos_ev e (J _ (fun _ => by simp [d, e]) (fun h => absurd c h))
      · exact neg_ev e (J _ (fun _ => by simp [d, e]) (fun h => absurd c h))
    · exact neg_ev d (J _ (fun _ => by simp [d]) (fun h => absurd c h))
  · exact neg_ev c (J _ (fun h => absurd h c) (fun _ => rfl))

theorem Days_ev {y m d : Int} (y0 : 1 ≤ y) (y1 : y ≤ 9999) (m0 : 1 ≤ m) (m1 : m ≤ 12) (d0 : 1 ≤ d) (d1 : d ≤ len y m) : Ev (fun k => scale_Days.f k y m d) (dn y m d, 0) := by
  have lb := len_bd y m
  unfold scale_Days.f
  refine neg_ev (by omega) (neg_ev (by omega) (neg_ev (by omega) (neg_ev (by omega) (neg_ev (by omega) (Ev.bind (length_ev y0) (neg_ev (by omega) ?_))))))
  exact some_ev (days_some y0 (by omega) m0 m1 (by omega) (by omega)) (Ev.now _)
end Go.Proofs.YtpbfjcohiibpcaaDoor.Q
