/- Tables of leap seconds in plain numbers: what the stream makes, what is summed before a day; the bounds stand in each statement. -/
import Derived.Test.YtpbfjcohiibpcaaDoorQx1
import Derived.Test.YtpbfjcohiibpcaaDoorQx2
import Derived.Test.YtpbfjcohiibpcaaDoorAO0
namespace Go.Proofs.YtpbfjcohiibpcaaDoor.Q
open Go.RowKit Go.Proofs.YtpbfjcohiibpcaaDoorW.PrintWords Go.Proofs.YtpbfjcohiibpcaaDoorW.PrintLast Go.Proofs.YtpbfjcohiibpcaaDoorW.PrintMore
set_option linter.unusedVariables false
set_option linter.unusedSimpArgs false
/-- A table in order, of days behind d, with steps of a second. -/
def okl : Int → List S45 → Prop
  | _, [] => True
  | d, x :: l => d < x.f0 ∧ x.f0 ≤ 5000 ∧ (x.f1 = 1 ∨ x.f1 = -1) ∧ okl x.f0 l
theorem okl_app {d : Int} {l : List S45} {x : S45} (h : okl d l) (hx : d < x.f0) (hl : ∀ y ∈ l, y.f0 < x.f0) (h1 : x.f0 ≤ 5000) (h2 : x.f1 = 1 ∨ x.f1 = -1) : okl d (l ++ [x]) := by
  induction l generalizing d with
  | nil => exact ⟨hx, h1, h2, trivial⟩
  | cons y l ih =>
    obtain ⟨a, b, c, e⟩ := h
    exact ⟨a, b, c, ih e (hl y (by simp)) (fun z hz => hl z (by simp [hz]))⟩
theorem okl_mem {d : Int} {l : List S45} (h : okl d l) : ∀ x ∈ l, d < x.f0 ∧ x.f0 ≤ 5000 ∧ (x.f1 = 1 ∨ x.f1 = -1) := by
  induction l generalizing d with
  | nil => intro x hx; cases hx
  | cons y l ih =>
    obtain ⟨a, b, c, e⟩ := h
    intro x hx
    rcases List.mem_cons.1 hx with rfl | hx
    · exact ⟨a, b, c⟩
    · obtain ⟨p, q, r⟩ := ih e x hx
      exact ⟨by omega, q, r⟩
theorem leaps_l0 (s : List Int) (hs : s.length ≤ 9223372036854775807) {n : Int} (hn : n ≤ 5) (d : Nat) :
    ∀ (l : List S45) (day i at_ : Int), i + d = n → 0 ≤ i → i = l.length → okl (-4000) l → (∀ y ∈ l, y.f0 < day) → -3000 ≤ day → day ≤ 3000 + 400 * i → 0 ≤ at_ → at_ ≤ 1000 + 4 * i →
      ∃ L p, Ev (fun k => spymake_Stream_Leaps.l0 k l day n i s at_) (L, p) ∧ okl (-4000) L ∧ L.length ≤ 5 ∧ 0 ≤ p ∧ p ≤ 2000 := by
  induction d with
  | zero =>
    intro l day i at_ h i0 hi ok lt d0 d1 a0 a1
    exact ⟨l, at_, Ev.step (fun k => by rw [spymake_Stream_Leaps.l0, if_neg (by omega)]) (Ev.now _), ok, by omega, a0, by omega⟩
  | succ d ih =>
    intro l day i at_ h i0 hi ok lt d0 d1 a0 a1
    obtain ⟨v, hv, v0, v1⟩ := next_in s (at_ := at_) (n := 2) hs a0 (by omega) (by decide) (by decide)
    obtain ⟨u, hu, u0, u1⟩ := range_in s (at_ := at_ + 1) (lo := 1) (hi := 400) hs (by omega) (by omega) (by decide) (by decide) (by decide)
    have w1 : wrap64 (1 - wrap64 (2 * v)) = 1 - 2 * v := by rw [w64_id (x := 2 * v) (by omega) (by omega), w64_id (by omega) (by omega)]
    have w2 : wrap64 (day + u) = day + u := w64_id (by omega) (by omega)
    have w3 : wrap64 (i + 1) = i + 1 := w64_id (by omega) (by omega)
    obtain ⟨L, p, hE, r⟩ := ih (l ++ [⟨day, 1 - 2 * v⟩]) (day + u) (i + 1) (at_ + 1 + 1) (by omega) (by omega) (by simp; omega)
      (okl_app ok (by simp only; omega) lt (by simp only; omega) (by simp only; omega))
      (fun y hy => by
        rcases List.mem_append.1 hy with hy | hy
        · have := lt y hy; omega
        · simp only [List.mem_singleton] at hy; subst hy; simp only; omega) (by omega) (by omega) (by omega) (by omega)
    refine ⟨L, p, Ev.step (fun k => by rw [spymake_Stream_Leaps.l0, if_pos (by omega)]) ?_, r⟩
    refine some_ev hv (pos_ev (by omega) (some_ev hu ?_))
    simp only
    rw [w1, w2, w3]
    exact hE
theorem leaps_in (s : List Int) (hs : s.length ≤ 9223372036854775807) : ∃ L p, Ev (fun k => spymake_Stream_Leaps.f k s 0) (L, p) ∧ okl (-4000) L ∧ L.length ≤ 5 ∧ 0 ≤ p ∧ p ≤ 2000 := by
  obtain ⟨day, hd, d0, d1⟩ := range_in s (at_ := 0) (lo := -3000) (hi := 3000) hs (by decide) (by decide) (by decide) (by decide) (by decide)
  obtain ⟨n, hn, n0, n1⟩ := next_in s (at_ := 0 + 1) (n := 6) hs (by decide) (by decide) (by decide) (by decide)
  obtain ⟨L, p, hE, r⟩ := leaps_l0 s hs (n := n) (by omega) n.toNat [] day 0 (0 + 1 + 1) (by omega) (by decide) (by simp) trivial (fun y hy => by cases hy) (by omega) (by omega) (by decide) (by decide)
  refine ⟨L, p, ?_, r⟩
  unfold spymake_Stream_Leaps.f
  exact some_ev hd (some_ev hn hE)
theorem time_in (s : List Int) {at_ : Int} (hs : s.length ≤ 9223372036854775807) (a0 : 0 ≤ at_) (a1 : at_ ≤ 2000) : ∃ t p, spymake_Stream_Time.f s at_ = some (t, p) ∧ -17280000130000 ≤ t ∧ t ≤ 17280000130000 := by
  obtain ⟨d, hd, d0, d1⟩ := range_in s (at_ := at_) (lo := -5000) (hi := 5000) hs (by omega) (by omega) (by decide) (by decide) (by decide)
  obtain ⟨m, hm, m0, m1⟩ := range_in s (at_ := at_ + 1) (lo := -3000) (hi := 3000) hs (by omega) (by omega) (by decide) (by decide) (by decide)
  obtain ⟨c, hc, c0, c1⟩ := next_in s (at_ := at_ + 1 + 1) (n := 6) hs (by omega) (by omega) (by decide) (by decide)
  obtain ⟨e, he, e0, e1⟩ := next_in s (at_ := at_ + 1 + 1 + 1) (n := 86400000) hs (by omega) (by omega) (by decide) (by decide)
  unfold spymake_Stream_Time.f
  rw [hd]; simp only [Option.bind_some]
  rw [hm]; simp only [Option.bind_some]
  rw [hc]; simp only [Option.bind_some]
  rw [w64_id (x := d * 86400000) (by omega) (by omega), w64_id (x := d * 86400000 + m) (by omega) (by omega)]
  by_cases z : c = 0
  · rw [if_pos z, he]; simp only [Option.bind_some]
    rw [w64_id (by omega) (by omega)]
    exact ⟨_, _, rfl, by omega, by omega⟩
  · rw [if_neg z]
    by_cases z2 : c = 1
    · rw [if_pos z2, w64_id (by omega) (by omega)]
      exact ⟨_, _, rfl, by omega, by omega⟩
    · rw [if_neg z2]
      exact ⟨_, _, rfl, by omega, by omega⟩
/-- The sum of the steps before a day, and the step at its end. -/
def bf : List S45 → Int → Int × Int
  | [], _ => (0, 0)
  | x :: l, d => if x.f0 = d then (0, x.f1) else if x.f0 > d then (0, 0) else (x.f1 + (bf l d).1, (bf l d).2)
theorem bf_bd {d0 : Int} {l : List S45} (h : okl d0 l) (d : Int) : -(l.length : Int) ≤ (bf l d).1 ∧ (bf l d).1 ≤ l.length ∧ ((bf l d).2 = 0 ∨ (bf l d).2 = 1 ∨ (bf l d).2 = -1) := by
  induction l generalizing d0 with
  | nil => simp [bf]
  | cons x l ih =>
    obtain ⟨a, b, c, e⟩ := h
    have r := ih e
    simp only [bf, List.length_cons]
    by_cases h1 : x.f0 = d
    · rw [if_pos h1]
      exact ⟨by simp only; omega, by simp only; omega, by simp only; omega⟩
    · rw [if_neg h1]
      by_cases h2 : x.f0 > d
      · rw [if_pos h2]
        exact ⟨by simp only; omega, by simp only; omega, .inl rfl⟩
      · rw [if_neg h2]
        exact ⟨by simp only; omega, by simp only; omega, r.2.2⟩
theorem bf_none {d0 : Int} {l : List S45} (h : okl d0 l) {d : Int} (hd : d ≤ d0) : bf l d = (0, 0) := by
  cases l with
  | nil => rfl
  | cons x l =>
    obtain ⟨a, _⟩ := h
    simp only [bf]
    rw [if_neg (by omega), if_pos (by omega)]
theorem bf_zero {d0 : Int} {l : List S45} (h : okl d0 l) : (bf l (d0 + 1)).1 = 0 := by
  cases l with
  | nil => rfl
  | cons x l =>
    obtain ⟨a, _⟩ := h
    simp only [bf]
    by_cases h1 : x.f0 = d0 + 1
    · rw [if_pos h1]
    · rw [if_neg h1, if_pos (by omega)]
theorem bf_next {d0 : Int} {l : List S45} (h : okl d0 l) (d : Int) : (bf l (d + 1)).1 = (bf l d).1 + (bf l d).2 := by
  induction l generalizing d0 with
  | nil => rfl
  | cons x l ih =>
    obtain ⟨a, b, c, e⟩ := h
    have r := ih e
    simp only [bf]
    by_cases h1 : x.f0 = d
    · have z := bf_zero e
      rw [h1] at z
      rw [if_neg (by omega), if_neg (by omega), if_pos h1]
      simp only
      omega
    · rw [if_neg h1]
      by_cases h2 : x.f0 > d
      · rw [if_pos h2]
        by_cases h3 : x.f0 = d + 1
        · rw [if_pos h3]; simp
        · rw [if_neg h3, if_pos (by omega)]; simp
      · rw [if_neg h2, if_neg (by omega), if_neg (by omega)]
        simp only
        omega
theorem rd45 {L : List S45} {i : Nat} (h : i < L.length) : rd_T45 L (i : Int) = L[i] := by unfold rd_T45; simp [h]
theorem before_l0 (L : List S45) (hL : L.length ≤ 5) (d : Int) (m : Nat) : ∀ (i : Nat) (acc : Int), i + m = L.length → okl (-4000) L → -(i : Int) ≤ acc → acc ≤ i →
    Ev (fun k => scale_before.l0 k d acc L (L.length : Int) (i : Int)) (acc + (bf (L.drop i) d).1, (bf (L.drop i) d).2) := by
  induction m with
  | zero =>
    intro i acc h ok a0 a1
    rw [List.drop_of_length_le (by omega)]
    refine Ev.step (fun k => by rw [scale_before.l0, if_neg (by omega)]) ?_
    exact now_ev fun k => by simp [bf]
  | succ m ih =>
    intro i acc h ok a0 a1
    have hi : i < L.length := by omega
    have mem := okl_mem ok L[i] (List.getElem_mem hi)
    have I := ih (i + 1) (acc + L[i].f1) (by omega) ok (by omega) (by omega)
    rw [List.drop_eq_getElem_cons hi]
    simp only [bf]
    refine Ev.step (fun k => by rw [scale_before.l0]) (pos_ev (by omega) (pos_ev (by omega) (pos_ev (by omega) ?_)))
    rw [rd45 hi]
    by_cases h1 : L[i].f0 = d
    · rw [if_pos h1]
      exact pos_ev h1 (now_ev fun k => by simp)
    · rw [if_neg h1]
      refine neg_ev h1 ?_
      by_cases h2 : L[i].f0 > d
      · rw [if_pos h2]
        exact pos_ev h2 (now_ev fun k => by simp)
      · rw [if_neg h2]
        refine neg_ev h2 ?_
        rw [w64_id (x := acc + L[i].f1) (by omega) (by omega), w64_id (x := (i : Int) + 1) (by omega) (by omega)]
        have e : acc + (L[i].f1 + (bf (L.drop (i + 1)) d).1) = acc + L[i].f1 + (bf (L.drop (i + 1)) d).1 := by omega
        simp only [e]
        exact I
theorem before_ev {L : List S45} (hL : L.length ≤ 5) (ok : okl (-4000) L) (d : Int) : Ev (fun k => scale_before.f k L d) (bf L d) := by
  have h := before_l0 L hL d L.length 0 0 (by omega) ok (by simp) (by simp)
  simp only [List.drop_zero, Int.zero_add] at h
  exact h
theorem okl_step {d0 : Int} {l : List S45} (h : okl d0 l) : ∀ (i : Nat) (hi : i + 1 < l.length), (l[i]'(by omega)).f0 < (l[i + 1]).f0 := by
  induction l generalizing d0 with
  | nil => intro i hi; simp at hi
  | cons x l ih =>
    obtain ⟨a, b, c, e⟩ := h
    intro i hi
    cases i with
    | zero =>
      cases l with
      | nil => simp at hi
      | cons y l => exact e.1
    | succ i => exact ih e i (by simpa using hi)
theorem check_l0 (L : List S45) (hL : L.length ≤ 5) (ok : okl (-4000) L) (m : Nat) : ∀ (i : Nat), i + m = L.length → Ev (fun k => scale_CheckLeaps.l0 k L L (L.length : Int) (i : Int)) 0 := by
  induction m with
  | zero =>
    intro i h
    exact Ev.step (fun k => by rw [scale_CheckLeaps.l0, if_neg (by omega)]) (Ev.now _)
  | succ m ih =>
    intro i h
    have hi : i < L.length := by omega
    have mem := okl_mem ok L[i] (List.getElem_mem hi)
    have I := ih (i + 1) (by omega)
    have w1 : wrap64 ((i : Int) + 1) = ((i + 1 : Nat) : Int) := by rw [w64_id (by omega) (by omega)]; omega
    have J2 : Ev (fun k => scale_CheckLeaps.j2 k L (i : Int) L (L.length : Int) (i : Int) false L[i].f0 L[i].f1) 0 := by
      refine Ev.step (fun k => by rw [scale_CheckLeaps.j2, if_neg (by decide), w1]) ?_
      by_cases z : (i : Int) > 0
      · refine pos_ev z ?_
        have w2 : wrap64 ((i : Int) - 1) = ((i - 1 : Nat) : Int) := by rw [w64_id (by omega) (by omega)]; omega
        rw [w2]
        refine pos_ev (by omega) (pos_ev (by omega) ?_)
        rw [rd45 (by omega)]
        have st := okl_step ok (i - 1) (by omega)
        have e : L[i - 1 + 1]'(by omega) = L[i] := by congr 1; omega
        rw [e] at st
        exact neg_ev (by omega) I
      · exact neg_ev z I
    have J1 : Ev (fun k => scale_CheckLeaps.j1 k L (i : Int) L (L.length : Int) (i : Int) false L[i].f0 L[i].f1) 0 := by
      refine Ev.step (fun k => by rw [scale_CheckLeaps.j1, if_neg (by decide)]) (neg_ev (show ¬ L[i].f0 < -200000 by omega) ?_)
      rw [decide_eq_false (by omega)]
      exact J2
    refine Ev.step (fun k => by rw [scale_CheckLeaps.l0]) (pos_ev (by omega) (pos_ev (by omega) (pos_ev (by omega) ?_)))
    rw [rd45 hi]
    rcases mem.2.2 with e | e
    · exact pos_ev e J1
    · refine neg_ev (by omega) ?_
      rw [show (L[i].f1 != -1) = false by rw [e]; rfl]
      exact J1
theorem checkleaps_ev {L : List S45} (hL : L.length ≤ 5) (ok : okl (-4000) L) : Ev (fun k => scale_CheckLeaps.f k L) 0 := by
  unfold scale_CheckLeaps.f
  exact neg_ev (by omega) (check_l0 L hL ok L.length 0 (by omega))
end Go.Proofs.YtpbfjcohiibpcaaDoor.Q
