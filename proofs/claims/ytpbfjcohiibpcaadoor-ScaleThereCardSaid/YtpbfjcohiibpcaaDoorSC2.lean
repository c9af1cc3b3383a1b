/- The civil time at a uniform time, in plain numbers; the bounds stand in each statement. -/
import Derived.Test.YtpbfjcohiibpcaaDoorQx3
import Derived.Test.YtpbfjcohiibpcaaDoorQx7
import Derived.Test.YtpbfjcohiibpcaaDoorQx2
import Derived.Test.YtpbfjcohiibpcaaDoorQx6
import Derived.Test.YtpbfjcohiibpcaaDoorAO0
import Derived.Test.YtpbfjcohiibpcaaDoorS1A
import Derived.Test.YtpbfjcohiibpcaaDoorSC1
namespace Go.Proofs.YtpbfjcohiibpcaaDoor.Q
open Go.RowKit Go.Proofs.YtpbfjcohiibpcaaDoorW.PrintWords Go.Proofs.YtpbfjcohiibpcaaDoorW.PrintLast Go.Proofs.YtpbfjcohiibpcaaDoorW.PrintMore
set_option linter.unusedVariables false
set_option linter.unusedSimpArgs false
/-- The beginning of a day. -/
def sd (L : List S45) (d : Int) : Int := d * 86400000 + (bf L d).1 * 1000
theorem sd_bd {L : List S45} (hL : L.length ≤ 5) (ok : okl (-4000) L) (d : Int) : d * 86400000 - 5000 ≤ sd L d ∧ sd L d ≤ d * 86400000 + 5000 := by
  have h := bf_bd ok d
  unfold sd
  omega
theorem sd_next {L : List S45} (ok : okl (-4000) L) (d : Int) : sd L (d + 1) = sd L d + 86400000 + (bf L d).2 * 1000 := by
  have h := bf_next ok d
  unfold sd
  omega
theorem sd_mono {L : List S45} (ok : okl (-4000) L) (n : Nat) : ∀ d : Int, sd L d ≤ sd L (d + n) := by
  induction n with
  | zero => intro d; simp
  | succ n ih =>
    intro d
    have a := ih d
    have b := sd_next ok (d + n)
    have c := (bf_bd ok (d + n)).2.2
    have e : d + ((n + 1 : Nat) : Int) = d + n + 1 := by omega
    rw [e]
    omega
theorem sd_le {L : List S45} (ok : okl (-4000) L) {d d' : Int} (h : d ≤ d') : sd L d ≤ sd L d' := by
  have := sd_mono ok (d' - d).toNat d
  have e : d + ((d' - d).toNat : Int) = d' := by omega
  rw [e] at this
  exact this
def hq (r : Int) : Int := mn (r / 1000 / 3600) 23
def mq (r : Int) : Int := mn ((r / 1000 - hq r * 3600) / 60) 59
def sq (r : Int) : Int := r / 1000 - hq r * 3600 - mq r * 60
def lq (r : Int) : Int := r % 1000
theorem parts {r : Int} (h0 : 0 ≤ r) (h1 : r < 86401000) : 0 ≤ hq r ∧ hq r ≤ 23 ∧ 0 ≤ mq r ∧ mq r ≤ 59 ∧ 0 ≤ sq r ∧ sq r ≤ 60 ∧ 0 ≤ lq r ∧ lq r ≤ 999 ∧ (sq r = 60 → hq r = 23 ∧ mq r = 59) ∧ r = (hq r * 60 + mq r) * 60000 + sq r * 1000 + lq r := by
  have a : (hq r = r / 1000 / 3600 ∧ r / 1000 / 3600 ≤ 23) ∨ (hq r = 23 ∧ r / 1000 / 3600 > 23) := by unfold hq mn; split <;> omega
  have b : (mq r = (r / 1000 - hq r * 3600) / 60 ∧ (r / 1000 - hq r * 3600) / 60 ≤ 59) ∨ (mq r = 59 ∧ (r / 1000 - hq r * 3600) / 60 > 59) := by unfold mq mn; split <;> omega
  unfold sq lq
  generalize hq r = h at *
  generalize mq r = m at *
  omega
theorem tc1_ev {L : List S45} (hL : L.length ≤ 5) (ok : okl (-4000) L) {d : Int} (d0 : -1000000 ≤ d) (d1 : d ≤ 1000000) : Ev (fun k => scale_ToCivil_1.f k d [L]) (sd L d) := by
  unfold scale_ToCivil_1.f
  have b := bf_bd ok d
  refine pos_ev (by simp) (Ev.bind (before_ev hL ok d) (now_ev fun k => ?_))
  rw [w64_id (x := d * 86400000) (by omega) (by omega), w64_id (x := (bf L d).1 * 1000) (by omega) (by omega), w64_id (by omega) (by omega)]
  rfl
theorem civil_l0 {L : List S45} (hL : L.length ≤ 5) (ok : okl (-4000) L) {t : Int} (t0 : -17592186044416 ≤ t) (t1 : t ≤ 17592186044416) (n : Nat) :
    ∀ d : Int, d = t / 86400000 - 1 + n → d ≤ 300000 → t < sd L (d + 1) →
      ∃ D y m, sd L D ≤ t ∧ t < sd L (D + 1) ∧ -250000 ≤ D ∧ D ≤ 300000 ∧ Found D y m ∧ Ev (fun k => scale_ToCivil.l0 k t d L) (y, m, D - dn y m 1 + 1, hq (t - sd L D), mq (t - sd L D), sq (t - sd L D), lq (t - sd L D), 0) := by
  induction n with
  | zero =>
    intro d hd d1 ht
    have b := sd_bd hL ok d
    have hn := sd_next ok d
    have st := (bf_bd ok d).2.2
    have S := tc1_ev hL ok (d := d) (by omega) (by omega)
    have z : ¬ sd L d > t := by omega
    obtain ⟨y, m, F, hD⟩ := date_ev (N := d) (by have : dn 1 1 1 = -730119 := by decide
                                                 omega) (by have : dn 9999 12 31 = 2921939 := by decide
                                                            omega)
    refine ⟨d, y, m, by omega, ht, by omega, by omega, F, ?_⟩
    refine Ev.step (fun k => by rw [scale_ToCivil.l0]) (Ev.bind S (neg_ev z (Ev.bind S (Ev.bind hD (now_ev fun k => ?_)))))
    obtain ⟨p0, p1, p2, p3, p4, p5, p6, p7, p8, p9⟩ := parts (r := t - sd L d) (by omega) (by omega)
    have r0 : 0 ≤ t - sd L d := by omega
    have r1 : t - sd L d < 86401000 := by omega
    generalize t - sd L d = r at *
    simp only
    rw [w64_id (x := r) (by omega) (by omega), tdiv_eq r0, w64_id (x := r / 1000) (by omega) (by omega), tdiv_eq (a := r / 1000) (by omega), w64_id (x := r / 1000 / 3600) (by omega) (by omega)]
    rw [show mn (r / 1000 / 3600) 23 = hq r from rfl, w64_id (x := hq r * 3600) (by omega) (by omega), w64_id (x := r / 1000 - hq r * 3600) (by omega) (by omega), tdiv_eq (a := r / 1000 - hq r * 3600) (by unfold sq at p4; omega), w64_id (x := (r / 1000 - hq r * 3600) / 60) (by omega) (by omega)]
    rw [show mn ((r / 1000 - hq r * 3600) / 60) 59 = mq r from rfl, w64_id (x := mq r * 60) (by omega) (by omega), w64_id (x := r / 1000 - hq r * 3600 - mq r * 60) (by omega) (by omega), tmod_eq r0]
    rfl
  | succ n ih =>
    intro d hd d1 ht
    have b := sd_bd hL ok d
    have hn := sd_next ok d
    have st := (bf_bd ok d).2.2
    have S := tc1_ev hL ok (d := d) (by omega) (by omega)
    by_cases z : sd L d > t
    · obtain ⟨D, y, m, r⟩ := ih (d - 1) (by omega) (by omega) (by rw [show d - 1 + 1 = d by omega]; exact z)
      obtain ⟨r1, r2, r3, r4, r5, r6⟩ := r
      refine ⟨D, y, m, r1, r2, r3, r4, r5, ?_⟩
      refine Ev.step (fun k => by rw [scale_ToCivil.l0]) (Ev.bind S (pos_ev z ?_))
      rw [w64_id (x := d - 1) (by omega) (by omega)]
      exact r6
    · obtain ⟨y, m, F, hD⟩ := date_ev (N := d) (by have : dn 1 1 1 = -730119 := by decide
                                                   omega) (by have : dn 9999 12 31 = 2921939 := by decide
                                                              omega)
      refine ⟨d, y, m, by omega, ht, by omega, by omega, F, ?_⟩
      refine Ev.step (fun k => by rw [scale_ToCivil.l0]) (Ev.bind S (neg_ev z (Ev.bind S (Ev.bind hD (now_ev fun k => ?_)))))
      obtain ⟨p0, p1, p2, p3, p4, p5, p6, p7, p8, p9⟩ := parts (r := t - sd L d) (by omega) (by omega)
      have r0 : 0 ≤ t - sd L d := by omega
      have r1 : t - sd L d < 86401000 := by omega
      generalize t - sd L d = r at *
      simp only
      rw [w64_id (x := r) (by omega) (by omega), tdiv_eq r0, w64_id (x := r / 1000) (by omega) (by omega), tdiv_eq (a := r / 1000) (by omega), w64_id (x := r / 1000 / 3600) (by omega) (by omega)]
      rw [show mn (r / 1000 / 3600) 23 = hq r from rfl, w64_id (x := hq r * 3600) (by omega) (by omega), w64_id (x := r / 1000 - hq r * 3600) (by omega) (by omega), tdiv_eq (a := r / 1000 - hq r * 3600) (by unfold sq at p4; omega), w64_id (x := (r / 1000 - hq r * 3600) / 60) (by omega) (by omega)]
      rw [show mn ((r / 1000 - hq r * 3600) / 60) 59 = mq r from rfl, w64_id (x := mq r * 60) (by omega) (by omega), w64_id (x := r / 1000 - hq r * 3600 - mq r * 60) (by omega) (by omega), tmod_eq r0]
      rfl
theorem civil_ev {L : List S45} (hL : L.length ≤ 5) (ok : okl (-4000) L) {t : Int} (t0 : -17592186044416 ≤ t) (t1 : t ≤ 17592186044416) :
    ∃ D y m, sd L D ≤ t ∧ t < sd L (D + 1) ∧ -250000 ≤ D ∧ D ≤ 300000 ∧ Found D y m ∧ Ev (fun k => scale_ToCivil.f k t L) (y, m, D - dn y m 1 + 1, hq (t - sd L D), mq (t - sd L D), sq (t - sd L D), lq (t - sd L D), 0) := by
  obtain ⟨a, b, c⟩ : t / 86400000 ≤ Int.tdiv t 86400000 ∧ Int.tdiv t 86400000 ≤ t / 86400000 + 1 ∧ True := by
    refine ⟨?_, ?_, trivial⟩
    all_goals
      have sg : Int.sign 86400000 = 1 := rfl
      rw [Int.tdiv_eq_ediv]; split <;> omega
  have bd := sd_bd hL ok (Int.tdiv t 86400000 + 2 + 1)
  obtain ⟨D, y, m, r1, r2, r3, r4, r5, r6⟩ := civil_l0 hL ok t0 t1 (Int.tdiv t 86400000 + 2 - (t / 86400000 - 1)).toNat (Int.tdiv t 86400000 + 2) (by omega) (by omega) (by omega)
  refine ⟨D, y, m, r1, r2, r3, r4, r5, ?_⟩
  unfold scale_ToCivil.f
  refine neg_ev (by omega) ?_
  rw [decide_eq_false (by omega)]
  refine Ev.step (fun k => by rw [scale_ToCivil.j0, if_neg (by decide)]) (Ev.bind (checkleaps_ev hL ok) (pos_ev rfl ?_))
  rw [w64_id (x := Int.tdiv t 86400000) (by omega) (by omega), w64_id (x := Int.tdiv t 86400000 + 2) (by omega) (by omega)]
  exact r6
/-- A civil time that passes the check. -/
theorem check_ev {y m d h mi s ms : Int} (y0 : 1 ≤ y) (y1 : y ≤ 9999) (m0 : 1 ≤ m) (m1 : m ≤ 12) (d0 : 1 ≤ d) (d1 : d ≤ len y m) (h0 : 0 ≤ h) (h1 : h ≤ 23) (i0 : 0 ≤ mi) (i1 : mi ≤ 59) (s0 : 0 ≤ s) (s1 : s ≤ 60) (l0 : 0 ≤ ms) (l1 : ms ≤ 999) (last : s = 60 → h = 23 ∧ mi = 59) :
    Ev (fun k => scale_Check.f k y m d h mi s ms) 0 := by
  unfold scale_Check.f
  refine Ev.bind (Days_ev y0 y1 m0 m1 d0 d1) ?_
  by_cases c : h = 23
  · refine pos_ev c ?_
    by_cases e : mi = 59
    · rw [show (mi == 59) = true by rw [e]; rfl]
      refine one_ev fun k => ?_
      rw [scale_Check.j0, if_pos rfl, if_pos rfl, if_neg (by omega), if_neg (by omega), if_neg (by omega), if_neg (by omega), if_neg (by omega), if_neg (by omega), if_neg (by omega), if_neg (by omega)]
    · rw [show (mi == 59) = false by simp [e]]
      refine one_ev fun k => ?_
      rw [scale_Check.j0, if_neg (by decide), if_pos rfl, if_neg (by omega), if_neg (by omega), if_neg (by omega), if_neg (by omega), if_neg (by omega), if_neg (by omega), if_neg (by omega), if_neg (by omega)]
  · refine neg_ev c (one_ev fun k => ?_)
    rw [scale_Check.j0, if_neg (by decide), if_pos rfl, if_neg (by omega), if_neg (by omega), if_neg (by omega), if_neg (by omega), if_neg (by omega), if_neg (by omega), if_neg (by omega), if_neg (by omega)]
/-- Back to the uniform time. -/
theorem uniform_ev {L : List S45} (hL : L.length ≤ 5) (ok : okl (-4000) L) {t D y m : Int} (t0 : -17592186044416 ≤ t) (t1 : t ≤ 17592186044416) (h0 : sd L D ≤ t) (h1 : t < sd L (D + 1)) (D0 : -250000 ≤ D) (D1 : D ≤ 300000) (F : Found D y m) :
    Ev (fun k => scale_ToUniform.f k y m (D - dn y m 1 + 1) (hq (t - sd L D)) (mq (t - sd L D)) (sq (t - sd L D)) (lq (t - sd L D)) L) (t, 0) := by
  obtain ⟨y0, y1, m0, m1, f0, f1⟩ := F
  have hn := sd_next ok D
  have st := bf_bd ok D
  have lb := len_bd y m
  obtain ⟨p0, p1, p2, p3, p4, p5, p6, p7, p8, p9⟩ := parts (r := t - sd L D) (by omega) (by omega)
  have dd : dn y m (D - dn y m 1 + 1) = D := by rw [dn_day]; omega
  have ds := days_some (y := y) (m := m) (d := D - dn y m 1 + 1) y0 (by omega) m0 m1 (by omega) (by omega)
  rw [dd] at ds
  have sdd : sd L D = D * 86400000 + (bf L D).1 * 1000 := rfl
  generalize hr : t - sd L D = r at *
  -- the last second
  have fit : hq r = 23 → mq r = 59 → ¬ sq r > 59 + (bf L D).2 := by intro a b; omega
  have J : Ev (fun k => scale_ToUniform.j0 k D (bf L D).1 false y m (D - dn y m 1 + 1) (hq r) (mq r) (sq r) (lq r)) (t, 0) := by
    refine one_ev fun k => ?_
    rw [scale_ToUniform.j0, if_neg (by decide)]
    rw [w64_id (x := D * 86400000) (by omega) (by omega), w64_id (x := hq r * 60) (by omega) (by omega), w64_id (x := hq r * 60 + mq r) (by omega) (by omega), w64_id (x := (hq r * 60 + mq r) * 60000) (by omega) (by omega), w64_id (x := D * 86400000 + (hq r * 60 + mq r) * 60000) (by omega) (by omega), w64_id (x := sq r + (bf L D).1) (by omega) (by omega), w64_id (x := (sq r + (bf L D).1) * 1000) (by omega) (by omega), w64_id (x := D * 86400000 + (hq r * 60 + mq r) * 60000 + (sq r + (bf L D).1) * 1000) (by omega) (by omega), w64_id (x := D * 86400000 + (hq r * 60 + mq r) * 60000 + (sq r + (bf L D).1) * 1000 + lq r) (by omega) (by omega)]
    have e : D * 86400000 + (hq r * 60 + mq r) * 60000 + (sq r + (bf L D).1) * 1000 + lq r = t := by omega
    rw [e, if_neg (by omega), if_neg (by omega)]
  unfold scale_ToUniform.f
  refine Ev.bind (check_ev y0 y1 m0 m1 (by omega) (by omega) p0 p1 p2 p3 p4 p5 p6 p7 p8) (pos_ev rfl (Ev.bind (checkleaps_ev hL ok) (pos_ev rfl (some_ev ds (Ev.bind (before_ev hL ok D) ?_)))))
  by_cases a : hq r = 23
  · refine pos_ev a ?_
    by_cases b : mq r = 59
    · refine pos_ev b ?_
      rw [w64_id (x := 59 + (bf L D).2) (by omega) (by omega), decide_eq_false (fit a b)]
      exact J
    · exact neg_ev b J
  · exact neg_ev a J
end Go.Proofs.YtpbfjcohiibpcaaDoor.Q
