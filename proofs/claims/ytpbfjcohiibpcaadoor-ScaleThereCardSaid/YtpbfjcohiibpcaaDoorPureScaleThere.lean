/- ScaleThere in plain numbers: for every stream of numbers and every number the printed function answers true; no other condition. -/
import Derived.Test.YtpbfjcohiibpcaaDoorQx15
import Derived.Test.YtpbfjcohiibpcaaDoorQx14
import Derived.Test.YtpbfjcohiibpcaaDoorAO0
import Derived.Test.YtpbfjcohiibpcaaDoorS1A
import Derived.Test.YtpbfjcohiibpcaaDoorSC1
import Derived.Test.YtpbfjcohiibpcaaDoorSC2
import Derived.Test.YtpbfjcohiibpcaaDoorSC3
namespace Go.Proofs.YtpbfjcohiibpcaaDoor.Pure
open Go.RowKit Go.Proofs.YtpbfjcohiibpcaaDoor.Q Go.Proofs.YtpbfjcohiibpcaaDoorW.PrintWords Go.Proofs.YtpbfjcohiibpcaaDoorW.PrintLast
set_option linter.unusedVariables false
set_option linter.unusedSimpArgs false
theorem scaleFact_ev : Ev (fun k => spykeep1_scaleFact.f k) true := Ev.of (fun k => spykeep1_scaleFact.mono k) (k := 200) (by decide +kernel)
def tx (y m d h i s l : Int) : ByteArray := by_ (txt y.toNat m.toNat d.toNat h.toNat i.toNat s.toNat l.toNat)
theorem tr {y m d h i s l : Int} (y0 : 0 ≤ y) (y1 : y < 10000) (m0 : 0 ≤ m) (m1 : m < 100) (d0 : 0 ≤ d) (d1 : d < 100) (h0 : 0 ≤ h) (h1 : h < 100) (i0 : 0 ≤ i) (i1 : i < 100) (s0 : 0 ≤ s) (s1 : s < 100) (l0 : 0 ≤ l) (l1 : l < 1000)
    (hc : Ev (fun k => scale_Check.f k y m d h i s l) 0) : Ev (fun k => scale_Text.f k y m d h i s l) (tx y m d h i s l, 0) ∧ Ev (fun k => scale_Read.f k (tx y m d h i s l)) (y, m, d, h, i, s, l, 0) := by
  obtain ⟨y, rfl⟩ := Int.eq_ofNat_of_zero_le y0
  obtain ⟨m, rfl⟩ := Int.eq_ofNat_of_zero_le m0
  obtain ⟨d, rfl⟩ := Int.eq_ofNat_of_zero_le d0
  obtain ⟨h, rfl⟩ := Int.eq_ofNat_of_zero_le h0
  obtain ⟨i, rfl⟩ := Int.eq_ofNat_of_zero_le i0
  obtain ⟨s, rfl⟩ := Int.eq_ofNat_of_zero_le s0
  obtain ⟨l, rfl⟩ := Int.eq_ofNat_of_zero_le l0
  unfold tx
  simp only [Int.toNat_natCast]
  exact ⟨Text_ev (by omega) (by omega) (by omega) (by omega) (by omega) (by omega) (by omega) hc, Read_ev (by omega) (by omega) (by omega) (by omega) (by omega) (by omega) (by omega) hc⟩
theorem parts_lt {r r' : Int} (h0 : 0 ≤ r) (h : r < r') (h1 : r' < 86401000) : hq r < hq r' ∨ (hq r = hq r' ∧ (mq r < mq r' ∨ (mq r = mq r' ∧ (sq r < sq r' ∨ (sq r = sq r' ∧ lq r < lq r'))))) := by
  have a : ∀ x : Int, (hq x = x / 1000 / 3600 ∧ x / 1000 / 3600 ≤ 23) ∨ (hq x = 23 ∧ x / 1000 / 3600 > 23) := by intro x; unfold hq mn; split <;> omega
  have b : ∀ x : Int, (mq x = (x / 1000 - hq x * 3600) / 60 ∧ (x / 1000 - hq x * 3600) / 60 ≤ 59) ∨ (mq x = 59 ∧ (x / 1000 - hq x * 3600) / 60 > 59) := by intro x; unfold mq mn; split <;> omega
  have a1 := a r
  have a2 := a r'
  have b1 := b r
  have b2 := b r'
  unfold sq lq
  generalize hq r = h at *
  generalize mq r = m at *
  generalize hq r' = h' at *
  generalize mq r' = m' at *
  omega
theorem date_lt {D D' y m y' m' : Int} (F : Go.Proofs.YtpbfjcohiibpcaaDoor.Q.Found D y m) (F' : Go.Proofs.YtpbfjcohiibpcaaDoor.Q.Found D' y' m') (h : D ≤ D') : (y < y' ∨ (y = y' ∧ (m < m' ∨ (m = m' ∧ (D < D' ∨ D = D'))))) ∧ (D = D' → y = y' ∧ m = m') := by
  obtain ⟨y0, y1, m0, m1, f0, f1⟩ := F
  obtain ⟨y0', y1', m0', m1', f0', f1'⟩ := F'
  obtain ⟨g1, g2⟩ := gm_of (y := y) m0 m1
  obtain ⟨g1', g2'⟩ := gm_of (y := y') m0' m1'
  have lt := @gm_lt (12 * y + m - 1) (12 * y' + m' - 1)
  have gt := @gm_lt (12 * y' + m' - 1) (12 * y + m - 1)
  have c : ¬ 12 * y' + m' - 1 < 12 * y + m - 1 := by intro z; have := gt z; omega
  refine ⟨by omega, fun e => ?_⟩
  have c2 : ¬ 12 * y + m - 1 < 12 * y' + m' - 1 := by intro z; have := lt z; omega
  omega
theorem ScaleThere : spykeep1_ScaleThere.Pure := by
  intro l more hm _ _ wf
  have hl : l.length ≤ 9223372036854775807 := by have h := hm; unfold maxLen at h; omega
  refine Ev.rounds (r := true) ?_
  obtain ⟨L, p, hL, ok, len, p0, p1⟩ := leaps_in l hl
  obtain ⟨t, p2, hT, t0, t1⟩ := time_in l (at_ := p) hl p0 p1
  obtain ⟨v, hv, v0, v1⟩ := below_in (a := more) (n := 100000000) (by decide) (by decide)
  obtain ⟨D, y, m, a1, a2, a3, a4, F, hC⟩ := civil_ev len ok (t := t) (by omega) (by omega)
  obtain ⟨D', y', m', b1, b2, b3, b4, F', hC'⟩ := civil_ev len ok (t := t + (1 + v)) (by omega) (by omega)
  have n1 := sd_next ok D
  have n2 := sd_next ok D'
  have s1 := (bf_bd ok D).2.2
  have s2 := (bf_bd ok D').2.2
  have U := uniform_ev len ok (t := t) (by omega) (by omega) a1 a2 a3 a4 F
  have FF := F
  have FF' := F'
  obtain ⟨y0, y1, m0, m1, f0, f1⟩ := FF
  obtain ⟨y0', y1', m0', m1', f0', f1'⟩ := FF'
  have lb := len_bd y m
  have lb' := len_bd y' m'
  obtain ⟨q0, q1, q2, q3, q4, q5, q6, q7, q8, q9⟩ := parts (r := t - sd L D) (by omega) (by omega)
  obtain ⟨r0, r1, r2, r3, r4, r5, r6, r7, r8, r9⟩ := parts (r := t + (1 + v) - sd L D') (by omega) (by omega)
  have K := check_ev (y := y) (m := m) (d := D - dn y m 1 + 1) y0 y1 m0 m1 (by omega) (by omega) q0 q1 q2 q3 q4 q5 q6 q7 q8
  have K' := check_ev (y := y') (m := m') (d := D' - dn y' m' 1 + 1) y0' y1' m0' m1' (by omega) (by omega) r0 r1 r2 r3 r4 r5 r6 r7 r8
  obtain ⟨X, R⟩ := tr (by omega) (by omega) (by omega) (by omega) (by omega) (by omega) q0 (by omega) q2 (by omega) q4 (by omega) q6 (by omega) K
  obtain ⟨X', _⟩ := tr (by omega) (by omega) (by omega) (by omega) (by omega) (by omega) r0 (by omega) r2 (by omega) r4 (by omega) r6 (by omega) K'
  -- the later time is not on an earlier day
  have le : D ≤ D' := by
    by_cases z : D ≤ D'
    · exact z
    · have := sd_le ok (show D' + 1 ≤ D by omega)
      omega
  obtain ⟨dl, same⟩ := date_lt F F' le
  have less : Op.bytesLess (tx y m (D - dn y m 1 + 1) (hq (t - sd L D)) (mq (t - sd L D)) (sq (t - sd L D)) (lq (t - sd L D))).toList (tx y' m' (D' - dn y' m' 1 + 1) (hq (t + (1 + v) - sd L D')) (mq (t + (1 + v) - sd L D')) (sq (t + (1 + v) - sd L D')) (lq (t + (1 + v) - sd L D'))).toList = true := by
    unfold tx
    rw [by_list, by_list]
    refine txt_less (by omega) (by omega) (by omega) (by omega) (by omega) (by omega) (by omega) (by omega) (by omega) (by omega) (by omega) (by omega) (by omega) (by omega) ?_
    by_cases e : D = D'
    · obtain ⟨e1, e2⟩ := same e
      subst e e1 e2
      have pl := parts_lt (r := t - sd L D) (r' := t + (1 + v) - sd L D) (by omega) (by omega) (by omega)
      refine .inr ⟨rfl, .inr ⟨rfl, .inr ⟨rfl, ?_⟩⟩⟩
      generalize hq (t - sd L D) = c1 at *
      generalize mq (t - sd L D) = c2 at *
      generalize sq (t - sd L D) = c3 at *
      generalize lq (t - sd L D) = c4 at *
      generalize hq (t + (1 + v) - sd L D) = e1 at *
      generalize mq (t + (1 + v) - sd L D) = e2 at *
      generalize sq (t + (1 + v) - sd L D) = e3 at *
      generalize lq (t + (1 + v) - sd L D) = e4 at *
      rcases pl with h | ⟨h, pl⟩
      · exact .inl (by omega)
      · refine .inr ⟨by omega, ?_⟩
        rcases pl with h | ⟨h, pl⟩
        · exact .inl (by omega)
        · refine .inr ⟨by omega, ?_⟩
          rcases pl with h | ⟨h, h2⟩
          · exact .inl (by omega)
          · exact .inr ⟨by omega, by omega⟩
    · rcases dl with h | ⟨h, dl⟩
      · exact .inl (by omega)
      · refine .inr ⟨by omega, ?_⟩
        rcases dl with h2 | ⟨h2, dl⟩
        · exact .inl (by omega)
        · refine .inr ⟨by omega, .inl ?_⟩
          subst h h2
          omega
  unfold spykeep1_ScaleThere.f
  refine Ev.bind hL (some_ev hT (some_ev hv (Ev.bind hC ?_)))
  simp only
  rw [w64_id (x := 1 + v) (by omega) (by omega), w64_id (x := t + (1 + v)) (by omega) (by omega)]
  refine Ev.bind hC' (Ev.bind X (Ev.bind X' (Ev.bind R (Ev.bind U (Ev.bind scaleFact_ev (pos_ev rfl (pos_ev ?_ (pos_ev ?_ (now_ev fun k => ?_)))))))))
  · show wrap64 (wrap64 (wrap64 (wrap64 (wrap64 (0 + 0) + 0) + 0) + 0) + 0) = 0
    have z : wrap64 (0 + 0) = 0 := w64_id (by decide) (by decide)
    rw [z, z, z, z, z]
  · rfl
  · simp only [less]
end Go.Proofs.YtpbfjcohiibpcaaDoor.Pure
