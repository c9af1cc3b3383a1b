/- Package trig in plain numbers: the angle of a direction by halving, and that the printed functions compute it, for components up to 2^32, not both 0; the fact of package trig holds. -/
import Derived.Test.YtbaedcjophgiiaaQx21
import Derived.Test.YtbaedcjophgiiaaQx22
import Derived.Test.YtbaedcjophgiiaaM1
import Derived.Test.YtbaedcjophgiiaaM2
import Derived.Test.YtbaedcjophgiiaaM3
import Derived.Test.YtbaedcjophgiiaaM4
import Derived.Test.YtbaedcjophgiiaaM5
import Derived.Test.YtbaedcjophgiiaaB1
import Derived.Test.YtbaedcjophgiiaaT1
import Derived.Test.YtbaedcjophgiiaaT2
namespace Go.Proofs.Ytbaedcjophgiiaa.Q
open Go.RowKit Go.Proofs.YtbaedcjophgiiaaW.PrintWords Go.Proofs.YtbaedcjophgiiaaW.PrintLast Go.Proofs.YtbaedcjophgiiaaW.PrintMore
set_option linter.unusedVariables false
set_option linter.unusedSimpArgs false

/-- The greatest angle with a sine that is not too great, by halving. -/
def octp (y x : Int) : Nat → Int → Int → Int
  | 0, lo, _ => lo
  | n + 1, lo, hi => if hi - lo > 1 then (if sn ((lo + hi) / 2) * x ≤ cs ((lo + hi) / 2) * y then octp y x n ((lo + hi) / 2) hi else octp y x n lo ((lo + hi) / 2)) else lo
def oct (y x : Int) : Int := octp y x 40 0 536870913

theorem mul_bd {s x : Int} (s0 : -1073741824 ≤ s) (s1 : s ≤ 1073741824) (x0 : 0 ≤ x) (x1 : x ≤ 4294967296) : -4611686018427387904 ≤ s * x ∧ s * x ≤ 4611686018427387904 := by
  have a : s * x ≤ 1073741824 * x := Int.mul_le_mul_of_nonneg_right s1 x0
  have b : -1073741824 * x ≤ s * x := Int.mul_le_mul_of_nonneg_right s0 x0
  omega

theorem octant_l0 {y x : Int} (y0 : 0 ≤ y) (y1 : y ≤ 4294967296) (x0 : 0 ≤ x) (x1 : x ≤ 4294967296) (n : Nat) :
    ∀ lo hi : Int, 0 ≤ lo → lo ≤ hi → hi ≤ 536870913 → hi - lo ≤ 2 ^ n → Ev (fun k => trig_octant.l0 k y x lo hi) (octp y x n lo hi) := by
  induction n with
  | zero =>
    intro lo hi h0 hl h1 h2
    rw [Int.pow_zero] at h2
    exact one_ev fun k => by rw [trig_octant.l0, w64_id (by omega) (by omega), if_neg (by omega)]; rfl
  | succ n ih =>
    intro lo hi h0 hl h1 h2
    rw [Int.pow_succ] at h2
    by_cases c : hi - lo > 1
    · have e : wrap64 (Int.tdiv (wrap64 (lo + hi)) 2) = (lo + hi) / 2 := by
        rw [w64_id (x := lo + hi) (by omega) (by omega), tdiv_eq (by omega), w64_id (by omega) (by omega)]
      have m1 := sn_bd ((lo + hi) / 2)
      have m2 := cs_bd ((lo + hi) / 2)
      have p1 := mul_bd m1.1 m1.2 x0 x1
      have p2 := mul_bd m2.1 m2.2 y0 y1
      refine Ev.step (f := fun k => (trig_Sin.f k ((lo + hi) / 2)).bind fun t101 => ((trig_Cos.f k ((lo + hi) / 2)).bind fun t102 => (if (wrap64 (t101 * x)) ≤ (wrap64 (t102 * y)) then (trig_octant.l0 k y x ((lo + hi) / 2) hi) else (trig_octant.l0 k y x lo ((lo + hi) / 2))))) (fun k => ?_) ?_
      · rw [trig_octant.l0, w64_id (x := hi - lo) (by omega) (by omega), if_pos c, e]
      · refine Ev.bind (sin_ev (by omega) (by omega)) (Ev.bind (cos_ev (by omega) (by omega)) ?_)
        rw [w64_id (x := sn ((lo + hi) / 2) * x) (by omega) (by omega), w64_id (x := cs ((lo + hi) / 2) * y) (by omega) (by omega)]
        unfold octp
        rw [if_pos c]
        by_cases d : sn ((lo + hi) / 2) * x ≤ cs ((lo + hi) / 2) * y
        · rw [if_pos d]; exact pos_ev d (ih _ _ (by omega) (by omega) h1 (by omega))
        · rw [if_neg d]; exact neg_ev d (ih _ _ h0 (by omega) (by omega) (by omega))
    · refine one_ev fun k => ?_
      rw [trig_octant.l0, w64_id (x := hi - lo) (by omega) (by omega), if_neg c]
      unfold octp; rw [if_neg c]

theorem octant_ev {y x : Int} (y0 : 0 ≤ y) (y1 : y ≤ 4294967296) (x0 : 0 ≤ x) (x1 : x ≤ 4294967296) : Ev (fun k => trig_octant.f k y x) (oct y x) := by
  unfold trig_octant.f oct
  exact octant_l0 y0 y1 x0 x1 40 0 536870913 (by decide) (by decide) (by decide) (by decide)

theorem octp_is (y x : Int) (n : Nat) : ∀ lo hi : Int, 0 ≤ lo → lo < hi → hi ≤ 536870913 → hi - lo ≤ 2 ^ n → (lo = 0 ∨ sn lo * x ≤ cs lo * y) → (hi = 536870913 ∨ ¬ sn hi * x ≤ cs hi * y) →
    0 ≤ octp y x n lo hi ∧ octp y x n lo hi ≤ 536870912 ∧ (octp y x n lo hi = 0 ∨ sn (octp y x n lo hi) * x ≤ cs (octp y x n lo hi) * y) ∧ (octp y x n lo hi = 536870912 ∨ ¬ sn (octp y x n lo hi + 1) * x ≤ cs (octp y x n lo hi + 1) * y) := by
  induction n with
  | zero =>
    intro lo hi h0 hl h1 h2 a b
    rw [Int.pow_zero] at h2
    have e : hi = lo + 1 := by omega
    subst e
    unfold octp
    exact ⟨h0, by omega, a, by rcases b with b | b; · left; omega
                               · exact .inr b⟩
  | succ n ih =>
    intro lo hi h0 hl h1 h2 a b
    rw [Int.pow_succ] at h2
    unfold octp
    by_cases c : hi - lo > 1
    · rw [if_pos c]
      by_cases d : sn ((lo + hi) / 2) * x ≤ cs ((lo + hi) / 2) * y
      · rw [if_pos d]; exact ih _ _ (by omega) (by omega) h1 (by omega) (.inr d) b
      · rw [if_neg d]; exact ih _ _ h0 (by omega) (by omega) (by omega) a (.inr d)
    · rw [if_neg c]
      have e : hi = lo + 1 := by omega
      subst e
      exact ⟨h0, by omega, a, by rcases b with b | b; · left; omega
                                 · exact .inr b⟩
theorem oct_is (y x : Int) : 0 ≤ oct y x ∧ oct y x ≤ 536870912 ∧ (oct y x = 0 ∨ sn (oct y x) * x ≤ cs (oct y x) * y) ∧ (oct y x = 536870912 ∨ ¬ sn (oct y x + 1) * x ≤ cs (oct y x + 1) * y) :=
  octp_is y x 40 0 536870913 (by decide) (by decide) (by decide) (by decide) (.inl rfl) (.inl rfl)

/-- The angle of a direction. -/
def at1 (y x : Int) : Int := if mx y (-y) ≤ mx x (-x) then oct (mx y (-y)) (mx x (-x)) else 1073741824 - oct (mx x (-x)) (mx y (-y))
def at2 (y x : Int) : Int := (if y < 0 then 4294967296 - (if x < 0 then 2147483648 - at1 y x else at1 y x) else if x < 0 then 2147483648 - at1 y x else at1 y x) % 4294967296

theorem at1_bd (y x : Int) : 0 ≤ at1 y x ∧ at1 y x ≤ 1073741824 := by
  have a := oct_is (mx y (-y)) (mx x (-x))
  have b := oct_is (mx x (-x)) (mx y (-y))
  unfold at1; split <;> omega

theorem mx_abs {x : Int} (x0 : -4294967296 ≤ x) (x1 : x ≤ 4294967296) : 0 ≤ mx x (-x) ∧ mx x (-x) ≤ 4294967296 := by unfold mx; split <;> omega

theorem atan2_ev {y x : Int} (y0 : -4294967296 ≤ y) (y1 : y ≤ 4294967296) (x0 : -4294967296 ≤ x) (x1 : x ≤ 4294967296) (h : x ≠ 0 ∨ y ≠ 0) : Ev (fun k => trig_Atan2.f k y x) (at2 y x, 0) := by
  have bx := mx_abs x0 x1
  have bY := mx_abs y0 y1
  have b1 := at1_bd y x
  have J2 : Ev (fun k => trig_Atan2.j2 k y x (at1 y x)) (at2 y x, 0) := by
    refine one_ev fun k => ?_
    rw [trig_Atan2.j2]
    unfold at2
    by_cases c : x < 0
    · by_cases d : y < 0
      · rw [if_pos c, if_pos d, if_pos d, if_pos c, w64_id (x := 2147483648 - at1 y x) (by omega) (by omega), w64_id (by omega) (by omega), tmod_eq (by omega)]
      · rw [if_pos c, if_neg d, if_neg d, if_pos c, w64_id (x := 2147483648 - at1 y x) (by omega) (by omega), tmod_eq (by omega)]
    · by_cases d : y < 0
      · rw [if_neg c, if_pos d, if_pos d, if_neg c, w64_id (by omega) (by omega), tmod_eq (by omega)]
      · rw [if_neg c, if_neg d, if_neg d, if_neg c, tmod_eq (by omega)]
  have J1 : Ev (fun k => trig_Atan2.j1 k y x) (at2 y x, 0) := by
    refine Ev.step (f := fun k => if (mx y (-y)) ≤ (mx x (-x)) then ((trig_octant.f k (mx y (-y)) (mx x (-x))).bind fun t101 => (trig_Atan2.j2 k y x t101)) else ((trig_octant.f k (mx x (-x)) (mx y (-y))).bind fun t102 => (trig_Atan2.j2 k y x (wrap64 (1073741824 - t102))))) (fun k => by
      rw [trig_Atan2.j1, w64_id (x := -x) (by omega) (by omega), w64_id (x := -y) (by omega) (by omega)]) ?_
    by_cases c : mx y (-y) ≤ mx x (-x)
    · refine pos_ev c (Ev.bind (octant_ev bY.1 bY.2 bx.1 bx.2) ?_)
      have e : at1 y x = oct (mx y (-y)) (mx x (-x)) := by unfold at1; rw [if_pos c]
      rw [← e]; exact J2
    · refine neg_ev c (Ev.bind (octant_ev bx.1 bx.2 bY.1 bY.2) ?_)
      have e : at1 y x = 1073741824 - oct (mx x (-x)) (mx y (-y)) := by unfold at1; rw [if_neg c]
      rw [← e, w64_id (by omega) (by omega)]; exact J2
  have J0 : Ev (fun k => trig_Atan2.j0 k y x false) (at2 y x, 0) := by
    refine Ev.step (f := fun k => if x = 0 then (if y = 0 then (some (0, 8)) else (trig_Atan2.j1 k y x)) else (trig_Atan2.j1 k y x)) (fun k => by rw [trig_Atan2.j0, if_neg (by decide)]) ?_
    by_cases c : x = 0
    · exact pos_ev c (neg_ev (by omega) J1)
    · exact neg_ev c J1
  refine Ev.congr (fun k => ?_) J0
  unfold trig_Atan2.f
  rw [if_neg (by omega), if_neg (by omega), if_neg (by omega), decide_eq_false (by omega)]

theorem trigFact_ev : Ev (fun k => spykeep1_trigFact.f k) true := by
  have h := atan2_ev (y := -5) (x := 5) (by decide) (by decide) (by decide) (by decide) (by decide)
  rw [show at2 (-5) 5 = 3758096384 by decide +kernel] at h
  have s := sin_ev (a := 536870912) (by decide) (by decide)
  rw [show sn 536870912 = 759250125 by decide +kernel] at s
  unfold spykeep1_trigFact.f
  exact Ev.bind h (Ev.bind s (now_ev fun k => by decide))

/-- A sine by its quarter and its place in it. -/
theorem sn_at {a q t : Int} (hq : a % 4294967296 / 1073741824 = q) (ht : a % 1073741824 = t) : sn a = (if q = 0 then qt t else if q = 1 then qt (1073741824 - t) else if q = 2 then -qt t else -qt (1073741824 - t)) := by
  unfold sn; rw [hq, ht]
end Go.Proofs.Ytbaedcjophgiiaa.Q
