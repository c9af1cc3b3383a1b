/- Package trig in plain numbers: sines and cosines as functions of whole numbers, and that the printed functions compute them; no condition but 64 bits. -/
import Derived.Test.YtbaedcjophgiiaaQx21
import Derived.Test.YtbaedcjophgiiaaQx15
import Derived.Test.YtbaedcjophgiiaaM1
import Derived.Test.YtbaedcjophgiiaaM2
import Derived.Test.YtbaedcjophgiiaaM3
import Derived.Test.YtbaedcjophgiiaaM4
import Derived.Test.YtbaedcjophgiiaaM5
import Derived.Test.YtbaedcjophgiiaaB1
namespace Go.Proofs.Ytbaedcjophgiiaa.Q
open Go.RowKit Go.Proofs.YtbaedcjophgiiaaW.PrintWords Go.Proofs.YtbaedcjophgiiaaW.PrintLast Go.Proofs.YtbaedcjophgiiaaW.PrintMore
set_option linter.unusedVariables false
set_option linter.unusedSimpArgs false

theorem i64_mask {x : Int} (h0 : -9223372036854775808 ≤ x) (h1 : x < 9223372036854775808) (i : Nat) (hi : i ≤ 62) : Go.bits .and .i64 x (2 ^ i - 1) = x % 2 ^ i := by
  have hp : (0 : Int) < 2 ^ i := Int.pow_pos (by decide)
  have hle : (2 : Int) ^ i ≤ 4611686018427387904 := by
    have h : 2 ^ i ≤ 2 ^ 62 := Nat.pow_le_pow_right (by decide) hi
    have h' : ((2 ^ i : Nat) : Int) ≤ ((2 ^ 62 : Nat) : Int) := Int.ofNat_le.mpr h
    rw [show ((2 ^ i : Nat) : Int) = 2 ^ i by simp] at h'
    exact h'
  have hpn : 0 < 2 ^ i := Nat.two_pow_pos i
  have hc : ((2 : Int) ^ i - 1) = ((2 ^ i - 1 : Nat) : Int) := by rw [Int.natCast_sub hpn]; simp
  show IntKind.i64.wrap _ = _
  rw [show IntKind.i64.bits = 64 from rfl, BitVec.toNat_and, BitVec.toNat_ofInt, BitVec.toNat_ofInt, hc]
  have h2 : ((2 ^ i - 1 : Nat) : Int) % ((2 ^ 64 : Nat) : Int) = ((2 ^ i - 1 : Nat) : Int) := by
    rw [← hc]; exact Int.emod_eq_of_lt (by omega) (by omega)
  rw [h2, Int.toNat_natCast, Nat.and_two_pow_sub_one_eq_mod, IntKind.wrap_i64]
  have h3 : (((x % ((2 ^ 64 : Nat) : Int)).toNat % 2 ^ i : Nat) : Int) = x % 2 ^ i := by
    rw [Int.natCast_emod, Int.toNat_of_nonneg (Int.emod_nonneg _ (by decide)), show ((2 ^ i : Nat) : Int) = 2 ^ i by simp, show ((2 ^ 64 : Nat) : Int) = 2 ^ 64 from rfl]
    exact Int.emod_emod_of_dvd x (by
      rw [show (2 : Int) ^ 64 = 2 ^ i * 2 ^ (64 - i) by rw [← Int.pow_add]; congr 1; omega]
      exact Int.dvd_mul_right _ _)
  rw [h3]
  have := Int.emod_nonneg x (show (2 : Int) ^ i ≠ 0 by omega)
  have := Int.emod_lt_of_pos x hp
  omega
theorem mask32 {x : Int} (h0 : -9223372036854775808 ≤ x) (h1 : x < 9223372036854775808) : Go.bits .and .i64 x 4294967295 = x % 4294967296 := i64_mask h0 h1 32 (by decide)
theorem mask30 {x : Int} (h0 : -9223372036854775808 ≤ x) (h1 : x < 9223372036854775808) : Go.bits .and .i64 x 1073741823 = x % 1073741824 := i64_mask h0 h1 30 (by decide)

/-- A product where 2^60 means 1. -/
def tm (a b : Int) : Int := a * b / 1152921504606846976
/-- 1 - u/k1*(1 - u/k2*(..)), from within. -/
def ser (u : Int) : Int → List Int → Int
  | s, [] => s
  | s, k :: l => ser u (1152921504606846976 - tm u s / k) l
/-- To the nearest multiple of 2^30. -/
def rnd (a : Int) : Int := (a + 536870912) / 1073741824
def xof (t : Int) : Int := t * 1811004864519280710 / 1073741824
def cosL : List Int := [182, 132, 90, 56, 30, 12, 2]
def sinL : List Int := [156, 110, 72, 42, 20, 6]
def qt (t : Int) : Int :=
  if t > 536870912 then rnd (ser (tm (xof (1073741824 - t)) (xof (1073741824 - t))) 1152921504606846976 cosL)
  else rnd (tm (xof t) (ser (tm (xof t) (xof t)) 1152921504606846976 sinL))
/-- The sine of an angle. -/
def sn (a : Int) : Int :=
  if a % 4294967296 / 1073741824 = 0 then qt (a % 1073741824)
  else if a % 4294967296 / 1073741824 = 1 then qt (1073741824 - a % 1073741824)
  else if a % 4294967296 / 1073741824 = 2 then -qt (a % 1073741824)
  else -qt (1073741824 - a % 1073741824)
/-- The cosine of an angle. -/
def cs (a : Int) : Int := sn (a % 4294967296 + 1073741824)

theorem times_ev {a b : Int} (a0 : 0 ≤ a) (a1 : a ≤ 1152921504606846976) (b0 : 0 ≤ b) (b1 : b ≤ 1152921504606846976) : Ev (fun k => trig_times.f k a b) (tm a b) := by
  have p0 : 0 ≤ a * b := Int.mul_nonneg a0 b0
  have p1 : a * b ≤ 1152921504606846976 * 1152921504606846976 := Int.mul_le_mul a1 b1 b0 (by decide)
  have h := muldiv (a := a) (b := b) (d := 1152921504606846976) (by omega) (by omega) (by omega) (by omega) (by decide)
  rw [if_neg (by decide), if_pos (by unfold fits; rw [decide_eq_true (by omega), decide_eq_true (by omega)]; rfl)] at h
  unfold trig_times.f
  exact Ev.bind h (Ev.now _)
theorem tm_bd {a b : Int} (a0 : 0 ≤ a) (a1 : a ≤ 1152921504606846976) (b0 : 0 ≤ b) (b1 : b ≤ 1152921504606846976) : 0 ≤ tm a b ∧ tm a b ≤ a ∧ tm a b ≤ b := by
  have p0 : 0 ≤ a * b := Int.mul_nonneg a0 b0
  have p1 : a * b ≤ a * 1152921504606846976 := Int.mul_le_mul_of_nonneg_left b1 a0
  have p2 : a * b ≤ 1152921504606846976 * b := Int.mul_le_mul_of_nonneg_right a1 b0
  unfold tm; omega

theorem ser_step {u s k : Int} (u0 : 0 ≤ u) (u1 : u ≤ 1152921504606846976) (s0 : 0 ≤ s) (s1 : s ≤ 1152921504606846976) (hk : 1 ≤ k) :
    0 ≤ 1152921504606846976 - tm u s / k ∧ 1152921504606846976 - tm u s / k ≤ 1152921504606846976 ∧ 0 ≤ tm u s / k ∧ tm u s / k ≤ tm u s := by
  have b := tm_bd u0 u1 s0 s1
  have d := div_bd (v := tm u s) (d := k) b.1 (by omega)
  omega

theorem series_l0 {u : Int} (u0 : 0 ≤ u) (u1 : u ≤ 1152921504606846976) (l : List Int) (hl : l.length < 1000) (hk : ∀ k ∈ l, 2 ≤ k ∧ k < 1000) (n : Nat) :
    ∀ (i : Nat) (s : Int), l.length - i = n → i ≤ l.length → 0 ≤ s → s ≤ 1152921504606846976 → Ev (fun k => trig_series.l0 k u s l (l.length : Int) (i : Int)) (ser u s (l.drop i)) := by
  induction n with
  | zero =>
    intro i s hn hi s0 s1
    obtain rfl : i = l.length := by omega
    refine one_ev fun k => ?_
    rw [trig_series.l0, if_neg (by omega), List.drop_length]; rfl
  | succ n ih =>
    intro i s hn hi s0 s1
    have hlt : i < l.length := by omega
    have hg : rd l (i : Int) = l[i] := by
      unfold rd; rw [Int.toNat_natCast, List.getD_eq_getElem?_getD, List.getElem?_eq_getElem hlt]; rfl
    obtain ⟨k0, k1⟩ := hk l[i] (List.getElem_mem hlt)
    have st := ser_step u0 u1 s0 s1 (k := l[i]) (by omega)
    have b := tm_bd u0 u1 s0 s1
    refine Ev.step (f := fun k => (trig_times.f k u s).bind fun t => (if (rd l (i : Int)) = 0 then none else trig_series.l0 k u (wrap64 (1152921504606846976 - (wrap64 (Int.tdiv t (rd l (i : Int)))))) l (l.length : Int) (wrap64 ((i : Int) + 1)))) (fun k => ?_) ?_
    · rw [trig_series.l0, if_pos (by omega), if_pos (by omega), if_pos (by omega)]
    · refine Ev.bind (times_ev u0 u1 s0 s1) (neg_ev (by rw [hg]; omega) ?_)
      rw [hg, tdiv_eq b.1, w64_id (x := tm u s / l[i]) (by omega) (by omega), w64_id (x := 1152921504606846976 - tm u s / l[i]) (by omega) (by omega), w64_id (x := (i : Int) + 1) (by omega) (by omega),
        show ((i : Int) + 1) = ((i + 1 : Nat) : Int) by omega, List.drop_eq_getElem_cons hlt]
      exact ih (i + 1) _ (by omega) (by omega) st.1 st.2.1

theorem series_ev {u : Int} (u0 : 0 ≤ u) (u1 : u ≤ 1152921504606846976) (l : List Int) (hl : l.length < 1000) (hk : ∀ k ∈ l, 2 ≤ k ∧ k < 1000) : Ev (fun k => trig_series.f k u l) (ser u 1152921504606846976 l) := by
  have := series_l0 u0 u1 l hl hk l.length 0 1152921504606846976 (by omega) (by omega) (by decide) (by decide)
  rw [List.drop_zero] at this
  exact Ev.congr (fun k => by unfold trig_series.f; rfl) this

theorem ser_bd {u : Int} (u0 : 0 ≤ u) (u1 : u ≤ 1152921504606846976) (l : List Int) : ∀ s : Int, (∀ k ∈ l, 2 ≤ k) → 0 ≤ s → s ≤ 1152921504606846976 → 0 ≤ ser u s l ∧ ser u s l ≤ 1152921504606846976 := by
  induction l with
  | nil => intro s _ s0 s1; exact ⟨s0, s1⟩
  | cons k l ih =>
    intro s hk s0 s1
    have st := ser_step u0 u1 s0 s1 (k := k) (by have := hk k (by simp); omega)
    exact ih _ (fun k h => hk k (by simp [h])) st.1 st.2.1

theorem round_ev {a : Int} (a0 : 0 ≤ a) (a1 : a < 4611686018427387904) : Ev (fun k => num_RoundDiv.f k a 1073741824) (rnd a) := by
  unfold num_RoundDiv.f rnd
  refine neg_ev (by decide) (neg_ev (by decide) ?_)
  rw [tdiv_eq a0, tmod_eq a0, w64_id (x := a / 1073741824) (by omega) (by omega), w64_id (x := 1073741824 - a % 1073741824) (by omega) (by omega)]
  by_cases c : a % 1073741824 ≥ 1073741824 - a % 1073741824
  · refine pos_ev c (one_ev fun k => ?_)
    rw [decide_eq_true (by omega), num_RoundDiv.j0, if_pos rfl, w64_id (by omega) (by omega)]
    congr 1; omega
  · refine neg_ev c (one_ev fun k => ?_)
    rw [num_RoundDiv.j0, if_neg (by decide), if_neg (by omega)]
    congr 1; omega

theorem xof_bd {t : Int} (h0 : 0 ≤ t) (h1 : t ≤ 536870912) : 0 ≤ xof t ∧ xof t ≤ 905502432259640355 := by unfold xof; omega

theorem xof_ev {t : Int} (h0 : 0 ≤ t) (h1 : t ≤ 1073741824) : Ev (fun k => num_MulDiv.f k t 1811004864519280710 1073741824) (xof t, 0) := by
  have h := muldiv (a := t) (b := 1811004864519280710) (d := 1073741824) (by omega) (by omega) (by decide) (by decide) (by decide)
  rw [if_neg (by decide), if_pos (by unfold fits; rw [decide_eq_true (by omega), decide_eq_true (by omega)]; rfl)] at h
  exact h

theorem quarter_ev {t : Int} (h0 : 0 ≤ t) (h1 : t ≤ 1073741824) : Ev (fun k => trig_quarter.f k t) (qt t) := by
  unfold trig_quarter.f qt
  by_cases c : t > 536870912
  · refine pos_ev c ?_
    rw [if_pos c, w64_id (x := 1073741824 - t) (by omega) (by omega)]
    have b := xof_bd (t := 1073741824 - t) (by omega) (by omega)
    refine Ev.bind (xof_ev (t := 1073741824 - t) (by omega) (by omega)) ?_
    generalize xof (1073741824 - t) = x at *
    have b2 := tm_bd (a := x) (b := x) b.1 (by omega) b.1 (by omega)
    refine Ev.bind (times_ev b.1 (by omega) b.1 (by omega)) ?_
    have sb := ser_bd (u := tm x x) b2.1 (by omega) cosL 1152921504606846976 (by decide) (by decide) (by decide)
    refine Ev.bind (series_ev b2.1 (by omega) cosL (by decide) (by decide)) ?_
    exact Ev.bind (round_ev sb.1 (by omega)) (Ev.now _)
  · refine neg_ev c ?_
    rw [if_neg c]
    have b := xof_bd (t := t) (by omega) (by omega)
    refine Ev.bind (xof_ev (t := t) (by omega) (by omega)) ?_
    generalize xof t = x at *
    have b2 := tm_bd (a := x) (b := x) b.1 (by omega) b.1 (by omega)
    refine Ev.bind (times_ev b.1 (by omega) b.1 (by omega)) ?_
    have sb := ser_bd (u := tm x x) b2.1 (by omega) sinL 1152921504606846976 (by decide) (by decide) (by decide)
    refine Ev.bind (series_ev b2.1 (by omega) sinL (by decide) (by decide)) ?_
    have b3 := tm_bd (a := x) (b := ser (tm x x) 1152921504606846976 sinL) b.1 (by omega) sb.1 sb.2
    refine Ev.bind (times_ev b.1 (by omega) sb.1 sb.2) ?_
    exact Ev.bind (round_ev (a := tm x (ser (tm x x) 1152921504606846976 sinL)) b3.1 (by omega)) (Ev.now _)

theorem qt_bd {t : Int} (h0 : 0 ≤ t) (h1 : t ≤ 1073741824) : 0 ≤ qt t ∧ qt t ≤ 1073741824 := by
  unfold qt
  split
  · have b := xof_bd (t := 1073741824 - t) (by omega) (by omega)
    generalize xof (1073741824 - t) = x at *
    have b2 := tm_bd (a := x) (b := x) b.1 (by omega) b.1 (by omega)
    have sb := ser_bd (u := tm x x) b2.1 (by omega) cosL 1152921504606846976 (by decide) (by decide) (by decide)
    unfold rnd; omega
  · have b := xof_bd (t := t) (by omega) (by omega)
    generalize xof t = x at *
    have b2 := tm_bd (a := x) (b := x) b.1 (by omega) b.1 (by omega)
    have sb := ser_bd (u := tm x x) b2.1 (by omega) sinL 1152921504606846976 (by decide) (by decide) (by decide)
    have b3 := tm_bd (a := x) (b := ser (tm x x) 1152921504606846976 sinL) b.1 (by omega) sb.1 sb.2
    unfold rnd; omega

theorem sn_bd (a : Int) : -1073741824 ≤ sn a ∧ sn a ≤ 1073741824 := by
  have q1 := qt_bd (t := a % 1073741824) (by omega) (by omega)
  have q2 := qt_bd (t := 1073741824 - a % 1073741824) (by omega) (by omega)
  unfold sn
  split
  · omega
  · split
    · omega
    · split <;> omega
theorem cs_bd (a : Int) : -1073741824 ≤ cs a ∧ cs a ≤ 1073741824 := sn_bd _

theorem sin_ev {a : Int} (h0 : -9223372036854775808 ≤ a) (h1 : a < 9223372036854775808) : Ev (fun k => trig_Sin.f k a) (sn a) := by
  have q1 := qt_bd (t := a % 1073741824) (by omega) (by omega)
  have q2 := qt_bd (t := 1073741824 - a % 1073741824) (by omega) (by omega)
  unfold trig_Sin.f sn
  rw [mask32 h0 h1, mask30 (by omega) (by omega), tdiv_eq (by omega), w64_id (x := a % 4294967296 / 1073741824) (by omega) (by omega), show a % 4294967296 % 1073741824 = a % 1073741824 by omega, w64_id (x := 1073741824 - a % 1073741824) (by omega) (by omega)]
  by_cases c0 : a % 4294967296 / 1073741824 = 0
  · rw [if_pos c0]; exact pos_ev c0 (Ev.bind (quarter_ev (by omega) (by omega)) (Ev.now _))
  · rw [if_neg c0]
    refine neg_ev c0 ?_
    by_cases c1 : a % 4294967296 / 1073741824 = 1
    · rw [if_pos c1]; exact pos_ev c1 (Ev.bind (quarter_ev (by omega) (by omega)) (Ev.now _))
    · rw [if_neg c1]
      refine neg_ev c1 ?_
      by_cases c2 : a % 4294967296 / 1073741824 = 2
      · rw [if_pos c2]; exact pos_ev c2 (Ev.bind (quarter_ev (by omega) (by omega)) (now_ev fun k => by rw [w64_id (by omega) (by omega)]))
      · rw [if_neg c2]; exact neg_ev c2 (Ev.bind (quarter_ev (by omega) (by omega)) (now_ev fun k => by rw [w64_id (by omega) (by omega)]))

theorem cos_ev {a : Int} (h0 : -9223372036854775808 ≤ a) (h1 : a < 9223372036854775808) : Ev (fun k => trig_Cos.f k a) (cs a) := by
  unfold trig_Cos.f cs
  rw [mask32 h0 h1, w64_id (by omega) (by omega)]
  exact Ev.bind (sin_ev (by omega) (by omega)) (Ev.now _)
end Go.Proofs.Ytbaedcjophgiiaa.Q
