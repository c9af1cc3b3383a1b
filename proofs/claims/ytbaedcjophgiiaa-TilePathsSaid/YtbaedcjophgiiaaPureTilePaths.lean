/- TilePaths in plain numbers: for every row of numbers of 64 bits that is no longer than memory allows, the printed function answers true; no other condition. -/
import Derived.Test.YtbaedcjophgiiaaQx20
import Derived.Test.YtbaedcjophgiiaaQx7
import Derived.Test.YtbaedcjophgiiaaQx14
import Derived.Test.YtbaedcjophgiiaaQx16
import Derived.Test.YtbaedcjophgiiaaQx15
import Derived.Test.YtbaedcjophgiiaaQx5
import Derived.Test.YtbaedcjophgiiaaQx17
import Derived.Test.YtbaedcjophgiiaaQx19
import Derived.Test.YtbaedcjophgiiaaQx8
import Derived.Test.YtbaedcjophgiiaaTA0
import Derived.Test.YtbaedcjophgiiaaTA1
import Derived.Test.YtbaedcjophgiiaaTA2
namespace Go.Proofs.Ytbaedcjophgiiaa.PureTilePaths
open Go.RowKit Go.Proofs.Ytbaedcjophgiiaa.Q Go.Proofs.YtbaedcjophgiiaaW.PrintWords Go.Proofs.YtbaedcjophgiiaaW.PrintLast
set_option linter.unusedVariables false
set_option linter.unusedSimpArgs false
theorem abs_eq {x : Int} (h0 : -1048576 ≤ x) (h1 : x ≤ 1048576) : tile_faceOf.a x = if x < 0 then -x else x := by
  unfold tile_faceOf.a mx
  rw [w64_id (x := -x) (by omega) (by omega)]
  split <;> split <;> omega
theorem abs_sgn {fc m : Nat} (hm : m ≤ 1048576) : tile_faceOf.a (sgn fc (m : Int)) = (m : Int) := by
  unfold sgn
  split
  · rw [abs_eq (by omega) (by omega)]; split <;> omega
  · rw [abs_eq (by omega) (by omega)]; split <;> omega
/-- Each direction has a face. -/
theorem face_of {x y z : Int} (x0 : -1048576 ≤ x) (x1 : x ≤ 1048576) (y0 : -1048576 ≤ y) (y1 : y ≤ 1048576) (z0 : -1048576 ≤ z) (z1 : z ≤ 1048576) (hn : ¬ (x = 0 ∧ y = 0 ∧ z = 0)) :
    ∃ fc m a b : Nat, fc ≤ 5 ∧ 0 < m ∧ m ≤ 1048576 ∧ a ≤ 2 * m ∧ b ≤ 2 * m ∧ (⟨x, y, z⟩ : S67) = emb fc (sgn fc m) ((a : Int) - m) ((b : Int) - m) ∧ tile_faceOf.f x y z = some (fc : Int) := by
  have key : ∀ c u w : Int, -1048576 ≤ c → c ≤ 1048576 → -1048576 ≤ u → u ≤ 1048576 → -1048576 ≤ w → w ≤ 1048576 → c ≠ 0 → tile_faceOf.a u ≤ tile_faceOf.a c → tile_faceOf.a w ≤ tile_faceOf.a c →
      ∃ m a b : Nat, 0 < m ∧ m ≤ 1048576 ∧ a ≤ 2 * m ∧ b ≤ 2 * m ∧ u = (a : Int) - m ∧ w = (b : Int) - m ∧ c = if c < 0 then -(m : Int) else (m : Int) := by
    intro c u w c0 c1 u0 u1 w0 w1 hc hu hw
    rw [abs_eq u0 u1, abs_eq c0 c1] at hu
    rw [abs_eq w0 w1, abs_eq c0 c1] at hw
    refine ⟨(if c < 0 then -c else c).toNat, (u + if c < 0 then -c else c).toNat, (w + if c < 0 then -c else c).toNat, ?_, ?_, ?_, ?_, ?_, ?_, ?_⟩
    all_goals (split at hu <;> split at hu <;> split at hw <;> (try split) <;> omega)
  have ax := abs_eq x0 x1
  have ay := abs_eq y0 y1
  have az := abs_eq z0 z1
  have nz : ∀ {c : Int}, -1048576 ≤ c → c ≤ 1048576 → 0 < tile_faceOf.a c → c ≠ 0 := by
    intro c h0 h1 h e; rw [abs_eq h0 h1, e] at h; simp at h
  unfold tile_faceOf.f
  by_cases h1 : tile_faceOf.a x < tile_faceOf.a y
  · rw [if_pos h1]
    by_cases h2 : tile_faceOf.a y < tile_faceOf.a z
    · rw [if_pos h2]
      obtain ⟨m, a, b, m0, m1, ha, hb, rfl, rfl, hc⟩ := key z x y z0 z1 x0 x1 y0 y1 (nz z0 z1 (by rw [ax] at h1; split at h1 <;> omega)) (by omega) (by omega)
      by_cases s : z < 0
      · rw [if_pos s] at hc ⊢; exact ⟨5, m, a, b, by decide, m0, m1, ha, hb, by rw [hc]; rfl, rfl⟩
      · rw [if_neg s] at hc ⊢; exact ⟨4, m, a, b, by decide, m0, m1, ha, hb, by rw [hc]; rfl, rfl⟩
    · rw [if_neg h2]
      obtain ⟨m, a, b, m0, m1, ha, hb, rfl, rfl, hc⟩ := key y z x y0 y1 z0 z1 x0 x1 (nz y0 y1 (by rw [ax] at h1; split at h1 <;> omega)) (by omega) (by omega)
      by_cases s : y < 0
      · rw [if_pos s] at hc ⊢; exact ⟨3, m, a, b, by decide, m0, m1, ha, hb, by rw [hc]; rfl, rfl⟩
      · rw [if_neg s] at hc ⊢; exact ⟨2, m, a, b, by decide, m0, m1, ha, hb, by rw [hc]; rfl, rfl⟩
  · rw [if_neg h1]
    by_cases h2 : tile_faceOf.a x < tile_faceOf.a z
    · rw [if_pos h2]
      obtain ⟨m, a, b, m0, m1, ha, hb, rfl, rfl, hc⟩ := key z x y z0 z1 x0 x1 y0 y1 (nz z0 z1 (by rw [ax] at h2; split at h2 <;> omega)) (by omega) (by omega)
      by_cases s : z < 0
      · rw [if_pos s] at hc ⊢; exact ⟨5, m, a, b, by decide, m0, m1, ha, hb, by rw [hc]; rfl, rfl⟩
      · rw [if_neg s] at hc ⊢; exact ⟨4, m, a, b, by decide, m0, m1, ha, hb, by rw [hc]; rfl, rfl⟩
    · rw [if_neg h2]
      have hx : x ≠ 0 := by
        intro e
        apply hn
        subst e
        rw [ax] at h1 h2
        rw [ay] at h1; rw [az] at h2
        split at h1 <;> split at h2 <;> omega
      obtain ⟨m, a, b, m0, m1, ha, hb, rfl, rfl, hc⟩ := key x y z x0 x1 y0 y1 z0 z1 hx (by omega) (by omega)
      by_cases s : x < 0
      · rw [if_pos s] at hc ⊢; exact ⟨1, m, a, b, by decide, m0, m1, ha, hb, by rw [hc]; rfl, rfl⟩
      · rw [if_neg s] at hc ⊢; exact ⟨0, m, a, b, by decide, m0, m1, ha, hb, by rw [hc]; rfl, rfl⟩
theorem sgn_bd {fc m : Nat} (m0 : 0 < m) (m1 : m ≤ 1048576) : -1048576 ≤ sgn fc (m : Int) ∧ sgn fc (m : Int) ≤ 1048576 ∧ sgn fc (m : Int) ≠ 0 := by unfold sgn; split <;> omega
theorem h_eq {fc m a b n : Nat} (h : fc ≤ 5) (m0 : 0 < m) (m1 : m ≤ 1048576) (ha : a ≤ 2 * m) (hb : b ≤ 2 * m) (hn : n ≤ 12) :
    tile_Of.h (sgn fc (m : Int)) ((a : Int) - m) ((b : Int) - m) n ((8 + fc : Nat) : Int) = some (((tno (8 + fc) n (pln a m n) (pln b m n) : Nat) : Int), 0) := by
  unfold tile_Of.h
  rw [abs_sgn m1, w64_id (x := 2 * (m : Int)) (by omega) (by omega), if_neg (by omega), pl_nat m0 m1 ha hn, pl_nat m0 m1 hb hn]
  have l := of_l0 (F := 8 + fc) (X := pln a m n) (Y := pln b m n) (by omega) n 0 (by omega)
  rw [Nat.zero_add] at l
  have e : tno (8 + fc) 0 (pln a m n / 2 ^ n) (pln b m n / 2 ^ n) = 8 + fc := rfl
  rw [e] at l
  rw [l]
theorem of_ev {fc m a b n : Nat} (h : fc ≤ 5) (m0 : 0 < m) (m1 : m ≤ 1048576) (ha : a ≤ 2 * m) (hb : b ≤ 2 * m) (hn : n ≤ 12)
    (hf : tile_faceOf.f (emb fc (sgn fc m) ((a : Int) - m) ((b : Int) - m)).f0 (emb fc (sgn fc m) ((a : Int) - m) ((b : Int) - m)).f1 (emb fc (sgn fc m) ((a : Int) - m) ((b : Int) - m)).f2 = some (fc : Int)) :
    Ev (fun k => tile_Of.f k (emb fc (sgn fc m) ((a : Int) - m) ((b : Int) - m)).f0 (emb fc (sgn fc m) ((a : Int) - m) ((b : Int) - m)).f1 (emb fc (sgn fc m) ((a : Int) - m) ((b : Int) - m)).f2 (n : Int)) (((tno (8 + fc) n (pln a m n) (pln b m n) : Nat) : Int), 0) := by
  have sb := sgn_bd (fc := fc) m0 m1
  have H := h_eq h m0 m1 ha hb hn
  unfold tile_Of.f
  refine Ev.bind (sphere_ok h sb.1 sb.2.1 (by omega) (by omega) (by omega) (by omega) sb.2.2) (pos_ev rfl (neg_ev (by omega) (neg_ev (by omega) (some_ev hf (now_ev fun k => ?_)))))
  rw [Int.toNat_natCast]
  unfold tile_Of.g
  rcases six h with rfl | rfl | rfl | rfl | rfl | rfl
  all_goals exact H
theorem point_some {fc L : Nat} (h : fc ≤ 5) (hL : L ≤ 12) {x y : Int} (x0 : 0 ≤ x) (x1 : x ≤ 4096) (y0 : 0 ≤ y) (y1 : y ≤ 4096) :
    tile_point.f (fc : Int) x y (L : Int) = some ((emb fc (sgn fc ((2 ^ L : Nat) : Int)) (2 * x - ((2 ^ L : Nat) : Int)) (2 * y - ((2 ^ L : Nat) : Int))).f0, (emb fc (sgn fc ((2 ^ L : Nat) : Int)) (2 * x - ((2 ^ L : Nat) : Int)) (2 * y - ((2 ^ L : Nat) : Int))).f1, (emb fc (sgn fc ((2 ^ L : Nat) : Int)) (2 * x - ((2 ^ L : Nat) : Int)) (2 * y - ((2 ^ L : Nat) : Int))).f2) := by
  have h2 := pow12 hL
  have s1 := shl_nat 1 L (by omega) (by omega)
  rw [show ((1 : Nat) : Int) = 1 from rfl, Nat.one_mul] at s1
  unfold tile_point.f
  rw [if_pos (by omega), s1]
  generalize 2 ^ L = N at *
  rw [w64_id (x := 2 * x) (by omega) (by omega), w64_id (x := 2 * x - (N : Int)) (by omega) (by omega), w64_id (x := 2 * y) (by omega) (by omega), w64_id (x := 2 * y - (N : Int)) (by omega) (by omega)]
  have wn : wrap64 (-(N : Int)) = -(N : Int) := w64_id (by omega) (by omega)
  unfold tile_point.m
  rw [wn]
  rcases six h with rfl | rfl | rfl | rfl | rfl | rfl
  all_goals rfl
/-- A corner of a tile: dx and dy are 0 or 1. -/
def cor (fc L X Y dx dy : Nat) : S67 := emb fc (sgn fc ((2 ^ L : Nat) : Int)) (2 * ((X : Int) + dx) - ((2 ^ L : Nat) : Int)) (2 * ((Y : Int) + dy) - ((2 ^ L : Nat) : Int))
theorem corners_ev {fc L X Y : Nat} (h : fc ≤ 5) (hL : L ≤ 12) (hX : X < 2 ^ L) (hY : Y < 2 ^ L) :
    Ev (fun k => tile_Corners.f k ((tno (8 + fc) L X Y : Nat) : Int)) [cor fc L X Y 0 0, cor fc L X Y 1 0, cor fc L X Y 0 1, cor fc L X Y 1 1] := by
  have h2 := pow12 hL
  unfold tile_Corners.f
  refine Ev.bind (check_ev (by omega) (by omega) hL) (pos_ev rfl (Ev.bind (spot_ev (by omega) (by omega) hL hX hY) (now_ev fun k => ?_)))
  simp only []
  rw [show ((8 + fc : Nat) : Int) - 8 = (fc : Int) by omega, w64_id (x := (X : Int) + 1) (by omega) (by omega), w64_id (x := (Y : Int) + 1) (by omega) (by omega)]
  rw [point_some h hL (x := (X : Int)) (y := (Y : Int)) (by omega) (by omega) (by omega) (by omega), point_some h hL (x := (X : Int) + 1) (y := (Y : Int)) (by omega) (by omega) (by omega) (by omega),
    point_some h hL (x := (X : Int)) (y := (Y : Int) + 1) (by omega) (by omega) (by omega) (by omega), point_some h hL (x := (X : Int) + 1) (y := (Y : Int) + 1) (by omega) (by omega) (by omega) (by omega)]
  simp only [Option.bind_some, cor]
  simp
theorem pow_pos (L : Nat) : 0 < 2 ^ L := Nat.two_pow_pos L
theorem cor_own {fc L X Y dx dy : Nat} (h : fc ≤ 5) (hL : L ≤ 12) (hX : X < 2 ^ L) (hY : Y < 2 ^ L) (hx : dx ≤ 1) (hy : dy ≤ 1) :
    Ev (fun k => tile_Has.f k ((tno (8 + fc) L X Y : Nat) : Int) (cor fc L X Y dx dy).f0 (cor fc L X Y dx dy).f1 (cor fc L X Y dx dy).f2) true := by
  have h2 := pow12 hL
  have h0 := pow_pos L
  have mono : ∀ {p q : Int}, p ≤ q → p * ((2 ^ L : Nat) : Int) ≤ q * ((2 ^ L : Nat) : Int) := fun hh => Int.mul_le_mul_of_nonneg_right hh (by omega)
  refine has_ev h hL hX hY (m := ((2 ^ L : Nat) : Int)) (by omega) (by omega) (by omega) (by omega) (by omega) (by omega) ?_ ?_ ?_ ?_
  · rw [Int.mul_comm ((2 ^ L : Nat) : Int)]; exact mono (by omega)
  · rw [Int.mul_comm ((2 ^ L : Nat) : Int)]; exact mono (by omega)
  · rw [Int.mul_comm ((2 ^ L : Nat) : Int)]; exact mono (by omega)
  · rw [Int.mul_comm ((2 ^ L : Nat) : Int)]; exact mono (by omega)
theorem cor_up {fc L X Y dx dy : Nat} (h : fc ≤ 5) (hL : L + 1 ≤ 12) (hX : X < 2 ^ (L + 1)) (hY : Y < 2 ^ (L + 1)) (hx : dx ≤ 1) (hy : dy ≤ 1) :
    Ev (fun k => tile_Has.f k ((tno (8 + fc) L (X / 2) (Y / 2) : Nat) : Int) (cor fc (L + 1) X Y dx dy).f0 (cor fc (L + 1) X Y dx dy).f1 (cor fc (L + 1) X Y dx dy).f2) true := by
  have h2 := pow12 (n := L) (by omega)
  have h3 := pow12 hL
  have h0 := pow_pos L
  have e2 : 2 ^ (L + 1) = 2 * 2 ^ L := by rw [Nat.pow_succ, Nat.mul_comm]
  unfold cor
  rw [e2] at *
  have mono : ∀ {p q : Int}, 2 * p ≤ q → p * ((2 * 2 ^ L : Nat) : Int) ≤ ((2 ^ L : Nat) : Int) * q := by
    intro p q hh
    have := Int.mul_le_mul_of_nonneg_left hh (show 0 ≤ ((2 ^ L : Nat) : Int) by omega)
    have e : p * ((2 * 2 ^ L : Nat) : Int) = ((2 ^ L : Nat) : Int) * (2 * p) := by
      rw [show ((2 * 2 ^ L : Nat) : Int) = 2 * ((2 ^ L : Nat) : Int) by omega]; grind
    omega
  have mono2 : ∀ {p q : Int}, q ≤ 2 * p → ((2 ^ L : Nat) : Int) * q ≤ p * ((2 * 2 ^ L : Nat) : Int) := by
    intro p q hh
    have := Int.mul_le_mul_of_nonneg_left hh (show 0 ≤ ((2 ^ L : Nat) : Int) by omega)
    have e : p * ((2 * 2 ^ L : Nat) : Int) = ((2 ^ L : Nat) : Int) * (2 * p) := by
      rw [show ((2 * 2 ^ L : Nat) : Int) = 2 * ((2 ^ L : Nat) : Int) by omega]; grind
    omega
  refine has_ev h (by omega) (by omega) (by omega) (m := ((2 * 2 ^ L : Nat) : Int)) (by omega) (by omega) (by omega) (by omega) (by omega) (by omega) ?_ ?_ ?_ ?_
  · exact mono (by omega)
  · exact mono2 (by omega)
  · exact mono (by omega)
  · exact mono2 (by omega)
theorem clo_ev {t p : Int} {c : S67} (h1 : Ev (fun k => tile_Has.f k t c.f0 c.f1 c.f2) true) (h2 : Ev (fun k => tile_Has.f k p c.f0 c.f1 c.f2) true) :
    Ev (fun k => spykeep1_TilePaths_1.f k c.f0 c.f1 c.f2 [t] [p]) false := by
  unfold spykeep1_TilePaths_1.f
  exact pos_ev (by simp) (Ev.bind h1 (pos_ev rfl (pos_ev (by simp) (Ev.bind h2 (Ev.now _)))))
theorem cf_next {l : List S67} {t p : Int} {i : Nat} {c : S67} {r : Int} (hi : i < l.length) (hl : l.length ≤ 100) (hc : rd_T67 l (i : Int) = c)
    (h : Ev (fun k => spykeep1_TilePaths_1.f k c.f0 c.f1 c.f2 [t] [p]) false) (k : Ev (fun k => slices_IndexFunc_api_Vec_api_Vec__spykeep1_TilePaths_1.l0 k l (l.length : Int) ((i + 1 : Nat) : Int) [t] [p]) r) :
    Ev (fun k => slices_IndexFunc_api_Vec_api_Vec__spykeep1_TilePaths_1.l0 k l (l.length : Int) (i : Int) [t] [p]) r := by
  refine Ev.step (f := fun k => (spykeep1_TilePaths_1.f k c.f0 c.f1 c.f2 [t] [p]).bind fun b => if b = true then some (i : Int) else slices_IndexFunc_api_Vec_api_Vec__spykeep1_TilePaths_1.l0 k l (l.length : Int) ((i + 1 : Nat) : Int) [t] [p]) (fun k => ?_) (Ev.bind h (neg_ev Bool.false_ne_true k))
  rw [slices_IndexFunc_api_Vec_api_Vec__spykeep1_TilePaths_1.l0, if_pos (by omega), if_pos (by omega), if_pos (by omega), hc, w64_id (x := (i : Int) + 1) (by omega) (by omega)]
  rfl
theorem none_ev {t p : Int} {c1 c2 c3 c4 : S67} (h1 : Ev (fun k => spykeep1_TilePaths_1.f k c1.f0 c1.f1 c1.f2 [t] [p]) false) (h2 : Ev (fun k => spykeep1_TilePaths_1.f k c2.f0 c2.f1 c2.f2 [t] [p]) false)
    (h3 : Ev (fun k => spykeep1_TilePaths_1.f k c3.f0 c3.f1 c3.f2 [t] [p]) false) (h4 : Ev (fun k => spykeep1_TilePaths_1.f k c4.f0 c4.f1 c4.f2 [t] [p]) false) :
    Ev (fun k => slices_ContainsFunc_api_Vec_api_Vec__spykeep1_TilePaths_1.f k [c1, c2, c3, c4] [t] [p]) false := by
  unfold slices_ContainsFunc_api_Vec_api_Vec__spykeep1_TilePaths_1.f slices_IndexFunc_api_Vec_api_Vec__spykeep1_TilePaths_1.f
  refine Ev.bind (a := -1) ?_ (Ev.now _)
  have s0 : Ev (fun k => slices_IndexFunc_api_Vec_api_Vec__spykeep1_TilePaths_1.l0 k [c1, c2, c3, c4] 4 4 [t] [p]) (-1) :=
    one_ev fun k => by rw [slices_IndexFunc_api_Vec_api_Vec__spykeep1_TilePaths_1.l0, if_neg (by decide)]
  have s1 := cf_next (l := [c1, c2, c3, c4]) (i := 3) (c := c4) (by simp) (by simp) rfl h4 s0
  have s2 := cf_next (l := [c1, c2, c3, c4]) (i := 2) (c := c3) (by simp) (by simp) rfl h3 s1
  have s3 := cf_next (l := [c1, c2, c3, c4]) (i := 1) (c := c2) (by simp) (by simp) rfl h2 s2
  exact cf_next (l := [c1, c2, c3, c4]) (i := 0) (c := c1) (by simp) (by simp) rfl h1 s3
theorem fact_ev : Ev (fun k => spykeep1_tileFact.f k) true :=
  Ev.of (fun k => spykeep1_tileFact.mono k) (k := 30) (by decide +kernel)
/-- A direction lies in its own tile. -/
theorem own_ev {fc m a b n : Nat} (h : fc ≤ 5) (m0 : 0 < m) (m1 : m ≤ 1048576) (ha : a ≤ 2 * m) (hb : b ≤ 2 * m) (hn : n ≤ 12) :
    Ev (fun k => tile_Has.f k ((tno (8 + fc) n (pln a m n) (pln b m n) : Nat) : Int) (emb fc (sgn fc m) ((a : Int) - m) ((b : Int) - m)).f0 (emb fc (sgn fc m) ((a : Int) - m) ((b : Int) - m)).f1 (emb fc (sgn fc m) ((a : Int) - m) ((b : Int) - m)).f2) true := by
  obtain ⟨pa, qa⟩ := pln_in n m0 ha
  obtain ⟨pb, qb⟩ := pln_in n m0 hb
  have key : ∀ {X a : Nat} (p : X * (2 * m) ≤ a * 2 ^ n) (q : a * 2 ^ n ≤ (X + 1) * (2 * m)),
      (2 * (X : Int) - ((2 ^ n : Nat) : Int)) * (m : Int) ≤ ((2 ^ n : Nat) : Int) * ((a : Int) - m) ∧ ((2 ^ n : Nat) : Int) * ((a : Int) - m) ≤ (2 * (X : Int) + 2 - ((2 ^ n : Nat) : Int)) * (m : Int) := by
    intro X a p q
    generalize 2 ^ n = N at *
    have p' : (X : Int) * (2 * (m : Int)) ≤ (a : Int) * (N : Int) := by exact_mod_cast p
    have q' : (a : Int) * (N : Int) ≤ ((X : Int) + 1) * (2 * (m : Int)) := by exact_mod_cast q
    have e1 : (2 * (X : Int) - (N : Int)) * (m : Int) = (X : Int) * (2 * (m : Int)) - (N : Int) * m := by grind
    have e2 : (N : Int) * ((a : Int) - m) = (a : Int) * (N : Int) - (N : Int) * m := by grind
    have e3 : (2 * (X : Int) + 2 - (N : Int)) * (m : Int) = ((X : Int) + 1) * (2 * (m : Int)) - (N : Int) * m := by grind
    omega
  have ka := key pa qa
  have kb := key pb qb
  exact has_ev h hn (pln_lt _ _ _) (pln_lt _ _ _) (m := (m : Int)) (by omega) (by omega) (by omega) (by omega) (by omega) (by omega) ka.1 ka.2 kb.1 kb.2
theorem loop_ev {fc m a b : Nat} (h : fc ≤ 5) (m0 : 0 < m) (m1 : m ≤ 1048576) (ha : a ≤ 2 * m) (hb : b ≤ 2 * m)
    (hf : tile_faceOf.f (emb fc (sgn fc m) ((a : Int) - m) ((b : Int) - m)).f0 (emb fc (sgn fc m) ((a : Int) - m) ((b : Int) - m)).f1 (emb fc (sgn fc m) ((a : Int) - m) ((b : Int) - m)).f2 = some (fc : Int)) (d : Nat) :
    ∀ L : Nat, L + d = 12 → Ev (fun k => spykeep1_TilePaths.l0 k ((tno (8 + fc) L (pln a m L) (pln b m L) : Nat) : Int) ((L : Int) + 1) (emb fc (sgn fc m) ((a : Int) - m) ((b : Int) - m)).f0 (emb fc (sgn fc m) ((a : Int) - m) ((b : Int) - m)).f1 (emb fc (sgn fc m) ((a : Int) - m) ((b : Int) - m)).f2) true := by
  induction d with
  | zero =>
    intro L hL
    exact Ev.step (fun k => by rw [spykeep1_TilePaths.l0]) (neg_ev (by omega) (Ev.now _))
  | succ d ih =>
    intro L hL
    have O := of_ev h m0 m1 ha hb (n := L + 1) (by omega) hf
    have W := own_ev h m0 m1 ha hb (n := L + 1) (by omega)
    have I := ih (L + 1) (by omega)
    have hX := pln_lt a m (L + 1)
    have hY := pln_lt b m (L + 1)
    have P := parent_ev (F := 8 + fc) (L := L) (X := pln a m (L + 1)) (Y := pln b m (L + 1)) (by omega) (by omega) (by omega)
    have V := level_ev (F := 8 + fc) (L := L + 1) (X := pln a m (L + 1)) (Y := pln b m (L + 1)) (by omega) (by omega) (by omega)
    have K := kids_ev (F := 8 + fc) (L := L) (X := pln a m L) (Y := pln b m L) (by omega) (by omega) (by omega)
    have C := corners_ev h (L := L + 1) (by omega) hX hY
    have c00 := clo_ev (cor_own (dx := 0) (dy := 0) h (L := L + 1) (by omega) hX hY (by decide) (by decide)) (cor_up h (by omega) hX hY (by decide) (by decide))
    have c10 := clo_ev (cor_own (dx := 1) (dy := 0) h (L := L + 1) (by omega) hX hY (by decide) (by decide)) (cor_up h (by omega) hX hY (by decide) (by decide))
    have c01 := clo_ev (cor_own (dx := 0) (dy := 1) h (L := L + 1) (by omega) hX hY (by decide) (by decide)) (cor_up h (by omega) hX hY (by decide) (by decide))
    have c11 := clo_ev (cor_own (dx := 1) (dy := 1) h (L := L + 1) (by omega) hX hY (by decide) (by decide)) (cor_up h (by omega) hX hY (by decide) (by decide))
    have N := none_ev c00 c10 c01 c11
    clear c00 c10 c01 c11
    rw [pln_half, pln_half] at P N
    have four : ((tno (8 + fc) (L + 1) (pln a m (L + 1)) (pln b m (L + 1)) : Nat) : Int) = 4 * ((tno (8 + fc) L (pln a m L) (pln b m L) : Nat) : Int)
        ∨ ((tno (8 + fc) (L + 1) (pln a m (L + 1)) (pln b m (L + 1)) : Nat) : Int) = 4 * ((tno (8 + fc) L (pln a m L) (pln b m L) : Nat) : Int) + 1
        ∨ ((tno (8 + fc) (L + 1) (pln a m (L + 1)) (pln b m (L + 1)) : Nat) : Int) = 4 * ((tno (8 + fc) L (pln a m L) (pln b m L) : Nat) : Int) + 2
        ∨ ((tno (8 + fc) (L + 1) (pln a m (L + 1)) (pln b m (L + 1)) : Nat) : Int) = 4 * ((tno (8 + fc) L (pln a m L) (pln b m L) : Nat) : Int) + 3 := by
      simp only [tno]
      rw [pln_half, pln_half]
      omega
    have T := contains_four four
    rw [show ((L + 1 : Nat) : Int) = (L : Int) + 1 by omega] at O V I
    generalize ((tno (8 + fc) L (pln a m L) (pln b m L) : Nat) : Int) = p at *
    generalize ((tno (8 + fc) (L + 1) (pln a m (L + 1)) (pln b m (L + 1)) : Nat) : Int) = t at *
    generalize (emb fc (sgn fc m) ((a : Int) - m) ((b : Int) - m)).f0 = x at *
    generalize (emb fc (sgn fc m) ((a : Int) - m) ((b : Int) - m)).f1 = y at *
    generalize (emb fc (sgn fc m) ((a : Int) - m) ((b : Int) - m)).f2 = z at *
    refine Ev.step (fun k => by rw [spykeep1_TilePaths.l0]) (pos_ev (by omega) (Ev.bind O (Ev.bind P (Ev.bind V (pos_ev rfl (pos_ev rfl (pos_ev rfl (pos_ev rfl (pos_ev rfl (Ev.bind K (Ev.bind T (pos_ev rfl (Ev.bind W ?_)))))))))))))
    refine Ev.step (fun k => by rw [spykeep1_TilePaths.j2]) (neg_ev (by simp) (Ev.bind C (pos_ev rfl (Ev.bind N (neg_ev Bool.false_ne_true ?_)))))
    rw [w64_id (x := (L : Int) + 1 + 1) (by omega) (by omega)]
    exact I
theorem TilePaths : spykeep1_TilePaths.Pure := by
  intro l hl hs hw
  refine Ev.rounds (r := true) ?_
  unfold spykeep1_TilePaths.f
  obtain ⟨x, y, z, hv, x0, x1, y0, y1, z0, z1, hn⟩ := vec_in l (at_ := 0) (by unfold maxLen at hl; omega) (by decide) (by decide)
  obtain ⟨fc, m, a, b, h, m0, m1, ha, hb, he, hf⟩ := face_of x0 x1 y0 y1 z0 z1 hn
  have ex : x = (emb fc (sgn fc m) ((a : Int) - m) ((b : Int) - m)).f0 := by rw [← he]
  have ey : y = (emb fc (sgn fc m) ((a : Int) - m) ((b : Int) - m)).f1 := by rw [← he]
  have ez : z = (emb fc (sgn fc m) ((a : Int) - m) ((b : Int) - m)).f2 := by rw [← he]
  refine some_ev hv ?_
  simp only []
  clear he hv hn
  subst ex ey ez
  have O := of_ev h m0 m1 ha hb (n := 0) (by omega) hf
  have I := loop_ev h m0 m1 ha hb hf 12 0 (by omega)
  refine Ev.bind O (Ev.bind fact_ev (pos_ev rfl ?_))
  refine Ev.step (fun k => by rw [spykeep1_TilePaths.j0]) (neg_ev (by simp) ?_)
  exact I
end Go.Proofs.Ytbaedcjophgiiaa.PureTilePaths
namespace Go.Proofs.Ytbaedcjophgiiaa.Pure
theorem TilePaths : Go.Proofs.Ytbaedcjophgiiaa.Q.spykeep1_TilePaths.Pure := Go.Proofs.Ytbaedcjophgiiaa.PureTilePaths.TilePaths
end Go.Proofs.Ytbaedcjophgiiaa.Pure
