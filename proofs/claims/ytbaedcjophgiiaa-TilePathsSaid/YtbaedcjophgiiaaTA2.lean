/- Tiles in plain numbers: the place of a direction in its face, the sides and corners of a tile, and what lies in it; the bounds stand in each statement. -/
import Derived.Test.YtbaedcjophgiiaaQx7
import Derived.Test.YtbaedcjophgiiaaQx4
import Derived.Test.YtbaedcjophgiiaaQx10
import Derived.Test.YtbaedcjophgiiaaQx14
import Derived.Test.YtbaedcjophgiiaaQx16
import Derived.Test.YtbaedcjophgiiaaQx15
import Derived.Test.YtbaedcjophgiiaaQx3
import Derived.Test.YtbaedcjophgiiaaQx5
import Derived.Test.YtbaedcjophgiiaaQx11
import Derived.Test.YtbaedcjophgiiaaQx13
import Derived.Test.YtbaedcjophgiiaaTA0
import Derived.Test.YtbaedcjophgiiaaTA1
namespace Go.Proofs.Ytbaedcjophgiiaa.Q
open Go.RowKit Go.Proofs.YtbaedcjophgiiaaW.PrintWords Go.Proofs.YtbaedcjophgiiaaW.PrintLast Go.Proofs.YtbaedcjophgiiaaW.PrintMore
set_option linter.unusedVariables false
set_option linter.unusedSimpArgs false
/-- The column (or row) of a direction: a is its component, moved by that of the face. -/
def pln (a m n : Nat) : Nat := if 2 ^ n - 1 < a * 2 ^ n / (2 * m) then 2 ^ n - 1 else a * 2 ^ n / (2 * m)
theorem pln_lt (a m n : Nat) : pln a m n < 2 ^ n := by
  have : 0 < 2 ^ n := Nat.two_pow_pos n
  unfold pln; split <;> omega
theorem pln_half (a m n : Nat) : pln a m (n + 1) / 2 = pln a m n := by
  have e : a * 2 ^ (n + 1) / (2 * m) / 2 = a * 2 ^ n / (2 * m) := by
    rw [Nat.pow_succ, ← Nat.mul_assoc, Nat.div_div_eq_div_mul, Nat.mul_div_mul_right _ _ (by decide)]
  have e2 : 2 ^ (n + 1) = 2 * 2 ^ n := by rw [Nat.pow_succ, Nat.mul_comm]
  have : 0 < 2 ^ n := Nat.two_pow_pos n
  unfold pln
  rw [← e, e2] at *
  generalize a * (2 * 2 ^ n) / (2 * m) = q at *
  split <;> split <;> omega
theorem pln_in {a m : Nat} (n : Nat) (hm : 0 < m) (ha : a ≤ 2 * m) : pln a m n * (2 * m) ≤ a * 2 ^ n ∧ a * 2 ^ n ≤ (pln a m n + 1) * (2 * m) := by
  have h0 : 0 < 2 ^ n := Nat.two_pow_pos n
  have d1 := Nat.div_mul_le_self (a * 2 ^ n) (2 * m)
  have d2 := Nat.lt_div_mul_add (a := a * 2 ^ n) (b := 2 * m) (by omega)
  unfold pln
  split
  · rename_i h
    have e : (2 ^ n - 1 + 1) * (2 * m) = 2 * m * 2 ^ n := by rw [show 2 ^ n - 1 + 1 = 2 ^ n by omega, Nat.mul_comm]
    refine ⟨Nat.le_trans (Nat.mul_le_mul_right _ (Nat.le_of_lt h)) d1, ?_⟩
    rw [e]
    exact Nat.mul_le_mul_right _ ha
  · refine ⟨d1, ?_⟩
    rw [Nat.add_mul]
    omega
theorem pow12 {n : Nat} (hn : n ≤ 12) : 2 ^ n ≤ 4096 := Nat.pow_le_pow_right (n := 2) (by decide) hn
theorem pl_nat {a m n : Nat} (hm : 0 < m) (hm1 : m ≤ 1048576) (ha : a ≤ 2 * m) (hn : n ≤ 12) : tile_Of.pl ((a : Int) - (m : Int)) (m : Int) (n : Int) = ((pln a m n : Nat) : Int) := by
  have h2 := pow12 hn
  have h0 : 0 < 2 ^ n := Nat.two_pow_pos n
  have hp : a * 2 ^ n ≤ 2097152 * 4096 := Nat.mul_le_mul (by omega) h2
  unfold tile_Of.pl
  rw [w64_id (x := (a : Int) - (m : Int) + (m : Int)) (by omega) (by omega), show (a : Int) - (m : Int) + (m : Int) = (a : Int) by omega, shl_nat a n (by omega) (by omega), w64_id (x := 2 * (m : Int)) (by omega) (by omega)]
  have s1 := shl_nat 1 n (by omega) (by omega)
  rw [show ((1 : Nat) : Int) = 1 from rfl] at s1
  rw [s1, tdiv_eq (by omega)]
  have e : ((a * 2 ^ n : Nat) : Int) / (2 * (m : Int)) = ((a * 2 ^ n / (2 * m) : Nat) : Int) := by
    rw [Int.natCast_ediv]; simp
  have hd : a * 2 ^ n / (2 * m) ≤ a * 2 ^ n := Nat.div_le_self _ _
  rw [e]
  unfold pln mn
  generalize a * 2 ^ n / (2 * m) = q at *
  generalize a * 2 ^ n = p at *
  generalize 2 ^ n = N at *
  rw [w64_id (x := (q : Int)) (by omega) (by omega), w64_id (x := ((1 * N : Nat) : Int) - 1) (by omega) (by omega)]
  split <;> split <;> omega
/-- A vector by its component of a face, and those of its columns and rows. -/
def emb (fc : Nat) (c u w : Int) : S67 := if fc / 2 = 0 then ⟨c, u, w⟩ else if fc / 2 = 1 then ⟨w, c, u⟩ else ⟨u, w, c⟩
theorem emb_0 (c u w : Int) : emb 0 c u w = ⟨c, u, w⟩ := rfl
theorem emb_1 (c u w : Int) : emb 1 c u w = ⟨c, u, w⟩ := rfl
theorem emb_2 (c u w : Int) : emb 2 c u w = ⟨w, c, u⟩ := rfl
theorem emb_3 (c u w : Int) : emb 3 c u w = ⟨w, c, u⟩ := rfl
theorem emb_4 (c u w : Int) : emb 4 c u w = ⟨u, w, c⟩ := rfl
theorem emb_5 (c u w : Int) : emb 5 c u w = ⟨u, w, c⟩ := rfl
theorem sum3 {X Y Z : Int} (hx : -1000000000000000000 ≤ X ∧ X ≤ 1000000000000000000) (hy : -1000000000000000000 ≤ Y ∧ Y ≤ 1000000000000000000) (hz : -1000000000000000000 ≤ Z ∧ Z ≤ 1000000000000000000) : wrap64 (wrap64 (wrap64 X + wrap64 Y) + wrap64 Z) = X + Y + Z := by
  rw [w64_id (x := X) (by omega) (by omega), w64_id (x := Y) (by omega) (by omega), w64_id (x := Z) (by omega) (by omega), w64_id (x := X + Y) (by omega) (by omega), w64_id (by omega) (by omega)]
theorem mx_le {a b B : Int} (ha : a ≤ B) (hb : b ≤ B) : mx a b ≤ B := by unfold mx; split <;> omega
theorem le_mn {a b B : Int} (ha : B ≤ a) (hb : B ≤ b) : B ≤ mn a b := by unfold mn; split <;> omega
theorem six {fc : Nat} (h : fc ≤ 5) : fc = 0 ∨ fc = 1 ∨ fc = 2 ∨ fc = 3 ∨ fc = 4 ∨ fc = 5 := by omega
theorem dot_emb {fc : Nat} (h : fc ≤ 5) {c u w c' u' w' : Int} {B B' : Int} (hB : 0 ≤ B) (hB' : 0 ≤ B') (hBB : B * B' ≤ 1000000000000000000)
    (c0 : -B ≤ c) (c1 : c ≤ B) (u0 : -B ≤ u) (u1 : u ≤ B) (w0 : -B ≤ w) (w1 : w ≤ B)
    (c0' : -B' ≤ c') (c1' : c' ≤ B') (u0' : -B' ≤ u') (u1' : u' ≤ B') (w0' : -B' ≤ w') (w1' : w' ≤ B') :
    tile_dot.f (emb fc c u w).f0 (emb fc c u w).f1 (emb fc c u w).f2 (emb fc c' u' w').f0 (emb fc c' u' w').f1 (emb fc c' u' w').f2 = some (c * c' + u * u' + w * w') := by
  have pb : ∀ {x y : Int}, -B ≤ x → x ≤ B → -B' ≤ y → y ≤ B' → -1000000000000000000 ≤ x * y ∧ x * y ≤ 1000000000000000000 := by
    intro x y x0 x1 y0 y1
    have a : x.natAbs * y.natAbs ≤ B.natAbs * B'.natAbs := Nat.mul_le_mul (by omega) (by omega)
    have b : (x * y).natAbs = x.natAbs * y.natAbs := Int.natAbs_mul x y
    have c : (B * B').natAbs = B.natAbs * B'.natAbs := Int.natAbs_mul B B'
    have d : 0 ≤ B * B' := Int.mul_nonneg hB hB'
    omega
  have p1 := pb c0 c1 c0' c1'
  have p2 := pb u0 u1 u0' u1'
  have p3 := pb w0 w1 w0' w1'
  rcases six h with rfl | rfl | rfl | rfl | rfl | rfl
  · simp only [emb_0, tile_dot.f]; rw [sum3 p1 p2 p3]
  · simp only [emb_1, tile_dot.f]; rw [sum3 p1 p2 p3]
  · simp only [emb_2, tile_dot.f]; rw [sum3 p3 p1 p2]; congr 1; omega
  · simp only [emb_3, tile_dot.f]; rw [sum3 p3 p1 p2]; congr 1; omega
  · simp only [emb_4, tile_dot.f]; rw [sum3 p2 p3 p1]; congr 1; omega
  · simp only [emb_5, tile_dot.f]; rw [sum3 p2 p3 p1]; congr 1; omega
/-- The absolute value of a component of a face, with its sign. -/
def sgn (fc : Nat) (m : Int) : Int := if fc % 2 = 1 then -m else m
theorem sgn_0 (m : Int) : sgn 0 m = m := rfl
theorem sgn_1 (m : Int) : sgn 1 m = -m := rfl
theorem sgn_2 (m : Int) : sgn 2 m = m := rfl
theorem sgn_3 (m : Int) : sgn 3 m = -m := rfl
theorem sgn_4 (m : Int) : sgn 4 m = m := rfl
theorem sgn_5 (m : Int) : sgn 5 m = -m := rfl
theorem sphere_ok {fc : Nat} (h : fc ≤ 5) {c u w : Int} (c0 : -1048576 ≤ c) (c1 : c ≤ 1048576) (u0 : -1048576 ≤ u) (u1 : u ≤ 1048576) (w0 : -1048576 ≤ w) (w1 : w ≤ 1048576) (hc : c ≠ 0) :
    Ev (fun k => sphere_Check.f k (emb fc c u w).f0 (emb fc c u w).f1 (emb fc c u w).f2) 0 := by
  have g : ∀ {x y z : Int}, -1048576 ≤ x → x ≤ 1048576 → -1048576 ≤ y → y ≤ 1048576 → -1048576 ≤ z → z ≤ 1048576 → ¬ (x = 0 ∧ y = 0 ∧ z = 0) → Ev (fun k => sphere_Check.f k x y z) 0 := by
    intro x y z x0 x1 y0 y1 z0 z1 hn
    have a := mx_le (mx_le x1 y1) z1
    have b := le_mn (le_mn x0 y0) z0
    unfold sphere_Check.f
    refine neg_ev (by omega) ?_
    rw [decide_eq_false (by omega)]
    refine one_ev fun k => ?_
    rw [sphere_Check.j0, if_neg (by decide), if_neg (by simpa using hn)]
  rcases six h with rfl | rfl | rfl | rfl | rfl | rfl
  · exact g c0 c1 u0 u1 w0 w1 (fun e => hc e.1)
  · exact g c0 c1 u0 u1 w0 w1 (fun e => hc e.1)
  · exact g w0 w1 c0 c1 u0 u1 (fun e => hc e.2.1)
  · exact g w0 w1 c0 c1 u0 u1 (fun e => hc e.2.1)
  · exact g u0 u1 w0 w1 c0 c1 (fun e => hc e.2.2)
  · exact g u0 u1 w0 w1 c0 c1 (fun e => hc e.2.2)
theorem at_eq {x N : Int} (x0 : 0 ≤ x) (x1 : x ≤ 4096) (n0 : 0 ≤ N) (n1 : N ≤ 4096) : wrap64 (wrap64 (2 * x) - N) = 2 * x - N := by
  rw [w64_id (x := 2 * x) (by omega) (by omega), w64_id (by omega) (by omega)]
theorem at_eq2 {x N : Int} (x0 : 0 ≤ x) (x1 : x ≤ 4096) (n0 : 0 ≤ N) (n1 : N ≤ 4096) : wrap64 (wrap64 (2 * wrap64 (x + 1)) - N) = 2 * x + 2 - N := by
  rw [w64_id (x := x + 1) (by omega) (by omega), w64_id (x := 2 * (x + 1)) (by omega) (by omega), w64_id (by omega) (by omega)]
  omega
theorem sides_ev {fc L X Y : Nat} (h : fc ≤ 5) (hL : L ≤ 12) (hX : X < 2 ^ L) (hY : Y < 2 ^ L) :
    Ev (fun k => tile_sides.f k ((tno (8 + fc) L X Y : Nat) : Int))
      [emb fc (-sgn fc (2 * (X : Int) - ((2 ^ L : Nat) : Int))) ((2 ^ L : Nat) : Int) 0, emb fc (sgn fc (2 * (X : Int) + 2 - ((2 ^ L : Nat) : Int))) (-((2 ^ L : Nat) : Int)) 0,
       emb fc (-sgn fc (2 * (Y : Int) - ((2 ^ L : Nat) : Int))) 0 ((2 ^ L : Nat) : Int), emb fc (sgn fc (2 * (Y : Int) + 2 - ((2 ^ L : Nat) : Int))) 0 (-((2 ^ L : Nat) : Int))] := by
  unfold tile_sides.f
  refine Ev.bind (spot_ev (by omega) (by omega) hL hX hY) (now_ev fun k => ?_)
  have h2 := pow12 hL
  have s1 := shl_nat 1 L (by omega) (by omega)
  rw [show ((1 : Nat) : Int) = 1 from rfl, Nat.one_mul] at s1
  have s2 : shl .i64 (-1) (L : Int) = -((2 ^ L : Nat) : Int) := by
    show IntKind.i64.wrap ((-1 : Int) * 2 ^ min (L : Int).toNat 64) = _
    rw [Int.toNat_natCast, show min L 64 = L by omega, i64_w]
    have e : (-1 : Int) * 2 ^ L = -((2 ^ L : Nat) : Int) := by simp
    rw [e, w64_id (by omega) (by omega)]
  simp only [tile_sides.g]
  rw [if_pos (by omega), s1, s2, show ((8 + fc : Nat) : Int) - 8 = (fc : Int) by omega]
  generalize 2 ^ L = N at *
  rw [at_eq (x := (X : Int)) (N := (N : Int)) (by omega) (by omega) (by omega) (by omega), at_eq (x := (Y : Int)) (N := (N : Int)) (by omega) (by omega) (by omega) (by omega), at_eq2 (x := (X : Int)) (N := (N : Int)) (by omega) (by omega) (by omega) (by omega), at_eq2 (x := (Y : Int)) (N := (N : Int)) (by omega) (by omega) (by omega) (by omega), show wrap64 (-1 : Int) = -1 from w64_id (by decide) (by decide), show wrap64 (- -1 : Int) = 1 from w64_id (by decide) (by decide)]
  have bX0 : -10000 ≤ 2 * (X : Int) - N := by omega
  have bX1 : 2 * (X : Int) - N ≤ 10000 := by omega
  have bX2 : -10000 ≤ 2 * (X : Int) + 2 - N := by omega
  have bX3 : 2 * (X : Int) + 2 - N ≤ 10000 := by omega
  have bY0 : -10000 ≤ 2 * (Y : Int) - N := by omega
  have bY1 : 2 * (Y : Int) - N ≤ 10000 := by omega
  have bY2 : -10000 ≤ 2 * (Y : Int) + 2 - N := by omega
  have bY3 : 2 * (Y : Int) + 2 - N ≤ 10000 := by omega
  generalize 2 * (X : Int) - N = a at *
  generalize 2 * (X : Int) + 2 - N = b at *
  generalize 2 * (Y : Int) - N = d at *
  generalize 2 * (Y : Int) + 2 - N = g at *
  have n1 : ∀ {x : Int}, -10000 ≤ x → x ≤ 10000 → wrap64 (-1 * x) = -x := fun h0 h1 => by rw [w64_id (by omega) (by omega)]; omega
  have n2 : ∀ {x : Int}, -10000 ≤ x → x ≤ 10000 → wrap64 (1 * x) = x := fun h0 h1 => by rw [w64_id (by omega) (by omega)]; omega
  have n3 : ∀ {x : Int}, -10000 ≤ x → x ≤ 10000 → wrap64 (-x) = -x := fun h0 h1 => by rw [w64_id (by omega) (by omega)]
  have n4 : ∀ {x : Int}, -10000 ≤ x → x ≤ 10000 → wrap64 (- -x) = x := fun h0 h1 => by rw [w64_id (by omega) (by omega)]; omega
  have e1 := n1 bX0 bX1
  have e2 := n2 bX2 bX3
  have e3 := n1 bY0 bY1
  have e4 := n2 bY2 bY3
  have e5 := n4 bX0 bX1
  have e6 := n4 bY0 bY1
  have e7 := n3 bX2 bX3
  have e8 := n3 bY2 bY3
  clear n1 n2 n3 n4 bX0 bX1 bX2 bX3 bY0 bY1 bY2 bY3
  rw [e1, e2, e3, e4, e5, e6, e7, e8]
  clear e1 e2 e3 e4 e5 e6 e7 e8
  rcases six h with rfl | rfl | rfl | rfl | rfl | rfl
  · rw [if_pos (by decide)]; simp only [emb_0, sgn_0]
  · rw [if_neg (by decide), if_pos (by decide)]; simp only [emb_1, sgn_1, Int.neg_neg]
  · rw [if_neg (by decide), if_neg (by decide), if_pos (by decide)]; simp only [emb_2, sgn_2]
  · rw [if_neg (by decide), if_neg (by decide), if_neg (by decide), if_pos (by decide)]; simp only [emb_3, sgn_3, Int.neg_neg]
  · rw [if_neg (by decide), if_neg (by decide), if_neg (by decide), if_neg (by decide), if_pos (by decide)]; simp only [emb_4, sgn_4]
  · rw [if_neg (by decide), if_neg (by decide), if_neg (by decide), if_neg (by decide), if_neg (by decide), if_pos (by decide)]; simp only [emb_5, sgn_5, Int.neg_neg]
theorem has_four {p1 p2 p3 p4 v : S67} (h1 : tile_Has_1.f p1.f0 p1.f1 p1.f2 [v] = some false) (h2 : tile_Has_1.f p2.f0 p2.f1 p2.f2 [v] = some false) (h3 : tile_Has_1.f p3.f0 p3.f1 p3.f2 [v] = some false) (h4 : tile_Has_1.f p4.f0 p4.f1 p4.f2 [v] = some false) :
    Ev (fun k => slices_ContainsFunc_api_Vec_api_Vec__tile_Has_1.f k [p1, p2, p3, p4] [v]) false := by
  refine Ev.of (fun k => slices_ContainsFunc_api_Vec_api_Vec__tile_Has_1.mono _ _ k) (k := 6) ?_
  unfold slices_ContainsFunc_api_Vec_api_Vec__tile_Has_1.f slices_IndexFunc_api_Vec_api_Vec__tile_Has_1.f
  have w1 : wrap64 (0 + 1) = 1 := w64_id (by decide) (by decide)
  have w2 : wrap64 (1 + 1) = 2 := w64_id (by decide) (by decide)
  have w3 : wrap64 (2 + 1) = 3 := w64_id (by decide) (by decide)
  have w4 : wrap64 (3 + 1) = 4 := w64_id (by decide) (by decide)
  have r0 : rd_T67 [p1, p2, p3, p4] 0 = p1 := rfl
  have r1 : rd_T67 [p1, p2, p3, p4] 1 = p2 := rfl
  have r2 : rd_T67 [p1, p2, p3, p4] 2 = p3 := rfl
  have r3 : rd_T67 [p1, p2, p3, p4] 3 = p4 := rfl
  simp only [slices_IndexFunc_api_Vec_api_Vec__tile_Has_1.l0, List.length_cons, List.length_nil, Nat.zero_add, Nat.reduceAdd, r0, r1, r2, r3, w1, w2, w3, w4, h1, h2, h3, h4]
  simp
theorem has1_false {fc : Nat} (h : fc ≤ 5) {c u w c' u' w' : Int} (c0 : -10000 ≤ c) (c1 : c ≤ 10000) (u0 : -10000 ≤ u) (u1 : u ≤ 10000) (w0 : -10000 ≤ w) (w1 : w ≤ 10000)
    (c0' : -1048576 ≤ c') (c1' : c' ≤ 1048576) (u0' : -1048576 ≤ u') (u1' : u' ≤ 1048576) (w0' : -1048576 ≤ w') (w1' : w' ≤ 1048576) (hd : 0 ≤ c * c' + u * u' + w * w') :
    tile_Has_1.f (emb fc c u w).f0 (emb fc c u w).f1 (emb fc c u w).f2 [emb fc c' u' w'] = some false := by
  unfold tile_Has_1.f
  have r0 : rd_T67 [emb fc c' u' w'] 0 = emb fc c' u' w' := rfl
  rw [if_pos (by simp), r0, dot_emb h (B := 10000) (B' := 1048576) (by decide) (by decide) (by decide) c0 c1 u0 u1 w0 w1 c0' c1' u0' u1' w0' w1', Option.bind_some, decide_eq_false (by omega)]
/-- What lies between the sides of a tile lies in it. -/
theorem has_ev {fc L X Y : Nat} (h : fc ≤ 5) (hL : L ≤ 12) (hX : X < 2 ^ L) (hY : Y < 2 ^ L) {m u w : Int} (m0 : 0 < m) (m1 : m ≤ 1048576) (u0 : -1048576 ≤ u) (u1 : u ≤ 1048576) (w0 : -1048576 ≤ w) (w1 : w ≤ 1048576)
    (a1 : (2 * (X : Int) - ((2 ^ L : Nat) : Int)) * m ≤ ((2 ^ L : Nat) : Int) * u) (a2 : ((2 ^ L : Nat) : Int) * u ≤ (2 * (X : Int) + 2 - ((2 ^ L : Nat) : Int)) * m)
    (b1 : (2 * (Y : Int) - ((2 ^ L : Nat) : Int)) * m ≤ ((2 ^ L : Nat) : Int) * w) (b2 : ((2 ^ L : Nat) : Int) * w ≤ (2 * (Y : Int) + 2 - ((2 ^ L : Nat) : Int)) * m) :
    Ev (fun k => tile_Has.f k ((tno (8 + fc) L X Y : Nat) : Int) (emb fc (sgn fc m) u w).f0 (emb fc (sgn fc m) u w).f1 (emb fc (sgn fc m) u w).f2) true := by
  have sb : -1048576 ≤ sgn fc m ∧ sgn fc m ≤ 1048576 ∧ sgn fc m ≠ 0 := by unfold sgn; split <;> omega
  have h2 := pow12 hL
  unfold tile_Has.f
  refine Ev.bind (check_ev (by omega) (by omega) hL) (pos_ev rfl (Ev.bind (sphere_ok h sb.1 sb.2.1 u0 u1 w0 w1 sb.2.2) (pos_ev rfl (Ev.bind (spot_ev (by omega) (by omega) hL hX hY) ?_))))
  have S := sides_ev h hL hX hY
  generalize 2 ^ L = N at *
  have dd : ∀ {f : Int}, sgn fc f * sgn fc m = f * m := by
    intro f; unfold sgn; split
    · rw [Int.neg_mul_neg]
    · rfl
  have sx : ∀ {f : Int}, -10000 ≤ f → f ≤ 10000 → -10000 ≤ sgn fc f ∧ sgn fc f ≤ 10000 := by
    intro f f0 f1; unfold sgn; split <;> omega
  have x1 := sx (f := 2 * (X : Int) - N) (by omega) (by omega)
  have x2 := sx (f := 2 * (X : Int) + 2 - N) (by omega) (by omega)
  have x3 := sx (f := 2 * (Y : Int) - N) (by omega) (by omega)
  have x4 := sx (f := 2 * (Y : Int) + 2 - N) (by omega) (by omega)
  have F := has_four
    (has1_false h (c := -sgn fc (2 * (X : Int) - N)) (u := N) (w := 0) (c' := sgn fc m) (u' := u) (w' := w) (by omega) (by omega) (by omega) (by omega) (by omega) (by omega) sb.1 sb.2.1 u0 u1 w0 w1 (by rw [Int.neg_mul, dd]; omega))
    (has1_false h (c := sgn fc (2 * (X : Int) + 2 - N)) (u := -N) (w := 0) (c' := sgn fc m) (u' := u) (w' := w) (by omega) (by omega) (by omega) (by omega) (by omega) (by omega) sb.1 sb.2.1 u0 u1 w0 w1 (by rw [dd, Int.neg_mul]; omega))
    (has1_false h (c := -sgn fc (2 * (Y : Int) - N)) (u := 0) (w := N) (c' := sgn fc m) (u' := u) (w' := w) (by omega) (by omega) (by omega) (by omega) (by omega) (by omega) sb.1 sb.2.1 u0 u1 w0 w1 (by rw [Int.neg_mul, dd]; omega))
    (has1_false h (c := sgn fc (2 * (Y : Int) + 2 - N)) (u := 0) (w := -N) (c' := sgn fc m) (u' := u) (w' := w) (by omega) (by omega) (by omega) (by omega) (by omega) (by omega) sb.1 sb.2.1 u0 u1 w0 w1 (by rw [dd, Int.neg_mul]; omega))
  have G : ∀ odd, decide (sgn fc m < 0) = odd → Ev (fun k => tile_Has.g k ((tno (8 + fc) L X Y : Nat) : Int) (emb fc (sgn fc m) u w).f0 (emb fc (sgn fc m) u w).f1 (emb fc (sgn fc m) u w).f2 odd (sgn fc m)) true := by
    intro odd ho
    unfold tile_Has.g
    exact neg_ev sb.2.2 (pos_ev ho (Ev.bind S (Ev.bind F (Ev.now _))))
  have hodd : decide (sgn fc m < 0) = decide (fc % 2 = 1) := by
    unfold sgn; split
    · rename_i e; rw [decide_eq_true (by omega), decide_eq_true e]
    · rename_i e; rw [decide_eq_false (by omega), decide_eq_false e]
  have G' := G _ hodd
  simp only [tile_Has.h]
  rw [show ((8 + fc : Nat) : Int) - 8 = (fc : Int) by omega]
  generalize tno (8 + fc) L X Y = t at *
  clear G S F dd sx x1 x2 x3 x4
  rcases six h with rfl | rfl | rfl | rfl | rfl | rfl
  all_goals exact G'
end Go.Proofs.Ytbaedcjophgiiaa.Q
