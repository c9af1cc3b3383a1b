/- The numbers of tiles in plain numbers: their level, their parent, their column and row, and the loops that make and read them; the bounds stand in each statement. -/
import Derived.Test.YtbaedcjophgiiaaQx7
import Derived.Test.YtbaedcjophgiiaaQx4
import Derived.Test.YtbaedcjophgiiaaQx9
import Derived.Test.YtbaedcjophgiiaaTA0
namespace Go.Proofs.Ytbaedcjophgiiaa.Q
open Go.RowKit Go.Proofs.YtbaedcjophgiiaaW.PrintWords Go.Proofs.YtbaedcjophgiiaaW.PrintLast Go.Proofs.YtbaedcjophgiiaaW.PrintMore
set_option linter.unusedVariables false
set_option linter.unusedSimpArgs false
/-- The number of a tile: that of its face, its level, its column and its row. -/
def tno (F : Nat) : Nat → Nat → Nat → Nat
  | 0, _, _ => F
  | L + 1, X, Y => 4 * tno F L (X / 2) (Y / 2) + (X % 2 + 2 * (Y % 2))
theorem tno_bd (F L : Nat) : ∀ X Y, F * 4 ^ L ≤ tno F L X Y ∧ tno F L X Y < (F + 1) * 4 ^ L := by
  induction L with
  | zero => intro X Y; simp [tno]
  | succ L ih =>
    intro X Y
    have h := ih (X / 2) (Y / 2)
    simp only [tno, Nat.pow_succ, ← Nat.mul_assoc]
    omega
theorem tno_div (F L j : Nat) : ∀ X Y, tno F (L + j) X Y / 4 ^ j = tno F L (X / 2 ^ j) (Y / 2 ^ j) := by
  induction j with
  | zero => intro X Y; simp
  | succ j ih =>
    intro X Y
    have e : tno F (L + (j + 1)) X Y = 4 * tno F (L + j) (X / 2) (Y / 2) + (X % 2 + 2 * (Y % 2)) := rfl
    rw [Nat.pow_succ, Nat.mul_comm (4 ^ j) 4, ← Nat.div_div_eq_div_mul, e, show (4 * tno F (L + j) (X / 2) (Y / 2) + (X % 2 + 2 * (Y % 2))) / 4 = tno F (L + j) (X / 2) (Y / 2) by omega, ih,
      Nat.div_div_eq_div_mul, Nat.div_div_eq_div_mul, Nat.pow_succ, Nat.mul_comm 2 (2 ^ j)]
theorem tno_lt {F L X Y : Nat} (hF : F ≤ 13) (hL : L ≤ 12) : tno F L X Y < 234881024 := by
  have h := (tno_bd F L X Y).2
  have h4 : 4 ^ L ≤ 4 ^ 12 := Nat.pow_le_pow_right (by decide) hL
  have : (F + 1) * 4 ^ L ≤ 14 * 4 ^ 12 := Nat.mul_le_mul (by omega) h4
  have e : 14 * 4 ^ 12 = 234881024 := by decide
  omega
theorem band1 (n : Int) : Go.bits .and .i64 n 1 = n % 2 := by
  have h1 : (BitVec.ofInt 64 1).toNat = 2 ^ 1 - 1 := by decide
  have key : (BitVec.ofInt 64 n &&& BitVec.ofInt 64 1).toNat = (n % ((2 ^ 64 : Nat) : Int)).toNat % 2 ^ 1 := by
    rw [BitVec.toNat_and, BitVec.toNat_ofInt, h1, Nat.and_two_pow_sub_one_eq_mod]
  show IntKind.i64.wrap ((BitVec.ofInt 64 n &&& BitVec.ofInt 64 1).toNat : Nat) = n % 2
  rw [key, IntKind.wrap_i64]
  omega
theorem shr_nat (x b : Nat) (hb : b ≤ 60) : shr .i64 (x : Int) (b : Int) = ((x / 2 ^ b : Nat) : Int) := by
  show (x : Int) / 2 ^ min (b : Int).toNat 64 = _
  rw [Int.toNat_natCast, show min b 64 = b by omega]
  simp
theorem shl_nat (x b : Nat) (h : x * 2 ^ b < 9223372036854775808) (hb : b ≤ 60) : shl .i64 (x : Int) (b : Int) = ((x * 2 ^ b : Nat) : Int) := by
  show IntKind.i64.wrap ((x : Int) * 2 ^ min (b : Int).toNat 64) = _
  rw [Int.toNat_natCast, show min b 64 = b by omega, i64_w]
  have e : (x : Int) * 2 ^ b = ((x * 2 ^ b : Nat) : Int) := by simp
  rw [e, w64_id (by omega) (by omega)]
theorem step_tno {m n X Y : Nat} {F : Nat} (hF : F ≤ 13) (hm : m + 1 ≤ 12) (hn : n ≤ 12) :
    tile_Of.step (X : Int) (Y : Int) (n : Int) ((tno F m (X / 2 ^ n / 2) (Y / 2 ^ n / 2) : Nat) : Int) = ((tno F (m + 1) (X / 2 ^ n) (Y / 2 ^ n) : Nat) : Int) := by
  have h := tno_lt (F := F) (L := m) (X := X / 2 ^ n / 2) (Y := Y / 2 ^ n / 2) hF (by omega)
  unfold tile_Of.step
  rw [shr_nat X n (by omega), shr_nat Y n (by omega), band1, band1]
  simp only [tno]
  generalize tno F m (X / 2 ^ n / 2) (Y / 2 ^ n / 2) = t at *
  generalize X / 2 ^ n = x
  generalize Y / 2 ^ n = y
  have ex : (x : Int) % 2 = ((x % 2 : Nat) : Int) := by simp
  have ey : (y : Int) % 2 = ((y % 2 : Nat) : Int) := by simp
  have hx : x % 2 < 2 := Nat.mod_lt _ (by decide)
  have hy : y % 2 < 2 := Nat.mod_lt _ (by decide)
  rw [ex, ey]
  generalize x % 2 = p at *
  generalize y % 2 = q at *
  clear ex ey
  rw [w64_id (x := 4 * (t : Int)) (by omega) (by omega), w64_id (x := 2 * (q : Int)) (by omega) (by omega), w64_id (x := (p : Int) + 2 * (q : Int)) (by omega) (by omega), w64_id (by omega) (by omega)]
  omega
theorem of_l0 {F X Y : Nat} (hF : F ≤ 13) (n : Nat) : ∀ m : Nat, m + n ≤ 12 →
    tile_Of.l0 (X : Int) (Y : Int) n ((n : Int) - 1) ((tno F m (X / 2 ^ n) (Y / 2 ^ n) : Nat) : Int) = ((tno F (m + n) X Y : Nat) : Int) := by
  induction n with
  | zero => intro m _; simp [tile_Of.l0]
  | succ n ih =>
    intro m h
    have e1 : X / 2 ^ (n + 1) = X / 2 ^ n / 2 := by rw [Nat.pow_succ, Nat.div_div_eq_div_mul]
    have e2 : Y / 2 ^ (n + 1) = Y / 2 ^ n / 2 := by rw [Nat.pow_succ, Nat.div_div_eq_div_mul]
    rw [e1, e2, tile_Of.l0, show ((n + 1 : Nat) : Int) - 1 = (n : Int) by omega, step_tno hF (by omega) (by omega), ih (m + 1) (by omega), show m + 1 + n = m + (n + 1) by omega]
/-- The level of a tile. -/
theorem level_l0 {F L X Y : Nat} (h8 : 8 ≤ F) (hF : F ≤ 13) (hL : L ≤ 12) (d : Nat) : ∀ i : Nat, i + d = L →
    Ev (fun k => tile_Level.l0 k ((tno F L X Y : Nat) : Int) (i : Int)) ((L : Int), true) := by
  have hb := tno_bd F L X Y
  have s8 : ∀ i : Nat, i ≤ 12 → shl .i64 8 (wrap64 (2 * (i : Int))) = ((8 * 4 ^ i : Nat) : Int) ∧ shl .i64 14 (wrap64 (2 * (i : Int))) = ((14 * 4 ^ i : Nat) : Int) := by
    intro i hi
    have h4 : 4 ^ i ≤ 4 ^ 12 := Nat.pow_le_pow_right (by decide) hi
    have e4 : (4 : Nat) ^ 12 = 16777216 := by decide
    have e : (2 : Nat) ^ (2 * i) = 4 ^ i := by rw [Nat.pow_mul]
    rw [w64_id (by omega) (by omega)]
    have a := shl_nat 8 (2 * i) (by rw [e]; omega) (by omega)
    have b := shl_nat 14 (2 * i) (by rw [e]; omega) (by omega)
    rw [e] at a b
    have c : ((2 * i : Nat) : Int) = 2 * (i : Int) := by omega
    rw [c] at a b
    exact ⟨a, b⟩
  induction d with
  | zero =>
    intro i hi
    obtain rfl : i = L := by omega
    obtain ⟨a, b⟩ := s8 i hL
    have p8 : 8 * 4 ^ i ≤ F * 4 ^ i := Nat.mul_le_mul_right _ h8
    have p14 : (F + 1) * 4 ^ i ≤ 14 * 4 ^ i := Nat.mul_le_mul_right _ (by omega)
    refine one_ev fun k => ?_
    rw [tile_Level.l0, a, b, if_pos (by omega), if_pos (by rw [w64_id (by omega) (by omega)]; omega), if_pos (by omega), if_pos (by omega)]
  | succ d ih =>
    intro i hi
    obtain ⟨a, b⟩ := s8 i (by omega)
    have h1 : 14 * 4 ^ i ≤ tno F L X Y := by
      have hp : 4 ^ (i + 1) ≤ 4 ^ L := Nat.pow_le_pow_right (by decide) (by omega)
      have : 8 * 4 ^ (i + 1) ≤ F * 4 ^ L := Nat.mul_le_mul h8 hp
      rw [Nat.pow_succ] at this
      omega
    have h2 : 8 * 4 ^ i ≤ tno F L X Y := by omega
    refine Ev.step (fun k => ?_) (ih (i + 1) (by omega))
    rw [tile_Level.l0, a, b, if_pos (by omega), if_pos (by rw [w64_id (by omega) (by omega)]; omega), if_pos (by omega), if_neg (by omega), w64_id (x := (i : Int) + 1) (by omega) (by omega)]
    rfl
theorem level_ev {F L X Y : Nat} (h8 : 8 ≤ F) (hF : F ≤ 13) (hL : L ≤ 12) : Ev (fun k => tile_Level.f k ((tno F L X Y : Nat) : Int)) ((L : Int), true) :=
  Ev.congr (fun k => rfl) (level_l0 h8 hF hL L 0 (by omega))
theorem check_ev {F L X Y : Nat} (h8 : 8 ≤ F) (hF : F ≤ 13) (hL : L ≤ 12) : Ev (fun k => tile_Check.f k ((tno F L X Y : Nat) : Int)) 0 := by
  unfold tile_Check.f
  exact Ev.bind (level_ev h8 hF hL) (pos_ev rfl (Ev.now _))
theorem parent_ev {F L X Y : Nat} (h8 : 8 ≤ F) (hF : F ≤ 13) (hL : L + 1 ≤ 12) : Ev (fun k => tile_Parent.f k ((tno F (L + 1) X Y : Nat) : Int)) (((tno F L (X / 2) (Y / 2) : Nat) : Int), true) := by
  unfold tile_Parent.f
  have h := tno_lt (F := F) (L := L) (X := X / 2) (Y := Y / 2) hF (by omega)
  refine Ev.bind (level_ev h8 hF hL) (pos_ev rfl (neg_ev (by show ¬ ((L + 1 : Nat) : Int) = 0; omega) (now_ev fun k => ?_)))
  have e : wrap64 (Int.tdiv ((tno F (L + 1) X Y : Nat) : Int) 4) = ((tno F L (X / 2) (Y / 2) : Nat) : Int) := by
    rw [tdiv_eq (by omega)]
    simp only [tno]
    rw [w64_id (by omega) (by omega)]
    omega
  rw [e]
theorem kids_ev {F L X Y : Nat} (h8 : 8 ≤ F) (hF : F ≤ 13) (hL : L + 1 ≤ 12) : Ev (fun k => tile_Kids.f k ((tno F L X Y : Nat) : Int)) [4 * ((tno F L X Y : Nat) : Int), 4 * ((tno F L X Y : Nat) : Int) + 1, 4 * ((tno F L X Y : Nat) : Int) + 2, 4 * ((tno F L X Y : Nat) : Int) + 3] := by
  unfold tile_Kids.f
  have h := tno_lt (F := F) (L := L) (X := X) (Y := Y) hF (by omega)
  refine Ev.bind (level_ev h8 hF (by omega)) (pos_ev rfl (neg_ev (by show ¬ ((L : Nat) : Int) = 12; omega) (now_ev fun k => ?_)))
  have h0 : (0 : Int) ≤ ((tno F L X Y : Nat) : Int) := by omega
  have h1 : ((tno F L X Y : Nat) : Int) < 234881024 := by omega
  generalize ((tno F L X Y : Nat) : Int) = t at h0 h1 ⊢
  clear h
  rw [w64_id (x := 4 * t) (by omega) (by omega), w64_id (x := 4 * t + 1) (by omega) (by omega), w64_id (x := 4 * t + 2) (by omega) (by omega), w64_id (x := 4 * t + 3) (by omega) (by omega)]
theorem contains_four {a b c d x : Int} (h : x = a ∨ x = b ∨ x = c ∨ x = d) : Ev (fun k => slices_Contains_api_Tile_api_Tile.f k [a, b, c, d] x) true := by
  refine Ev.of (fun k => slices_Contains_api_Tile_api_Tile.mono _ _ k) (k := 6) ?_
  unfold slices_Contains_api_Tile_api_Tile.f slices_Index_api_Tile_api_Tile.f
  have w1 : wrap64 (0 + 1) = 1 := w64_id (by decide) (by decide)
  have w2 : wrap64 (1 + 1) = 2 := w64_id (by decide) (by decide)
  have w3 : wrap64 (2 + 1) = 3 := w64_id (by decide) (by decide)
  have r0 : rd [a, b, c, d] 0 = a := rfl
  have r1 : rd [a, b, c, d] 1 = b := rfl
  have r2 : rd [a, b, c, d] 2 = c := rfl
  have r3 : rd [a, b, c, d] 3 = d := rfl
  simp only [slices_Index_api_Tile_api_Tile.l0, List.length_cons, List.length_nil, Nat.zero_add, Nat.reduceAdd, r0, r1, r2, r3, w1, w2, w3]
  by_cases c0 : x = a
  · simp [c0]
  by_cases c1 : x = b
  · simp only [if_neg c0, if_pos c1]; simp
  by_cases c2 : x = c
  · simp only [if_neg c0, if_neg c1, if_pos c2]; simp
  have c3 : x = d := by simp_all
  simp only [if_neg c0, if_neg c1, if_neg c2, if_pos c3]; simp
/-- The column and the row of a tile. -/
theorem spot_l0 {F L X Y : Nat} (h8 : 8 ≤ F) (hF : F ≤ 13) (hL : L ≤ 12) (hX : X < 2 ^ L) (hY : Y < 2 ^ L) (j : Nat) : j ≤ L →
    Ev (fun k => tile_spot.l0 k ((tno F L X Y : Nat) : Int) (L : Int) ((X / 2 ^ j : Nat) : Int) ((Y / 2 ^ j : Nat) : Int) (2 * (j : Int) - 2)) ((F : Int) - 8, (X : Int), (Y : Int), (L : Int)) := by
  induction j with
  | zero =>
    intro _
    refine one_ev fun k => ?_
    have e : (2 : Nat) ^ (2 * L) = 4 ^ L := by rw [Nat.pow_mul]
    have t := tno_div F 0 L X Y
    rw [Nat.zero_add] at t
    have t0 : tno F 0 (X / 2 ^ L) (Y / 2 ^ L) = F := rfl
    rw [tile_spot.l0, if_neg (by omega), w64_id (x := 2 * (L : Int)) (by omega) (by omega), if_pos (by omega), show 2 * (L : Int) = ((2 * L : Nat) : Int) by omega, shr_nat _ _ (by omega), e, t, t0, w64_id (by omega) (by omega)]
    simp
  | succ j ih =>
    intro hj
    have bX : X < 4096 := Nat.lt_of_lt_of_le hX (show 2 ^ L ≤ 2 ^ 12 from Nat.pow_le_pow_right (by decide) hL)
    have bY : Y < 4096 := Nat.lt_of_lt_of_le hY (show 2 ^ L ≤ 2 ^ 12 from Nat.pow_le_pow_right (by decide) hL)
    refine Ev.step (fun k => ?_) (ih (by omega))
    obtain ⟨m, rfl⟩ : ∃ m, L = m + 1 + j := ⟨L - 1 - j, by omega⟩
    have e : (2 : Nat) ^ (2 * j) = 4 ^ j := by rw [Nat.pow_mul]
    have t := tno_div F (m + 1) j X Y
    have hd : tno F (m + 1) (X / 2 ^ j) (Y / 2 ^ j) = 4 * tno F m (X / 2 ^ j / 2) (Y / 2 ^ j / 2) + (X / 2 ^ j % 2 + 2 * (Y / 2 ^ j % 2)) := rfl
    have i1 : 2 * ((j + 1 : Nat) : Int) - 2 = ((2 * j : Nat) : Int) := by omega
    have i2 : wrap64 (((2 * j : Nat) : Int) + 1) = ((2 * j + 1 : Nat) : Int) := by rw [w64_id (by omega) (by omega)]; omega
    have i3 : wrap64 (((2 * j : Nat) : Int) - 2) = 2 * (j : Int) - 2 := by rw [w64_id (by omega) (by omega)]; omega
    have e1 : X / 2 ^ (j + 1) = X / 2 ^ j / 2 := by rw [Nat.pow_succ, Nat.div_div_eq_div_mul]
    have e2 : Y / 2 ^ (j + 1) = Y / 2 ^ j / 2 := by rw [Nat.pow_succ, Nat.div_div_eq_div_mul]
    have bx : X / 2 ^ j < 4096 := Nat.lt_of_le_of_lt (Nat.div_le_self _ _) bX
    have by_ : Y / 2 ^ j < 4096 := Nat.lt_of_le_of_lt (Nat.div_le_self _ _) bY
    have p2 : tno F (m + 1 + j) X Y / 2 ^ (2 * j + 1) = tno F (m + 1) (X / 2 ^ j) (Y / 2 ^ j) / 2 := by rw [Nat.pow_succ, ← Nat.div_div_eq_div_mul, e, t]
    rw [tile_spot.l0, e1, e2, i1, i2, i3, if_pos (by omega), if_pos (by omega), if_pos (by omega), shr_nat _ _ (by omega), shr_nat _ _ (by omega), p2, e, t, hd, band1, band1]
    generalize X / 2 ^ j = x at *
    generalize Y / 2 ^ j = y at *
    generalize tno F m (x / 2) (y / 2) = q
    have f1 : ((4 * q + (x % 2 + 2 * (y % 2)) : Nat) : Int) % 2 = (x : Int) % 2 := by omega
    have f2 : (((4 * q + (x % 2 + 2 * (y % 2))) / 2 : Nat) : Int) % 2 = (y : Int) % 2 := by omega
    have g1 : wrap64 (wrap64 (2 * ((x / 2 : Nat) : Int)) + (x : Int) % 2) = (x : Int) := by rw [w64_id (x := 2 * ((x / 2 : Nat) : Int)) (by omega) (by omega), w64_id (by omega) (by omega)]; omega
    have g2 : wrap64 (wrap64 (2 * ((y / 2 : Nat) : Int)) + (y : Int) % 2) = (y : Int) := by rw [w64_id (x := 2 * ((y / 2 : Nat) : Int)) (by omega) (by omega), w64_id (by omega) (by omega)]; omega
    rw [f1, f2, g1, g2]
theorem spot_ev {F L X Y : Nat} (h8 : 8 ≤ F) (hF : F ≤ 13) (hL : L ≤ 12) (hX : X < 2 ^ L) (hY : Y < 2 ^ L) : Ev (fun k => tile_spot.f k ((tno F L X Y : Nat) : Int)) ((F : Int) - 8, (X : Int), (Y : Int), (L : Int)) := by
  unfold tile_spot.f
  refine Ev.bind (level_ev h8 hF hL) ?_
  have h := spot_l0 h8 hF hL hX hY L (Nat.le_refl _)
  rw [Nat.div_eq_of_lt hX, Nat.div_eq_of_lt hY] at h
  simp only []
  rw [w64_id (x := 2 * (L : Int)) (by omega) (by omega), w64_id (by omega) (by omega)]
  exact h
end Go.Proofs.Ytbaedcjophgiiaa.Q
