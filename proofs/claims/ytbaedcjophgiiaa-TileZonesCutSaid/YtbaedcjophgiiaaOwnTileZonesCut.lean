/- This session's own texts KTileZonesCutTA0 KTileZonesCutTB1 KTileZonesCutTB2 KTileZonesCutTZ0 KTileZonesCutM1 KTileZonesCutMP KTileZonesCutTZ1 KTileZonesCutTZ2 KTileZonesCutTZ3 KTileZonesCutPureTileZonesCut, one after the other. -/
import Derived.Test.YtbaedcjophgiiaaKTileZonesCutQx26
import Derived.Test.YtbaedcjophgiiaaKTileZonesCutQx7
import Derived.Test.YtbaedcjophgiiaaKTileZonesCutQx5
import Derived.Test.YtbaedcjophgiiaaKTileZonesCutQx8
import Derived.Test.YtbaedcjophgiiaaKTileZonesCutQx21
import Derived.Test.YtbaedcjophgiiaaKTileZonesCutQx22
import Derived.Test.YtbaedcjophgiiaaKTileZonesCutQx2
import Derived.Test.YtbaedcjophgiiaaKTileZonesCutQx4
import Derived.Test.YtbaedcjophgiiaaKTileZonesCutQx9
import Derived.Test.YtbaedcjophgiiaaKTileZonesCutQx10
import Derived.Test.YtbaedcjophgiiaaKTileZonesCutQx3
import Derived.Test.YtbaedcjophgiiaaKTileZonesCutQx14
import Derived.Test.YtbaedcjophgiiaaProg
import Derived.Test.YtbaedcjophgiiaaKTileZonesCutQx15
import Derived.Test.YtbaedcjophgiiaaKTileZonesCutQx16
import Derived.Test.YtbaedcjophgiiaaKTileZonesCutQx17
import Derived.Test.YtbaedcjophgiiaaKTileZonesCutQx18
import Derived.Test.YtbaedcjophgiiaaKTileZonesCutQx12
import Derived.Test.YtbaedcjophgiiaaKTileZonesCutQx13
import Derived.Test.YtbaedcjophgiiaaKTileZonesCutQx19
import Derived.Test.YtbaedcjophgiiaaKTileZonesCutQx20
import Derived.Test.YtbaedcjophgiiaaKTileZonesCutQx23
import Derived.Test.YtbaedcjophgiiaaKTileZonesCutQx24
import Derived.Test.YtbaedcjophgiiaaKTileZonesCutQx25

section
/- Base for the laws of tiles: wrapping, answers that come at last, the stream of numbers; the bounds stand in each statement. -/
namespace Go.Proofs.Ytbaedcjophgiiaa.Q
open Go.RowKit Go.Proofs.YtbaedcjophgiiaaW.PrintWords Go.Proofs.YtbaedcjophgiiaaW.PrintLast Go.Proofs.YtbaedcjophgiiaaW.PrintMore
set_option linter.unusedVariables false
set_option linter.unusedSimpArgs false
theorem w64_id {x : Int} (h0 : -9223372036854775808 ≤ x) (h1 : x < 9223372036854775808) : wrap64 x = x := by unfold wrap64; omega
theorem tmod_eq {a b : Int} (h : 0 ≤ a) : Int.tmod a b = a % b := Int.tmod_eq_emod_of_nonneg h
theorem tdiv_eq {a b : Int} (h : 0 ≤ a) : Int.tdiv a b = a / b := Int.tdiv_eq_ediv_of_nonneg h
theorem some_ev {α β : Type} {g : Option α} {f : Nat → α → Option β} {a : α} {r : β} (h : g = some a) (k : Ev (fun n => f n a) r) : Ev (fun n => g.bind (f n)) r := by
  subst h; exact k
theorem pos_ev {α : Type} {c : Prop} [Decidable c] {g f : Nat → Option α} {r : α} (h : c) (k : Ev g r) : Ev (fun n => if c then g n else f n) r := by
  simp only [if_pos h]; exact k
theorem neg_ev {α : Type} {c : Prop} [Decidable c] {g f : Nat → Option α} {r : α} (h : ¬ c) (k : Ev f r) : Ev (fun n => if c then g n else f n) r := by
  simp only [if_neg h]; exact k
theorem one_ev {α : Type} {g : Nat → Option α} {r : α} (h : ∀ k, g (k + 1) = some r) : Ev g r := Ev.step (f := fun _ => some r) h (Ev.now _)
theorem now_ev {α : Type} {g : Nat → Option α} {r : α} (h : ∀ k, g k = some r) : Ev g r := Ev.congr (f := fun _ => some r) h (Ev.now _)
theorem below {a n : Int} (hn : 1 ≤ n) (hn1 : n < 9223372036854775808) : spymake_Below.f a n = some (a % n) := by
  unfold spymake_Below.f
  rw [if_neg (by omega), if_neg (by omega)]
  have m0 := Int.emod_nonneg a (show n ≠ 0 by omega)
  have m1 := Int.emod_lt_of_pos a (show 0 < n by omega)
  by_cases c : 0 ≤ a
  · rw [tmod_eq c, if_neg (by omega)]
  · have e : Int.tmod a n = -(-a % n) := by
      have := Int.neg_tmod (-a) n
      rw [Int.neg_neg] at this
      rw [this, tmod_eq (by omega)]
    rw [e, (show a % n = (if -a % n = 0 then 0 else n - -a % n) by
      have e1 := Int.emod_add_mul_ediv (-a) n
      have h0 := Int.emod_nonneg (-a) (show n ≠ 0 by omega)
      have h1 := Int.emod_lt_of_pos (-a) (show 0 < n by omega)
      split
      · exact ((Int.ediv_emod_unique (q := -(-a / n)) (show 0 < n by omega)).mpr ⟨by rw [Int.mul_neg]; omega, by omega, by omega⟩).2
      · exact ((Int.ediv_emod_unique (q := -(-a / n) - 1) (show 0 < n by omega)).mpr ⟨by rw [Int.mul_sub, Int.mul_neg]; omega, by omega, by omega⟩).2)]
    have h0 := Int.emod_nonneg (-a) (show n ≠ 0 by omega)
    have h1 := Int.emod_lt_of_pos (-a) (show 0 < n by omega)
    by_cases z : -a % n = 0
    · rw [if_neg (by omega), if_pos z, z]; rfl
    · rw [if_pos (by omega), if_neg z, w64_id (by omega) (by omega)]; congr 1; omega
theorem below_in {a n : Int} (hn : 1 ≤ n) (hn1 : n < 9223372036854775808) : ∃ v, spymake_Below.f a n = some v ∧ 0 ≤ v ∧ v < n :=
  ⟨a % n, below hn hn1, Int.emod_nonneg a (by omega), Int.emod_lt_of_pos a (by omega)⟩
/-- The next number lies from 0 to n - 1, and the place moves on by one. -/
theorem next_in (l : List Int) {at_ n : Int} (hl : l.length ≤ 9223372036854775807) (a0 : 0 ≤ at_) (a1 : at_ < 4611686018427387904) (n0 : 1 ≤ n) (n1 : n < 9223372036854775808) :
    ∃ v, spymake_Stream_Next.f l at_ n = some (v, at_ + 1) ∧ 0 ≤ v ∧ v < n := by
  unfold spymake_Stream_Next.f
  rw [w64_id (x := at_ + 1) (by omega) (by omega)]
  by_cases z : (l.length : Int) = 0
  · rw [if_pos z]
    obtain ⟨v, hv, v0, v1⟩ := below_in (a := wrap64 ((at_ + 1) * 7919)) n0 n1
    exact ⟨v, by rw [hv]; rfl, v0, v1⟩
  · rw [if_neg z, w64_id (x := at_ + 1 - 1) (by omega) (by omega), tmod_eq (by omega)]
    have m0 := Int.emod_nonneg (at_ + 1 - 1) z
    have m1 := Int.emod_lt_of_pos (at_ + 1 - 1) (show 0 < (l.length : Int) by omega)
    rw [if_pos m0, if_pos m1]
    obtain ⟨v, hv, v0, v1⟩ := below_in (a := rd l ((at_ + 1 - 1) % (l.length : Int))) (n := 1073741824) (by decide) (by decide)
    rw [hv]
    simp only [Option.bind_some]
    obtain ⟨v', hv', v0', v1'⟩ := below_in (a := wrap64 (v + (wrap64 ((wrap64 (Int.tdiv (at_ + 1 - 1) (l.length : Int))) * (wrap64 (7919 + ((at_ + 1 - 1) % (l.length : Int)))))))) n0 n1
    exact ⟨v', by rw [hv']; rfl, v0', v1'⟩
/-- A number of a range lies in it. -/
theorem range_in (l : List Int) {at_ lo hi : Int} (hl : l.length ≤ 9223372036854775807) (a0 : 0 ≤ at_) (a1 : at_ < 4611686018427387904) (h : lo ≤ hi) (h0 : -2305843009213693952 ≤ lo) (h1 : hi < 2305843009213693952) :
    ∃ v, spymake_Stream_Range.f l at_ lo hi = some (v, at_ + 1) ∧ lo ≤ v ∧ v ≤ hi := by
  unfold spymake_Stream_Range.f
  rw [if_neg (by omega), w64_id (x := hi - lo) (by omega) (by omega), w64_id (x := hi - lo + 1) (by omega) (by omega)]
  obtain ⟨v, hv, v0, v1⟩ := next_in l (n := hi - lo + 1) hl a0 a1 (by omega) (by omega)
  refine ⟨lo + v, ?_, by omega, by omega⟩
  rw [hv]
  simp only [Option.bind_some]
  rw [w64_id (by omega) (by omega)]
/-- A direction of the stream: no component is greater than 1048576, not all are 0. -/
theorem vec_in (l : List Int) {at_ : Int} (hl : l.length ≤ 9223372036854775807) (a0 : 0 ≤ at_) (a1 : at_ < 4000000000000000000) :
    ∃ x y z, spymake_Stream_Vec.f l at_ = some (x, y, z, at_ + 4) ∧ -1048576 ≤ x ∧ x ≤ 1048576 ∧ -1048576 ≤ y ∧ y ≤ 1048576 ∧ -1048576 ≤ z ∧ z ≤ 1048576 ∧ ¬ (x = 0 ∧ y = 0 ∧ z = 0) := by
  unfold spymake_Stream_Vec.f
  obtain ⟨i, hi, i0, i1⟩ := next_in l (n := 4) hl a0 (by omega) (by decide) (by decide)
  simp only [Option.bind_some]
  rw [hi]
  simp only [Option.bind_some]
  rw [if_pos i0, if_pos (by simpa using i1)]
  have hm : ∃ m, rd ([3, 100, 5000, 1048576] : List Int) i = m ∧ 3 ≤ m ∧ m ≤ 1048576 := by
    have : i = 0 ∨ i = 1 ∨ i = 2 ∨ i = 3 := by omega
    rcases this with rfl | rfl | rfl | rfl
    · exact ⟨3, rfl, by decide, by decide⟩
    · exact ⟨100, rfl, by decide, by decide⟩
    · exact ⟨5000, rfl, by decide, by decide⟩
    · exact ⟨1048576, rfl, by decide, by decide⟩
  obtain ⟨m, em, m0, m1⟩ := hm
  rw [em, w64_id (x := -m) (by omega) (by omega)]
  obtain ⟨x, hx, x0, x1⟩ := range_in l (at_ := at_ + 1) (lo := -m) (hi := m) hl (by omega) (by omega) (by omega) (by omega) (by omega)
  obtain ⟨y, hy, y0, y1⟩ := range_in l (at_ := at_ + 1 + 1) (lo := -m) (hi := m) hl (by omega) (by omega) (by omega) (by omega) (by omega)
  obtain ⟨z, hz, z0, z1⟩ := range_in l (at_ := at_ + 1 + 1 + 1) (lo := -m) (hi := m) hl (by omega) (by omega) (by omega) (by omega) (by omega)
  rw [hx]; simp only [Option.bind_some]
  rw [hy]; simp only [Option.bind_some]
  rw [hz]; simp only [Option.bind_some]
  have e4 : at_ + 1 + 1 + 1 + 1 = at_ + 4 := by omega
  by_cases c : x = 0 ∧ y = 0 ∧ z = 0
  · obtain ⟨rfl, rfl, rfl⟩ := c
    exact ⟨1, 0, 0, by rw [e4]; rfl, by omega, by omega, by omega, by omega, by omega, by omega, by omega⟩
  · refine ⟨x, y, z, ?_, by omega, by omega, by omega, by omega, by omega, by omega, c⟩
    rw [if_neg (by simpa using c), e4]
end Go.Proofs.Ytbaedcjophgiiaa.Q
end

section
/- The numbers of tiles in plain numbers: their level, their parent, their column and row, and the loops that make and read them; the bounds stand in each statement. -/
namespace Go.Proofs.Ytbaedcjophgiiaa.Q
open Go.RowKit Go.Proofs.YtbaedcjophgiiaaW.PrintWords Go.Proofs.YtbaedcjophgiiaaW.PrintLast Go.Proofs.YtbaedcjophgiiaaW.PrintMore
set_option linter.unusedVariables false
set_option linter.unusedSimpArgs false
/-- The number of a tile: that of its face, its level, its column and its row. -/
def tno (F : Nat) : Nat → Nat → Nat → Nat
  | 0, _, _ => F
  | L + 1, X, Y => 4 * tno F L (X / 2) (Y / 2) + (X % 2 + 2 * (Y % 2))
theorem tno_bd (F L : Nat) : ∀ X Y, F * 4 ^ L ≤ tno F L X Y ∧ tno F L X Y < (F + 1) * 4 ^ L := by
  induction L with
  | zero => intro X Y; simp [tno]
  | succ L ih =>
    intro X Y
    have h := ih (X / 2) (Y / 2)
    simp only [tno, Nat.pow_succ, ← Nat.mul_assoc]
    omega
theorem tno_div (F L j : Nat) : ∀ X Y, tno F (L + j) X Y / 4 ^ j = tno F L (X / 2 ^ j) (Y / 2 ^ j) := by
  induction j with
  | zero => intro X Y; simp
  | succ j ih =>
    intro X Y
    have e : tno F (L + (j + 1)) X Y = 4 * tno F (L + j) (X / 2) (Y / 2) + (X % 2 + 2 * (Y % 2)) := rfl
    rw [Nat.pow_succ, Nat.mul_comm (4 ^ j) 4, ← Nat.div_div_eq_div_mul, e, show (4 * tno F (L + j) (X / 2) (Y / 2) + (X % 2 + 2 * (Y % 2))) / 4 = tno F (L + j) (X / 2) (Y / 2) by omega, ih,
      Nat.div_div_eq_div_mul, Nat.div_div_eq_div_mul, Nat.pow_succ, Nat.mul_comm 2 (2 ^ j)]
theorem tno_lt {F L X Y : Nat} (hF : F ≤ 13) (hL : L ≤ 12) : tno F L X Y < 234881024 := by
  have h := (tno_bd F L X Y).2
  have h4 : 4 ^ L ≤ 4 ^ 12 := Nat.pow_le_pow_right (by decide) hL
  have : (F + 1) * 4 ^ L ≤ 14 * 4 ^ 12 := Nat.mul_le_mul (by omega) h4
  have e : 14 * 4 ^ 12 = 234881024 := by decide
  omega
theorem band1 (n : Int) : Go.bits .and .i64 n 1 = n % 2 := by
  have h1 : (BitVec.ofInt 64 1).toNat = 2 ^ 1 - 1 := by decide
  have key : (BitVec.ofInt 64 n &&& BitVec.ofInt 64 1).toNat = (n % ((2 ^ 64 : Nat) : Int)).toNat % 2 ^ 1 := by
    rw [BitVec.toNat_and, BitVec.toNat_ofInt, h1, Nat.and_two_pow_sub_one_eq_mod]
  show IntKind.i64.wrap ((BitVec.ofInt 64 n &&& BitVec.ofInt 64 1).toNat : Nat) = n % 2
  rw [key, IntKind.wrap_i64]
  omega
theorem shr_nat (x b : Nat) (hb : b ≤ 60) : shr .i64 (x : Int) (b : Int) = ((x / 2 ^ b : Nat) : Int) := by
  show (x : Int) / 2 ^ min (b : Int).toNat 64 = _
  rw [Int.toNat_natCast, show min b 64 = b by omega]
  simp
theorem shl_nat (x b : Nat) (h : x * 2 ^ b < 9223372036854775808) (hb : b ≤ 60) : shl .i64 (x : Int) (b : Int) = ((x * 2 ^ b : Nat) : Int) := by
  show IntKind.i64.wrap ((x : Int) * 2 ^ min (b : Int).toNat 64) = _
  rw [Int.toNat_natCast, show min b 64 = b by omega, i64_w]
  have e : (x : Int) * 2 ^ b = ((x * 2 ^ b : Nat) : Int) := by simp
  rw [e, w64_id (by omega) (by omega)]
theorem step_tno {m n X Y : Nat} {F : Nat} (hF : F ≤ 13) (hm : m + 1 ≤ 12) (hn : n ≤ 12) :
    tile_Of.step (X : Int) (Y : Int) (n : Int) ((tno F m (X / 2 ^ n / 2) (Y / 2 ^ n / 2) : Nat) : Int) = ((tno F (m + 1) (X / 2 ^ n) (Y / 2 ^ n) : Nat) : Int) := by
  have h := tno_lt (F := F) (L := m) (X := X / 2 ^ n / 2) (Y := Y / 2 ^ n / 2) hF (by omega)
  unfold tile_Of.step
  rw [shr_nat X n (by omega), shr_nat Y n (by omega), band1, band1]
  simp only [tno]
  generalize tno F m (X / 2 ^ n / 2) (Y / 2 ^ n / 2) = t at *
  generalize X / 2 ^ n = x
  generalize Y / 2 ^ n = y
  have ex : (x : Int) % 2 = ((x % 2 : Nat) : Int) := by simp
  have ey : (y : Int) % 2 = ((y % 2 : Nat) : Int) := by simp
  have hx : x % 2 < 2 := Nat.mod_lt _ (by decide)
  have hy : y % 2 < 2 := Nat.mod_lt _ (by decide)
  rw [ex, ey]
  generalize x % 2 = p at *
  generalize y % 2 = q at *
  clear ex ey
  rw [w64_id (x := 4 * (t : Int)) (by omega) (by omega), w64_id (x := 2 * (q : Int)) (by omega) (by omega), w64_id (x := (p : Int) + 2 * (q : Int)) (by omega) (by omega), w64_id (by omega) (by omega)]
  omega
theorem of_l0 {F X Y : Nat} (hF : F ≤ 13) (n : Nat) : ∀ m : Nat, m + n ≤ 12 →
    tile_Of.l0 (X : Int) (Y : Int) n ((n : Int) - 1) ((tno F m (X / 2 ^ n) (Y / 2 ^ n) : Nat) : Int) = ((tno F (m + n) X Y : Nat) : Int) := by
  induction n with
  | zero => intro m _; simp [tile_Of.l0]
  | succ n ih =>
    intro m h
    have e1 : X / 2 ^ (n + 1) = X / 2 ^ n / 2 := by rw [Nat.pow_succ, Nat.div_div_eq_div_mul]
    have e2 : Y / 2 ^ (n + 1) = Y / 2 ^ n / 2 := by rw [Nat.pow_succ, Nat.div_div_eq_div_mul]
    rw [e1, e2, tile_Of.l0, show ((n + 1 : Nat) : Int) - 1 = (n : Int) by omega, step_tno hF (by omega) (by omega), ih (m + 1) (by omega), show m + 1 + n = m + (n + 1) by omega]
/-- The level of a tile. -/
theorem level_l0 {F L X Y : Nat} (h8 : 8 ≤ F) (hF : F ≤ 13) (hL : L ≤ 12) (d : Nat) : ∀ i : Nat, i + d = L →
    Ev (fun k => tile_Level.l0 k ((tno F L X Y : Nat) : Int) (i : Int)) ((L : Int), true) := by
  have hb := tno_bd F L X Y
  have s8 : ∀ i : Nat, i ≤ 12 → shl .i64 8 (wrap64 (2 * (i : Int))) = ((8 * 4 ^ i : Nat) : Int) ∧ shl .i64 14 (wrap64 (2 * (i : Int))) = ((14 * 4 ^ i : Nat) : Int) := by
    intro i hi
    have h4 : 4 ^ i ≤ 4 ^ 12 := Nat.pow_le_pow_right (by decide) hi
    have e4 : (4 : Nat) ^ 12 = 16777216 := by decide
    have e : (2 : Nat) ^ (2 * i) = 4 ^ i := by rw [Nat.pow_mul]
    rw [w64_id (by omega) (by omega)]
    have a := shl_nat 8 (2 * i) (by rw [e]; omega) (by omega)
    have b := shl_nat 14 (2 * i) (by rw [e]; omega) (by omega)
    rw [e] at a b
    have c : ((2 * i : Nat) : Int) = 2 * (i : Int) := by omega
    rw [c] at a b
    exact ⟨a, b⟩
  induction d with
  | zero =>
    intro i hi
    obtain rfl : i = L := by omega
    obtain ⟨a, b⟩ := s8 i hL
    have p8 : 8 * 4 ^ i ≤ F * 4 ^ i := Nat.mul_le_mul_right _ h8
    have p14 : (F + 1) * 4 ^ i ≤ 14 * 4 ^ i := Nat.mul_le_mul_right _ (by omega)
    refine one_ev fun k => ?_
    rw [tile_Level.l0, a, b, if_pos (by omega), if_pos (by rw [w64_id (by omega) (by omega)]; omega), if_pos (by omega), if_pos (by omega)]
  | succ d ih =>
    intro i hi
    obtain ⟨a, b⟩ := s8 i (by omega)
    have h1 : 14 * 4 ^ i ≤ tno F L X Y := by
      have hp : 4 ^ (i + 1) ≤ 4 ^ L := Nat.pow_le_pow_right (by decide) (by omega)
      have : 8 * 4 ^ (i + 1) ≤ F * 4 ^ L := Nat.mul_le_mul h8 hp
      rw [Nat.pow_succ] at this
      omega
    have h2 : 8 * 4 ^ i ≤ tno F L X Y := by omega
    refine Ev.step (fun k => ?_) (ih (i + 1) (by omega))
    rw [tile_Level.l0, a, b, if_pos (by omega), if_pos (by rw [w64_id (by omega) (by omega)]; omega), if_pos (by omega), if_neg (by omega), w64_id (x := (i : Int) + 1) (by omega) (by omega)]
    rfl
theorem level_ev {F L X Y : Nat} (h8 : 8 ≤ F) (hF : F ≤ 13) (hL : L ≤ 12) : Ev (fun k => tile_Level.f k ((tno F L X Y : Nat) : Int)) ((L : Int), true) :=
  Ev.congr (fun k => rfl) (level_l0 h8 hF hL L 0 (by omega))
theorem kids_ev {F L X Y : Nat} (h8 : 8 ≤ F) (hF : F ≤ 13) (hL : L + 1 ≤ 12) : Ev (fun k => tile_Kids.f k ((tno F L X Y : Nat) : Int)) [4 * ((tno F L X Y : Nat) : Int), 4 * ((tno F L X Y : Nat) : Int) + 1, 4 * ((tno F L X Y : Nat) : Int) + 2, 4 * ((tno F L X Y : Nat) : Int) + 3] := by
  unfold tile_Kids.f
  have h := tno_lt (F := F) (L := L) (X := X) (Y := Y) hF (by omega)
  refine Ev.bind (level_ev h8 hF (by omega)) (pos_ev rfl (neg_ev (by show ¬ ((L : Nat) : Int) = 12; omega) (now_ev fun k => ?_)))
  have h0 : (0 : Int) ≤ ((tno F L X Y : Nat) : Int) := by omega
  have h1 : ((tno F L X Y : Nat) : Int) < 234881024 := by omega
  generalize ((tno F L X Y : Nat) : Int) = t at h0 h1 ⊢
  clear h
  rw [w64_id (x := 4 * t) (by omega) (by omega), w64_id (x := 4 * t + 1) (by omega) (by omega), w64_id (x := 4 * t + 2) (by omega) (by omega), w64_id (x := 4 * t + 3) (by omega) (by omega)]
/-- The column and the row of a tile. -/
theorem spot_l0 {F L X Y : Nat} (h8 : 8 ≤ F) (hF : F ≤ 13) (hL : L ≤ 12) (hX : X < 2 ^ L) (hY : Y < 2 ^ L) (j : Nat) : j ≤ L →
    Ev (fun k => tile_spot.l0 k ((tno F L X Y : Nat) : Int) (L : Int) ((X / 2 ^ j : Nat) : Int) ((Y / 2 ^ j : Nat) : Int) (2 * (j : Int) - 2)) ((F : Int) - 8, (X : Int), (Y : Int), (L : Int)) := by
  induction j with
  | zero =>
    intro _
    refine one_ev fun k => ?_
    have e : (2 : Nat) ^ (2 * L) = 4 ^ L := by rw [Nat.pow_mul]
    have t := tno_div F 0 L X Y
    rw [Nat.zero_add] at t
    have t0 : tno F 0 (X / 2 ^ L) (Y / 2 ^ L) = F := rfl
    rw [tile_spot.l0, if_neg (by omega), w64_id (x := 2 * (L : Int)) (by omega) (by omega), if_pos (by omega), show 2 * (L : Int) = ((2 * L : Nat) : Int) by omega, shr_nat _ _ (by omega), e, t, t0, w64_id (by omega) (by omega)]
    simp
  | succ j ih =>
    intro hj
    have bX : X < 4096 := Nat.lt_of_lt_of_le hX (show 2 ^ L ≤ 2 ^ 12 from Nat.pow_le_pow_right (by decide) hL)
    have bY : Y < 4096 := Nat.lt_of_lt_of_le hY (show 2 ^ L ≤ 2 ^ 12 from Nat.pow_le_pow_right (by decide) hL)
    refine Ev.step (fun k => ?_) (ih (by omega))
    obtain ⟨m, rfl⟩ : ∃ m, L = m + 1 + j := ⟨L - 1 - j, by omega⟩
    have e : (2 : Nat) ^ (2 * j) = 4 ^ j := by rw [Nat.pow_mul]
    have t := tno_div F (m + 1) j X Y
    have hd : tno F (m + 1) (X / 2 ^ j) (Y / 2 ^ j) = 4 * tno F m (X / 2 ^ j / 2) (Y / 2 ^ j / 2) + (X / 2 ^ j % 2 + 2 * (Y / 2 ^ j % 2)) := rfl
    have i1 : 2 * ((j + 1 : Nat) : Int) - 2 = ((2 * j : Nat) : Int) := by omega
    have i2 : wrap64 (((2 * j : Nat) : Int) + 1) = ((2 * j + 1 : Nat) : Int) := by rw [w64_id (by omega) (by omega)]; omega
    have i3 : wrap64 (((2 * j : Nat) : Int) - 2) = 2 * (j : Int) - 2 := by rw [w64_id (by omega) (by omega)]; omega
    have e1 : X / 2 ^ (j + 1) = X / 2 ^ j / 2 := by rw [Nat.pow_succ, Nat.div_div_eq_div_mul]
    have e2 : Y / 2 ^ (j + 1) = Y / 2 ^ j / 2 := by rw [Nat.pow_succ, Nat.div_div_eq_div_mul]
    have bx : X / 2 ^ j < 4096 := Nat.lt_of_le_of_lt (Nat.div_le_self _ _) bX
    have by_ : Y / 2 ^ j < 4096 := Nat.lt_of_le_of_lt (Nat.div_le_self _ _) bY
    have p2 : tno F (m + 1 + j) X Y / 2 ^ (2 * j + 1) = tno F (m + 1) (X / 2 ^ j) (Y / 2 ^ j) / 2 := by rw [Nat.pow_succ, ← Nat.div_div_eq_div_mul, e, t]
    rw [tile_spot.l0, e1, e2, i1, i2, i3, if_pos (by omega), if_pos (by omega), if_pos (by omega), shr_nat _ _ (by omega), shr_nat _ _ (by omega), p2, e, t, hd, band1, band1]
    generalize X / 2 ^ j = x at *
    generalize Y / 2 ^ j = y at *
    generalize tno F m (x / 2) (y / 2) = q
    have f1 : ((4 * q + (x % 2 + 2 * (y % 2)) : Nat) : Int) % 2 = (x : Int) % 2 := by omega
    have f2 : (((4 * q + (x % 2 + 2 * (y % 2))) / 2 : Nat) : Int) % 2 = (y : Int) % 2 := by omega
    have g1 : wrap64 (wrap64 (2 * ((x / 2 : Nat) : Int)) + (x : Int) % 2) = (x : Int) := by rw [w64_id (x := 2 * ((x / 2 : Nat) : Int)) (by omega) (by omega), w64_id (by omega) (by omega)]; omega
    have g2 : wrap64 (wrap64 (2 * ((y / 2 : Nat) : Int)) + (y : Int) % 2) = (y : Int) := by rw [w64_id (x := 2 * ((y / 2 : Nat) : Int)) (by omega) (by omega), w64_id (by omega) (by omega)]; omega
    rw [f1, f2, g1, g2]
theorem spot_ev {F L X Y : Nat} (h8 : 8 ≤ F) (hF : F ≤ 13) (hL : L ≤ 12) (hX : X < 2 ^ L) (hY : Y < 2 ^ L) : Ev (fun k => tile_spot.f k ((tno F L X Y : Nat) : Int)) ((F : Int) - 8, (X : Int), (Y : Int), (L : Int)) := by
  unfold tile_spot.f
  refine Ev.bind (level_ev h8 hF hL) ?_
  have h := spot_l0 h8 hF hL hX hY L (Nat.le_refl _)
  rw [Nat.div_eq_of_lt hX, Nat.div_eq_of_lt hY] at h
  simp only []
  rw [w64_id (x := 2 * (L : Int)) (by omega) (by omega), w64_id (by omega) (by omega)]
  exact h
end Go.Proofs.Ytbaedcjophgiiaa.Q
end

section
/- Tiles in plain numbers: the place of a direction in its face, the sides and corners of a tile, and what lies in it; the bounds stand in each statement. -/
namespace Go.Proofs.Ytbaedcjophgiiaa.Q
open Go.RowKit Go.Proofs.YtbaedcjophgiiaaW.PrintWords Go.Proofs.YtbaedcjophgiiaaW.PrintLast Go.Proofs.YtbaedcjophgiiaaW.PrintMore
set_option linter.unusedVariables false
set_option linter.unusedSimpArgs false
/-- The column (or row) of a direction: a is its component, moved by that of the face. -/
def pln (a m n : Nat) : Nat := if 2 ^ n - 1 < a * 2 ^ n / (2 * m) then 2 ^ n - 1 else a * 2 ^ n / (2 * m)
theorem pln_lt (a m n : Nat) : pln a m n < 2 ^ n := by
  have : 0 < 2 ^ n := Nat.two_pow_pos n
  unfold pln; split <;> omega
theorem pln_half (a m n : Nat) : pln a m (n + 1) / 2 = pln a m n := by
  have e : a * 2 ^ (n + 1) / (2 * m) / 2 = a * 2 ^ n / (2 * m) := by
    rw [Nat.pow_succ, ← Nat.mul_assoc, Nat.div_div_eq_div_mul, Nat.mul_div_mul_right _ _ (by decide)]
  have e2 : 2 ^ (n + 1) = 2 * 2 ^ n := by rw [Nat.pow_succ, Nat.mul_comm]
  have : 0 < 2 ^ n := Nat.two_pow_pos n
  unfold pln
  rw [← e, e2] at *
  generalize a * (2 * 2 ^ n) / (2 * m) = q at *
  split <;> split <;> omega
theorem pln_in {a m : Nat} (n : Nat) (hm : 0 < m) (ha : a ≤ 2 * m) : pln a m n * (2 * m) ≤ a * 2 ^ n ∧ a * 2 ^ n ≤ (pln a m n + 1) * (2 * m) := by
  have h0 : 0 < 2 ^ n := Nat.two_pow_pos n
  have d1 := Nat.div_mul_le_self (a * 2 ^ n) (2 * m)
  have d2 := Nat.lt_div_mul_add (a := a * 2 ^ n) (b := 2 * m) (by omega)
  unfold pln
  split
  · rename_i h
    have e : (2 ^ n - 1 + 1) * (2 * m) = 2 * m * 2 ^ n := by rw [show 2 ^ n - 1 + 1 = 2 ^ n by omega, Nat.mul_comm]
    refine ⟨Nat.le_trans (Nat.mul_le_mul_right _ (Nat.le_of_lt h)) d1, ?_⟩
    rw [e]
    exact Nat.mul_le_mul_right _ ha
  · refine ⟨d1, ?_⟩
    rw [Nat.add_mul]
    omega
theorem pow12 {n : Nat} (hn : n ≤ 12) : 2 ^ n ≤ 4096 := Nat.pow_le_pow_right (n := 2) (by decide) hn
theorem pl_nat {a m n : Nat} (hm : 0 < m) (hm1 : m ≤ 1048576) (ha : a ≤ 2 * m) (hn : n ≤ 12) : tile_Of.pl ((a : Int) - (m : Int)) (m : Int) (n : Int) = ((pln a m n : Nat) : Int) := by
  have h2 := pow12 hn
  have h0 : 0 < 2 ^ n := Nat.two_pow_pos n
  have hp : a * 2 ^ n ≤ 2097152 * 4096 := Nat.mul_le_mul (by omega) h2
  unfold tile_Of.pl
  rw [w64_id (x := (a : Int) - (m : Int) + (m : Int)) (by omega) (by omega), show (a : Int) - (m : Int) + (m : Int) = (a : Int) by omega, shl_nat a n (by omega) (by omega), w64_id (x := 2 * (m : Int)) (by omega) (by omega)]
  have s1 := shl_nat 1 n (by omega) (by omega)
  rw [show ((1 : Nat) : Int) = 1 from rfl] at s1
  rw [s1, tdiv_eq (by omega)]
  have e : ((a * 2 ^ n : Nat) : Int) / (2 * (m : Int)) = ((a * 2 ^ n / (2 * m) : Nat) : Int) := by
    rw [Int.natCast_ediv]; simp
  have hd : a * 2 ^ n / (2 * m) ≤ a * 2 ^ n := Nat.div_le_self _ _
  rw [e]
  unfold pln mn
  generalize a * 2 ^ n / (2 * m) = q at *
  generalize a * 2 ^ n = p at *
  generalize 2 ^ n = N at *
  rw [w64_id (x := (q : Int)) (by omega) (by omega), w64_id (x := ((1 * N : Nat) : Int) - 1) (by omega) (by omega)]
  split <;> split <;> omega
/-- A vector by its component of a face, and those of its columns and rows. -/
def emb (fc : Nat) (c u w : Int) : S67 := if fc / 2 = 0 then ⟨c, u, w⟩ else if fc / 2 = 1 then ⟨w, c, u⟩ else ⟨u, w, c⟩
theorem emb_0 (c u w : Int) : emb 0 c u w = ⟨c, u, w⟩ := rfl
theorem emb_1 (c u w : Int) : emb 1 c u w = ⟨c, u, w⟩ := rfl
theorem emb_2 (c u w : Int) : emb 2 c u w = ⟨w, c, u⟩ := rfl
theorem emb_3 (c u w : Int) : emb 3 c u w = ⟨w, c, u⟩ := rfl
theorem emb_4 (c u w : Int) : emb 4 c u w = ⟨u, w, c⟩ := rfl
theorem emb_5 (c u w : Int) : emb 5 c u w = ⟨u, w, c⟩ := rfl
theorem sum3 {X Y Z : Int} (hx : -1000000000000000000 ≤ X ∧ X ≤ 1000000000000000000) (hy : -1000000000000000000 ≤ Y ∧ Y ≤ 1000000000000000000) (hz : -1000000000000000000 ≤ Z ∧ Z ≤ 1000000000000000000) : wrap64 (wrap64 (wrap64 X + wrap64 Y) + wrap64 Z) = X + Y + Z := by
  rw [w64_id (x := X) (by omega) (by omega), w64_id (x := Y) (by omega) (by omega), w64_id (x := Z) (by omega) (by omega), w64_id (x := X + Y) (by omega) (by omega), w64_id (by omega) (by omega)]
theorem mx_le {a b B : Int} (ha : a ≤ B) (hb : b ≤ B) : mx a b ≤ B := by unfold mx; split <;> omega
theorem le_mn {a b B : Int} (ha : B ≤ a) (hb : B ≤ b) : B ≤ mn a b := by unfold mn; split <;> omega
theorem six {fc : Nat} (h : fc ≤ 5) : fc = 0 ∨ fc = 1 ∨ fc = 2 ∨ fc = 3 ∨ fc = 4 ∨ fc = 5 := by omega
/-- The absolute value of a component of a face, with its sign. -/
def sgn (fc : Nat) (m : Int) : Int := if fc % 2 = 1 then -m else m
theorem sgn_0 (m : Int) : sgn 0 m = m := rfl
theorem sgn_1 (m : Int) : sgn 1 m = -m := rfl
theorem sgn_2 (m : Int) : sgn 2 m = m := rfl
theorem sgn_3 (m : Int) : sgn 3 m = -m := rfl
theorem sgn_4 (m : Int) : sgn 4 m = m := rfl
theorem sgn_5 (m : Int) : sgn 5 m = -m := rfl
theorem sphere_ok {fc : Nat} (h : fc ≤ 5) {c u w : Int} (c0 : -1048576 ≤ c) (c1 : c ≤ 1048576) (u0 : -1048576 ≤ u) (u1 : u ≤ 1048576) (w0 : -1048576 ≤ w) (w1 : w ≤ 1048576) (hc : c ≠ 0) :
    Ev (fun k => sphere_Check.f k (emb fc c u w).f0 (emb fc c u w).f1 (emb fc c u w).f2) 0 := by
  have g : ∀ {x y z : Int}, -1048576 ≤ x → x ≤ 1048576 → -1048576 ≤ y → y ≤ 1048576 → -1048576 ≤ z → z ≤ 1048576 → ¬ (x = 0 ∧ y = 0 ∧ z = 0) → Ev (fun k => sphere_Check.f k x y z) 0 := by
    intro x y z x0 x1 y0 y1 z0 z1 hn
    have a := mx_le (mx_le x1 y1) z1
    have b := le_mn (le_mn x0 y0) z0
    unfold sphere_Check.f
    refine neg_ev (by omega) ?_
    rw [decide_eq_false (by omega)]
    refine one_ev fun k => ?_
    rw [sphere_Check.j0, if_neg (by decide), if_neg (by simpa using hn)]
  rcases six h with rfl | rfl | rfl | rfl | rfl | rfl
  · exact g c0 c1 u0 u1 w0 w1 (fun e => hc e.1)
  · exact g c0 c1 u0 u1 w0 w1 (fun e => hc e.1)
  · exact g w0 w1 c0 c1 u0 u1 (fun e => hc e.2.1)
  · exact g w0 w1 c0 c1 u0 u1 (fun e => hc e.2.1)
  · exact g u0 u1 w0 w1 c0 c1 (fun e => hc e.2.2)
  · exact g u0 u1 w0 w1 c0 c1 (fun e => hc e.2.2)
theorem at_eq {x N : Int} (x0 : 0 ≤ x) (x1 : x ≤ 4096) (n0 : 0 ≤ N) (n1 : N ≤ 4096) : wrap64 (wrap64 (2 * x) - N) = 2 * x - N := by
  rw [w64_id (x := 2 * x) (by omega) (by omega), w64_id (by omega) (by omega)]
theorem at_eq2 {x N : Int} (x0 : 0 ≤ x) (x1 : x ≤ 4096) (n0 : 0 ≤ N) (n1 : N ≤ 4096) : wrap64 (wrap64 (2 * wrap64 (x + 1)) - N) = 2 * x + 2 - N := by
  rw [w64_id (x := x + 1) (by omega) (by omega), w64_id (x := 2 * (x + 1)) (by omega) (by omega), w64_id (by omega) (by omega)]
  omega
theorem sides_ev {fc L X Y : Nat} (h : fc ≤ 5) (hL : L ≤ 12) (hX : X < 2 ^ L) (hY : Y < 2 ^ L) :
    Ev (fun k => tile_sides.f k ((tno (8 + fc) L X Y : Nat) : Int))
      [emb fc (-sgn fc (2 * (X : Int) - ((2 ^ L : Nat) : Int))) ((2 ^ L : Nat) : Int) 0, emb fc (sgn fc (2 * (X : Int) + 2 - ((2 ^ L : Nat) : Int))) (-((2 ^ L : Nat) : Int)) 0,
       emb fc (-sgn fc (2 * (Y : Int) - ((2 ^ L : Nat) : Int))) 0 ((2 ^ L : Nat) : Int), emb fc (sgn fc (2 * (Y : Int) + 2 - ((2 ^ L : Nat) : Int))) 0 (-((2 ^ L : Nat) : Int))] := by
  unfold tile_sides.f
  refine Ev.bind (spot_ev (by omega) (by omega) hL hX hY) (now_ev fun k => ?_)
  have h2 := pow12 hL
  have s1 := shl_nat 1 L (by omega) (by omega)
  rw [show ((1 : Nat) : Int) = 1 from rfl, Nat.one_mul] at s1
  have s2 : shl .i64 (-1) (L : Int) = -((2 ^ L : Nat) : Int) := by
    show IntKind.i64.wrap ((-1 : Int) * 2 ^ min (L : Int).toNat 64) = _
    rw [Int.toNat_natCast, show min L 64 = L by omega, i64_w]
    have e : (-1 : Int) * 2 ^ L = -((2 ^ L : Nat) : Int) := by simp
    rw [e, w64_id (by omega) (by omega)]
  simp only [tile_sides.g]
  rw [if_pos (by omega), s1, s2, show ((8 + fc : Nat) : Int) - 8 = (fc : Int) by omega]
  generalize 2 ^ L = N at *
  rw [at_eq (x := (X : Int)) (N := (N : Int)) (by omega) (by omega) (by omega) (by omega), at_eq (x := (Y : Int)) (N := (N : Int)) (by omega) (by omega) (by omega) (by omega), at_eq2 (x := (X : Int)) (N := (N : Int)) (by omega) (by omega) (by omega) (by omega), at_eq2 (x := (Y : Int)) (N := (N : Int)) (by omega) (by omega) (by omega) (by omega), show wrap64 (-1 : Int) = -1 from w64_id (by decide) (by decide), show wrap64 (- -1 : Int) = 1 from w64_id (by decide) (by decide)]
  have bX0 : -10000 ≤ 2 * (X : Int) - N := by omega
  have bX1 : 2 * (X : Int) - N ≤ 10000 := by omega
  have bX2 : -10000 ≤ 2 * (X : Int) + 2 - N := by omega
  have bX3 : 2 * (X : Int) + 2 - N ≤ 10000 := by omega
  have bY0 : -10000 ≤ 2 * (Y : Int) - N := by omega
  have bY1 : 2 * (Y : Int) - N ≤ 10000 := by omega
  have bY2 : -10000 ≤ 2 * (Y : Int) + 2 - N := by omega
  have bY3 : 2 * (Y : Int) + 2 - N ≤ 10000 := by omega
  generalize 2 * (X : Int) - N = a at *
  generalize 2 * (X : Int) + 2 - N = b at *
  generalize 2 * (Y : Int) - N = d at *
  generalize 2 * (Y : Int) + 2 - N = g at *
  have n1 : ∀ {x : Int}, -10000 ≤ x → x ≤ 10000 → wrap64 (-1 * x) = -x := fun h0 h1 => by rw [w64_id (by omega) (by omega)]; omega
  have n2 : ∀ {x : Int}, -10000 ≤ x → x ≤ 10000 → wrap64 (1 * x) = x := fun h0 h1 => by rw [w64_id (by omega) (by omega)]; omega
  have n3 : ∀ {x : Int}, -10000 ≤ x → x ≤ 10000 → wrap64 (-x) = -x := fun h0 h1 => by rw [w64_id (by omega) (by omega)]
  have n4 : ∀ {x : Int}, -10000 ≤ x → x ≤ 10000 → wrap64 (- -x) = x := fun h0 h1 => by rw [w64_id (by omega) (by omega)]; omega
  have e1 := n1 bX0 bX1
  have e2 := n2 bX2 bX3
  have e3 := n1 bY0 bY1
  have e4 := n2 bY2 bY3
  have e5 := n4 bX0 bX1
  have e6 := n4 bY0 bY1
  have e7 := n3 bX2 bX3
  have e8 := n3 bY2 bY3
  clear n1 n2 n3 n4 bX0 bX1 bX2 bX3 bY0 bY1 bY2 bY3
  rw [e1, e2, e3, e4, e5, e6, e7, e8]
  clear e1 e2 e3 e4 e5 e6 e7 e8
  rcases six h with rfl | rfl | rfl | rfl | rfl | rfl
  · rw [if_pos (by decide)]; simp only [emb_0, sgn_0]
  · rw [if_neg (by decide), if_pos (by decide)]; simp only [emb_1, sgn_1, Int.neg_neg]
  · rw [if_neg (by decide), if_neg (by decide), if_pos (by decide)]; simp only [emb_2, sgn_2]
  · rw [if_neg (by decide), if_neg (by decide), if_neg (by decide), if_pos (by decide)]; simp only [emb_3, sgn_3, Int.neg_neg]
  · rw [if_neg (by decide), if_neg (by decide), if_neg (by decide), if_neg (by decide), if_pos (by decide)]; simp only [emb_4, sgn_4]
  · rw [if_neg (by decide), if_neg (by decide), if_neg (by decide), if_neg (by decide), if_neg (by decide), if_pos (by decide)]; simp only [emb_5, sgn_5, Int.neg_neg]
theorem abs_eq {x : Int} (h0 : -1048576 ≤ x) (h1 : x ≤ 1048576) : tile_faceOf.a x = if x < 0 then -x else x := by
  unfold tile_faceOf.a mx
  rw [w64_id (x := -x) (by omega) (by omega)]
  split <;> split <;> omega
theorem abs_sgn {fc m : Nat} (hm : m ≤ 1048576) : tile_faceOf.a (sgn fc (m : Int)) = (m : Int) := by
  unfold sgn
  split
  · rw [abs_eq (by omega) (by omega)]; split <;> omega
  · rw [abs_eq (by omega) (by omega)]; split <;> omega
theorem face_of {x y z : Int} (x0 : -1048576 ≤ x) (x1 : x ≤ 1048576) (y0 : -1048576 ≤ y) (y1 : y ≤ 1048576) (z0 : -1048576 ≤ z) (z1 : z ≤ 1048576) (hn : ¬ (x = 0 ∧ y = 0 ∧ z = 0)) :
    ∃ fc m a b : Nat, fc ≤ 5 ∧ 0 < m ∧ m ≤ 1048576 ∧ a ≤ 2 * m ∧ b ≤ 2 * m ∧ (⟨x, y, z⟩ : S67) = emb fc (sgn fc m) ((a : Int) - m) ((b : Int) - m) ∧ tile_faceOf.f x y z = some (fc : Int) := by
  have key : ∀ c u w : Int, -1048576 ≤ c → c ≤ 1048576 → -1048576 ≤ u → u ≤ 1048576 → -1048576 ≤ w → w ≤ 1048576 → c ≠ 0 → tile_faceOf.a u ≤ tile_faceOf.a c → tile_faceOf.a w ≤ tile_faceOf.a c →
      ∃ m a b : Nat, 0 < m ∧ m ≤ 1048576 ∧ a ≤ 2 * m ∧ b ≤ 2 * m ∧ u = (a : Int) - m ∧ w = (b : Int) - m ∧ c = if c < 0 then -(m : Int) else (m : Int) := by
    intro c u w c0 c1 u0 u1 w0 w1 hc hu hw
    rw [abs_eq u0 u1, abs_eq c0 c1] at hu
    rw [abs_eq w0 w1, abs_eq c0 c1] at hw
    refine ⟨(if c < 0 then -c else c).toNat, (u + if c < 0 then -c else c).toNat, (w + if c < 0 then -c else c).toNat, ?_, ?_, ?_, ?_, ?_, ?_, ?_⟩
    all_goals (split at hu <;> split at hu <;> split at hw <;> (try split) <;> omega)
  have ax := abs_eq x0 x1
  have ay := abs_eq y0 y1
  have az := abs_eq z0 z1
  have nz : ∀ {c : Int}, -1048576 ≤ c → c ≤ 1048576 → 0 < tile_faceOf.a c → c ≠ 0 := by
    intro c h0 h1 h e; rw [abs_eq h0 h1, e] at h; simp at h
  unfold tile_faceOf.f
  by_cases h1 : tile_faceOf.a x < tile_faceOf.a y
  · rw [if_pos h1]
    by_cases h2 : tile_faceOf.a y < tile_faceOf.a z
    · rw [if_pos h2]
      obtain ⟨m, a, b, m0, m1, ha, hb, rfl, rfl, hc⟩ := key z x y z0 z1 x0 x1 y0 y1 (nz z0 z1 (by rw [ax] at h1; split at h1 <;> omega)) (by omega) (by omega)
      by_cases s : z < 0
      · rw [if_pos s] at hc ⊢; exact ⟨5, m, a, b, by decide, m0, m1, ha, hb, by rw [hc]; rfl, rfl⟩
      · rw [if_neg s] at hc ⊢; exact ⟨4, m, a, b, by decide, m0, m1, ha, hb, by rw [hc]; rfl, rfl⟩
    · rw [if_neg h2]
      obtain ⟨m, a, b, m0, m1, ha, hb, rfl, rfl, hc⟩ := key y z x y0 y1 z0 z1 x0 x1 (nz y0 y1 (by rw [ax] at h1; split at h1 <;> omega)) (by omega) (by omega)
      by_cases s : y < 0
      · rw [if_pos s] at hc ⊢; exact ⟨3, m, a, b, by decide, m0, m1, ha, hb, by rw [hc]; rfl, rfl⟩
      · rw [if_neg s] at hc ⊢; exact ⟨2, m, a, b, by decide, m0, m1, ha, hb, by rw [hc]; rfl, rfl⟩
  · rw [if_neg h1]
    by_cases h2 : tile_faceOf.a x < tile_faceOf.a z
    · rw [if_pos h2]
      obtain ⟨m, a, b, m0, m1, ha, hb, rfl, rfl, hc⟩ := key z x y z0 z1 x0 x1 y0 y1 (nz z0 z1 (by rw [ax] at h2; split at h2 <;> omega)) (by omega) (by omega)
      by_cases s : z < 0
      · rw [if_pos s] at hc ⊢; exact ⟨5, m, a, b, by decide, m0, m1, ha, hb, by rw [hc]; rfl, rfl⟩
      · rw [if_neg s] at hc ⊢; exact ⟨4, m, a, b, by decide, m0, m1, ha, hb, by rw [hc]; rfl, rfl⟩
    · rw [if_neg h2]
      have hx : x ≠ 0 := by
        intro e
        apply hn
        subst e
        rw [ax] at h1 h2
        rw [ay] at h1; rw [az] at h2
        split at h1 <;> split at h2 <;> omega
      obtain ⟨m, a, b, m0, m1, ha, hb, rfl, rfl, hc⟩ := key x y z x0 x1 y0 y1 z0 z1 hx (by omega) (by omega)
      by_cases s : x < 0
      · rw [if_pos s] at hc ⊢; exact ⟨1, m, a, b, by decide, m0, m1, ha, hb, by rw [hc]; rfl, rfl⟩
      · rw [if_neg s] at hc ⊢; exact ⟨0, m, a, b, by decide, m0, m1, ha, hb, by rw [hc]; rfl, rfl⟩
theorem sgn_bd {fc m : Nat} (m0 : 0 < m) (m1 : m ≤ 1048576) : -1048576 ≤ sgn fc (m : Int) ∧ sgn fc (m : Int) ≤ 1048576 ∧ sgn fc (m : Int) ≠ 0 := by unfold sgn; split <;> omega
theorem h_eq {fc m a b n : Nat} (h : fc ≤ 5) (m0 : 0 < m) (m1 : m ≤ 1048576) (ha : a ≤ 2 * m) (hb : b ≤ 2 * m) (hn : n ≤ 12) :
    tile_Of.h (sgn fc (m : Int)) ((a : Int) - m) ((b : Int) - m) n ((8 + fc : Nat) : Int) = some (((tno (8 + fc) n (pln a m n) (pln b m n) : Nat) : Int), 0) := by
  unfold tile_Of.h
  rw [abs_sgn m1, w64_id (x := 2 * (m : Int)) (by omega) (by omega), if_neg (by omega), pl_nat m0 m1 ha hn, pl_nat m0 m1 hb hn]
  have l := of_l0 (F := 8 + fc) (X := pln a m n) (Y := pln b m n) (by omega) n 0 (by omega)
  rw [Nat.zero_add] at l
  have e : tno (8 + fc) 0 (pln a m n / 2 ^ n) (pln b m n / 2 ^ n) = 8 + fc := rfl
  rw [e] at l
  rw [l]
theorem of_ev {fc m a b n : Nat} (h : fc ≤ 5) (m0 : 0 < m) (m1 : m ≤ 1048576) (ha : a ≤ 2 * m) (hb : b ≤ 2 * m) (hn : n ≤ 12)
    (hf : tile_faceOf.f (emb fc (sgn fc m) ((a : Int) - m) ((b : Int) - m)).f0 (emb fc (sgn fc m) ((a : Int) - m) ((b : Int) - m)).f1 (emb fc (sgn fc m) ((a : Int) - m) ((b : Int) - m)).f2 = some (fc : Int)) :
    Ev (fun k => tile_Of.f k (emb fc (sgn fc m) ((a : Int) - m) ((b : Int) - m)).f0 (emb fc (sgn fc m) ((a : Int) - m) ((b : Int) - m)).f1 (emb fc (sgn fc m) ((a : Int) - m) ((b : Int) - m)).f2 (n : Int)) (((tno (8 + fc) n (pln a m n) (pln b m n) : Nat) : Int), 0) := by
  have sb := sgn_bd (fc := fc) m0 m1
  have H := h_eq h m0 m1 ha hb hn
  unfold tile_Of.f
  refine Ev.bind (sphere_ok h sb.1 sb.2.1 (by omega) (by omega) (by omega) (by omega) sb.2.2) (pos_ev rfl (neg_ev (by omega) (neg_ev (by omega) (some_ev hf (now_ev fun k => ?_)))))
  rw [Int.toNat_natCast]
  unfold tile_Of.g
  rcases six h with rfl | rfl | rfl | rfl | rfl | rfl
  all_goals exact H
theorem fact_ev : Ev (fun k => spykeep1_tileFact.f k) true :=
  Ev.of (fun k => spykeep1_tileFact.mono k) (k := 30) (by decide +kernel)
end Go.Proofs.Ytbaedcjophgiiaa.Q
end

section
/- An edge of a cone of whole numbers: where finitely many walls leave no line, a direction within them leads to an edge at which two of them meet; no condition beyond what each statement says. -/
namespace Go.Proofs.Ytbaedcjophgiiaa.Q
structure V3 where
  x : Int
  y : Int
  z : Int
namespace V3
def dot (a b : V3) : Int := a.x * b.x + a.y * b.y + a.z * b.z
def cross (a b : V3) : V3 := ⟨a.y * b.z - a.z * b.y, a.z * b.x - a.x * b.z, a.x * b.y - a.y * b.x⟩
def nz (a : V3) : Prop := a.x ≠ 0 ∨ a.y ≠ 0 ∨ a.z ≠ 0
def comb (s : Int) (v : V3) (t : Int) (d : V3) : V3 := ⟨s * v.x + t * d.x, s * v.y + t * d.y, s * v.z + t * d.z⟩
theorem dot_comb (n v d : V3) (s t : Int) : dot n (comb s v t d) = s * dot n v + t * dot n d := by
  simp only [dot, comb]; grind
theorem cross_swap (a b : V3) : cross b a = ⟨-(cross a b).x, -(cross a b).y, -(cross a b).z⟩ := by
  simp only [cross, V3.mk.injEq]; refine ⟨?_, ?_, ?_⟩ <;> grind
theorem sq_pos {a : V3} (h : a.nz) : 0 < dot a a := by
  have s : ∀ x : Int, 0 ≤ x * x := fun x => by
    rcases Int.le_total 0 x with h | h
    · exact Int.mul_nonneg h h
    · exact Int.mul_nonneg_of_nonpos_of_nonpos h h
  have p : ∀ x : Int, x ≠ 0 → 0 < x * x := fun x hx => by
    rcases Int.lt_or_gt_of_ne hx with h | h
    · exact Int.mul_pos_of_neg_of_neg h h
    · exact Int.mul_pos h h
  have := s a.x; have := s a.y; have := s a.z
  unfold dot
  rcases h with h | h | h <;> have := p _ h <;> omega
theorem nz_of_dot {a b : V3} (h : dot a b ≠ 0) : b.nz := by
  unfold nz
  by_cases x0 : b.x = 0
  · by_cases y0 : b.y = 0
    · by_cases z0 : b.z = 0
      · exfalso; apply h; simp [dot, x0, y0, z0]
      · exact .inr (.inr z0)
    · exact .inr (.inl y0)
  · exact .inl x0
/-- v at a right angle to a and b: what it says of k is what their product says. -/
theorem para (a b v k : V3) (h1 : dot a v = 0) (h2 : dot b v = 0) : dot k v * dot (cross a b) (cross a b) = dot k (cross a b) * dot (cross a b) v := by
  simp only [dot, cross] at *
  grind
theorem para0 (t v : V3) (h1 : dot t v = 0) : dot (cross t v) (cross t v) = dot t t * dot v v := by
  simp only [dot, cross] at *
  grind
theorem dot_cross_l (t v : V3) : dot t (cross t v) = 0 := by simp only [dot, cross]; grind
theorem dot_cross_r (t v : V3) : dot v (cross t v) = 0 := by simp only [dot, cross]; grind
/-- At a right angle to one of two vectors of one direction: to the other one. -/
theorem para2 (t n d : V3) (ht : t.nz) (hc : ¬ (cross t n).nz) (h : dot t d = 0) : dot n d = 0 := by
  unfold nz at hc
  have c1 : (cross t n).x = 0 := by omega
  have c2 : (cross t n).y = 0 := by omega
  have c3 : (cross t n).z = 0 := by omega
  have p := sq_pos ht
  have : dot t t * dot n d = 0 := by
    have e : dot t t * dot n d = dot t n * dot t d - dot (cross t n) (cross d t) := by simp only [dot, cross]; grind
    rw [e, h]
    simp [dot, c1, c2, c3]
  rcases Int.mul_eq_zero.mp this with h | h
  · omega
  · exact h
end V3
namespace V3
/-- The least quotient of a list of which some denominators are positive. -/
theorem least {α : Type} (f g : α → Int) (l : List α) (hf : ∀ a ∈ l, 0 ≤ f a) (h : ∃ a ∈ l, 0 < g a) : ∃ a ∈ l, 0 < g a ∧ ∀ b ∈ l, 0 ≤ f b * g a - f a * g b := by
  induction l with
  | nil => obtain ⟨a, ha, _⟩ := h; cases ha
  | cons c l ih =>
    have hf' : ∀ a ∈ l, 0 ≤ f a := fun a ha => hf a (List.mem_cons_of_mem _ ha)
    have fc := hf c (List.mem_cons_self ..)
    by_cases h' : ∃ a ∈ l, 0 < g a
    · obtain ⟨a, ha, ga, hb⟩ := ih hf' h'
      have fa := hf' a ha
      by_cases k : 0 ≤ f c * g a - f a * g c
      · exact ⟨a, List.mem_cons_of_mem _ ha, ga, fun b m => by
          rcases List.mem_cons.1 m with rfl | m
          · exact k
          · exact hb b m⟩
      · have gc : 0 < g c := by
          rcases Int.lt_or_le 0 (g c) with q | q
          · exact q
          · exfalso; apply k
            have := Int.mul_nonneg fc (Int.le_of_lt ga)
            have := Int.mul_nonneg fa (show 0 ≤ - g c by omega)
            have e : f a * - g c = -(f a * g c) := by grind
            omega
        refine ⟨c, List.mem_cons_self .., gc, fun b m => ?_⟩
        rcases List.mem_cons.1 m with rfl | m
        · rw [Int.sub_self]; exact Int.le_refl _
        · have h1 := hb b m
          -- f b * g a ≥ f a * g b, f a * g c > f c * g a : f b * g c * g a ≥ f a * g b * g c
          have h2 : 0 < f a * g c - f c * g a := by omega
          have : 0 ≤ (f b * g c - f c * g b) * g a := by
            by_cases gb : 0 ≤ g b
            · have e : (f b * g c - f c * g b) * g a = (f b * g a - f a * g b) * g c + (f a * g c - f c * g a) * g b := by grind
              rw [e]
              have := Int.mul_nonneg h1 (Int.le_of_lt gc)
              have := Int.mul_nonneg (Int.le_of_lt h2) gb
              omega
            · have x1 := Int.mul_nonneg (hf' b m) (Int.le_of_lt gc)
              have x2 := Int.mul_nonneg fc (show 0 ≤ - g b by omega)
              have e : f c * - g b = -(f c * g b) := by grind
              exact Int.mul_nonneg (by omega) (Int.le_of_lt ga)
          rcases Int.lt_or_le (f b * g c - f c * g b) 0 with q | q
          · have := Int.mul_neg_of_neg_of_pos q ga; omega
          · exact q
    · obtain ⟨a, ha, ga⟩ := h
      rcases List.mem_cons.1 ha with rfl | ha
      · refine ⟨a, List.mem_cons_self .., ga, fun b m => ?_⟩
        rcases List.mem_cons.1 m with rfl | m
        · rw [Int.sub_self]; exact Int.le_refl _
        · have gb : g b ≤ 0 := by
            rcases Int.lt_or_le 0 (g b) with q | q
            · exact absurd ⟨b, m, q⟩ h'
            · exact q
          have x1 := Int.mul_nonneg (hf' b m) (Int.le_of_lt ga)
          have x2 := Int.mul_nonneg fc (show 0 ≤ - g b by omega)
          have e : f a * - g b = -(f a * g b) := by grind
          omega
      · exact absurd ⟨a, ha, ga⟩ h'
def free (l : List V3) (v : V3) : Nat := l.countP (fun n => !decide (dot n v = 0))
/-- A direction that moves with its walls, and meets one more. -/
theorem step (l : List V3) (v d : V3) (hd : d.nz) (hsp : ∀ d : V3, d.nz → ∃ n ∈ l, dot n d ≠ 0) (hin : ∀ n ∈ l, 0 ≤ dot n v)
    (hc : (cross v d).nz) (ht : ∀ n ∈ l, dot n v = 0 → dot n d = 0) : ∃ u : V3, u.nz ∧ (∀ n ∈ l, 0 ≤ dot n u) ∧ free l u < free l v := by
  -- d or -d goes down at some wall
  have hgo : ∃ e : V3, (∃ n ∈ l, 0 < - dot n e) ∧ (cross v e).nz ∧ (∀ n ∈ l, dot n v = 0 → dot n e = 0) := by
    obtain ⟨n, hn, h0⟩ := hsp d hd
    by_cases q : dot n d < 0
    · exact ⟨d, ⟨n, hn, by omega⟩, hc, ht⟩
    · refine ⟨comb 0 v (-1) d, ⟨n, hn, by rw [dot_comb]; omega⟩, ?_, fun m hm z => by rw [dot_comb, ht m hm z]; omega⟩
      unfold nz at *
      simp only [cross, comb] at *
      grind
  obtain ⟨e, ⟨n0, hn0, g0⟩, hce, hte⟩ := hgo
  obtain ⟨a, ha, ga, hb⟩ := least (fun n => dot n v) (fun n => - dot n e) l hin ⟨n0, hn0, g0⟩
  have ga : 0 < - dot a e := ga
  have hb : ∀ b ∈ l, 0 ≤ dot b v * - dot a e - dot a v * - dot b e := hb
  refine ⟨comb (- dot a e) v (dot a v) e, ?_, fun n hn => ?_, ?_⟩
  · have hx : cross (comb (- dot a e) v (dot a v) e) e = ⟨- dot a e * (cross v e).x, - dot a e * (cross v e).y, - dot a e * (cross v e).z⟩ := by
      simp only [cross, comb, V3.mk.injEq]; refine ⟨?_, ?_, ?_⟩ <;> grind
    generalize comb (- dot a e) v (dot a v) e = u at hx
    unfold nz
    have gn : - dot a e ≠ 0 := by omega
    by_cases z : u.x = 0 ∧ u.y = 0 ∧ u.z = 0
    · obtain ⟨z1, z2, z3⟩ := z
      exfalso
      simp only [cross, z1, z2, z3, V3.mk.injEq] at hx
      simp only [Int.zero_mul, Int.sub_self] at hx
      obtain ⟨h1, h2, h3⟩ := hx
      unfold nz at hce
      simp only [cross] at hce
      rcases hce with h | h | h
      · exact h ((Int.mul_eq_zero.mp h1.symm).resolve_left gn)
      · exact h ((Int.mul_eq_zero.mp h2.symm).resolve_left gn)
      · exact h ((Int.mul_eq_zero.mp h3.symm).resolve_left gn)
    · omega
  · rw [dot_comb]
    have := hb n hn
    have e1 : dot n v * - dot a e = - dot a e * dot n v := by grind
    have e2 : dot a v * - dot n e = -(dot a v * dot n e) := by grind
    omega
  · unfold free
    -- every wall stays, a is new
    have hav : dot a v ≠ 0 := fun z => by have := hte a ha z; omega
    have key : ∀ l' : List V3, (∀ n ∈ l', n ∈ l) → l'.countP (fun n => !decide (dot n (comb (- dot a e) v (dot a v) e) = 0)) ≤ l'.countP (fun n => !decide (dot n v = 0)) ∧ (a ∈ l' → l'.countP (fun n => !decide (dot n (comb (- dot a e) v (dot a v) e) = 0)) < l'.countP (fun n => !decide (dot n v = 0))) := by
      intro l'
      induction l' with
      | nil => intro _; exact ⟨Nat.le_refl _, fun h => by cases h⟩
      | cons c l' ih =>
        intro hs
        obtain ⟨i1, i2⟩ := ih (fun n hn => hs n (List.mem_cons_of_mem _ hn))
        have hcl := hs c (List.mem_cons_self ..)
        have hcc : dot c v = 0 → dot c (comb (- dot a e) v (dot a v) e) = 0 := fun z => by rw [dot_comb, z, hte c hcl z]; omega
        have hca : c = a → dot c (comb (- dot a e) v (dot a v) e) = 0 := fun z => by rw [dot_comb, z]; grind
        simp only [List.countP_cons]
        refine ⟨?_, fun m => ?_⟩
        · by_cases z : dot c v = 0
          · simp [z, hcc z]; exact i1
          · simp [z]; split <;> omega
        · rcases List.mem_cons.1 m with rfl | m
          · simp [hca rfl, hav]; omega
          · have := i2 m
            by_cases z : dot c v = 0
            · simp [z, hcc z]; exact this
            · simp [z]; split <;> omega
    exact (key l (fun _ h => h)).2 ha
/-- Where walls leave no line, a direction within them leads to an edge at which two of them meet. -/
theorem edge (l : List V3) (hsp : ∀ d : V3, d.nz → ∃ n ∈ l, dot n d ≠ 0) (k : Nat) : ∀ v : V3, free l v ≤ k → v.nz → (∀ n ∈ l, 0 ≤ dot n v) →
    ∃ a ∈ l, ∃ b ∈ l, (cross a b).nz ∧ ((∀ n ∈ l, 0 ≤ dot n (cross a b)) ∨ (∀ n ∈ l, dot n (cross a b) ≤ 0)) := by
  induction k with
  | zero =>
    intro v hk hv hin
    exfalso
    obtain ⟨n, hn, h⟩ := hsp v hv
    have : 0 < free l v := List.countP_pos_iff.2 ⟨n, hn, by simpa using h⟩
    omega
  | succ k ih =>
    intro v hk hv hin
    by_cases hT : ∃ a ∈ l, ∃ b ∈ l, dot a v = 0 ∧ dot b v = 0 ∧ (cross a b).nz
    · obtain ⟨a, ha, b, hb, h1, h2, hc⟩ := hT
      refine ⟨a, ha, b, hb, hc, ?_⟩
      have pc := sq_pos hc
      have P := fun n => para a b v n h1 h2
      have hcv : dot (cross a b) v ≠ 0 := by
        intro z
        have := P v
        rw [z] at this
        have := sq_pos hv
        have := Int.mul_pos this pc
        omega
      rcases Int.lt_or_gt_of_ne hcv with q | q
      · right
        intro n hn
        have e := P n
        have := Int.mul_nonneg (hin n hn) (Int.le_of_lt pc)
        rcases Int.lt_or_le 0 (dot n (cross a b)) with r | r
        · have := Int.mul_neg_of_pos_of_neg r q; omega
        · exact r
      · left
        intro n hn
        have e := P n
        have := Int.mul_nonneg (hin n hn) (Int.le_of_lt pc)
        rcases Int.lt_or_le (dot n (cross a b)) 0 with r | r
        · have := Int.mul_neg_of_neg_of_pos r q; omega
        · exact r
    · -- at most one wall: move
      have hd : ∃ d : V3, d.nz ∧ (cross v d).nz ∧ (∀ n ∈ l, dot n v = 0 → dot n d = 0) := by
        by_cases ht : ∃ t ∈ l, dot t v = 0 ∧ t.nz
        · obtain ⟨t, htl, h1, h2⟩ := ht
          have p1 := sq_pos h2
          have p2 := sq_pos hv
          have p3 : 0 < dot (cross t v) (cross t v) := by rw [para0 t v h1]; exact Int.mul_pos p1 p2
          refine ⟨cross t v, nz_of_dot (a := cross t v) (by omega), ?_, fun n hn h0 => ?_⟩
          · have : 0 < dot (cross v (cross t v)) (cross v (cross t v)) := by
              rw [para0 v (cross t v) (dot_cross_r t v)]; exact Int.mul_pos p2 p3
            exact nz_of_dot (a := cross v (cross t v)) (by omega)
          · exact para2 t n _ h2 (fun hc => hT ⟨t, htl, n, hn, h1, h0, hc⟩) (dot_cross_l t v)
        · have zz : ∀ n ∈ l, dot n v = 0 → ∀ d, dot n d = 0 := fun n hn h0 d => by
            have : ¬ n.nz := fun h => ht ⟨n, hn, h0, h⟩
            unfold nz at this
            have a1 : n.x = 0 := by omega
            have a2 : n.y = 0 := by omega
            have a3 : n.z = 0 := by omega
            simp [dot, a1, a2, a3]
          by_cases x0 : v.x = 0
          · by_cases y0 : v.y = 0
            · refine ⟨⟨1, 0, 0⟩, by simp [nz], ?_, fun n hn h => zz n hn h _⟩
              unfold nz at *; simp only [cross]; omega
            · refine ⟨⟨1, 0, 0⟩, by simp [nz], ?_, fun n hn h => zz n hn h _⟩
              unfold nz at *; simp only [cross]; omega
          · refine ⟨⟨0, 1, 0⟩, by simp [nz], ?_, fun n hn h => zz n hn h _⟩
            unfold nz at *; simp only [cross]; omega
      obtain ⟨d, h1, h2, h3⟩ := hd
      obtain ⟨u, hu, hui, hlt⟩ := step l v d h1 hsp hin h2 h3
      exact ih u (by omega) hu hui
end V3
end Go.Proofs.Ytbaedcjophgiiaa.Q
end

section
/- Wrapping, shifts and products of 64 bits: what the printed functions of math/bits compute; no other condition than those that each statement names. -/
namespace Go.Proofs.Ytbaedcjophgiiaa.Q
open Go.RowKit Go.Proofs.YtbaedcjophgiiaaW.PrintWords Go.Proofs.YtbaedcjophgiiaaW.PrintLast Go.Proofs.YtbaedcjophgiiaaW.PrintMore
set_option linter.unusedVariables false
set_option linter.unusedSimpArgs false

theorem uw (x : Int) : IntKind.u64.wrap x = x % 18446744073709551616 := u64_wrap_eq x
theorem uw_id {x : Int} (h0 : 0 ≤ x) (h1 : x < 18446744073709551616) : IntKind.u64.wrap x = x := by rw [uw]; omega
theorem u64_mask32 {x : Int} (h0 : 0 ≤ x) (h1 : x < 18446744073709551616) : Go.bits .and .u64 x 4294967295 = x % 4294967296 :=
  Go.bits_mask .u64 64 (by decide) (fun n h h' => by rw [uw]; omega) 32 (by decide) x h0 h1

theorem mul64 {a b : Int} (a0 : 0 ≤ a) (a1 : a < 18446744073709551616) (b0 : 0 ≤ b) (b1 : b < 18446744073709551616) :
    bits_Mul64.f a b = some (a * b / 18446744073709551616, a * b % 18446744073709551616) := by
  unfold bits_Mul64.f
  rw [u64_mask32 a0 a1, u64_mask32 b0 b1]
  generalize hx1 : a / 4294967296 = x1
  generalize hx0 : a % 4294967296 = x0
  generalize hy1 : b / 4294967296 = y1
  generalize hy0 : b % 4294967296 = y0
  have hx : a = x1 * 4294967296 + x0 := by omega
  have hy : b = y1 * 4294967296 + y0 := by omega
  have p : ∀ {u v : Int}, 0 ≤ u → u ≤ 4294967295 → 0 ≤ v → v ≤ 4294967295 → 0 ≤ u * v ∧ u * v ≤ 18446744065119617025 := by
    intro u v hu0 hu1 hv0 hv1
    refine ⟨Int.mul_nonneg hu0 hv0, ?_⟩
    have := Int.mul_le_mul hu1 hv1 hv0 (by omega)
    omega
  have q11 := p (u := x1) (v := y1) (by omega) (by omega) (by omega) (by omega)
  have q10 := p (u := x1) (v := y0) (by omega) (by omega) (by omega) (by omega)
  have q01 := p (u := x0) (v := y1) (by omega) (by omega) (by omega) (by omega)
  have q00 := p (u := x0) (v := y0) (by omega) (by omega) (by omega) (by omega)
  have e : a * b = x1 * y1 * 18446744073709551616 + (x1 * y0 + x0 * y1) * 4294967296 + x0 * y0 := by
    rw [hx, hy]; grind
  rw [e]
  generalize x1 * y1 = P at *
  generalize x1 * y0 = Q at *
  generalize x0 * y1 = R at *
  generalize x0 * y0 = S at *
  rw [uw_id (x := S) (by omega) (by omega), uw_id (x := Q) (by omega) (by omega), uw_id (x := R) (by omega) (by omega), uw_id (x := P) (by omega) (by omega),
    uw_id (x := Q + S / 4294967296) (by omega) (by omega), u64_mask32 (by omega) (by omega), uw, uw, uw]
  congr 2 <;> omega

theorem size_some {a : Int} (h0 : -9223372036854775808 ≤ a) (h1 : a < 9223372036854775808) : num_size.f a = some (if a < 0 then -a else a) := by
  unfold num_size.f
  split
  · rw [uw, uw]; congr 1; omega
  · rw [uw]; congr 1; omega
end Go.Proofs.Ytbaedcjophgiiaa.Q
end

section
/- Package num of the program in plain numbers: products of 128 bits, their sums, order, quotients and remainders; the bounds stand in each statement. -/
namespace Go.Proofs.Ytbaedcjophgiiaa.Q
open Go.RowKit Go.Proofs.YtbaedcjophgiiaaW.PrintWords Go.Proofs.YtbaedcjophgiiaaW.PrintLast Go.Proofs.YtbaedcjophgiiaaW.PrintMore
set_option linter.unusedVariables false
set_option linter.unusedSimpArgs false

/-- What a product of two numbers of 64 bits lies between. -/
theorem prod_bd {a b : Int} (a0 : -9223372036854775808 ≤ a) (a1 : a < 9223372036854775808) (b0 : -9223372036854775808 ≤ b) (b1 : b < 9223372036854775808) :
    -85070591730234615865843651857942052864 ≤ a * b ∧ a * b ≤ 85070591730234615865843651857942052864 := by
  have h : (a * b).natAbs ≤ 9223372036854775808 * 9223372036854775808 := by
    rw [Int.natAbs_mul]; exact Nat.mul_le_mul (by omega) (by omega)
  omega

theorem wide_neg {v : Int} (h0 : -170141183460469231731687303715884105728 < v) (h1 : v < 170141183460469231731687303715884105728) :
    num_Wide_Neg.f (v / 18446744073709551616) (v % 18446744073709551616) = some (-v / 18446744073709551616, -v % 18446744073709551616) := by
  unfold num_Wide_Neg.f
  rw [if_pos (by omega), if_pos (by omega)]
  congr 2
  · unfold wrap64; omega
  · omega

theorem product {a b : Int} (a0 : -9223372036854775808 ≤ a) (a1 : a < 9223372036854775808) (b0 : -9223372036854775808 ≤ b) (b1 : b < 9223372036854775808) :
    num_Product.f a b = some (a * b / 18446744073709551616, a * b % 18446744073709551616) := by
  have hb := prod_bd a0 a1 b0 b1
  unfold num_Product.f
  rw [size_some a0 a1, size_some b0 b1]
  simp only [Option.bind_some]
  rw [mul64 (by split <;> omega) (by split <;> omega) (by split <;> omega) (by split <;> omega)]
  simp only [Option.bind_some]
  by_cases ha : a < 0 <;> by_cases hc : b < 0
  · rw [if_pos ha, if_pos hc, if_neg (by simp [ha, hc]), Int.neg_mul_neg]
    congr 2
    unfold wrap64; omega
  · rw [if_pos ha, if_neg hc, if_pos (by simp [ha]; omega), Int.neg_mul, w64_id (by omega) (by omega), wide_neg (by omega) (by omega)]
    simp only [Option.bind_some, Int.neg_neg]
  · rw [if_neg ha, if_pos hc, if_pos (by simp [hc]; omega), Int.mul_neg, w64_id (by omega) (by omega), wide_neg (by omega) (by omega)]
    simp only [Option.bind_some, Int.neg_neg]
  · rw [if_neg ha, if_neg hc, if_neg (by simp [ha, hc])]
    congr 2
    unfold wrap64; omega

theorem andNot63 {x : Int} (h0 : 0 ≤ x) (h1 : x < 18446744073709551616) : Go.bits .andNot .u64 x 9223372036854775808 = x % 9223372036854775808 := by
  obtain ⟨n, rfl⟩ := Int.eq_ofNat_of_zero_le h0
  rw [Go.u64_andNot _ _ (by omega) (by omega) (by decide) (by decide)]
  rw [show (18446744073709551615 - (9223372036854775808 : Int).toNat) = 9223372036854775807 from rfl, Int.toNat_natCast, Go.nat_mask63]
  omega

theorem gcd_l0 (n : Nat) : ∀ x y : Nat, y ≤ n → x ≤ 9223372036854775808 → y ≤ 9223372036854775808 → Ev (fun k => num_Gcd.l0 k (x : Int) (y : Int)) ((Nat.gcd x y : Int) % 9223372036854775808) := by
  induction n with
  | zero =>
    intro x y hy hx hy'
    obtain rfl : y = 0 := by omega
    refine one_ev fun k => ?_
    rw [num_Gcd.l0, if_neg (by decide), andNot63 (by omega) (by omega), w64_id (by omega) (by omega), Nat.gcd_zero_right]
  | succ n ih =>
    intro x y hy hx hy'
    by_cases z : y = 0
    · subst z
      refine one_ev fun k => ?_
      rw [num_Gcd.l0, if_neg (by decide), andNot63 (by omega) (by omega), w64_id (by omega) (by omega), Nat.gcd_zero_right]
    · have hm : x % y < y := Nat.mod_lt _ (by omega)
      refine Ev.step (fun k => by rw [num_Gcd.l0, if_pos (by omega), if_neg (by omega), tmod_eq (by omega), ← Int.natCast_emod]) ?_
      rw [show Nat.gcd x y = Nat.gcd y (x % y) by rw [Nat.gcd_comm, Nat.gcd_rec, Nat.gcd_comm]]
      exact ih y (x % y) (by omega) hy' (by omega)

theorem gcd_ev {a b : Int} (a0 : -9223372036854775808 ≤ a) (a1 : a < 9223372036854775808) (b0 : -9223372036854775808 ≤ b) (b1 : b < 9223372036854775808) :
    Ev (fun k => num_Gcd.f k a b) ((Int.gcd a b : Int) % 9223372036854775808) := by
  have e : ∀ c : Int, (if c < 0 then -c else c) = (c.natAbs : Int) := fun c => by split <;> omega
  refine Ev.congr (f := fun k => num_Gcd.l0 k (a.natAbs : Int) (b.natAbs : Int)) (fun k => ?_) ?_
  · unfold num_Gcd.f
    rw [size_some a0 a1, size_some b0 b1, e, e]; rfl
  · exact gcd_l0 _ _ _ (Nat.le_refl _) (by omega) (by omega)

end Go.Proofs.Ytbaedcjophgiiaa.Q
end

section
/- Whether a tile has a direction of a zone, in plain numbers: what the program's test of edges answers, for rows of vectors with components up to 2^20; the bounds stand in each statement. -/
namespace Go.Proofs.Ytbaedcjophgiiaa.Q
open Go.RowKit Go.Proofs.YtbaedcjophgiiaaW.PrintWords Go.Proofs.YtbaedcjophgiiaaW.PrintLast Go.Proofs.YtbaedcjophgiiaaW.PrintMore
set_option linter.unusedVariables false
set_option linter.unusedSimpArgs false
abbrev VS := S67
def tv (s : VS) : V3 := ⟨s.f0, s.f1, s.f2⟩
def bdv (B : Int) (v : V3) : Prop := (-B ≤ v.x ∧ v.x ≤ B) ∧ (-B ≤ v.y ∧ v.y ≤ B) ∧ (-B ≤ v.z ∧ v.z ≤ B)
theorem mul_bd {x y B C : Int} (hB : 0 ≤ B) (hC : 0 ≤ C) (x0 : -B ≤ x) (x1 : x ≤ B) (y0 : -C ≤ y) (y1 : y ≤ C) : -(B * C) ≤ x * y ∧ x * y ≤ B * C := by
  have a : x.natAbs * y.natAbs ≤ B.natAbs * C.natAbs := Nat.mul_le_mul (by omega) (by omega)
  have b : (x * y).natAbs = x.natAbs * y.natAbs := Int.natAbs_mul x y
  have c : (B * C).natAbs = B.natAbs * C.natAbs := Int.natAbs_mul B C
  have d : 0 ≤ B * C := Int.mul_nonneg hB hC
  omega
theorem plus_of {P R : Int} (p0 : -100000000000000000000000000000 ≤ P) (p1 : P ≤ 100000000000000000000000000000) (r0 : -100000000000000000000000000000 ≤ R) (r1 : R ≤ 100000000000000000000000000000) :
    num_Wide_Plus.f (P / 18446744073709551616) (P % 18446744073709551616) (R / 18446744073709551616) (R % 18446744073709551616) = some ((P + R) / 18446744073709551616, (P + R) % 18446744073709551616) := by
  unfold num_Wide_Plus.f
  rw [if_pos (by omega), if_pos (by omega), if_pos (by omega), if_pos (by omega), w64_id (by omega) (by omega)]
  congr 2
  · omega
  · omega
theorem dec_div (s : Int) : decide (s / 18446744073709551616 < 0) = decide (s < 0) := decide_eq_decide.mpr (by omega)
theorem crosses11 (n v : VS) (hn : bdv 1048576 (tv n)) (hv : bdv 4398046511104 (tv v)) : tile_crosses_1_1.f n.f0 n.f1 n.f2 [v] = some (decide (V3.dot (tv n) (tv v) < 0)) := by
  obtain ⟨⟨n0, n1⟩, ⟨n2, n3⟩, n4, n5⟩ := hn
  obtain ⟨⟨v0, v1⟩, ⟨v2, v3⟩, v4, v5⟩ := hv
  simp only [tv] at *
  have px := mul_bd (by decide) (by decide) n0 n1 v0 v1
  have py := mul_bd (by decide) (by decide) n2 n3 v2 v3
  have pz := mul_bd (by decide) (by decide) n4 n5 v4 v5
  have e : rd_T67 [v] 0 = v := rfl
  unfold tile_crosses_1_1.f
  rw [e, product (by omega) (by omega) (by omega) (by omega), product (by omega) (by omega) (by omega) (by omega), product (by omega) (by omega) (by omega) (by omega)]
  simp only [Option.bind_some]
  rw [if_pos (by simp), if_pos (by simp), plus_of (by omega) (by omega) (by omega) (by omega)]
  simp only [Option.bind_some]
  rw [if_pos (by simp), plus_of (by omega) (by omega) (by omega) (by omega)]
  simp only [Option.bind_some, V3.dot]
  refine congrArg some ?_
  exact dec_div _
theorem rdT_get {L : List VS} {i : Nat} (h : i < L.length) : rd_T67 L (i : Int) = L[i] := by
  simp [rd_T67, h]
theorem idx_ev (L : List VS) (v : VS) (hL : ∀ n ∈ L, bdv 1048576 (tv n)) (hv : bdv 4398046511104 (tv v)) (hl : L.length ≤ 1000) (d : Nat) : ∀ i : Nat, i + d = L.length →
    ∃ r : Int, Ev (fun k => slices_IndexFunc_api_Vec_api_Vec__tile_crosses_1_1.l0 k L (L.length : Int) (i : Int) [v]) r ∧ (r < 0 ↔ ∀ n ∈ L.drop i, 0 ≤ V3.dot (tv n) (tv v)) := by
  induction d with
  | zero =>
    intro i hi
    refine ⟨-1, one_ev fun k => by rw [slices_IndexFunc_api_Vec_api_Vec__tile_crosses_1_1.l0, if_neg (by omega)], ?_⟩
    rw [List.drop_of_length_le (by omega)]
    simp
  | succ d ih =>
    intro i hi
    have hi' : i < L.length := by omega
    have hc := crosses11 L[i] v (hL _ (List.getElem_mem hi')) hv
    rw [List.drop_eq_getElem_cons hi']
    by_cases h : V3.dot (tv L[i]) (tv v) < 0
    · rw [decide_eq_true h] at hc
      refine ⟨(i : Int), Ev.step (f := fun _ => some (i : Int)) (fun k => by rw [slices_IndexFunc_api_Vec_api_Vec__tile_crosses_1_1.l0, if_pos (by omega), if_pos (by omega), if_pos (by omega), rdT_get hi', hc]; simp only [Option.bind_some, if_true]) (Ev.now _), ?_⟩
      refine ⟨fun z => by omega, fun z => ?_⟩
      have := z L[i] (List.mem_cons_self ..)
      omega
    · rw [decide_eq_false h] at hc
      obtain ⟨r, hr, hi2⟩ := ih (i + 1) (by omega)
      refine ⟨r, Ev.step (f := fun k => slices_IndexFunc_api_Vec_api_Vec__tile_crosses_1_1.l0 k L (L.length : Int) ((i + 1 : Nat) : Int) [v]) (fun k => by rw [slices_IndexFunc_api_Vec_api_Vec__tile_crosses_1_1.l0, if_pos (by omega), if_pos (by omega), if_pos (by omega), rdT_get hi', hc]; simp only [Option.bind_some, Bool.false_eq_true, if_false]; rw [w64_id (x := (i : Int) + 1) (by omega) (by omega)]; rfl) hr, ?_⟩
      rw [hi2]
      refine ⟨fun z n hn => ?_, fun z n hn => z n (List.mem_cons_of_mem _ hn)⟩
      rcases List.mem_cons.1 hn with rfl | hn
      · omega
      · exact z n hn
theorem inside_ev (L : List VS) (v : V3) (hL : ∀ n ∈ L, bdv 1048576 (tv n)) (hv : bdv 4398046511104 v) (hl : L.length ≤ 1000) :
    ∃ b : Bool, Ev (fun k => tile_crosses_1.f k v.x v.y v.z [L]) b ∧ (b = true ↔ ∀ n ∈ L, 0 ≤ V3.dot (tv n) v) := by
  obtain ⟨r, hr, h⟩ := idx_ev L ⟨v.x, v.y, v.z⟩ hL hv hl L.length 0 (by omega)
  refine ⟨!decide (r ≥ 0), ?_, ?_⟩
  · unfold tile_crosses_1.f slices_ContainsFunc_api_Vec_api_Vec__tile_crosses_1_1.f slices_IndexFunc_api_Vec_api_Vec__tile_crosses_1_1.f
    refine pos_ev (by simp) (Ev.bind (Ev.bind (a := r) ?_ (Ev.now _)) (Ev.now _))
    exact hr
  · rw [List.drop_zero] at h
    rw [show (tv ⟨v.x, v.y, v.z⟩) = v from rfl] at h
    rw [← h]
    by_cases z : r < 0
    · simp [z]
    · simp [z] <;> omega
theorem gcd_bd {a b B : Int} (hB : 0 ≤ B) (a0 : -B ≤ a) (a1 : a ≤ B) (b0 : -B ≤ b) (b1 : b ≤ B) : (Int.gcd a b : Int) ≤ B := by
  by_cases z : a = 0
  · subst z
    rw [Int.gcd_zero_left]
    omega
  · have := Int.gcd_le_natAbs_left b z
    omega
theorem tdiv_of {g x B : Int} (hg : 0 < g) (hd : g ∣ x) (x0 : -B ≤ x) (x1 : x ≤ B) : x = g * Int.tdiv x g ∧ -B ≤ Int.tdiv x g ∧ Int.tdiv x g ≤ B := by
  obtain ⟨y, rfl⟩ := hd
  rw [Int.mul_tdiv_cancel_left _ (by omega)]
  refine ⟨rfl, ?_, ?_⟩
  · by_cases h : 0 ≤ y
    · have : 0 ≤ g * y := Int.mul_nonneg (by omega) h
      omega
    · have : g * y ≤ 1 * y := Int.mul_le_mul_of_nonpos_right (by omega) (by omega)
      omega
  · by_cases h : 0 ≤ y
    · have : 1 * y ≤ g * y := Int.mul_le_mul_of_nonneg_right (by omega) h
      omega
    · have : g * y ≤ 0 := Int.mul_nonpos_of_nonneg_of_nonpos (by omega) (by omega)
      omega
theorem reduce_ev (c : V3) (hc : bdv 4398046511104 c) :
    ∃ u : V3, Ev (fun k => tile_reduce.f k c.x c.y c.z) (u.x, u.y, u.z) ∧ bdv 4398046511104 u ∧ ∃ g : Int, 0 < g ∧ c.x = g * u.x ∧ c.y = g * u.y ∧ c.z = g * u.z := by
  obtain ⟨⟨x0, x1⟩, ⟨y0, y1⟩, z0, z1⟩ := hc
  have b1 := gcd_bd (by decide) x0 x1 y0 y1
  have g1 := gcd_ev (a := c.x) (b := c.y) (by omega) (by omega) (by omega) (by omega)
  rw [Int.emod_eq_of_lt (by omega) (by omega)] at g1
  have b2 := gcd_bd (a := (Int.gcd c.x c.y : Int)) (b := c.z) (B := 4398046511104) (by decide) (by omega) (by omega) z0 z1
  have g2 := gcd_ev (a := (Int.gcd c.x c.y : Int)) (b := c.z) (by omega) (by omega) (by omega) (by omega)
  rw [Int.emod_eq_of_lt (by omega) (by omega)] at g2
  have d0 : ((Int.gcd (Int.gcd c.x c.y : Int) c.z : Nat) : Int) ∣ (Int.gcd c.x c.y : Int) := Int.gcd_dvd_left ..
  have dz : ((Int.gcd (Int.gcd c.x c.y : Int) c.z : Nat) : Int) ∣ c.z := Int.gcd_dvd_right ..
  have dx : ((Int.gcd (Int.gcd c.x c.y : Int) c.z : Nat) : Int) ∣ c.x := Int.dvd_trans d0 (Int.gcd_dvd_left ..)
  have dy : ((Int.gcd (Int.gcd c.x c.y : Int) c.z : Nat) : Int) ∣ c.y := Int.dvd_trans d0 (Int.gcd_dvd_right ..)
  generalize ((Int.gcd (Int.gcd c.x c.y : Int) c.z : Nat) : Int) = g at *
  unfold tile_reduce.f
  by_cases h : g < 2
  · exact ⟨c, Ev.bind g1 (Ev.bind g2 (pos_ev h (Ev.now _))), ⟨⟨x0, x1⟩, ⟨y0, y1⟩, z0, z1⟩, 1, by decide, by omega, by omega, by omega⟩
  · obtain ⟨ex, ex0, ex1⟩ := tdiv_of (by omega) dx x0 x1
    obtain ⟨ey, ey0, ey1⟩ := tdiv_of (by omega) dy y0 y1
    obtain ⟨ez, ez0, ez1⟩ := tdiv_of (by omega) dz z0 z1
    refine ⟨⟨Int.tdiv c.x g, Int.tdiv c.y g, Int.tdiv c.z g⟩, Ev.bind g1 (Ev.bind g2 (neg_ev h (neg_ev (by omega) (now_ev fun k => ?_)))), ⟨⟨ex0, ex1⟩, ⟨ey0, ey1⟩, ez0, ez1⟩, g, by omega, ex, ey, ez⟩
    rw [w64_id (by omega) (by omega), w64_id (by omega) (by omega), w64_id (by omega) (by omega)]
theorem cross_of (a b : VS) (ha : bdv 1048576 (tv a)) (hb : bdv 1048576 (tv b)) :
    tile_cross.f a.f0 a.f1 a.f2 b.f0 b.f1 b.f2 = some ((V3.cross (tv a) (tv b)).x, (V3.cross (tv a) (tv b)).y, (V3.cross (tv a) (tv b)).z) ∧ bdv 4398046511104 (V3.cross (tv a) (tv b)) := by
  obtain ⟨⟨a0, a1⟩, ⟨a2, a3⟩, a4, a5⟩ := ha
  obtain ⟨⟨b0, b1⟩, ⟨b2, b3⟩, b4, b5⟩ := hb
  simp only [tv] at *
  have p1 := mul_bd (by decide) (by decide) a2 a3 b4 b5
  have p2 := mul_bd (by decide) (by decide) a4 a5 b2 b3
  have p3 := mul_bd (by decide) (by decide) a4 a5 b0 b1
  have p4 := mul_bd (by decide) (by decide) a0 a1 b4 b5
  have p5 := mul_bd (by decide) (by decide) a0 a1 b2 b3
  have p6 := mul_bd (by decide) (by decide) a2 a3 b0 b1
  simp only [V3.cross, bdv]
  refine ⟨?_, ⟨by omega, by omega⟩, ⟨by omega, by omega⟩, by omega, by omega⟩
  unfold tile_cross.f
  rw [w64_id (x := a.f1 * b.f2) (by omega) (by omega), w64_id (x := a.f2 * b.f1) (by omega) (by omega), w64_id (x := a.f2 * b.f0) (by omega) (by omega), w64_id (x := a.f0 * b.f2) (by omega) (by omega), w64_id (x := a.f0 * b.f1) (by omega) (by omega), w64_id (x := a.f1 * b.f0) (by omega) (by omega),
    w64_id (by omega) (by omega), w64_id (by omega) (by omega), w64_id (by omega) (by omega)]
end Go.Proofs.Ytbaedcjophgiiaa.Q
end

section
/- The double loop over a row of walls: it answers true where two of them, one behind the other, meet in an edge of the cone; and so it does where the cone holds a direction at all; the bounds stand in each statement. -/
namespace Go.Proofs.Ytbaedcjophgiiaa.Q
open Go.RowKit Go.Proofs.YtbaedcjophgiiaaW.PrintWords Go.Proofs.YtbaedcjophgiiaaW.PrintLast Go.Proofs.YtbaedcjophgiiaaW.PrintMore
set_option linter.unusedVariables false
set_option linter.unusedSimpArgs false
def edgeP (L : List VS) (a b : VS) : Prop := (V3.cross (tv a) (tv b)).nz ∧ ((∀ n ∈ L, 0 ≤ V3.dot (tv n) (V3.cross (tv a) (tv b))) ∨ (∀ n ∈ L, V3.dot (tv n) (V3.cross (tv a) (tv b)) ≤ 0))
theorem dot_scale (n u : V3) (g : Int) (c : V3) (h1 : c.x = g * u.x) (h2 : c.y = g * u.y) (h3 : c.z = g * u.z) : V3.dot n c = g * V3.dot n u := by
  simp only [V3.dot, h1, h2, h3]; grind
theorem dot_neg (n u : V3) : V3.dot n ⟨-u.x, -u.y, -u.z⟩ = -V3.dot n u := by simp only [V3.dot]; grind
theorem pos_mul_iff {g s : Int} (hg : 0 < g) : 0 ≤ g * s ↔ 0 ≤ s := by
  constructor
  · intro h
    rcases Int.lt_or_le s 0 with k | k
    · have := Int.mul_neg_of_pos_of_neg hg k; omega
    · exact k
  · intro h; exact Int.mul_nonneg (by omega) h
theorem nz_scale {c u : V3} {g : Int} (hg : 0 < g) (h1 : c.x = g * u.x) (h2 : c.y = g * u.y) (h3 : c.z = g * u.z) : c.nz ↔ u.nz := by
  have k : ∀ y : Int, g * y ≠ 0 ↔ y ≠ 0 := fun y => by
    constructor
    · intro h e; exact h (by rw [e, Int.mul_zero])
    · intro h e; rcases Int.mul_eq_zero.mp e with e | e <;> omega
  unfold V3.nz
  rw [h1, h2, h3, k, k, k]
/-- One round of the inner loop. -/
theorem pair_ev (L : List VS) (n m : VS) (hL : ∀ n ∈ L, bdv 1048576 (tv n)) (hl : L.length ≤ 1000) (hn : bdv 1048576 (tv n)) (hm : bdv 1048576 (tv m)) {next : Nat → Option Bool} {R : Bool} (hR : Ev next R) :
    ∃ b : Bool, Ev (fun k => (tile_cross.f n.f0 n.f1 n.f2 m.f0 m.f1 m.f2).bind fun bt110 => ((tile_reduce.f k bt110.1 bt110.2.1 bt110.2.2).bind fun bt113 => (if (!(bt113.1 == 0) || (!(bt113.2.1 == 0) || (!(bt113.2.2 == 0)))) = true then ((tile_crosses_1.f k bt113.1 bt113.2.1 bt113.2.2 [L]).bind fun t117 => (if t117 = true then (some true) else ((tile_crosses_1.f k (wrap64 (-bt113.1)) (wrap64 (-bt113.2.1)) (wrap64 (-bt113.2.2)) [L]).bind fun t118 => (if t118 = true then (some true) else next k)))) else next k))) b ∧ (b = true ↔ edgeP L n m ∨ R = true) := by
  obtain ⟨hc, hcb⟩ := cross_of n m hn hm
  obtain ⟨u, hu, hub, g, hg, e1, e2, e3⟩ := reduce_ev _ hcb
  have hnz := nz_scale hg e1 e2 e3
  have hdot : ∀ k : VS, V3.dot (tv k) (V3.cross (tv n) (tv m)) = g * V3.dot (tv k) u := fun k => dot_scale _ _ _ _ e1 e2 e3
  have hpos : (∀ k ∈ L, 0 ≤ V3.dot (tv k) (V3.cross (tv n) (tv m))) ↔ ∀ k ∈ L, 0 ≤ V3.dot (tv k) u :=
    ⟨fun h k hk => (pos_mul_iff hg).1 (by rw [← hdot]; exact h k hk), fun h k hk => by rw [hdot]; exact (pos_mul_iff hg).2 (h k hk)⟩
  have hneg : (∀ k ∈ L, V3.dot (tv k) (V3.cross (tv n) (tv m)) ≤ 0) ↔ ∀ k ∈ L, 0 ≤ V3.dot (tv k) ⟨-u.x, -u.y, -u.z⟩ := by
    refine ⟨fun h k hk => ?_, fun h k hk => ?_⟩
    · rw [dot_neg]
      have h1 := h k hk
      rw [hdot] at h1
      have h2 : g * -V3.dot (tv k) u = -(g * V3.dot (tv k) u) := Int.mul_neg ..
      exact (pos_mul_iff hg).1 (by omega)
    · have h1 := h k hk
      rw [dot_neg] at h1
      have h2 : g * -V3.dot (tv k) u = -(g * V3.dot (tv k) u) := Int.mul_neg ..
      have h3 := (pos_mul_iff hg).2 h1
      rw [hdot]; omega
  obtain ⟨⟨u0, u1⟩, ⟨u2, u3⟩, u4, u5⟩ := hub
  obtain ⟨p, hp, hpi⟩ := inside_ev L u hL ⟨⟨u0, u1⟩, ⟨u2, u3⟩, u4, u5⟩ hl
  obtain ⟨p2, hp2, hpi2⟩ := inside_ev L ⟨-u.x, -u.y, -u.z⟩ hL ⟨⟨by simp only []; omega, by simp only []; omega⟩, ⟨by simp only []; omega, by simp only []; omega⟩, by simp only []; omega, by simp only []; omega⟩ hl
  unfold edgeP
  rw [hnz, hpos, hneg, ← hpi, ← hpi2]
  by_cases z : u.nz
  · have zt : (!(u.x == 0) || (!(u.y == 0) || (!(u.z == 0)))) = true := by
      unfold V3.nz at z
      rcases z with z | z | z <;> simp [z]
    have w : wrap64 (-u.x) = -u.x ∧ wrap64 (-u.y) = -u.y ∧ wrap64 (-u.z) = -u.z := ⟨w64_id (by omega) (by omega), w64_id (by omega) (by omega), w64_id (by omega) (by omega)⟩
    cases p
    · cases p2
      · exact ⟨R, some_ev hc (Ev.bind hu (pos_ev zt (Ev.bind hp (neg_ev (by decide) (by simp only [w.1, w.2.1, w.2.2]; exact Ev.bind hp2 (neg_ev (by decide) hR)))))), by simp⟩
      · exact ⟨true, some_ev hc (Ev.bind hu (pos_ev zt (Ev.bind hp (neg_ev (by decide) (by simp only [w.1, w.2.1, w.2.2]; exact Ev.bind hp2 (pos_ev rfl (Ev.now _))))))), by simp [z]⟩
    · exact ⟨true, some_ev hc (Ev.bind hu (pos_ev zt (Ev.bind hp (pos_ev rfl (Ev.now _))))), by simp [z]⟩
  · have zt : ¬ (!(u.x == 0) || (!(u.y == 0) || (!(u.z == 0)))) = true := by
      unfold V3.nz at z
      have a1 : u.x = 0 := by omega
      have a2 : u.y = 0 := by omega
      have a3 : u.z = 0 := by omega
      simp [a1, a2, a3]
    exact ⟨R, some_ev hc (Ev.bind hu (neg_ev zt hR)), by simp [z]⟩
theorem l1_ev (L : List VS) (hL : ∀ n ∈ L, bdv 1048576 (tv n)) (hl : L.length ≤ 1000) (i : Nat) (hi : i < L.length) {R : Bool}
    (hR : Ev (fun k => tile_crossesL.l0 k L (L.length : Int) ((i + 1 : Nat) : Int) L) R) (ms : List VS) (hms : ∀ m ∈ ms, m ∈ L) (hml : ms.length ≤ 1000) (d : Nat) : ∀ j : Nat, j + d = ms.length →
    ∃ b : Bool, Ev (fun k => tile_crossesL.l1 k L (L.length : Int) (i : Int) ms (ms.length : Int) (j : Int) L L[i].f0 L[i].f1 L[i].f2) b ∧ (b = true ↔ (∃ m ∈ ms.drop j, edgeP L L[i] m) ∨ R = true) := by
  induction d with
  | zero =>
    intro j hj
    refine ⟨R, Ev.step (f := fun k => tile_crossesL.l0 k L (L.length : Int) ((i + 1 : Nat) : Int) L) (fun k => by rw [tile_crossesL.l1, if_neg (by omega), w64_id (x := (i : Int) + 1) (by omega) (by omega)]; rfl) hR, ?_⟩
    rw [List.drop_of_length_le (by omega)]
    simp
  | succ d ih =>
    intro j hj
    have hj' : j < ms.length := by omega
    obtain ⟨R2, hR2, hi2⟩ := ih (j + 1) (by omega)
    obtain ⟨b, hb, hbi⟩ := pair_ev L L[i] ms[j] hL hl (hL _ (List.getElem_mem hi)) (hL _ (hms _ (List.getElem_mem hj'))) hR2
    refine ⟨b, Ev.step (fun k => ?_) hb, ?_⟩
    · rw [tile_crossesL.l1, if_pos (by omega), if_pos (by omega), if_pos (by omega), rdT_get hj', w64_id (x := (j : Int) + 1) (by omega) (by omega), show (j : Int) + 1 = ((j + 1 : Nat) : Int) by omega]
    · rw [hbi, hi2, List.drop_eq_getElem_cons hj']
      constructor
      · rintro (h | ⟨m, hm, h⟩ | h)
        · exact .inl ⟨_, List.mem_cons_self .., h⟩
        · exact .inl ⟨m, List.mem_cons_of_mem _ hm, h⟩
        · exact .inr h
      · rintro (⟨m, hm, h⟩ | h)
        · rcases List.mem_cons.1 hm with rfl | hm
          · exact .inl h
          · exact .inr (.inl ⟨m, hm, h⟩)
        · exact .inr (.inr h)
theorem l0_ev (L : List VS) (hL : ∀ n ∈ L, bdv 1048576 (tv n)) (hl : L.length ≤ 1000) (d : Nat) : ∀ i : Nat, i + d = L.length →
    ∃ b : Bool, Ev (fun k => tile_crossesL.l0 k L (L.length : Int) (i : Int) L) b ∧ (b = true ↔ ∃ (p : Nat) (h : p < L.length), i ≤ p ∧ ∃ m ∈ L.take p, edgeP L L[p] m) := by
  induction d with
  | zero =>
    intro i hi
    refine ⟨false, one_ev fun k => by rw [tile_crossesL.l0, if_neg (by omega)], ?_⟩
    constructor
    · intro h; cases h
    · rintro ⟨p, h, h2, _⟩; omega
  | succ d ih =>
    intro i hi
    have hi' : i < L.length := by omega
    obtain ⟨R, hR, hRi⟩ := ih (i + 1) (by omega)
    obtain ⟨b, hb, hbi⟩ := l1_ev L hL hl i hi' hR (L.take i) (fun m hm => List.mem_of_mem_take hm) (by simp; omega) (L.take i).length 0 (by omega)
    refine ⟨b, Ev.step (fun k => ?_) hb, ?_⟩
    · rw [tile_crossesL.l0, if_pos (by omega), if_pos (by omega), if_pos (by omega), if_pos (by omega), rdT_get hi']
      simp only [Option.bind_some, Int.toNat_natCast]
      rfl
    · rw [hbi, hRi, List.drop_zero]
      constructor
      · rintro (⟨m, hm, h⟩ | ⟨p, hp, h1, h2⟩)
        · exact ⟨i, hi', Nat.le_refl _, m, hm, h⟩
        · exact ⟨p, hp, by omega, h2⟩
      · rintro ⟨p, hp, h1, m, hm, h2⟩
        by_cases e : p = i
        · subst e; exact .inl ⟨m, hm, h2⟩
        · exact .inr ⟨p, hp, by omega, m, hm, h2⟩
theorem edge_swap {L : List VS} {a b : VS} (h : edgeP L a b) : edgeP L b a := by
  unfold edgeP at *
  rw [V3.cross_swap (tv a) (tv b)]
  obtain ⟨h1, h2⟩ := h
  refine ⟨?_, ?_⟩
  · unfold V3.nz at *; simp only []; omega
  · rcases h2 with h2 | h2
    · right; intro n hn; rw [dot_neg]; have := h2 n hn; omega
    · left; intro n hn; rw [dot_neg]; have := h2 n hn; omega
/-- The test of a row of walls that leave no line: whether the cone holds a direction. -/
theorem test_ev (L : List VS) (hL : ∀ n ∈ L, bdv 1048576 (tv n)) (hl : L.length ≤ 1000) (hsp : ∀ d : V3, d.nz → ∃ n ∈ L, V3.dot (tv n) d ≠ 0) :
    ∃ b : Bool, Ev (fun k => tile_crossesL.f k L) b ∧ (b = true ↔ ∃ u : V3, u.nz ∧ ∀ n ∈ L, 0 ≤ V3.dot (tv n) u) := by
  obtain ⟨b, hb, hbi⟩ := l0_ev L hL hl L.length 0 (by omega)
  refine ⟨b, hb, ?_⟩
  rw [hbi]
  constructor
  · rintro ⟨p, hp, _, m, hm, hz, h⟩
    rcases h with h | h
    · exact ⟨_, hz, h⟩
    · refine ⟨⟨-(V3.cross (tv L[p]) (tv m)).x, -(V3.cross (tv L[p]) (tv m)).y, -(V3.cross (tv L[p]) (tv m)).z⟩, ?_, fun n hn => ?_⟩
      · unfold V3.nz at *; simp only []; omega
      · rw [dot_neg]; have := h n hn; omega
  · rintro ⟨u, hu, h⟩
    obtain ⟨a, ha, c, hc, hz, h2⟩ := V3.edge (L.map tv) (fun d hd => by obtain ⟨n, hn, h⟩ := hsp d hd; exact ⟨tv n, List.mem_map_of_mem hn, h⟩) _ u (Nat.le_refl _) hu (fun n hn => by
      obtain ⟨m, hm, rfl⟩ := List.mem_map.1 hn; exact h m hm)
    obtain ⟨a, haL, rfl⟩ := List.mem_map.1 ha
    obtain ⟨c, hcL, rfl⟩ := List.mem_map.1 hc
    have E : edgeP L a c := ⟨hz, by
      rcases h2 with h2 | h2
      · exact .inl fun n hn => h2 _ (List.mem_map_of_mem hn)
      · exact .inr fun n hn => h2 _ (List.mem_map_of_mem hn)⟩
    obtain ⟨p, hp, rfl⟩ := List.mem_iff_getElem.1 haL
    obtain ⟨q, hq, rfl⟩ := List.mem_iff_getElem.1 hcL
    have tk : ∀ {x y : Nat} (hx : x < L.length), x < y → L[x] ∈ L.take y := fun {x y} hx h => List.mem_iff_getElem.2 ⟨x, by simp; omega, by simp⟩
    rcases Nat.lt_trichotomy p q with k | k | k
    · exact ⟨q, hq, by omega, _, tk hp k, edge_swap E⟩
    · subst k
      exfalso
      unfold V3.nz at hz
      simp only [V3.cross] at hz
      grind
    · exact ⟨p, hp, by omega, _, tk hq k, E⟩
end Go.Proofs.Ytbaedcjophgiiaa.Q
end

section
/- Zones in plain numbers: which tiles the cover of a zone has, and that a row has a number; the bounds stand in each statement. -/
namespace Go.Proofs.Ytbaedcjophgiiaa.Q
open Go.RowKit Go.Proofs.YtbaedcjophgiiaaW.PrintWords Go.Proofs.YtbaedcjophgiiaaW.PrintLast Go.Proofs.YtbaedcjophgiiaaW.PrintMore
set_option linter.unusedVariables false
set_option linter.unusedSimpArgs false
theorem ev_one {α : Type} {g : Nat → Option α} {r s : α} (h : Ev g r) (h2 : Ev g s) : r = s := by
  obtain ⟨K, hK⟩ := h
  obtain ⟨M, hM⟩ := h2
  exact Option.some.inj ((hK (K + M) (by omega)).symm.trans (hM (K + M) (by omega)))
theorem wn1 {i : Nat} (h : i ≤ 1000) : wrap64 ((i : Int) + 1) = ((i + 1 : Nat) : Int) := by rw [w64_id (by omega) (by omega)]; rfl
theorem big_lt {i : Nat} (h : i ≤ 1000) : i < 5864062014805 := by omega
/-- The sides of a tile. -/
def sd (fc L X Y : Nat) : List VS := [emb fc (-sgn fc (2 * (X : Int) - ((2 ^ L : Nat) : Int))) ((2 ^ L : Nat) : Int) 0, emb fc (sgn fc (2 * (X : Int) + 2 - ((2 ^ L : Nat) : Int))) (-((2 ^ L : Nat) : Int)) 0,
       emb fc (-sgn fc (2 * (Y : Int) - ((2 ^ L : Nat) : Int))) 0 ((2 ^ L : Nat) : Int), emb fc (sgn fc (2 * (Y : Int) + 2 - ((2 ^ L : Nat) : Int))) 0 (-((2 ^ L : Nat) : Int))]
theorem sgn_le {fc : Nat} {m B : Int} (h0 : -B ≤ m) (h1 : m ≤ B) : -B ≤ sgn fc m ∧ sgn fc m ≤ B := by unfold sgn; split <;> omega
theorem emb_bd {fc : Nat} (h : fc ≤ 5) {c u w B : Int} (c0 : -B ≤ c) (c1 : c ≤ B) (u0 : -B ≤ u) (u1 : u ≤ B) (w0 : -B ≤ w) (w1 : w ≤ B) : bdv B (tv (emb fc c u w)) := by
  rcases six h with rfl | rfl | rfl | rfl | rfl | rfl
  · exact ⟨⟨c0, c1⟩, ⟨u0, u1⟩, w0, w1⟩
  · exact ⟨⟨c0, c1⟩, ⟨u0, u1⟩, w0, w1⟩
  · exact ⟨⟨w0, w1⟩, ⟨c0, c1⟩, u0, u1⟩
  · exact ⟨⟨w0, w1⟩, ⟨c0, c1⟩, u0, u1⟩
  · exact ⟨⟨u0, u1⟩, ⟨w0, w1⟩, c0, c1⟩
  · exact ⟨⟨u0, u1⟩, ⟨w0, w1⟩, c0, c1⟩
theorem sd_bd {fc L X Y : Nat} (h : fc ≤ 5) (hL : L ≤ 12) (hX : X < 2 ^ L) (hY : Y < 2 ^ L) : ∀ n ∈ sd fc L X Y, bdv 1048576 (tv n) := by
  have h2 := pow12 hL
  unfold sd
  generalize 2 ^ L = N at *
  intro n hn
  simp only [List.mem_cons, List.not_mem_nil, or_false] at hn
  have a1 := sgn_le (fc := fc) (m := 2 * (X : Int) - (N : Int)) (B := 10000) (by omega) (by omega)
  have a2 := sgn_le (fc := fc) (m := 2 * (X : Int) + 2 - (N : Int)) (B := 10000) (by omega) (by omega)
  have a3 := sgn_le (fc := fc) (m := 2 * (Y : Int) - (N : Int)) (B := 10000) (by omega) (by omega)
  have a4 := sgn_le (fc := fc) (m := 2 * (Y : Int) + 2 - (N : Int)) (B := 10000) (by omega) (by omega)
  rcases hn with rfl | rfl | rfl | rfl <;> exact emb_bd h (by omega) (by omega) (by omega) (by omega) (by omega) (by omega)
/-- A vector by its components. -/
def cmpo (fc : Nat) (d : V3) : Int × Int × Int := if fc / 2 = 0 then (d.x, d.y, d.z) else if fc / 2 = 1 then (d.y, d.z, d.x) else (d.z, d.x, d.y)
theorem dot_cmpo {fc : Nat} (h : fc ≤ 5) (c u w : Int) (d : V3) : V3.dot (tv (emb fc c u w)) d = c * (cmpo fc d).1 + u * (cmpo fc d).2.1 + w * (cmpo fc d).2.2 := by
  rcases six h with rfl | rfl | rfl | rfl | rfl | rfl
  all_goals simp only [emb_0, emb_1, emb_2, emb_3, emb_4, emb_5, tv, V3.dot, cmpo]
  all_goals simp
  all_goals grind
theorem sd_span {fc L X Y : Nat} (h : fc ≤ 5) (d : V3) (hd : d.nz) : ∃ n ∈ sd fc L X Y, V3.dot (tv n) d ≠ 0 := by
  apply Classical.byContradiction
  intro hc
  have hz : ∀ n ∈ sd fc L X Y, V3.dot (tv n) d = 0 := fun n hn => Classical.byContradiction fun e => hc ⟨n, hn, e⟩
  have hN : 0 < 2 ^ L := Nat.two_pow_pos L
  unfold sd at hz
  generalize 2 ^ L = N at *
  have z1 := hz _ (List.mem_cons_self ..)
  have z2 := hz _ (List.mem_cons_of_mem _ (List.mem_cons_self ..))
  have z3 := hz _ (List.mem_cons_of_mem _ (List.mem_cons_of_mem _ (List.mem_cons_self ..)))
  rw [dot_cmpo h] at z1 z2 z3
  have key : (cmpo fc d).1 = 0 := by
    have e : (sgn fc (2 * (X : Int) + 2 - (N : Int)) - sgn fc (2 * (X : Int) - (N : Int))) * (cmpo fc d).1 = 0 := by grind
    rcases Int.mul_eq_zero.mp e with e | e
    · exfalso; unfold sgn at e; split at e <;> omega
    · exact e
  rw [key] at z1 z3
  have n0 : (N : Int) ≠ 0 := by omega
  have k2 : (cmpo fc d).2.1 = 0 := by
    rcases Int.mul_eq_zero.mp (show (N : Int) * (cmpo fc d).2.1 = 0 by omega) with e | e
    · exact absurd e n0
    · exact e
  have k3 : (cmpo fc d).2.2 = 0 := by
    rcases Int.mul_eq_zero.mp (show (N : Int) * (cmpo fc d).2.2 = 0 by omega) with e | e
    · exact absurd e n0
    · exact e
  unfold V3.nz at hd
  rcases six h with rfl | rfl | rfl | rfl | rfl | rfl <;> simp only [cmpo] at key k2 k3 <;> simp at key k2 k3 <;> omega
/-- A cone holds a direction. -/
def holds (L : List VS) : Prop := ∃ u : V3, u.nz ∧ ∀ n ∈ L, 0 ≤ V3.dot (tv n) u
theorem zone1_ev {fc L X Y : Nat} (h : fc ≤ 5) (hL : L ≤ 12) (hX : X < 2 ^ L) (hY : Y < 2 ^ L) (ls : List VS) (hls : ∀ n ∈ ls, bdv 1048576 (tv n)) (hl : ls.length ≤ 100) :
    ∃ b : Bool, Ev (fun k => tile_Zone_1.f k ((tno (8 + fc) L X Y : Nat) : Int) [ls]) b ∧ (b = true ↔ holds (sd fc L X Y ++ ls)) := by
  obtain ⟨b, hb, hbi⟩ := test_ev (sd fc L X Y ++ ls) (fun n hn => by
      rcases List.mem_append.1 hn with hn | hn
      · exact sd_bd h hL hX hY n hn
      · exact hls n hn) (by rw [List.length_append, show (sd fc L X Y).length = 4 from rfl]; omega)
    (fun d hd => by obtain ⟨n, hn, e⟩ := sd_span (fc := fc) (L := L) (X := X) (Y := Y) h d hd; exact ⟨n, List.mem_append_left _ hn, e⟩)
  refine ⟨b, ?_, hbi⟩
  unfold tile_Zone_1.f tile_crosses.f
  refine pos_ev (by simp) (Ev.bind (Ev.bind (sides_ev h hL hX hY) (some_ev (a := sd fc L X Y ++ ls) ?_ hb)) (Ev.now _))
  show slices_Concat2.f (sd fc L X Y) ls = _
  unfold slices_Concat2.f
  rw [if_pos (show (sd fc L X Y).length ≤ 1000 by rw [show (sd fc L X Y).length = 4 from rfl]; omega), if_pos (by omega)]
open Classical in
/-- Whether the program says that a tile has a direction of the zone. -/
noncomputable def pz (ls : List VS) (t : Int) : Bool := decide (Ev (fun k => tile_Zone_1.f k t [ls]) true)
def good (j : Nat) (t : Int) : Prop := ∃ fc X Y : Nat, fc ≤ 5 ∧ X < 2 ^ j ∧ Y < 2 ^ j ∧ t = ((tno (8 + fc) j X Y : Nat) : Int)
open Classical in
theorem pz_at {fc L X Y : Nat} (h : fc ≤ 5) (hL : L ≤ 12) (hX : X < 2 ^ L) (hY : Y < 2 ^ L) (ls : List VS) (hls : ∀ n ∈ ls, bdv 1048576 (tv n)) (hl : ls.length ≤ 100) :
    Ev (fun k => tile_Zone_1.f k ((tno (8 + fc) L X Y : Nat) : Int) [ls]) (pz ls ((tno (8 + fc) L X Y : Nat) : Int)) ∧ (pz ls ((tno (8 + fc) L X Y : Nat) : Int) = true ↔ holds (sd fc L X Y ++ ls)) := by
  obtain ⟨b, hb, hbi⟩ := zone1_ev h hL hX hY ls hls hl
  have e : pz ls ((tno (8 + fc) L X Y : Nat) : Int) = b := by
    unfold pz
    cases b
    · exact decide_eq_false fun h => by have := ev_one hb h; cases this
    · exact decide_eq_true hb
  rw [e]
  exact ⟨hb, hbi⟩
theorem pz_ev {j : Nat} {t : Int} (hj : j ≤ 12) (hg : good j t) (ls : List VS) (hls : ∀ n ∈ ls, bdv 1048576 (tv n)) (hl : ls.length ≤ 100) : Ev (fun k => tile_Zone_1.f k t [ls]) (pz ls t) := by
  obtain ⟨fc, X, Y, h, hX, hY, rfl⟩ := hg
  exact (pz_at h hj hX hY ls hls hl).1
def kids4 (t : Int) : List Int := [4 * t, 4 * t + 1, 4 * t + 2, 4 * t + 3]
theorem kids_good {j : Nat} {t : Int} (hg : good j t) : ∀ x ∈ kids4 t, good (j + 1) x := by
  obtain ⟨fc, X, Y, h, hX, hY, rfl⟩ := hg
  have e : ∀ dx dy : Nat, dx ≤ 1 → dy ≤ 1 → tno (8 + fc) (j + 1) (2 * X + dx) (2 * Y + dy) = 4 * tno (8 + fc) j X Y + (dx + 2 * dy) := fun dx dy h1 h2 => by
    simp only [tno]
    rw [show (2 * X + dx) / 2 = X by omega, show (2 * Y + dy) / 2 = Y by omega, show (2 * X + dx) % 2 = dx by omega, show (2 * Y + dy) % 2 = dy by omega]
  have hp : 2 ^ (j + 1) = 2 * 2 ^ j := by rw [Nat.pow_succ]; omega
  intro x hx
  unfold kids4 at hx
  simp only [List.mem_cons, List.not_mem_nil, or_false] at hx
  rcases hx with rfl | rfl | rfl | rfl
  · exact ⟨fc, 2 * X + 0, 2 * Y + 0, h, by omega, by omega, by rw [e 0 0 (by decide) (by decide)]; omega⟩
  · exact ⟨fc, 2 * X + 1, 2 * Y + 0, h, by omega, by omega, by rw [e 1 0 (by decide) (by decide)]; omega⟩
  · exact ⟨fc, 2 * X + 0, 2 * Y + 1, h, by omega, by omega, by rw [e 0 1 (by decide) (by decide)]; omega⟩
  · exact ⟨fc, 2 * X + 1, 2 * Y + 1, h, by omega, by omega, by rw [e 1 1 (by decide) (by decide)]; omega⟩
theorem kids_of {j : Nat} {t : Int} (hj : j + 1 ≤ 12) (hg : good j t) : Ev (fun k => tile_Kids.f k t) (kids4 t) := by
  obtain ⟨fc, X, Y, h, hX, hY, rfl⟩ := hg
  exact kids_ev (by omega) (by omega) hj
noncomputable def rnd (ls : List VS) : List Int → List Int
  | [] => []
  | t :: ts => (kids4 t).filter (pz ls) ++ rnd ls ts
noncomputable def lev (ls : List VS) : Nat → List Int → List Int
  | 0, l => l
  | n + 1, l => lev ls n (rnd ls l)
theorem filter_ev (ls : List VS) (hls : ∀ n ∈ ls, bdv 1048576 (tv n)) (hl : ls.length ≤ 100) {j : Nat} (hj : j ≤ 12) : ∀ l : List Int, (∀ t ∈ l, good j t) → Ev (fun k => tz_filter (fun t => tile_Zone_1.f k t [ls]) l) (l.filter (pz ls))
  | [], _ => now_ev fun _ => rfl
  | t :: ts, h => by
    simp only [tz_filter]
    refine Ev.bind (pz_ev hj (h t (List.mem_cons_self ..)) ls hls hl) (Ev.bind (filter_ev ls hls hl hj ts (fun x hx => h x (List.mem_cons_of_mem _ hx))) (now_ev fun _ => ?_))
    rw [List.filter_cons]
theorem round_ev (ls : List VS) (hls : ∀ n ∈ ls, bdv 1048576 (tv n)) (hl : ls.length ≤ 100) {j : Nat} (hj : j + 1 ≤ 12) : ∀ l : List Int, (∀ t ∈ l, good j t) → Ev (fun k => tz_round (fun t => tile_Zone_1.f k t [ls]) (tile_Kids.f k) l) (rnd ls l)
  | [], _ => now_ev fun _ => rfl
  | t :: ts, h => by
    simp only [tz_round]
    refine Ev.bind (kids_of hj (h t (List.mem_cons_self ..))) (Ev.bind (filter_ev ls hls hl hj _ (kids_good (h t (List.mem_cons_self ..)))) (Ev.bind (round_ev ls hls hl hj ts (fun x hx => h x (List.mem_cons_of_mem _ hx))) (now_ev fun _ => rfl)))
theorem rnd_good (ls : List VS) {j : Nat} : ∀ l : List Int, (∀ t ∈ l, good j t) → ∀ t ∈ rnd ls l, good (j + 1) t
  | [], _, t, ht => by cases ht
  | s :: ts, h, t, ht => by
    simp only [rnd, List.mem_append, List.mem_filter] at ht
    rcases ht with ht | ht
    · exact kids_good (h s (List.mem_cons_self ..)) t ht.1
    · exact rnd_good ls ts (fun x hx => h x (List.mem_cons_of_mem _ hx)) t ht
theorem rnd_len (ls : List VS) : ∀ l : List Int, (rnd ls l).length ≤ 4 * l.length
  | [] => Nat.le_refl _
  | s :: ts => by
    have := rnd_len ls ts
    have h := List.length_filter_le (pz ls) (kids4 s)
    rw [show (kids4 s).length = 4 from rfl] at h
    simp only [rnd, List.length_append, List.length_cons]
    omega
theorem levels_ev (ls : List VS) (hls : ∀ n ∈ ls, bdv 1048576 (tv n)) (hl : ls.length ≤ 100) (n : Nat) : ∀ (j : Nat) (l : List Int), j + n ≤ 12 → (∀ t ∈ l, good j t) → l.length * 4 ^ n ≤ 4096 →
    Ev (fun k => tz_levels (fun t => tile_Zone_1.f k t [ls]) (tile_Kids.f k) n l) (lev ls n l, 0) := by
  induction n with
  | zero => intro j l _ _ _; exact now_ev fun _ => rfl
  | succ n ih =>
    intro j l hj hg hlen
    simp only [tz_levels]
    have hr := rnd_len ls l
    have hp : 0 < 4 ^ n := Nat.pow_pos (by decide)
    have h4 : (rnd ls l).length * 4 ^ n ≤ 4096 := by
      have h1 : (rnd ls l).length * 4 ^ n ≤ 4 * l.length * 4 ^ n := Nat.mul_le_mul_right _ hr
      have h2 : 4 * l.length * 4 ^ n = l.length * 4 ^ (n + 1) := by rw [Nat.pow_succ]; grind
      omega
    have h5 : (rnd ls l).length ≤ 4096 := Nat.le_trans (Nat.le_mul_of_pos_right _ hp) h4
    exact Ev.bind (round_ev ls hls hl (by omega) l hg) (pos_ev (by omega) (pos_ev h5 (ih (j + 1) _ (by omega) (rnd_good ls l hg) h4)))
def six0 : List Int := [8, 9, 10, 11, 12, 13]
theorem six_good : ∀ t ∈ six0, good 0 t := by
  intro t ht
  unfold six0 at ht
  simp only [List.mem_cons, List.not_mem_nil, or_false] at ht
  rcases ht with rfl | rfl | rfl | rfl | rfl | rfl
  · exact ⟨0, 0, 0, by decide, by decide, by decide, rfl⟩
  · exact ⟨1, 0, 0, by decide, by decide, by decide, rfl⟩
  · exact ⟨2, 0, 0, by decide, by decide, by decide, rfl⟩
  · exact ⟨3, 0, 0, by decide, by decide, by decide, rfl⟩
  · exact ⟨4, 0, 0, by decide, by decide, by decide, rfl⟩
  · exact ⟨5, 0, 0, by decide, by decide, by decide, rfl⟩
noncomputable def zlist (ls : List VS) (n : Nat) : List Int := lev ls n (six0.filter (pz ls))
theorem cover_ev (ls : List VS) (hls : ∀ n ∈ ls, bdv 1048576 (tv n)) (hl : ls.length ≤ 100) {n : Nat} (hn : n ≤ 3) :
    Ev (fun k => tile_cover__tile_Zone_1.f k (n : Int) [ls]) (zlist ls n, 0) := by
  unfold tile_cover__tile_Zone_1.f tz_cover
  refine pos_ev (by omega) (pos_ev (by omega) (Ev.bind (filter_ev ls hls hl (j := 0) (by decide) six0 six_good) ?_))
  rw [Int.toNat_natCast]
  refine levels_ev ls hls hl n 0 _ (by omega) (fun t ht => six_good t (List.mem_filter.1 ht).1) ?_
  have h1 : (six0.filter (pz ls)).length ≤ 6 := List.length_filter_le _ _
  have h2 : 4 ^ n ≤ 64 := Nat.pow_le_pow_right (n := 4) (by decide) hn
  exact Nat.le_trans (Nat.mul_le_mul h1 h2) (by decide)
theorem sphere_gen {v : VS} (hv : bdv 1048576 (tv v)) (hn : (tv v).nz) : Ev (fun k => sphere_Check.f k v.f0 v.f1 v.f2) 0 := by
  obtain ⟨⟨x0, x1⟩, ⟨y0, y1⟩, z0, z1⟩ := hv
  simp only [tv] at *
  unfold V3.nz at hn
  have a := mx_le (mx_le x1 y1) z1
  have b := le_mn (le_mn x0 y0) z0
  unfold sphere_Check.f
  refine neg_ev (by omega) ?_
  rw [decide_eq_false (by omega)]
  refine one_ev fun k => ?_
  simp only [] at hn
  rw [sphere_Check.j0, if_neg (by decide), if_neg (by simp; omega)]
theorem zone_l0 (ls : List VS) (hls : ∀ n ∈ ls, bdv 1048576 (tv n)) (hnz : ∀ n ∈ ls, (tv n).nz) (hl : ls.length ≤ 8) {n : Nat} (hn : n ≤ 3) (d : Nat) : ∀ i : Nat, i + d = ls.length →
    Ev (fun k => tile_Zone.l0 k (n : Int) ls (ls.length : Int) (i : Int) ls) (zlist ls n, 0) := by
  induction d with
  | zero =>
    intro i hi
    refine Ev.step (f := fun k => (tile_cover__tile_Zone_1.f k (n : Int) [ls]).bind fun bt105 => some (bt105.1, bt105.2)) (fun k => by rw [tile_Zone.l0, if_neg (by omega), if_neg (by omega), if_neg (by omega)]) ?_
    exact Ev.bind (cover_ev ls hls (by omega) hn) (Ev.now _)
  | succ d ih =>
    intro i hi
    have hi' : i < ls.length := by omega
    have hm := List.getElem_mem hi'
    refine Ev.step (f := fun k => (sphere_Check.f k ls[i].f0 ls[i].f1 ls[i].f2).bind fun t104 => if t104 = 0 then tile_Zone.l0 k (n : Int) ls (ls.length : Int) ((i + 1 : Nat) : Int) ls else some (([] : List Int), t104)) (fun k => by rw [tile_Zone.l0, if_pos (by omega), if_pos (by omega), if_pos (by omega), rdT_get hi', w64_id (x := (i : Int) + 1) (by omega) (by omega)]; rfl) ?_
    exact Ev.bind (sphere_gen (hls _ hm) (hnz _ hm)) (pos_ev rfl (ih (i + 1) (by omega)))
theorem zone_ev (ls : List VS) (hls : ∀ n ∈ ls, bdv 1048576 (tv n)) (hnz : ∀ n ∈ ls, (tv n).nz) (hl : ls.length ≤ 8) {n : Nat} (hn : n ≤ 3) :
    Ev (fun k => tile_Zone.f k ls (n : Int)) (zlist ls n, 0) := by
  unfold tile_Zone.f
  exact neg_ev (by omega) (zone_l0 ls hls hnz hl hn ls.length 0 (by omega))
/-- A tile whose ancestors all meet the zone is in its cover. -/
theorem mem_lev (ls : List VS) (T : Nat → Int) (hT : ∀ j, j + 1 ≤ 12 → T (j + 1) ∈ kids4 (T j)) (hp : ∀ j, j ≤ 12 → pz ls (T j) = true) (n : Nat) : ∀ (j : Nat) (l : List Int), j + n ≤ 12 → T j ∈ l → T (j + n) ∈ lev ls n l := by
  have hr : ∀ (j : Nat) (l : List Int), j + 1 ≤ 12 → T j ∈ l → T (j + 1) ∈ rnd ls l := by
    intro j l hj
    induction l with
    | nil => intro h; cases h
    | cons s l ih =>
      intro h
      simp only [rnd, List.mem_append, List.mem_filter]
      rcases List.mem_cons.1 h with h | h
      · exact .inl ⟨by rw [← h]; exact hT j hj, hp (j + 1) hj⟩
      · exact .inr (ih h)
  induction n with
  | zero => intro j l _ h; exact h
  | succ n ih =>
    intro j l hj h
    have := ih (j + 1) (rnd ls l) (by omega) (hr j l (by omega) h)
    rw [show j + (n + 1) = j + 1 + n by omega]
    exact this
theorem lev_len (ls : List VS) (n : Nat) : ∀ l : List Int, (lev ls n l).length ≤ l.length * 4 ^ n := by
  induction n with
  | zero => intro l; simp [lev]
  | succ n ih =>
    intro l
    have h1 := ih (rnd ls l)
    have h2 := rnd_len ls l
    have h3 : (rnd ls l).length * 4 ^ n ≤ 4 * l.length * 4 ^ n := Nat.mul_le_mul_right _ h2
    have h4 : 4 * l.length * 4 ^ n = l.length * 4 ^ (n + 1) := by rw [Nat.pow_succ]; grind
    simp only [lev]
    omega
theorem zlist_len (ls : List VS) {n : Nat} (hn : n ≤ 3) : (zlist ls n).length ≤ 1000000 := by
  have h0 := lev_len ls n (six0.filter (pz ls))
  have h1 : (six0.filter (pz ls)).length ≤ 6 := List.length_filter_le _ _
  have h2 : 4 ^ n ≤ 64 := Nat.pow_le_pow_right (n := 4) (by decide) hn
  have h3 := Nat.mul_le_mul h1 h2
  unfold zlist
  omega
/-- A zone of fewer directions has fewer tiles. -/
theorem sub_rnd (ls ls' : List VS) {j : Nat} (hp : ∀ t, good (j + 1) t → pz ls' t = true → pz ls t = true) : ∀ l : List Int, (∀ t ∈ l, good j t) → ∀ t ∈ rnd ls' l, ∃ s ∈ l, t ∈ kids4 s ∧ pz ls t = true
  | [], _, t, ht => by cases ht
  | s :: l, hg, t, ht => by
    simp only [rnd, List.mem_append, List.mem_filter] at ht
    rcases ht with ht | ht
    · exact ⟨s, List.mem_cons_self .., ht.1, hp t (kids_good (hg s (List.mem_cons_self ..)) t ht.1) ht.2⟩
    · obtain ⟨q, hq, h⟩ := sub_rnd ls ls' hp l (fun x hx => hg x (List.mem_cons_of_mem _ hx)) t ht
      exact ⟨q, List.mem_cons_of_mem _ hq, h⟩
theorem mem_rnd (ls : List VS) {s t : Int} (h2 : t ∈ kids4 s) (h3 : pz ls t = true) : ∀ l : List Int, s ∈ l → t ∈ rnd ls l
  | [], h => by cases h
  | q :: l, h => by
    simp only [rnd, List.mem_append, List.mem_filter]
    rcases List.mem_cons.1 h with rfl | h
    · exact .inl ⟨h2, h3⟩
    · exact .inr (mem_rnd ls h2 h3 l h)
theorem sub_lev (ls ls' : List VS) (hp : ∀ (j : Nat) (t : Int), j ≤ 12 → good j t → pz ls' t = true → pz ls t = true) (n : Nat) : ∀ (j : Nat) (l' l : List Int), j + n ≤ 12 → (∀ t ∈ l', good j t) → (∀ t ∈ l', t ∈ l) → ∀ t ∈ lev ls' n l', t ∈ lev ls n l := by
  induction n with
  | zero => intro j l' l _ _ h t ht; exact h t ht
  | succ n ih =>
    intro j l' l hj hg h
    refine ih (j + 1) (rnd ls' l') (rnd ls l) (by omega) (rnd_good ls' l' hg) (fun t ht => ?_)
    obtain ⟨s, hs, h1, h2⟩ := sub_rnd ls ls' (fun t => hp (j + 1) t (by omega)) l' hg t ht
    exact mem_rnd ls h1 h2 l (h s hs)
theorem index_ev (l : List Int) (x : Int) (hl : l.length ≤ 1000000) (d : Nat) : ∀ i : Nat, i + d = l.length → ∃ r : Int, Ev (fun k => slices_Index_api_Tile_api_Tile.l0 k l x (l.length : Int) (i : Int)) r ∧ (r ≥ 0 ↔ x ∈ l.drop i) := by
  induction d with
  | zero =>
    intro i hi
    refine ⟨-1, one_ev fun k => by rw [slices_Index_api_Tile_api_Tile.l0, if_neg (by omega)], ?_⟩
    rw [List.drop_of_length_le (by omega)]
    simp
  | succ d ih =>
    intro i hi
    have hi' : i < l.length := by omega
    have er : rd l (i : Int) = l[i] := by unfold rd; simp [hi']
    rw [List.drop_eq_getElem_cons hi']
    by_cases h : x = l[i]
    · refine ⟨(i : Int), Ev.step (f := fun _ => some (i : Int)) (fun k => by rw [slices_Index_api_Tile_api_Tile.l0, if_pos (by omega), if_pos (by omega), if_pos (by omega), er, if_pos h]) (Ev.now _), ?_⟩
      exact ⟨fun _ => by rw [h]; exact List.mem_cons_self .., fun _ => by omega⟩
    · obtain ⟨r, hr, hri⟩ := ih (i + 1) (by omega)
      refine ⟨r, Ev.step (f := fun k => slices_Index_api_Tile_api_Tile.l0 k l x (l.length : Int) ((i + 1 : Nat) : Int)) (fun k => by rw [slices_Index_api_Tile_api_Tile.l0, if_pos (by omega), if_pos (by omega), if_pos (by omega), er, if_neg h, w64_id (x := (i : Int) + 1) (by omega) (by omega)]; rfl) hr, ?_⟩
      rw [hri, List.mem_cons]
      exact ⟨fun z => .inr z, fun z => z.resolve_left h⟩
theorem has_num {l : List Int} {x : Int} (hl : l.length ≤ 1000000) (h : x ∈ l) : Ev (fun k => slices_Contains_api_Tile_api_Tile.f k l x) true := by
  obtain ⟨r, hr, hri⟩ := index_ev l x hl l.length 0 (by omega)
  rw [List.drop_zero] at hri
  unfold slices_Contains_api_Tile_api_Tile.f slices_Index_api_Tile_api_Tile.f
  exact Ev.bind hr (now_ev fun _ => by rw [decide_eq_true (hri.2 h)])
theorem none_num (l w : List Int) (hl : l.length ≤ 1000000) (hw : w.length ≤ 1000000) (h : ∀ x ∈ l, x ∈ w) : Ev (fun k => slices_ContainsFunc_api_Tile_api_Tile__spykeep1_TileZonesCut_1.f k l [w]) false := by
  have key : ∀ (d i : Nat), i + d = l.length → Ev (fun k => slices_IndexFunc_api_Tile_api_Tile__spykeep1_TileZonesCut_1.l0 k l (l.length : Int) (i : Int) [w]) (-1) := by
    intro d
    induction d with
    | zero => intro i hi; exact one_ev fun k => by rw [slices_IndexFunc_api_Tile_api_Tile__spykeep1_TileZonesCut_1.l0, if_neg (by omega)]
    | succ d ih =>
      intro i hi
      have hi' : i < l.length := by omega
      have er : rd l (i : Int) = l[i] := by unfold rd; simp [hi']
      refine Ev.step (f := fun k => (spykeep1_TileZonesCut_1.f k l[i] [w]).bind fun t102 => if t102 = true then some (i : Int) else slices_IndexFunc_api_Tile_api_Tile__spykeep1_TileZonesCut_1.l0 k l (l.length : Int) ((i + 1 : Nat) : Int) [w]) (fun k => by rw [slices_IndexFunc_api_Tile_api_Tile__spykeep1_TileZonesCut_1.l0, if_pos (by omega), if_pos (by omega), if_pos (by omega), er, w64_id (x := (i : Int) + 1) (by omega) (by omega)]; rfl) ?_
      refine Ev.bind (a := false) ?_ (neg_ev (by decide) (ih (i + 1) (by omega)))
      unfold spykeep1_TileZonesCut_1.f
      exact pos_ev (by simp) (Ev.bind (has_num hw (h _ (List.getElem_mem hi'))) (Ev.now _))
  unfold slices_ContainsFunc_api_Tile_api_Tile__spykeep1_TileZonesCut_1.f slices_IndexFunc_api_Tile_api_Tile__spykeep1_TileZonesCut_1.f
  exact Ev.bind (key l.length 0 (by omega)) (Ev.now _)
end Go.Proofs.Ytbaedcjophgiiaa.Q
end

section
/- TileZonesCut in plain numbers: for every row of numbers and every number of 64 bits, the row no longer than memory allows, the printed function answers true; no other condition. -/
namespace Go.Proofs.Ytbaedcjophgiiaa.PureTileZonesCut
open Go.RowKit Go.Proofs.Ytbaedcjophgiiaa.Q Go.Proofs.YtbaedcjophgiiaaW.PrintWords Go.Proofs.YtbaedcjophgiiaaW.PrintLast
set_option linter.unusedVariables false
set_option linter.unusedSimpArgs false
theorem cmpo_emb {fc : Nat} (h : fc ≤ 5) (c u w : Int) : cmpo fc (tv (emb fc c u w)) = (c, u, w) := by
  rcases six h with rfl | rfl | rfl | rfl | rfl | rfl <;> rfl
theorem sgn_mul (fc : Nat) (p m : Int) : sgn fc p * sgn fc m = p * m := by
  unfold sgn
  split
  · rw [Int.neg_mul_neg]
  · rfl
theorem pln_key {a m n : Nat} (m0 : 0 < m) (ha : a ≤ 2 * m) :
    (2 * (pln a m n : Int) - ((2 ^ n : Nat) : Int)) * (m : Int) ≤ ((2 ^ n : Nat) : Int) * ((a : Int) - m) ∧ ((2 ^ n : Nat) : Int) * ((a : Int) - m) ≤ (2 * (pln a m n : Int) + 2 - ((2 ^ n : Nat) : Int)) * (m : Int) := by
  obtain ⟨p, q⟩ := pln_in n m0 ha
  generalize pln a m n = X at *
  generalize 2 ^ n = N at *
  have p' : (X : Int) * (2 * (m : Int)) ≤ (a : Int) * (N : Int) := by exact_mod_cast p
  have q' : (a : Int) * (N : Int) ≤ ((X : Int) + 1) * (2 * (m : Int)) := by exact_mod_cast q
  have e1 : (2 * (X : Int) - (N : Int)) * (m : Int) = (X : Int) * (2 * (m : Int)) - (N : Int) * m := by grind
  have e2 : (N : Int) * ((a : Int) - m) = (a : Int) * (N : Int) - (N : Int) * m := by grind
  have e3 : (2 * (X : Int) + 2 - (N : Int)) * (m : Int) = ((X : Int) + 1) * (2 * (m : Int)) - (N : Int) * m := by grind
  omega
/-- A direction lies within the sides of its tile. -/
theorem own_sd {fc m a b n : Nat} (h : fc ≤ 5) (m0 : 0 < m) (ha : a ≤ 2 * m) (hb : b ≤ 2 * m) :
    ∀ s ∈ sd fc n (pln a m n) (pln b m n), 0 ≤ V3.dot (tv s) (tv (emb fc (sgn fc m) ((a : Int) - m) ((b : Int) - m))) := by
  have ka := pln_key (n := n) m0 ha
  have kb := pln_key (n := n) m0 hb
  intro s hs
  unfold sd at hs
  simp only [List.mem_cons, List.not_mem_nil, or_false] at hs
  rcases hs with rfl | rfl | rfl | rfl
  all_goals rw [dot_cmpo h, cmpo_emb h]
  all_goals simp only [Int.neg_mul, sgn_mul]
  all_goals omega
theorem vec_nz {fc m a b : Nat} (h : fc ≤ 5) (m0 : 0 < m) : (tv (emb fc (sgn fc m) ((a : Int) - m) ((b : Int) - m))).nz := by
  have : sgn fc (m : Int) ≠ 0 := by unfold sgn; split <;> omega
  unfold V3.nz
  rcases six h with rfl | rfl | rfl | rfl | rfl | rfl
  · exact .inl this
  · exact .inl this
  · exact .inr (.inl this)
  · exact .inr (.inl this)
  · exact .inr (.inr this)
  · exact .inr (.inr this)
theorem tail_ev {fc m a b n : Nat} (h : fc ≤ 5) (m0 : 0 < m) (m1 : m ≤ 1048576) (ha : a ≤ 2 * m) (hb : b ≤ 2 * m) (hn : n ≤ 3)
    (hf : tile_faceOf.f (emb fc (sgn fc m) ((a : Int) - m) ((b : Int) - m)).f0 (emb fc (sgn fc m) ((a : Int) - m) ((b : Int) - m)).f1 (emb fc (sgn fc m) ((a : Int) - m) ((b : Int) - m)).f2 = some (fc : Int))
    (l : List Int) (hl : l.length ≤ 9223372036854775807) (ns : List VS) (hbd : ∀ s ∈ ns, bdv 1048576 (tv s)) (hnz : ∀ s ∈ ns, (tv s).nz) (hd : ∀ s ∈ ns, 0 ≤ V3.dot (tv s) (tv (emb fc (sgn fc m) ((a : Int) - m) ((b : Int) - m)))) (hlen : ns.length ≤ 4)
    (at_ : Int) (a0 : 0 ≤ at_) (a1 : at_ ≤ 1000) (c : Nat) :
    Ev (fun k => spykeep1_TileZonesCut.l0 k (n : Int) ns (c : Int) (c : Int) l at_ (emb fc (sgn fc m) ((a : Int) - m) ((b : Int) - m)).f0 (emb fc (sgn fc m) ((a : Int) - m) ((b : Int) - m)).f1 (emb fc (sgn fc m) ((a : Int) - m) ((b : Int) - m)).f2) true := by
  obtain ⟨x, y, z, hv, x0, x1, y0, y1, z0, z1, hnv⟩ := vec_in l (at_ := at_) hl a0 (by omega)
  have hbd2 : ∀ s ∈ ns ++ [(⟨x, y, z⟩ : VS)], bdv 1048576 (tv s) := fun s hs => by
    rcases List.mem_append.1 hs with hs | hs
    · exact hbd s hs
    · rw [List.mem_singleton] at hs; subst hs; exact ⟨⟨x0, x1⟩, ⟨y0, y1⟩, z0, z1⟩
  have hnz2 : ∀ s ∈ ns ++ [(⟨x, y, z⟩ : VS)], (tv s).nz := fun s hs => by
    rcases List.mem_append.1 hs with hs | hs
    · exact hnz s hs
    · rw [List.mem_singleton] at hs; subst hs; unfold V3.nz; simp only [tv]; omega
  have Z1 := zone_ev ns hbd hnz (by omega) hn
  have Z2 := zone_ev (ns ++ [(⟨x, y, z⟩ : VS)]) hbd2 hnz2 (by simp; omega) hn
  have O := of_ev h m0 m1 ha hb (n := n) (by omega) hf
  have hT : ∀ j, j + 1 ≤ 12 → ((tno (8 + fc) (j + 1) (pln a m (j + 1)) (pln b m (j + 1)) : Nat) : Int) ∈ kids4 ((tno (8 + fc) j (pln a m j) (pln b m j) : Nat) : Int) := by
    intro j _
    unfold kids4
    simp only [tno, List.mem_cons, List.not_mem_nil, or_false]
    rw [pln_half, pln_half]
    omega
  have hp : ∀ j, j ≤ 12 → pz ns ((tno (8 + fc) j (pln a m j) (pln b m j) : Nat) : Int) = true := by
    intro j hj
    refine (pz_at h hj (pln_lt _ _ _) (pln_lt _ _ _) ns hbd (by omega)).2.2 ⟨_, vec_nz (a := a) (b := b) h m0, fun s hs => ?_⟩
    rcases List.mem_append.1 hs with hs | hs
    · exact own_sd h m0 ha hb s hs
    · exact hd s hs
  have M1 : ((tno (8 + fc) n (pln a m n) (pln b m n) : Nat) : Int) ∈ zlist ns n := by
    have e0 : ((tno (8 + fc) 0 (pln a m 0) (pln b m 0) : Nat) : Int) ∈ six0.filter (pz ns) := by
      refine List.mem_filter.2 ⟨?_, hp 0 (by decide)⟩
      rcases six h with rfl | rfl | rfl | rfl | rfl | rfl <;> simp [six0, tno]
    have := mem_lev ns (fun j => ((tno (8 + fc) j (pln a m j) (pln b m j) : Nat) : Int)) hT hp n 0 _ (by omega) e0
    rw [Nat.zero_add] at this
    exact this
  have hsub : ∀ (j : Nat) (t : Int), j ≤ 12 → good j t → pz (ns ++ [(⟨x, y, z⟩ : VS)]) t = true → pz ns t = true := by
    intro j t hj hg ht
    obtain ⟨fc2, X, Y, h2, hX, hY, rfl⟩ := hg
    obtain ⟨u, hu, hin⟩ := (pz_at h2 hj hX hY _ hbd2 (by simp; omega)).2.1 ht
    refine (pz_at h2 hj hX hY ns hbd (by omega)).2.2 ⟨u, hu, fun s hs => hin s ?_⟩
    rw [← List.append_assoc]
    exact List.mem_append_left _ hs
  have S1 : ∀ t ∈ zlist (ns ++ [(⟨x, y, z⟩ : VS)]) n, t ∈ zlist ns n := by
    refine sub_lev ns _ hsub n 0 _ _ (by omega) (fun t ht => six_good t (List.mem_filter.1 ht).1) (fun t ht => ?_)
    have := List.mem_filter.1 ht
    exact List.mem_filter.2 ⟨this.1, hsub 0 t (by decide) (six_good t this.1) this.2⟩
  have C1 := has_num (zlist_len ns hn) M1
  have C2 := none_num _ _ (zlist_len (ns ++ [(⟨x, y, z⟩ : VS)]) hn) (zlist_len ns hn) S1
  have C3 : Ev (fun k => (slices_ContainsFunc_api_Tile_api_Tile__spykeep1_TileZonesCut_1.f k (zlist (ns ++ [(⟨x, y, z⟩ : VS)]) n) [zlist ns n]).bind fun t144 => some (!t144)) true := Ev.bind C2 (now_ev fun _ => rfl)
  have hcl : slices_Clone_api_Vec_api_Vec.f ns = some ns := by unfold slices_Clone_api_Vec_api_Vec.f; rw [if_pos (by omega)]
  refine Ev.step (fun k => by rw [spykeep1_TileZonesCut.l0]) (neg_ev (by omega) (Ev.bind Z1 (some_ev hcl (some_ev hv (pos_ev (big_lt (i := ns.length) (by omega)) (Ev.bind Z2 (Ev.bind O (Ev.bind fact_ev (pos_ev rfl (pos_ev rfl (pos_ev rfl (pos_ev rfl (Ev.bind C1 (pos_ev rfl C3))))))))))))))
theorem loop_ev {fc m a b n : Nat} (h : fc ≤ 5) (m0 : 0 < m) (m1 : m ≤ 1048576) (ha : a ≤ 2 * m) (hb : b ≤ 2 * m) (hn : n ≤ 3)
    (hf : tile_faceOf.f (emb fc (sgn fc m) ((a : Int) - m) ((b : Int) - m)).f0 (emb fc (sgn fc m) ((a : Int) - m) ((b : Int) - m)).f1 (emb fc (sgn fc m) ((a : Int) - m) ((b : Int) - m)).f2 = some (fc : Int))
    (l : List Int) (hl : l.length ≤ 9223372036854775807) (c : Nat) (hc : c ≤ 4) (d : Nat) : ∀ (i : Nat) (ns : List VS) (at_ : Int), i + d = c → ns.length = i → (∀ s ∈ ns, bdv 1048576 (tv s)) → (∀ s ∈ ns, (tv s).nz) → (∀ s ∈ ns, 0 ≤ V3.dot (tv s) (tv (emb fc (sgn fc m) ((a : Int) - m) ((b : Int) - m)))) → 0 ≤ at_ → at_ ≤ 10 + 4 * i →
    Ev (fun k => spykeep1_TileZonesCut.l0 k (n : Int) ns (c : Int) (i : Int) l at_ (emb fc (sgn fc m) ((a : Int) - m) ((b : Int) - m)).f0 (emb fc (sgn fc m) ((a : Int) - m) ((b : Int) - m)).f1 (emb fc (sgn fc m) ((a : Int) - m) ((b : Int) - m)).f2) true := by
  have sb := sgn_bd (fc := fc) m0 m1
  have vb : bdv 1048576 (tv (emb fc (sgn fc m) ((a : Int) - m) ((b : Int) - m))) := emb_bd h sb.1 sb.2.1 (by omega) (by omega) (by omega) (by omega)
  induction d with
  | zero =>
    intro i ns at_ hi hlen h1 h2 h3 a0 a1
    obtain rfl : i = c := by omega
    exact tail_ev h m0 m1 ha hb hn hf l hl ns h1 h2 h3 (by omega) at_ a0 (by omega) i
  | succ d ih =>
    intro i ns at_ hi hlen h1 h2 h3 a0 a1
    have hi4 : i ≤ 1000 := by omega
    have hln : ns.length ≤ 1000 := by omega
    have I := ih (i + 1)
    obtain ⟨x, y, z, hv, x0, x1, y0, y1, z0, z1, hnv⟩ := vec_in l (at_ := at_) hl a0 (by omega)
    generalize emb fc (sgn fc m) ((a : Int) - m) ((b : Int) - m) = v at *
    obtain ⟨⟨v0, v1⟩, ⟨v2, v3⟩, v4, v5⟩ := vb
    simp only [tv] at v0 v1 v2 v3 v4 v5
    have p1 := mul_bd (by decide) (by decide) x0 x1 v0 v1
    have p2 := mul_bd (by decide) (by decide) y0 y1 v2 v3
    have p3 := mul_bd (by decide) (by decide) z0 z1 v4 v5
    have more : ∀ w : VS, bdv 1048576 (tv w) → (tv w).nz → 0 ≤ V3.dot (tv w) (tv v) → Ev (fun k => spykeep1_TileZonesCut.l0 k (n : Int) (ns ++ [w]) (c : Int) ((i + 1 : Nat) : Int) l (at_ + 4) v.f0 v.f1 v.f2) true := by
      intro w w1 w2 w3
      refine I (ns ++ [w]) (at_ + 4) (by omega) (by simp; omega) ?_ ?_ ?_ (by omega) (by omega)
      all_goals
        intro s hs
        rcases List.mem_append.1 hs with hs | hs
      · exact h1 s hs
      · rw [List.mem_singleton] at hs; subst hs; exact w1
      · exact h2 s hs
      · rw [List.mem_singleton] at hs; subst hs; exact w2
      · exact h3 s hs
      · rw [List.mem_singleton] at hs; subst hs; exact w3
    refine Ev.step (fun k => by rw [spykeep1_TileZonesCut.l0]) (pos_ev (by omega) (some_ev hv ?_))
    simp only []
    have es : wrap64 (wrap64 (wrap64 (x * v.f0) + wrap64 (y * v.f1)) + wrap64 (z * v.f2)) = x * v.f0 + y * v.f1 + z * v.f2 := sum3 (by omega) (by omega) (by omega)
    have e1 : wrap64 ((i : Int) + 1) = ((i + 1 : Nat) : Int) := wn1 hi4
    rw [es, e1]
    clear es e1
    by_cases s : x * v.f0 + y * v.f1 + z * v.f2 < 0
    · rw [w64_id (x := -x) (by omega) (by omega), w64_id (x := -y) (by omega) (by omega), w64_id (x := -z) (by omega) (by omega)]
      refine pos_ev s (pos_ev (big_lt hln) (more ⟨-x, -y, -z⟩ ?_ ?_ ?_))
      · refine ⟨⟨?_, ?_⟩, ⟨?_, ?_⟩, ?_, ?_⟩ <;> simp only [tv] <;> omega
      · unfold V3.nz; simp only [tv]; omega
      · simp only [tv, V3.dot, Int.neg_mul]; omega
    · refine neg_ev s (pos_ev (big_lt hln) (more ⟨x, y, z⟩ ?_ ?_ ?_))
      · refine ⟨⟨?_, ?_⟩, ⟨?_, ?_⟩, ?_, ?_⟩ <;> simp only [tv] <;> omega
      · unfold V3.nz; simp only [tv]; omega
      · simp only [tv, V3.dot]; omega
theorem TileZonesCut : spykeep1_TileZonesCut.Pure := by
  intro l a1 hl hs hw hw1
  refine Ev.rounds (r := true) ?_
  unfold spykeep1_TileZonesCut.f
  have hl' : l.length ≤ 9223372036854775807 := by unfold maxLen at hl; omega
  obtain ⟨x, y, z, hv, x0, x1, y0, y1, z0, z1, hn⟩ := vec_in l (at_ := 0) hl' (by decide) (by decide)
  obtain ⟨fc, m, a, b, h, m0, m1, ha, hb, he, hf⟩ := face_of x0 x1 y0 y1 z0 z1 hn
  have ex : x = (emb fc (sgn fc m) ((a : Int) - m) ((b : Int) - m)).f0 := by rw [← he]
  have ey : y = (emb fc (sgn fc m) ((a : Int) - m) ((b : Int) - m)).f1 := by rw [← he]
  have ez : z = (emb fc (sgn fc m) ((a : Int) - m) ((b : Int) - m)).f2 := by rw [← he]
  obtain ⟨n, hn4, n0, n1⟩ := below_in (a := a1) (n := 4) (by decide) (by decide)
  obtain ⟨c, hc, c0, c1⟩ := next_in l (at_ := 0 + 4) (n := 5) hl' (by decide) (by decide) (by decide) (by decide)
  obtain ⟨n, rfl⟩ := Int.eq_ofNat_of_zero_le n0
  obtain ⟨c, rfl⟩ := Int.eq_ofNat_of_zero_le c0
  refine some_ev hv (some_ev hn4 (some_ev hc ?_))
  simp only []
  clear he hv hn
  subst ex ey ez
  exact loop_ev h m0 m1 ha hb (by omega) hf l hl' c (by omega) c 0 [] _ (by omega) rfl (fun s hs => by cases hs) (fun s hs => by cases hs) (fun s hs => by cases hs) (by decide) (by decide)
end Go.Proofs.Ytbaedcjophgiiaa.PureTileZonesCut
namespace Go.Proofs.Ytbaedcjophgiiaa.Pure
theorem TileZonesCut : Go.Proofs.Ytbaedcjophgiiaa.Q.spykeep1_TileZonesCut.Pure := Go.Proofs.Ytbaedcjophgiiaa.PureTileZonesCut.TileZonesCut
end Go.Proofs.Ytbaedcjophgiiaa.Pure
end
