/- Contracts of Go functions of the seat, one by one: each call returns what the Lean function of the same name says, wherever that is 'some'; no other condition. Written by a program of this session. -/
import Derived.Test.YtpbfjcohiibpcaaDoorQx0
import Derived.Test.YtpbfjcohiibpcaaDoorQx3
namespace Go.Proofs.YtpbfjcohiibpcaaDoor.Q
open Go.RowKit Go.Proofs.YtpbfjcohiibpcaaDoorW.PrintWords Go.Proofs.YtpbfjcohiibpcaaDoorW.PrintLast Go.Proofs.YtpbfjcohiibpcaaDoorW.PrintMore
attribute [local go_sem] max2_int min2_int max_two min_two max_three min_three max_four min_four   -- for this text's walks alone
set_option linter.unusedVariables false
set_option linter.unusedSimpArgs false

/-! ### scale_Read: function 9 -/
mutual
def scale_Read.l0 : Nat → ByteArray → List Int → Int → Int → Option (Int × Int × Int × Int × Int × Int × Int × Int)
 | 0, _, _, _, _ => none
 | k + 1, x0, x4, x5, x6 => if x5 < (x0.size : Int) then (if 0 ≤ x5 then (if x5 < 23 then (if (bt (⟨#[48, 48, 48, 48, 45, 48, 48, 45, 48, 48, 84, 48, 48, 58, 48, 48, 58, 48, 48, 46, 48, 48, 48]⟩ : ByteArray) x5) = 48 then (if (bt x0 x5) < 48 then (scale_Read.j1 k x0 x4 x5 x6 true) else (scale_Read.j1 k x0 x4 x5 x6 (decide ((bt x0 x5) > 57)))) else (if (bt x0 x5) = (bt (⟨#[48, 48, 48, 48, 45, 48, 48, 45, 48, 48, 84, 48, 48, 58, 48, 48, 58, 48, 48, 46, 48, 48, 48]⟩ : ByteArray) x5) then (scale_Read.j1 k x0 x4 x5 x6 false) else (scale_Read.j1 k x0 x4 x5 x6 true))) else (none)) else (none)) else (if 0 < (x4.length : Int) then (if 1 < (x4.length : Int) then (if 2 < (x4.length : Int) then (if 3 < (x4.length : Int) then (if 4 < (x4.length : Int) then (if 5 < (x4.length : Int) then (if 6 < (x4.length : Int) then ((scale_Check.f k (rd x4 0) (rd x4 1) (rd x4 2) (rd x4 3) (rd x4 4) (rd x4 5) (rd x4 6)).bind fun t110 => (if t110 = 0 then (some (rd x4 0, rd x4 1, rd x4 2, rd x4 3, rd x4 4, rd x4 5, rd x4 6, 0)) else (some (0, 0, 0, 0, 0, 0, 0, t110)))) else (none)) else (none)) else (none)) else (none)) else (none)) else (none)) else (none))
def scale_Read.j1 : Nat → ByteArray → List Int → Int → Int → Bool → Option (Int × Int × Int × Int × Int × Int × Int × Int)
 | 0, _, _, _, _, _ => none
 | k + 1, x0, x4, x5, x6, x19 => if x19 = true then (some (0, 0, 0, 0, 0, 0, 0, 5)) else (if 0 ≤ x5 then (if x5 < 23 then (if (bt (⟨#[48, 48, 48, 48, 45, 48, 48, 45, 48, 48, 84, 48, 48, 58, 48, 48, 58, 48, 48, 46, 48, 48, 48]⟩ : ByteArray) x5) = 48 then (if x5 < (x0.size : Int) then (if (wrap64 (x5 + 1)) = (x0.size : Int) then (if x4.length < 17592186044416 then (scale_Read.l0 k x0 (x4 ++ [wrap64 ((wrap64 (10 * x6)) + (((bt x0 x5) - 48) % 256))]) (wrap64 (x5 + 1)) 0) else (none)) else (if 0 ≤ (wrap64 (x5 + 1)) then (if (wrap64 (x5 + 1)) < 23 then (if (bt (⟨#[48, 48, 48, 48, 45, 48, 48, 45, 48, 48, 84, 48, 48, 58, 48, 48, 58, 48, 48, 46, 48, 48, 48]⟩ : ByteArray) (wrap64 (x5 + 1))) = 48 then (scale_Read.l0 k x0 x4 (wrap64 (x5 + 1)) (wrap64 ((wrap64 (10 * x6)) + (((bt x0 x5) - 48) % 256)))) else (if x4.length < 17592186044416 then (scale_Read.l0 k x0 (x4 ++ [wrap64 ((wrap64 (10 * x6)) + (((bt x0 x5) - 48) % 256))]) (wrap64 (x5 + 1)) 0) else (none))) else (none)) else (none))) else (none)) else (if (wrap64 (x5 + 1)) = (x0.size : Int) then (if x4.length < 17592186044416 then (scale_Read.l0 k x0 (x4 ++ [x6]) (wrap64 (x5 + 1)) 0) else (none)) else (if 0 ≤ (wrap64 (x5 + 1)) then (if (wrap64 (x5 + 1)) < 23 then (if (bt (⟨#[48, 48, 48, 48, 45, 48, 48, 45, 48, 48, 84, 48, 48, 58, 48, 48, 58, 48, 48, 46, 48, 48, 48]⟩ : ByteArray) (wrap64 (x5 + 1))) = 48 then (scale_Read.l0 k x0 x4 (wrap64 (x5 + 1)) x6) else (scale_Read.l0 k x0 x4 (wrap64 (x5 + 1)) x6)) else (none)) else (none)))) else (none)) else (none))
end
def scale_Read.f (k : Nat) (a0 : ByteArray) : Option (Int × Int × Int × Int × Int × Int × Int × Int) := if (a0.size : Int) = 23 then (scale_Read.l0 k a0 ([] : List Int) 0 0) else (some (0, 0, 0, 0, 0, 0, 0, 5))
theorem scale_Read.mono_l : ∀ k, (∀ y0 y1 y2 y3, LeO (scale_Read.l0 k y0 y1 y2 y3) (scale_Read.l0 (k + 1) y0 y1 y2 y3)) ∧ (∀ y0 y1 y2 y3 y4, LeO (scale_Read.j1 k y0 y1 y2 y3 y4) (scale_Read.j1 (k + 1) y0 y1 y2 y3 y4))
 | 0 => ⟨fun _ _ _ _ r h => by simp [scale_Read.l0] at h, fun _ _ _ _ _ r h => by simp [scale_Read.j1] at h⟩
 | k + 1 => by
  obtain ⟨ih0, ih1⟩ := scale_Read.mono_l k
  refine ⟨?_, ?_⟩
  · intro y0 y1 y2 y3
    unfold scale_Read.l0
    repeat' first
    | (with_reducible exact ih0 _ _ _ _)
    | (with_reducible exact ih1 _ _ _ _ _)
    | (with_reducible exact scale_Check.mono _ _ _ _ _ _ _ _)
    | (with_reducible exact LeO.refl _)
    | (with_reducible exact LeO.none _)
    | (with_reducible refine LeO.ite ?_ ?_)
    | (with_reducible refine LeO.bind ?_ (fun _ => ?_))
    | exact ih0 _ _ _ _
    | exact ih1 _ _ _ _ _
    | exact scale_Check.mono _ _ _ _ _ _ _ _
    | exact LeO.none _
    | refine LeO.ite ?_ ?_
    | refine LeO.bind ?_ (fun _ => ?_)
  · intro y0 y1 y2 y3 y4
    unfold scale_Read.j1
    repeat' first
    | (with_reducible exact ih0 _ _ _ _)
    | (with_reducible exact ih1 _ _ _ _ _)
    | (with_reducible exact scale_Check.mono _ _ _ _ _ _ _ _)
    | (with_reducible exact LeO.refl _)
    | (with_reducible exact LeO.none _)
    | (with_reducible refine LeO.ite ?_ ?_)
    | (with_reducible refine LeO.bind ?_ (fun _ => ?_))
    | exact ih0 _ _ _ _
    | exact ih1 _ _ _ _ _
    | exact scale_Check.mono _ _ _ _ _ _ _ _
    | exact LeO.none _
    | refine LeO.ite ?_ ?_
    | refine LeO.bind ?_ (fun _ => ?_)
theorem scale_Read.mono : ∀ a0 k, LeO (scale_Read.f k a0) (scale_Read.f (k + 1) a0) := by
 intro a0 k
 obtain ⟨ih0, ih1⟩ := scale_Read.mono_l k
 unfold scale_Read.f
 repeat' first
  | (with_reducible exact ih0 _ _ _ _)
  | (with_reducible exact ih1 _ _ _ _ _)
  | (with_reducible exact scale_Check.mono _ _ _ _ _ _ _ _)
  | (with_reducible exact LeO.refl _)
  | (with_reducible exact LeO.none _)
  | (with_reducible refine LeO.ite ?_ ?_)
  | (with_reducible refine LeO.bind ?_ (fun _ => ?_))
  | exact ih0 _ _ _ _
  | exact ih1 _ _ _ _ _
  | exact scale_Check.mono _ _ _ _ _ _ _ _
  | exact LeO.none _
  | refine LeO.ite ?_ ?_
  | refine LeO.bind ?_ (fun _ => ?_)
def scale_Read.T7 : Bool × List (List Nat × List Nat) := (true, [([], []), ([0], [0]), ([1], [1]), ([2], [2]), ([3], [3]), ([3], [3]), ([4, 5, 3], [3, 4, 5]), ([3], [3]), ([7, 3], [3, 7]), ([6, 8, 3], [3, 6, 8]), ([3, 9], [3, 9]), ([10, 3], [10]), ([11], [11]), ([12, 11], [11, 12]), ([13, 11], [11, 13]), ([14, 11, 11], [11, 14]), ([15], [15]), ([15], [15]), ([16, 17, 15], [15, 16, 17]), ([18, 15], [15, 18]), ([19, 15, 15], [15, 19]), ([20], [20]), ([20], [20]), ([21, 22, 20], [20, 21, 22]), ([23, 20], [20, 23]), ([20, 24, 15], [15, 20, 24]), ([15, 25, 11], [11, 15, 25]), ([11, 26], [11, 26]), ([27, 20], [27])])
def scale_Read.B7 : List Nat := [0, 1, 3, 7, 15, 15, 63, 15, 143, 511, 1023, 2047, 4095, 8191, 16383, 32767, 65535, 65535, 262143, 524287, 1048575, 2097151, 2097151, 8388607, 16777215, 33554431, 67108863, 134217727, 268435455]
theorem scale_Read.tab7 : rtab .any (opsOf Tryd.f9 7) = scale_Read.T7 := by kernel_rfl
theorem scale_Read.bits7 : waitsOk scale_Read.T7.2 scale_Read.B7 = true := by kernel_rfl
def scale_Read.T13 : Bool × List (List Nat × List Nat) := (true, [([], []), ([0], [0]), ([1], [1]), ([], []), ([3], [3]), ([4], [4]), ([], []), ([6], [6]), ([7], [7]), ([], []), ([9], [9]), ([10], [10]), ([], []), ([12], [12]), ([13], [13]), ([], []), ([15], [15]), ([16], [16]), ([], []), ([18], [18]), ([19], [19]), ([2, 5, 8, 11, 14, 17, 20], [2, 5, 8, 11, 14, 17, 20]), ([], []), ([22, 21, 0, 1, 2, 3, 4, 5, 6, 7, 8, 9, 10, 11, 12, 13, 14, 15, 16, 17, 18, 19, 20, 21, 22], [21, 22])])
def scale_Read.B13 : List Nat := [0, 1, 3, 0, 8, 24, 0, 64, 192, 0, 512, 1536, 0, 4096, 12288, 0, 32768, 98304, 0, 262144, 786432, 2097151, 0, 8388607]
theorem scale_Read.tab13 : rtab .any (opsOf Tryd.f9 13) = scale_Read.T13 := by kernel_rfl
theorem scale_Read.bits13 : waitsOk scale_Read.T13.2 scale_Read.B13 = true := by kernel_rfl
theorem puts_cell_far {g : Nat} {q : Addr} (hne : q.block ≠ g) : ∀ (l : List Value) (i : Nat) (W : World), (puts_ W g i l).cell? q = W.cell? q
  | [], _, _ => rfl
  | v :: l, i, W => (puts_cell_far hne l (i + 1) _).trans (cell_far (p := ⟨g, i, none⟩) hne v)
set_option maxHeartbeats 8000000 in
set_option maxRecDepth 100000 in
theorem scale_Read.calls (k : Nat) (a0 : ByteArray) (r1 : Int) (r2 : Int) (r3 : Int) (r4 : Int) (r5 : Int) (r6 : Int) (r7 : Int) (r8 : Int) (w : World) (h : scale_Read.f k a0 = some (r1, r2, r3, r4, r5, r6, r7, r8)) :
 Calls Tryd.prog 9 #[.string a0] w fun e w' => e = .returned (.tuple #[.agg #[.int .i64 r1, .int .i64 r2, .int .i64 r3, .int .i64 r4, .int .i64 r5, .int .i64 r6, .int .i64 r7], .int .i64 r8]) ∧ Below w.heap.size w w' := by
  have hu32 := Tryd.underlying32
  have HB := Aside0.mk (Below.refl w.heap.size w)
  have H : (if (a0.size : Int) = 23 then (scale_Read.l0 k a0 ([] : List Int) 0 0) else (some (0, 0, 0, 0, 0, 0, 0, 5))) = some (r1, r2, r3, r4, r5, r6, r7, r8) := h
  clear h
  by_cases c2 : (a0.size : Int) = 23
  rotate_left
  · rw [if_neg c2] at H
    have c2b0 : ((a0.size : Int) == 23) = false := beq_eq_false_iff_ne.mpr c2
    have c2b1 : ((a0.size : Int) != 23) = true := bne_iff_ne.mpr c2
    simp only [Option.some.injEq, Prod.mk.injEq] at H
    obtain ⟨rfl, rfl, rfl, rfl, rfl, rfl, rfl, rfl⟩ := H
    go_enter Tryd.func9, Tryd.ntmps9
    go_wp2_with (first | ((with_reducible refine gate_dst (N := 2) rfl ?_); refine bxq_ 2 #[.int .i64 0, .int .i64 0, .int .i64 0, .int .i64 0, .int .i64 0, .int .i64 0, .int .i64 0] 32 ?_; intro gb101 hg w88 hbox hb; have BK101 := Aside0.mk (hbox); have GW101 := gwq_ HB hg rfl; have GE101 := GW101; replace HB := hbs_ HB hb rfl rfl rfl rfl; clear hb hbox hg; have hcz89_0 := bc_ BK101 0 rfl; have hcz89_1 := bc_ BK101 1 rfl; have hcz89_2 := bc_ BK101 2 rfl; have hcz89_3 := bc_ BK101 3 rfl; have hcz89_4 := bc_ BK101 4 rfl; have hcz89_5 := bc_ BK101 5 rfl; have hcz89_6 := bc_ BK101 6 rfl; have hfz89_0 := blk_frozen BK101.out 0; have hfz89_1 := blk_frozen BK101.out 1; have hfz89_2 := blk_frozen BK101.out 2; have hfz89_3 := blk_frozen BK101.out 3; have hfz89_4 := blk_frozen BK101.out 4; have hfz89_5 := blk_frozen BK101.out 5; have hfz89_6 := blk_frozen BK101.out 6))
    refine bodyPost_ret (results_ct rfl _ _ gb101 32 #[.int .i64 0, .int .i64 0, .int .i64 0, .int .i64 0, .int .i64 0, .int .i64 0, .int .i64 0] (0, 0) _ rfl (by (with_reducible repeat (first | refine blk_drewN ?_ _ | refine blk_drew ?_ | refine blk_alloc ?_ _)); refine blk_put (cs := #[.int .i64 0, .int .i64 0, .int .i64 0, .int .i64 0, .int .i64 0, .int .i64 0, .int .i64 0]) ?_ 6 _ rfl; (with_reducible repeat (first | refine blk_drewN ?_ _ | refine blk_drew ?_ | refine blk_alloc ?_ _)); refine blk_put (cs := #[.int .i64 0, .int .i64 0, .int .i64 0, .int .i64 0, .int .i64 0, .int .i64 0, .int .i64 0]) ?_ 5 _ rfl; (with_reducible repeat (first | refine blk_drewN ?_ _ | refine blk_drew ?_ | refine blk_alloc ?_ _)); refine blk_put (cs := #[.int .i64 0, .int .i64 0, .int .i64 0, .int .i64 0, .int .i64 0, .int .i64 0, .int .i64 0]) ?_ 4 _ rfl; (with_reducible repeat (first | refine blk_drewN ?_ _ | refine blk_drew ?_ | refine blk_alloc ?_ _)); refine blk_put (cs := #[.int .i64 0, .int .i64 0, .int .i64 0, .int .i64 0, .int .i64 0, .int .i64 0, .int .i64 0]) ?_ 3 _ rfl; (with_reducible repeat (first | refine blk_drewN ?_ _ | refine blk_drew ?_ | refine blk_alloc ?_ _)); refine blk_put (cs := #[.int .i64 0, .int .i64 0, .int .i64 0, .int .i64 0, .int .i64 0, .int .i64 0, .int .i64 0]) ?_ 2 _ rfl; (with_reducible repeat (first | refine blk_drewN ?_ _ | refine blk_drew ?_ | refine blk_alloc ?_ _)); refine blk_put (cs := #[.int .i64 0, .int .i64 0, .int .i64 0, .int .i64 0, .int .i64 0, .int .i64 0, .int .i64 0]) ?_ 1 _ rfl; (with_reducible repeat (first | refine blk_drewN ?_ _ | refine blk_drew ?_ | refine blk_alloc ?_ _)); refine blk_put (cs := #[.int .i64 0, .int .i64 0, .int .i64 0, .int .i64 0, .int .i64 0, .int .i64 0, .int .i64 0]) ?_ 0 _ rfl; (with_reducible repeat (first | refine blk_drewN ?_ _ | refine blk_drew ?_ | refine blk_alloc ?_ _)); exact BK101.out) Tryd.underlying32 rfl (by kernel_rfl)) rfl ?_
    exact ⟨by first | rfl | (simp [errW_none, errW_some] <;> rfl) | (simp [*, errW_none, errW_some] <;> rfl), by repeat (first | (with_reducible first | exact HB.out | apply below_alloc | apply pw_below_drewN | apply below_drew1 | refine below_set ?_ GE101.out) | exact HB.out)⟩
  rw [if_pos c2] at H
  have c2b0 : ((a0.size : Int) == 23) = true := beq_iff_eq.mpr c2
  have c2b1 : ((a0.size : Int) != 23) = false := bne_eq_false_iff_eq.mpr c2
  clear c2
  have H' := Aside0.mk H
  clear H
  go_enter Tryd.func9, Tryd.ntmps9
  go_wp2_with (first | ((with_reducible refine gate_dst (N := 2) rfl ?_); refine bxq_ 2 #[.int .i64 0, .int .i64 0, .int .i64 0, .int .i64 0, .int .i64 0, .int .i64 0, .int .i64 0] 32 ?_; intro gb101 hg w3 hbox hb; have BK101 := Aside0.mk (hbox); have GW101 := gwq_ HB hg rfl; have GE101 := GW101; replace HB := hbs_ HB hb rfl rfl rfl rfl; clear hb hbox hg))
  go_loopg [4, 5, 6] k (fun kq v4 v5 v6 w' => ∃ (x4_1 : List Int) (x5_1 : Int) (x6_1 : Int) (x102000_1 : Int) (x102001_1 : Int) (x102002_1 : Int) (x102003_1 : Int) (x102004_1 : Int) (x102005_1 : Int) (x102006_1 : Int), v5 = .int .i64 x5_1 ∧ v6 = .int .i64 x6_1 ∧ Aside0 (scale_Read.l0 kq a0 x4_1 x5_1 x6_1 = some (r1, r2, r3, r4, r5, r6, r7, r8)) ∧ Aside0 (kq ≤ k) ∧ Aside0 (Kd.R (Kd.int .i64) 3 w' w.heap.size (fun _ => True) v4 x4_1) ∧ Aside0 (w'.heap[gb101]? = some (.cells #[.int .i64 x102000_1, .int .i64 x102001_1, .int .i64 x102002_1, .int .i64 x102003_1, .int .i64 x102004_1, .int .i64 x102005_1, .int .i64 x102006_1] 32 (0, 0))) ∧ Aside0 (Below w.heap.size w w'))
  case atStart => exact ⟨(([] : List Int)), (0), (0), (0), (0), (0), (0), (0), (0), (0), (by first | rfl | (simp; done) | (simp [*]; done)), (by first | rfl | (simp; done) | (simp [*]; done)), H', ⟨Nat.le_refl _⟩, ⟨by first | exact Kd.R_nil _ _ _ _ _ | exact Kd.N_nil _ _ _ _ _ | exact Kd.V_nil _ _ _ _ _ | exact Kd.Q_nil _ _ _ _ _ | exact Kd.S_nil _ _ _ _ _⟩, ⟨by (with_reducible repeat (first | refine blk_drewN ?_ _ | refine blk_drew ?_ | refine blk_alloc ?_ _)); exact BK101.out⟩, ⟨by repeat (first | (with_reducible first | exact HB.out | apply below_alloc | apply pw_below_drewN | apply below_drew1 | refine below_set ?_ GE101.out) | exact HB.out)⟩⟩
  case round =>
   clear H'
   obtain ⟨x4_1, x5_1, x6_1, x102000_1, x102001_1, x102002_1, x102003_1, x102004_1, x102005_1, x102006_1, rfl, rfl, HA, HK1, HO_4, BK101, HB⟩ := hrel
   cases gk with
   | zero => exact absurd HA.out (by simp [scale_Read.l0])
   | succ k1 =>
    have H := HA.out
    clear HA
    simp only [scale_Read.l0] at H
    by_cases c4 : x5_1 < (a0.size : Int)
    · rw [if_pos c4] at H
      have c4b0 : decide (x5_1 < (a0.size : Int)) = true := decide_eq_true c4
      clear c4
      have HC5 := Aside0.mk H
      clear H
      go_upto_region 7 with (fail)
      go_cut [19] (fun v19 wc => ∃ (kq : Nat) (x19_4 : Bool), v19 = .bool x19_4 ∧ Aside0 (scale_Read.j1 kq a0 x4_1 x5_1 x6_1 x19_4 = some (r1, r2, r3, r4, r5, r6, r7, r8)) ∧ Aside0 (kq ≤ k1) ∧ Aside0 (Kd.R (Kd.int .i64) 3 wc w.heap.size (fun _ => True) u4 x4_1) ∧ Aside0 (wc.heap[gb101]? = some (.cells #[.int .i64 x102000_1, .int .i64 x102001_1, .int .i64 x102002_1, .int .i64 x102003_1, .int .i64 x102004_1, .int .i64 x102005_1, .int .i64 x102006_1] 32 (0, 0))) ∧ Aside0 (Below w.heap.size w wc))
      case first =>
       have H := HC5.out
       clear HC5
       by_cases c6 : 0 ≤ x5_1
       rotate_left
       · rw [if_neg c6] at H
         exact absurd H (by simp)
       rw [if_pos c6] at H
       have c6b0 : decide (0 ≤ x5_1) = true := decide_eq_true c6
       clear c6
       (first | rw [c6b0] | (simp only [i64_w, i32_w]; rw [c6b0]) | skip)
       by_cases c7 : x5_1 < 23
       rotate_left
       · rw [if_neg c7] at H
         exact absurd H (by simp)
       rw [if_pos c7] at H
       have c7b0 : decide (x5_1 < 23) = true := decide_eq_true c7
       clear c7
       by_cases c9 : (bt (⟨#[48, 48, 48, 48, 45, 48, 48, 45, 48, 48, 84, 48, 48, 58, 48, 48, 58, 48, 48, 46, 48, 48, 48]⟩ : ByteArray) x5_1) = 48
       · rw [if_pos c9] at H
         have c9b0 : ((bt (⟨#[48, 48, 48, 48, 45, 48, 48, 45, 48, 48, 84, 48, 48, 58, 48, 48, 58, 48, 48, 46, 48, 48, 48]⟩ : ByteArray) x5_1) == 48) = true := beq_iff_eq.mpr c9
         have c9b1 : ((bt (⟨#[48, 48, 48, 48, 45, 48, 48, 45, 48, 48, 84, 48, 48, 58, 48, 48, 58, 48, 48, 46, 48, 48, 48]⟩ : ByteArray) x5_1) != 48) = false := bne_eq_false_iff_eq.mpr c9
         clear c9
         by_cases c12 : (bt a0 x5_1) < 48
         · rw [if_pos c12] at H
           have c12b0 : decide ((bt a0 x5_1) < 48) = true := decide_eq_true c12
           clear c12
           have H' := Aside0.mk H
           clear H
           try go_wp2
           replace HO_4 := Aside0.mk (Kd.R_drew HO_4.out)
           replace BK101 := Aside0.mk (blk_drew BK101.out)
           replace HB := Aside0.mk (below_drew1 HB.out)
           have p8 : 0 ≤ (x5_1 : Int) := of_decide_eq_true (by first | (with_reducible assumption) | assumption)
           have q8 : x5_1 < (23 : Int) := of_decide_eq_true (by first | (with_reducible assumption) | assumption)
           have hx8 := bt_at (⟨#[48, 48, 48, 48, 45, 48, 48, 45, 48, 48, 84, 48, 48, 58, 48, 48, 58, 48, 48, 46, 48, 48, 48]⟩ : ByteArray) x5_1
           replace p8 := eq_true p8
           replace q8 := eq_true q8
           have p10 : 0 ≤ (x5_1 : Int) := of_decide_eq_true (by first | (with_reducible assumption) | assumption)
           have q10 : x5_1 < (23 : Int) := of_decide_eq_true (by first | (with_reducible assumption) | assumption)
           have hx10 := bt_at (⟨#[48, 48, 48, 48, 45, 48, 48, 45, 48, 48, 84, 48, 48, 58, 48, 48, 58, 48, 48, 46, 48, 48, 48]⟩ : ByteArray) x5_1
           replace p10 := eq_true p10
           replace q10 := eq_true q10
           have p11 : 0 ≤ (x5_1 : Int) := of_decide_eq_true (by first | (with_reducible assumption) | assumption)
           have q11 : x5_1 < (a0.size : Int) := of_decide_eq_true (by first | (with_reducible assumption) | assumption)
           have hx11 := bt_at a0 x5_1
           replace p11 := eq_true p11
           replace q11 := eq_true q11
           refine start_ (n := 29) (S := fun w' => True) (ds := []) (bm_ [0, 29]) (by kernel_rfl) rfl rfl trivial (fun hHeld => ?_); refine with_tabW scale_Read.tab7 scale_Read.bits7 (fun HT_ HW_ => ?_)
           generalize wr.drew = w13 at HO_4 BK101 HB hHeld ⊢
           refine pq_ 0 20 (bm_ [1, 28]) HT_ ?_
           refine take_ (i := 1) (N := some 21) (v := ?_) (a' := ?_) (bm_ [2, 27]) rfl rfl (take_ofW HT_.out HW_.out (by kernel_rfl)) (fun _ _ _ h => h) (Or.inl ⟨by rfl, ?_⟩) hHeld ?_ ?_
           rotate_left
           · intro w' _
             go_simp
             with_reducible rfl
           rotate_left
           · simp only [Act.put, List.setIfInBounds_toArray, List.set_cons_zero, List.set_cons_succ, i64_w, i32_w]
             rfl
           refine pq_ 2 22 (bm_ [3, 26]) HT_ ?_
           refine pq_ 3 23 (bm_ [4, 25]) HT_ ?_
           refine pure_ (i := 4) (N := some 24) (v := undef) (a' := ?_) (bm_ [5, 24]) rfl rfl (any_of HT_.out (by kernel_rfl)) (fun _ _ _ h => h) (Or.inr ⟨by rfl, rfl⟩) ?_ ?_
           rotate_left
           · simp only [Act.put, List.setIfInBounds_toArray, List.set_cons_zero, List.set_cons_succ, i64_w, i32_w]
             rfl
           refine pure_ (i := 5) (N := some 25) (v := undef) (a' := ?_) (bm_ [6, 23]) rfl rfl (any_of HT_.out (by kernel_rfl)) (fun _ _ _ h => h) (Or.inr ⟨by rfl, rfl⟩) ?_ ?_
           rotate_left
           · simp only [Act.put, List.setIfInBounds_toArray, List.set_cons_zero, List.set_cons_succ, i64_w, i32_w]
             rfl
           refine pure_ (i := 6) (N := some 26) (v := undef) (a' := ?_) (bm_ [7, 22]) rfl rfl (any_of HT_.out (by kernel_rfl)) (fun _ _ _ h => h) (Or.inr ⟨by rfl, rfl⟩) ?_ ?_
           rotate_left
           · simp only [Act.put, List.setIfInBounds_toArray, List.set_cons_zero, List.set_cons_succ, i64_w, i32_w]
             rfl
           refine pure_ (i := 7) (N := some 27) (v := undef) (a' := ?_) (bm_ [8, 21]) rfl rfl (any_of HT_.out (by kernel_rfl)) (fun _ _ _ h => h) (Or.inr ⟨by rfl, rfl⟩) ?_ ?_
           rotate_left
           · simp only [Act.put, List.setIfInBounds_toArray, List.set_cons_zero, List.set_cons_succ, i64_w, i32_w]
             rfl
           refine pure_ (i := 8) (N := some 28) (v := undef) (a' := ?_) (bm_ [9, 20]) rfl rfl (any_of HT_.out (by kernel_rfl)) (fun _ _ _ h => h) (Or.inr ⟨by rfl, rfl⟩) ?_ ?_
           rotate_left
           · simp only [Act.put, List.setIfInBounds_toArray, List.set_cons_zero, List.set_cons_succ, i64_w, i32_w]
             rfl
           refine pure_ (i := 9) (N := some 29) (v := undef) (a' := ?_) (bm_ [10, 19]) rfl rfl (any_of HT_.out (by kernel_rfl)) (fun _ _ _ h => h) (Or.inr ⟨by rfl, rfl⟩) ?_ ?_
           rotate_left
           · simp only [Act.put, List.setIfInBounds_toArray, List.set_cons_zero, List.set_cons_succ, i64_w, i32_w]
             rfl
           refine pq_ 10 30 (bm_ [11, 18]) HT_ ?_
           refine pq_ 11 31 (bm_ [12, 17]) HT_ ?_
           refine pq_ 12 32 (bm_ [13, 16]) HT_ ?_
           refine take_ (i := 13) (N := some 33) (v := ?_) (a' := ?_) (bm_ [14, 15]) rfl rfl (take_ofW HT_.out HW_.out (by kernel_rfl)) (fun _ _ _ h => h) (Or.inl ⟨by rfl, ?_⟩) hHeld ?_ ?_
           rotate_left
           · intro w' _
             go_simp
             with_reducible rfl
           rotate_left
           · simp only [Act.put, List.setIfInBounds_toArray, List.set_cons_zero, List.set_cons_succ, i64_w, i32_w]
             rfl
           refine pq_ 14 34 (bm_ [15, 14]) HT_ ?_
           refine pq_ 15 35 (bm_ [16, 13]) HT_ ?_
           refine pq_ 16 36 (bm_ [17, 12]) HT_ ?_
           refine pq_ 17 37 (bm_ [18, 11]) HT_ ?_
           refine take_ (i := 18) (N := some 38) (v := ?_) (a' := ?_) (bm_ [19, 10]) rfl rfl (take_ofW HT_.out HW_.out (by kernel_rfl)) (fun _ _ _ h => h) (Or.inl ⟨by rfl, ?_⟩) hHeld ?_ ?_
           rotate_left
           · intro w' _
             go_simp
             with_reducible rfl
           rotate_left
           · simp only [Act.put, List.setIfInBounds_toArray, List.set_cons_zero, List.set_cons_succ, i64_w, i32_w]
             rfl
           refine pq_ 19 39 (bm_ [20, 9]) HT_ ?_
           refine pq_ 20 40 (bm_ [21, 8]) HT_ ?_
           refine pure_ (i := 21) (N := some 41) (v := undef) (a' := ?_) (bm_ [22, 7]) rfl rfl (any_of HT_.out (by kernel_rfl)) (fun _ _ _ h => h) (Or.inr ⟨by rfl, rfl⟩) ?_ ?_
           rotate_left
           · simp only [Act.put, List.setIfInBounds_toArray, List.set_cons_zero, List.set_cons_succ, i64_w, i32_w]
             rfl
           refine pure_ (i := 22) (N := some 42) (v := undef) (a' := ?_) (bm_ [23, 6]) rfl rfl (any_of HT_.out (by kernel_rfl)) (fun _ _ _ h => h) (Or.inr ⟨by rfl, rfl⟩) ?_ ?_
           rotate_left
           · simp only [Act.put, List.setIfInBounds_toArray, List.set_cons_zero, List.set_cons_succ, i64_w, i32_w]
             rfl
           refine pure_ (i := 23) (N := some 43) (v := undef) (a' := ?_) (bm_ [24, 5]) rfl rfl (any_of HT_.out (by kernel_rfl)) (fun _ _ _ h => h) (Or.inr ⟨by rfl, rfl⟩) ?_ ?_
           rotate_left
           · simp only [Act.put, List.setIfInBounds_toArray, List.set_cons_zero, List.set_cons_succ, i64_w, i32_w]
             rfl
           refine pure_ (i := 24) (N := some 44) (v := undef) (a' := ?_) (bm_ [25, 4]) rfl rfl (any_of HT_.out (by kernel_rfl)) (fun _ _ _ h => h) (Or.inr ⟨by rfl, rfl⟩) ?_ ?_
           rotate_left
           · simp only [Act.put, List.setIfInBounds_toArray, List.set_cons_zero, List.set_cons_succ, i64_w, i32_w]
             rfl
           refine pq_ 25 45 (bm_ [26, 3]) HT_ ?_
           refine pq_ 26 46 (bm_ [27, 2]) HT_ ?_
           refine pq_ 27 47 (bm_ [28, 1]) HT_ ?_
           refine pq_ 28 19 (bm_ [29]) HT_ ?_
           refine done_ (done_of HT_.out (by kernel_rfl)) ?_
           try go_wp2
           go_meet
           case rel => exact ⟨_, (true), (by first | rfl | (simp; done) | (simp [*]; done)), H', ⟨by have := HK1.out; first | omega | exact Nat.le_refl _⟩, ⟨by (with_reducible repeat (first | apply Kd.R_alloc | apply Kd.R_drewN | apply Kd.R_drew)); exact HO_4.out⟩, ⟨by (with_reducible repeat (first | refine blk_drewN ?_ _ | refine blk_drew ?_ | refine blk_alloc ?_ _)); exact BK101.out⟩, ⟨by repeat (first | (with_reducible first | exact HB.out | apply below_alloc | apply pw_below_drewN | apply below_drew1 | refine below_set ?_ GE101.out) | exact HB.out)⟩⟩
         rw [if_neg c12] at H
         have c12b0 : decide ((bt a0 x5_1) < 48) = false := decide_eq_false c12
         clear c12
         have H' := Aside0.mk H
         clear H
         try go_wp2
         replace HO_4 := Aside0.mk (Kd.R_drew HO_4.out)
         replace BK101 := Aside0.mk (blk_drew BK101.out)
         replace HB := Aside0.mk (below_drew1 HB.out)
         have p8 : 0 ≤ (x5_1 : Int) := of_decide_eq_true (by first | (with_reducible assumption) | assumption)
         have q8 : x5_1 < (23 : Int) := of_decide_eq_true (by first | (with_reducible assumption) | assumption)
         have hx8 := bt_at (⟨#[48, 48, 48, 48, 45, 48, 48, 45, 48, 48, 84, 48, 48, 58, 48, 48, 58, 48, 48, 46, 48, 48, 48]⟩ : ByteArray) x5_1
         replace p8 := eq_true p8
         replace q8 := eq_true q8
         have p10 : 0 ≤ (x5_1 : Int) := of_decide_eq_true (by first | (with_reducible assumption) | assumption)
         have q10 : x5_1 < (23 : Int) := of_decide_eq_true (by first | (with_reducible assumption) | assumption)
         have hx10 := bt_at (⟨#[48, 48, 48, 48, 45, 48, 48, 45, 48, 48, 84, 48, 48, 58, 48, 48, 58, 48, 48, 46, 48, 48, 48]⟩ : ByteArray) x5_1
         replace p10 := eq_true p10
         replace q10 := eq_true q10
         have p11 : 0 ≤ (x5_1 : Int) := of_decide_eq_true (by first | (with_reducible assumption) | assumption)
         have q11 : x5_1 < (a0.size : Int) := of_decide_eq_true (by first | (with_reducible assumption) | assumption)
         have hx11 := bt_at a0 x5_1
         replace p11 := eq_true p11
         replace q11 := eq_true q11
         have p14 : 0 ≤ (x5_1 : Int) := of_decide_eq_true (by first | (with_reducible assumption) | assumption)
         have q14 : x5_1 < (a0.size : Int) := of_decide_eq_true (by first | (with_reducible assumption) | assumption)
         have hx14 := bt_at a0 x5_1
         replace p14 := eq_true p14
         replace q14 := eq_true q14
         refine start_ (n := 29) (S := fun w' => True) (ds := []) (bm_ [0, 29]) (by kernel_rfl) rfl rfl trivial (fun hHeld => ?_); refine with_tabW scale_Read.tab7 scale_Read.bits7 (fun HT_ HW_ => ?_)
         generalize wr.drew = w15 at HO_4 BK101 HB hHeld ⊢
         refine pq_ 0 20 (bm_ [1, 28]) HT_ ?_
         refine take_ (i := 1) (N := some 21) (v := ?_) (a' := ?_) (bm_ [2, 27]) rfl rfl (take_ofW HT_.out HW_.out (by kernel_rfl)) (fun _ _ _ h => h) (Or.inl ⟨by rfl, ?_⟩) hHeld ?_ ?_
         rotate_left
         · intro w' _
           go_simp
           with_reducible rfl
         rotate_left
         · simp only [Act.put, List.setIfInBounds_toArray, List.set_cons_zero, List.set_cons_succ, i64_w, i32_w]
           rfl
         refine pq_ 2 22 (bm_ [3, 26]) HT_ ?_
         refine pq_ 3 23 (bm_ [4, 25]) HT_ ?_
         refine pure_ (i := 4) (N := some 24) (v := undef) (a' := ?_) (bm_ [5, 24]) rfl rfl (any_of HT_.out (by kernel_rfl)) (fun _ _ _ h => h) (Or.inr ⟨by rfl, rfl⟩) ?_ ?_
         rotate_left
         · simp only [Act.put, List.setIfInBounds_toArray, List.set_cons_zero, List.set_cons_succ, i64_w, i32_w]
           rfl
         refine pure_ (i := 5) (N := some 25) (v := undef) (a' := ?_) (bm_ [6, 23]) rfl rfl (any_of HT_.out (by kernel_rfl)) (fun _ _ _ h => h) (Or.inr ⟨by rfl, rfl⟩) ?_ ?_
         rotate_left
         · simp only [Act.put, List.setIfInBounds_toArray, List.set_cons_zero, List.set_cons_succ, i64_w, i32_w]
           rfl
         refine pure_ (i := 6) (N := some 26) (v := undef) (a' := ?_) (bm_ [7, 22]) rfl rfl (any_of HT_.out (by kernel_rfl)) (fun _ _ _ h => h) (Or.inr ⟨by rfl, rfl⟩) ?_ ?_
         rotate_left
         · simp only [Act.put, List.setIfInBounds_toArray, List.set_cons_zero, List.set_cons_succ, i64_w, i32_w]
           rfl
         refine pure_ (i := 7) (N := some 27) (v := undef) (a' := ?_) (bm_ [8, 21]) rfl rfl (any_of HT_.out (by kernel_rfl)) (fun _ _ _ h => h) (Or.inr ⟨by rfl, rfl⟩) ?_ ?_
         rotate_left
         · simp only [Act.put, List.setIfInBounds_toArray, List.set_cons_zero, List.set_cons_succ, i64_w, i32_w]
           rfl
         refine pure_ (i := 8) (N := some 28) (v := undef) (a' := ?_) (bm_ [9, 20]) rfl rfl (any_of HT_.out (by kernel_rfl)) (fun _ _ _ h => h) (Or.inr ⟨by rfl, rfl⟩) ?_ ?_
         rotate_left
         · simp only [Act.put, List.setIfInBounds_toArray, List.set_cons_zero, List.set_cons_succ, i64_w, i32_w]
           rfl
         refine pure_ (i := 9) (N := some 29) (v := undef) (a' := ?_) (bm_ [10, 19]) rfl rfl (any_of HT_.out (by kernel_rfl)) (fun _ _ _ h => h) (Or.inr ⟨by rfl, rfl⟩) ?_ ?_
         rotate_left
         · simp only [Act.put, List.setIfInBounds_toArray, List.set_cons_zero, List.set_cons_succ, i64_w, i32_w]
           rfl
         refine pq_ 10 30 (bm_ [11, 18]) HT_ ?_
         refine pq_ 11 31 (bm_ [12, 17]) HT_ ?_
         refine pq_ 12 32 (bm_ [13, 16]) HT_ ?_
         refine take_ (i := 13) (N := some 33) (v := ?_) (a' := ?_) (bm_ [14, 15]) rfl rfl (take_ofW HT_.out HW_.out (by kernel_rfl)) (fun _ _ _ h => h) (Or.inl ⟨by rfl, ?_⟩) hHeld ?_ ?_
         rotate_left
         · intro w' _
           go_simp
           with_reducible rfl
         rotate_left
         · simp only [Act.put, List.setIfInBounds_toArray, List.set_cons_zero, List.set_cons_succ, i64_w, i32_w]
           rfl
         refine pq_ 14 34 (bm_ [15, 14]) HT_ ?_
         refine pq_ 15 35 (bm_ [16, 13]) HT_ ?_
         refine pq_ 16 36 (bm_ [17, 12]) HT_ ?_
         refine pq_ 17 37 (bm_ [18, 11]) HT_ ?_
         refine take_ (i := 18) (N := some 38) (v := ?_) (a' := ?_) (bm_ [19, 10]) rfl rfl (take_ofW HT_.out HW_.out (by kernel_rfl)) (fun _ _ _ h => h) (Or.inl ⟨by rfl, ?_⟩) hHeld ?_ ?_
         rotate_left
         · intro w' _
           go_simp
           with_reducible rfl
         rotate_left
         · simp only [Act.put, List.setIfInBounds_toArray, List.set_cons_zero, List.set_cons_succ, i64_w, i32_w]
           rfl
         refine pq_ 19 39 (bm_ [20, 9]) HT_ ?_
         refine pq_ 20 40 (bm_ [21, 8]) HT_ ?_
         refine pq_ 21 41 (bm_ [22, 7]) HT_ ?_
         refine pq_ 22 42 (bm_ [23, 6]) HT_ ?_
         refine take_ (i := 23) (N := some 43) (v := ?_) (a' := ?_) (bm_ [24, 5]) rfl rfl (take_ofW HT_.out HW_.out (by kernel_rfl)) (fun _ _ _ h => h) (Or.inl ⟨by rfl, ?_⟩) hHeld ?_ ?_
         rotate_left
         · intro w' _
           go_simp
           with_reducible rfl
         rotate_left
         · simp only [Act.put, List.setIfInBounds_toArray, List.set_cons_zero, List.set_cons_succ, i64_w, i32_w]
           rfl
         refine pq_ 24 44 (bm_ [25, 4]) HT_ ?_
         refine pq_ 25 45 (bm_ [26, 3]) HT_ ?_
         refine pq_ 26 46 (bm_ [27, 2]) HT_ ?_
         refine pq_ 27 47 (bm_ [28, 1]) HT_ ?_
         refine pq_ 28 19 (bm_ [29]) HT_ ?_
         refine done_ (done_of HT_.out (by kernel_rfl)) ?_
         try go_wp2
         go_meet
         case rel => exact ⟨_, (decide ((bt a0 x5_1) > 57)), (by first | rfl | (simp; done) | (simp [*]; done)), H', ⟨by have := HK1.out; first | omega | exact Nat.le_refl _⟩, ⟨by (with_reducible repeat (first | apply Kd.R_alloc | apply Kd.R_drewN | apply Kd.R_drew)); exact HO_4.out⟩, ⟨by (with_reducible repeat (first | refine blk_drewN ?_ _ | refine blk_drew ?_ | refine blk_alloc ?_ _)); exact BK101.out⟩, ⟨by repeat (first | (with_reducible first | exact HB.out | apply below_alloc | apply pw_below_drewN | apply below_drew1 | refine below_set ?_ GE101.out) | exact HB.out)⟩⟩
       rw [if_neg c9] at H
       have c9b0 : ((bt (⟨#[48, 48, 48, 48, 45, 48, 48, 45, 48, 48, 84, 48, 48, 58, 48, 48, 58, 48, 48, 46, 48, 48, 48]⟩ : ByteArray) x5_1) == 48) = false := beq_eq_false_iff_ne.mpr c9
       have c9b1 : ((bt (⟨#[48, 48, 48, 48, 45, 48, 48, 45, 48, 48, 84, 48, 48, 58, 48, 48, 58, 48, 48, 46, 48, 48, 48]⟩ : ByteArray) x5_1) != 48) = true := bne_iff_ne.mpr c9
       by_cases c18 : (bt a0 x5_1) = (bt (⟨#[48, 48, 48, 48, 45, 48, 48, 45, 48, 48, 84, 48, 48, 58, 48, 48, 58, 48, 48, 46, 48, 48, 48]⟩ : ByteArray) x5_1)
       · rw [if_pos c18] at H
         have c18b0 : ((bt a0 x5_1) == (bt (⟨#[48, 48, 48, 48, 45, 48, 48, 45, 48, 48, 84, 48, 48, 58, 48, 48, 58, 48, 48, 46, 48, 48, 48]⟩ : ByteArray) x5_1)) = true := beq_iff_eq.mpr c18
         have c18b1 : ((bt a0 x5_1) != (bt (⟨#[48, 48, 48, 48, 45, 48, 48, 45, 48, 48, 84, 48, 48, 58, 48, 48, 58, 48, 48, 46, 48, 48, 48]⟩ : ByteArray) x5_1)) = false := bne_eq_false_iff_eq.mpr c18
         clear c18
         have H' := Aside0.mk H
         clear H
         try go_wp2
         replace HO_4 := Aside0.mk (Kd.R_drew HO_4.out)
         replace BK101 := Aside0.mk (blk_drew BK101.out)
         replace HB := Aside0.mk (below_drew1 HB.out)
         have p8 : 0 ≤ (x5_1 : Int) := of_decide_eq_true (by first | (with_reducible assumption) | assumption)
         have q8 : x5_1 < (23 : Int) := of_decide_eq_true (by first | (with_reducible assumption) | assumption)
         have hx8 := bt_at (⟨#[48, 48, 48, 48, 45, 48, 48, 45, 48, 48, 84, 48, 48, 58, 48, 48, 58, 48, 48, 46, 48, 48, 48]⟩ : ByteArray) x5_1
         replace p8 := eq_true p8
         replace q8 := eq_true q8
         have p16 : 0 ≤ (x5_1 : Int) := of_decide_eq_true (by first | (with_reducible assumption) | assumption)
         have q16 : x5_1 < (a0.size : Int) := of_decide_eq_true (by first | (with_reducible assumption) | assumption)
         have hx16 := bt_at a0 x5_1
         replace p16 := eq_true p16
         replace q16 := eq_true q16
         have p17 : 0 ≤ (x5_1 : Int) := of_decide_eq_true (by first | (with_reducible assumption) | assumption)
         have q17 : x5_1 < (23 : Int) := of_decide_eq_true (by first | (with_reducible assumption) | assumption)
         have hx17 := bt_at (⟨#[48, 48, 48, 48, 45, 48, 48, 45, 48, 48, 84, 48, 48, 58, 48, 48, 58, 48, 48, 46, 48, 48, 48]⟩ : ByteArray) x5_1
         replace p17 := eq_true p17
         replace q17 := eq_true q17
         have p19 : 0 ≤ (x5_1 : Int) := of_decide_eq_true (by first | (with_reducible assumption) | assumption)
         have q19 : x5_1 < (23 : Int) := of_decide_eq_true (by first | (with_reducible assumption) | assumption)
         have hx19 := bt_at (⟨#[48, 48, 48, 48, 45, 48, 48, 45, 48, 48, 84, 48, 48, 58, 48, 48, 58, 48, 48, 46, 48, 48, 48]⟩ : ByteArray) x5_1
         replace p19 := eq_true p19
         replace q19 := eq_true q19
         refine start_ (n := 29) (S := fun w' => True) (ds := []) (bm_ [0, 29]) (by kernel_rfl) rfl rfl trivial (fun hHeld => ?_); refine with_tabW scale_Read.tab7 scale_Read.bits7 (fun HT_ HW_ => ?_)
         generalize wr.drew = w20 at HO_4 BK101 HB hHeld ⊢
         refine pq_ 0 20 (bm_ [1, 28]) HT_ ?_
         refine take_ (i := 1) (N := some 21) (v := ?_) (a' := ?_) (bm_ [2, 27]) rfl rfl (take_ofW HT_.out HW_.out (by kernel_rfl)) (fun _ _ _ h => h) (Or.inl ⟨by rfl, ?_⟩) hHeld ?_ ?_
         rotate_left
         · intro w' _
           go_simp
           with_reducible rfl
         rotate_left
         · simp only [Act.put, List.setIfInBounds_toArray, List.set_cons_zero, List.set_cons_succ, i64_w, i32_w]
           rfl
         refine pq_ 2 22 (bm_ [3, 26]) HT_ ?_
         refine pq_ 3 23 (bm_ [4, 25]) HT_ ?_
         refine pq_ 4 24 (bm_ [5, 24]) HT_ ?_
         refine pq_ 5 25 (bm_ [6, 23]) HT_ ?_
         refine pq_ 7 27 (bm_ [6, 1, 1, 21]) HT_ ?_
         refine take_ (i := 6) (N := some 26) (v := ?_) (a' := ?_) (bm_ [8, 21]) rfl rfl (take_ofW HT_.out HW_.out (by kernel_rfl)) (fun _ _ _ h => h) (Or.inl ⟨by rfl, ?_⟩) hHeld ?_ ?_
         rotate_left
         · intro w' _
           go_simp
           with_reducible rfl
         rotate_left
         · simp only [Act.put, List.setIfInBounds_toArray, List.set_cons_zero, List.set_cons_succ, i64_w, i32_w]
           rfl
         refine take_ (i := 8) (N := some 28) (v := ?_) (a' := ?_) (bm_ [9, 20]) rfl rfl (take_ofW HT_.out HW_.out (by kernel_rfl)) (fun _ _ _ h => h) (Or.inl ⟨by rfl, ?_⟩) hHeld ?_ ?_
         rotate_left
         · intro w' _
           go_simp
           with_reducible rfl
         rotate_left
         · simp only [Act.put, List.setIfInBounds_toArray, List.set_cons_zero, List.set_cons_succ, i64_w, i32_w]
           rfl
         refine pq_ 9 29 (bm_ [10, 19]) HT_ ?_
         refine pq_ 10 30 (bm_ [11, 18]) HT_ ?_
         refine pq_ 11 31 (bm_ [12, 17]) HT_ ?_
         refine pq_ 12 32 (bm_ [13, 16]) HT_ ?_
         refine take_ (i := 13) (N := some 33) (v := ?_) (a' := ?_) (bm_ [14, 15]) rfl rfl (take_ofW HT_.out HW_.out (by kernel_rfl)) (fun _ _ _ h => h) (Or.inl ⟨by rfl, ?_⟩) hHeld ?_ ?_
         rotate_left
         · intro w' _
           go_simp
           with_reducible rfl
         rotate_left
         · simp only [Act.put, List.setIfInBounds_toArray, List.set_cons_zero, List.set_cons_succ, i64_w, i32_w]
           rfl
         refine pq_ 14 34 (bm_ [15, 14]) HT_ ?_
         refine pq_ 15 35 (bm_ [16, 13]) HT_ ?_
         refine pure_ (i := 16) (N := some 36) (v := undef) (a' := ?_) (bm_ [17, 12]) rfl rfl (any_of HT_.out (by kernel_rfl)) (fun _ _ _ h => h) (Or.inr ⟨by rfl, rfl⟩) ?_ ?_
         rotate_left
         · simp only [Act.put, List.setIfInBounds_toArray, List.set_cons_zero, List.set_cons_succ, i64_w, i32_w]
           rfl
         refine pure_ (i := 17) (N := some 37) (v := undef) (a' := ?_) (bm_ [18, 11]) rfl rfl (any_of HT_.out (by kernel_rfl)) (fun _ _ _ h => h) (Or.inr ⟨by rfl, rfl⟩) ?_ ?_
         rotate_left
         · simp only [Act.put, List.setIfInBounds_toArray, List.set_cons_zero, List.set_cons_succ, i64_w, i32_w]
           rfl
         refine pure_ (i := 18) (N := some 38) (v := undef) (a' := ?_) (bm_ [19, 10]) rfl rfl (any_of HT_.out (by kernel_rfl)) (fun _ _ _ h => h) (Or.inr ⟨by rfl, rfl⟩) ?_ ?_
         rotate_left
         · simp only [Act.put, List.setIfInBounds_toArray, List.set_cons_zero, List.set_cons_succ, i64_w, i32_w]
           rfl
         refine pure_ (i := 19) (N := some 39) (v := undef) (a' := ?_) (bm_ [20, 9]) rfl rfl (any_of HT_.out (by kernel_rfl)) (fun _ _ _ h => h) (Or.inr ⟨by rfl, rfl⟩) ?_ ?_
         rotate_left
         · simp only [Act.put, List.setIfInBounds_toArray, List.set_cons_zero, List.set_cons_succ, i64_w, i32_w]
           rfl
         refine pure_ (i := 20) (N := some 40) (v := undef) (a' := ?_) (bm_ [21, 8]) rfl rfl (any_of HT_.out (by kernel_rfl)) (fun _ _ _ h => h) (Or.inr ⟨by rfl, rfl⟩) ?_ ?_
         rotate_left
         · simp only [Act.put, List.setIfInBounds_toArray, List.set_cons_zero, List.set_cons_succ, i64_w, i32_w]
           rfl
         refine pure_ (i := 21) (N := some 41) (v := undef) (a' := ?_) (bm_ [22, 7]) rfl rfl (any_of HT_.out (by kernel_rfl)) (fun _ _ _ h => h) (Or.inr ⟨by rfl, rfl⟩) ?_ ?_
         rotate_left
         · simp only [Act.put, List.setIfInBounds_toArray, List.set_cons_zero, List.set_cons_succ, i64_w, i32_w]
           rfl
         refine pure_ (i := 22) (N := some 42) (v := undef) (a' := ?_) (bm_ [23, 6]) rfl rfl (any_of HT_.out (by kernel_rfl)) (fun _ _ _ h => h) (Or.inr ⟨by rfl, rfl⟩) ?_ ?_
         rotate_left
         · simp only [Act.put, List.setIfInBounds_toArray, List.set_cons_zero, List.set_cons_succ, i64_w, i32_w]
           rfl
         refine pure_ (i := 23) (N := some 43) (v := undef) (a' := ?_) (bm_ [24, 5]) rfl rfl (any_of HT_.out (by kernel_rfl)) (fun _ _ _ h => h) (Or.inr ⟨by rfl, rfl⟩) ?_ ?_
         rotate_left
         · simp only [Act.put, List.setIfInBounds_toArray, List.set_cons_zero, List.set_cons_succ, i64_w, i32_w]
           rfl
         refine pure_ (i := 24) (N := some 44) (v := undef) (a' := ?_) (bm_ [25, 4]) rfl rfl (any_of HT_.out (by kernel_rfl)) (fun _ _ _ h => h) (Or.inr ⟨by rfl, rfl⟩) ?_ ?_
         rotate_left
         · simp only [Act.put, List.setIfInBounds_toArray, List.set_cons_zero, List.set_cons_succ, i64_w, i32_w]
           rfl
         refine pure_ (i := 25) (N := some 45) (v := undef) (a' := ?_) (bm_ [26, 3]) rfl rfl (any_of HT_.out (by kernel_rfl)) (fun _ _ _ h => h) (Or.inr ⟨by rfl, rfl⟩) ?_ ?_
         rotate_left
         · simp only [Act.put, List.setIfInBounds_toArray, List.set_cons_zero, List.set_cons_succ, i64_w, i32_w]
           rfl
         refine pq_ 26 46 (bm_ [27, 2]) HT_ ?_
         refine pq_ 27 47 (bm_ [28, 1]) HT_ ?_
         refine pq_ 28 19 (bm_ [29]) HT_ ?_
         refine done_ (done_of HT_.out (by kernel_rfl)) ?_
         try go_wp2
         go_meet
         case rel => exact ⟨_, (false), (by first | rfl | (simp; done) | (simp [*]; done)), H', ⟨by have := HK1.out; first | omega | exact Nat.le_refl _⟩, ⟨by (with_reducible repeat (first | apply Kd.R_alloc | apply Kd.R_drewN | apply Kd.R_drew)); exact HO_4.out⟩, ⟨by (with_reducible repeat (first | refine blk_drewN ?_ _ | refine blk_drew ?_ | refine blk_alloc ?_ _)); exact BK101.out⟩, ⟨by repeat (first | (with_reducible first | exact HB.out | apply below_alloc | apply pw_below_drewN | apply below_drew1 | refine below_set ?_ GE101.out) | exact HB.out)⟩⟩
       rw [if_neg c18] at H
       have c18b0 : ((bt a0 x5_1) == (bt (⟨#[48, 48, 48, 48, 45, 48, 48, 45, 48, 48, 84, 48, 48, 58, 48, 48, 58, 48, 48, 46, 48, 48, 48]⟩ : ByteArray) x5_1)) = false := beq_eq_false_iff_ne.mpr c18
       have c18b1 : ((bt a0 x5_1) != (bt (⟨#[48, 48, 48, 48, 45, 48, 48, 45, 48, 48, 84, 48, 48, 58, 48, 48, 58, 48, 48, 46, 48, 48, 48]⟩ : ByteArray) x5_1)) = true := bne_iff_ne.mpr c18
       have H' := Aside0.mk H
       clear H
       try go_wp2
       replace HO_4 := Aside0.mk (Kd.R_drew HO_4.out)
       replace BK101 := Aside0.mk (blk_drew BK101.out)
       replace HB := Aside0.mk (below_drew1 HB.out)
       have p8 : 0 ≤ (x5_1 : Int) := of_decide_eq_true (by first | (with_reducible assumption) | assumption)
       have q8 : x5_1 < (23 : Int) := of_decide_eq_true (by first | (with_reducible assumption) | assumption)
       have hx8 := bt_at (⟨#[48, 48, 48, 48, 45, 48, 48, 45, 48, 48, 84, 48, 48, 58, 48, 48, 58, 48, 48, 46, 48, 48, 48]⟩ : ByteArray) x5_1
       replace p8 := eq_true p8
       replace q8 := eq_true q8
       have p16 : 0 ≤ (x5_1 : Int) := of_decide_eq_true (by first | (with_reducible assumption) | assumption)
       have q16 : x5_1 < (a0.size : Int) := of_decide_eq_true (by first | (with_reducible assumption) | assumption)
       have hx16 := bt_at a0 x5_1
       replace p16 := eq_true p16
       replace q16 := eq_true q16
       have p17 : 0 ≤ (x5_1 : Int) := of_decide_eq_true (by first | (with_reducible assumption) | assumption)
       have q17 : x5_1 < (23 : Int) := of_decide_eq_true (by first | (with_reducible assumption) | assumption)
       have hx17 := bt_at (⟨#[48, 48, 48, 48, 45, 48, 48, 45, 48, 48, 84, 48, 48, 58, 48, 48, 58, 48, 48, 46, 48, 48, 48]⟩ : ByteArray) x5_1
       replace p17 := eq_true p17
       replace q17 := eq_true q17
       refine start_ (n := 29) (S := fun w' => True) (ds := []) (bm_ [0, 29]) (by kernel_rfl) rfl rfl trivial (fun hHeld => ?_); refine with_tabW scale_Read.tab7 scale_Read.bits7 (fun HT_ HW_ => ?_)
       generalize wr.drew = w21 at HO_4 BK101 HB hHeld ⊢
       refine pq_ 0 20 (bm_ [1, 28]) HT_ ?_
       refine take_ (i := 1) (N := some 21) (v := ?_) (a' := ?_) (bm_ [2, 27]) rfl rfl (take_ofW HT_.out HW_.out (by kernel_rfl)) (fun _ _ _ h => h) (Or.inl ⟨by rfl, ?_⟩) hHeld ?_ ?_
       rotate_left
       · intro w' _
         go_simp
         with_reducible rfl
       rotate_left
       · simp only [Act.put, List.setIfInBounds_toArray, List.set_cons_zero, List.set_cons_succ, i64_w, i32_w]
         rfl
       refine pq_ 2 22 (bm_ [3, 26]) HT_ ?_
       refine pq_ 3 23 (bm_ [4, 25]) HT_ ?_
       refine pq_ 4 24 (bm_ [5, 24]) HT_ ?_
       refine pq_ 5 25 (bm_ [6, 23]) HT_ ?_
       refine pq_ 7 27 (bm_ [6, 1, 1, 21]) HT_ ?_
       refine take_ (i := 6) (N := some 26) (v := ?_) (a' := ?_) (bm_ [8, 21]) rfl rfl (take_ofW HT_.out HW_.out (by kernel_rfl)) (fun _ _ _ h => h) (Or.inl ⟨by rfl, ?_⟩) hHeld ?_ ?_
       rotate_left
       · intro w' _
         go_simp
         with_reducible rfl
       rotate_left
       · simp only [Act.put, List.setIfInBounds_toArray, List.set_cons_zero, List.set_cons_succ, i64_w, i32_w]
         rfl
       refine take_ (i := 8) (N := some 28) (v := ?_) (a' := ?_) (bm_ [9, 20]) rfl rfl (take_ofW HT_.out HW_.out (by kernel_rfl)) (fun _ _ _ h => h) (Or.inl ⟨by rfl, ?_⟩) hHeld ?_ ?_
       rotate_left
       · intro w' _
         go_simp
         with_reducible rfl
       rotate_left
       · simp only [Act.put, List.setIfInBounds_toArray, List.set_cons_zero, List.set_cons_succ, i64_w, i32_w]
         rfl
       refine pq_ 9 29 (bm_ [10, 19]) HT_ ?_
       refine pq_ 10 30 (bm_ [11, 18]) HT_ ?_
       refine pq_ 11 31 (bm_ [12, 17]) HT_ ?_
       refine pure_ (i := 12) (N := some 32) (v := undef) (a' := ?_) (bm_ [13, 16]) rfl rfl (any_of HT_.out (by kernel_rfl)) (fun _ _ _ h => h) (Or.inr ⟨by rfl, rfl⟩) ?_ ?_
       rotate_left
       · simp only [Act.put, List.setIfInBounds_toArray, List.set_cons_zero, List.set_cons_succ, i64_w, i32_w]
         rfl
       refine pure_ (i := 13) (N := some 33) (v := undef) (a' := ?_) (bm_ [14, 15]) rfl rfl (any_of HT_.out (by kernel_rfl)) (fun _ _ _ h => h) (Or.inr ⟨by rfl, rfl⟩) ?_ ?_
       rotate_left
       · simp only [Act.put, List.setIfInBounds_toArray, List.set_cons_zero, List.set_cons_succ, i64_w, i32_w]
         rfl
       refine pure_ (i := 14) (N := some 34) (v := undef) (a' := ?_) (bm_ [15, 14]) rfl rfl (any_of HT_.out (by kernel_rfl)) (fun _ _ _ h => h) (Or.inr ⟨by rfl, rfl⟩) ?_ ?_
       rotate_left
       · simp only [Act.put, List.setIfInBounds_toArray, List.set_cons_zero, List.set_cons_succ, i64_w, i32_w]
         rfl
       refine pure_ (i := 15) (N := some 35) (v := undef) (a' := ?_) (bm_ [16, 13]) rfl rfl (any_of HT_.out (by kernel_rfl)) (fun _ _ _ h => h) (Or.inr ⟨by rfl, rfl⟩) ?_ ?_
       rotate_left
       · simp only [Act.put, List.setIfInBounds_toArray, List.set_cons_zero, List.set_cons_succ, i64_w, i32_w]
         rfl
       refine pure_ (i := 16) (N := some 36) (v := undef) (a' := ?_) (bm_ [17, 12]) rfl rfl (any_of HT_.out (by kernel_rfl)) (fun _ _ _ h => h) (Or.inr ⟨by rfl, rfl⟩) ?_ ?_
       rotate_left
       · simp only [Act.put, List.setIfInBounds_toArray, List.set_cons_zero, List.set_cons_succ, i64_w, i32_w]
         rfl
       refine pure_ (i := 17) (N := some 37) (v := undef) (a' := ?_) (bm_ [18, 11]) rfl rfl (any_of HT_.out (by kernel_rfl)) (fun _ _ _ h => h) (Or.inr ⟨by rfl, rfl⟩) ?_ ?_
       rotate_left
       · simp only [Act.put, List.setIfInBounds_toArray, List.set_cons_zero, List.set_cons_succ, i64_w, i32_w]
         rfl
       refine pure_ (i := 18) (N := some 38) (v := undef) (a' := ?_) (bm_ [19, 10]) rfl rfl (any_of HT_.out (by kernel_rfl)) (fun _ _ _ h => h) (Or.inr ⟨by rfl, rfl⟩) ?_ ?_
       rotate_left
       · simp only [Act.put, List.setIfInBounds_toArray, List.set_cons_zero, List.set_cons_succ, i64_w, i32_w]
         rfl
       refine pure_ (i := 19) (N := some 39) (v := undef) (a' := ?_) (bm_ [20, 9]) rfl rfl (any_of HT_.out (by kernel_rfl)) (fun _ _ _ h => h) (Or.inr ⟨by rfl, rfl⟩) ?_ ?_
       rotate_left
       · simp only [Act.put, List.setIfInBounds_toArray, List.set_cons_zero, List.set_cons_succ, i64_w, i32_w]
         rfl
       refine pure_ (i := 20) (N := some 40) (v := undef) (a' := ?_) (bm_ [21, 8]) rfl rfl (any_of HT_.out (by kernel_rfl)) (fun _ _ _ h => h) (Or.inr ⟨by rfl, rfl⟩) ?_ ?_
       rotate_left
       · simp only [Act.put, List.setIfInBounds_toArray, List.set_cons_zero, List.set_cons_succ, i64_w, i32_w]
         rfl
       refine pure_ (i := 21) (N := some 41) (v := undef) (a' := ?_) (bm_ [22, 7]) rfl rfl (any_of HT_.out (by kernel_rfl)) (fun _ _ _ h => h) (Or.inr ⟨by rfl, rfl⟩) ?_ ?_
       rotate_left
       · simp only [Act.put, List.setIfInBounds_toArray, List.set_cons_zero, List.set_cons_succ, i64_w, i32_w]
         rfl
       refine pure_ (i := 22) (N := some 42) (v := undef) (a' := ?_) (bm_ [23, 6]) rfl rfl (any_of HT_.out (by kernel_rfl)) (fun _ _ _ h => h) (Or.inr ⟨by rfl, rfl⟩) ?_ ?_
       rotate_left
       · simp only [Act.put, List.setIfInBounds_toArray, List.set_cons_zero, List.set_cons_succ, i64_w, i32_w]
         rfl
       refine pure_ (i := 23) (N := some 43) (v := undef) (a' := ?_) (bm_ [24, 5]) rfl rfl (any_of HT_.out (by kernel_rfl)) (fun _ _ _ h => h) (Or.inr ⟨by rfl, rfl⟩) ?_ ?_
       rotate_left
       · simp only [Act.put, List.setIfInBounds_toArray, List.set_cons_zero, List.set_cons_succ, i64_w, i32_w]
         rfl
       refine pure_ (i := 24) (N := some 44) (v := undef) (a' := ?_) (bm_ [25, 4]) rfl rfl (any_of HT_.out (by kernel_rfl)) (fun _ _ _ h => h) (Or.inr ⟨by rfl, rfl⟩) ?_ ?_
       rotate_left
       · simp only [Act.put, List.setIfInBounds_toArray, List.set_cons_zero, List.set_cons_succ, i64_w, i32_w]
         rfl
       refine pure_ (i := 25) (N := some 45) (v := undef) (a' := ?_) (bm_ [26, 3]) rfl rfl (any_of HT_.out (by kernel_rfl)) (fun _ _ _ h => h) (Or.inr ⟨by rfl, rfl⟩) ?_ ?_
       rotate_left
       · simp only [Act.put, List.setIfInBounds_toArray, List.set_cons_zero, List.set_cons_succ, i64_w, i32_w]
         rfl
       refine pure_ (i := 26) (N := some 46) (v := undef) (a' := ?_) (bm_ [27, 2]) rfl rfl (any_of HT_.out (by kernel_rfl)) (fun _ _ _ h => h) (Or.inr ⟨by rfl, rfl⟩) ?_ ?_
       rotate_left
       · simp only [Act.put, List.setIfInBounds_toArray, List.set_cons_zero, List.set_cons_succ, i64_w, i32_w]
         rfl
       refine pq_ 27 47 (bm_ [28, 1]) HT_ ?_
       refine pq_ 28 19 (bm_ [29]) HT_ ?_
       refine done_ (done_of HT_.out (by kernel_rfl)) ?_
       try go_wp2
       go_meet
       case rel => exact ⟨_, (true), (by first | rfl | (simp; done) | (simp [*]; done)), H', ⟨by have := HK1.out; first | omega | exact Nat.le_refl _⟩, ⟨by (with_reducible repeat (first | apply Kd.R_alloc | apply Kd.R_drewN | apply Kd.R_drew)); exact HO_4.out⟩, ⟨by (with_reducible repeat (first | refine blk_drewN ?_ _ | refine blk_drew ?_ | refine blk_alloc ?_ _)); exact BK101.out⟩, ⟨by repeat (first | (with_reducible first | exact HB.out | apply below_alloc | apply pw_below_drewN | apply below_drew1 | refine below_set ?_ GE101.out) | exact HB.out)⟩⟩
      case rest =>
       clear HC5
       obtain ⟨kq, x19_4, rfl, HA, HJ4, HO_4, BK101, HB⟩ := hcut
       cases kq with
       | zero => exact absurd HA.out (by simp [scale_Read.j1])
       | succ kj4 =>
        have H := HA.out
        clear HA
        simp only [scale_Read.j1] at H
        by_cases c22 : x19_4 = true
        · subst c22
          rw [if_pos rfl] at H
          simp only [Option.some.injEq, Prod.mk.injEq] at H
          obtain ⟨rfl, rfl, rfl, rfl, rfl, rfl, rfl, rfl⟩ := H
          have hcz23_0 := bc_ BK101 0 rfl
          have hcz23_1 := bc_ BK101 1 rfl
          have hcz23_2 := bc_ BK101 2 rfl
          have hcz23_3 := bc_ BK101 3 rfl
          have hcz23_4 := bc_ BK101 4 rfl
          have hcz23_5 := bc_ BK101 5 rfl
          have hcz23_6 := bc_ BK101 6 rfl
          have hfz23_0 := blk_frozen BK101.out 0
          have hfz23_1 := blk_frozen BK101.out 1
          have hfz23_2 := blk_frozen BK101.out 2
          have hfz23_3 := blk_frozen BK101.out 3
          have hfz23_4 := blk_frozen BK101.out 4
          have hfz23_5 := blk_frozen BK101.out 5
          have hfz23_6 := blk_frozen BK101.out 6
          go_wp2
          refine bodyPost_ret (results_ct rfl _ _ gb101 32 #[.int .i64 0, .int .i64 0, .int .i64 0, .int .i64 0, .int .i64 0, .int .i64 0, .int .i64 0] (0, 0) _ rfl (by (with_reducible repeat (first | refine blk_drewN ?_ _ | refine blk_drew ?_ | refine blk_alloc ?_ _)); refine blk_put (cs := #[.int .i64 0, .int .i64 0, .int .i64 0, .int .i64 0, .int .i64 0, .int .i64 0, .int .i64 x102006_1]) ?_ 6 _ rfl; (with_reducible repeat (first | refine blk_drewN ?_ _ | refine blk_drew ?_ | refine blk_alloc ?_ _)); refine blk_put (cs := #[.int .i64 0, .int .i64 0, .int .i64 0, .int .i64 0, .int .i64 0, .int .i64 x102005_1, .int .i64 x102006_1]) ?_ 5 _ rfl; (with_reducible repeat (first | refine blk_drewN ?_ _ | refine blk_drew ?_ | refine blk_alloc ?_ _)); refine blk_put (cs := #[.int .i64 0, .int .i64 0, .int .i64 0, .int .i64 0, .int .i64 x102004_1, .int .i64 x102005_1, .int .i64 x102006_1]) ?_ 4 _ rfl; (with_reducible repeat (first | refine blk_drewN ?_ _ | refine blk_drew ?_ | refine blk_alloc ?_ _)); refine blk_put (cs := #[.int .i64 0, .int .i64 0, .int .i64 0, .int .i64 x102003_1, .int .i64 x102004_1, .int .i64 x102005_1, .int .i64 x102006_1]) ?_ 3 _ rfl; (with_reducible repeat (first | refine blk_drewN ?_ _ | refine blk_drew ?_ | refine blk_alloc ?_ _)); refine blk_put (cs := #[.int .i64 0, .int .i64 0, .int .i64 x102002_1, .int .i64 x102003_1, .int .i64 x102004_1, .int .i64 x102005_1, .int .i64 x102006_1]) ?_ 2 _ rfl; (with_reducible repeat (first | refine blk_drewN ?_ _ | refine blk_drew ?_ | refine blk_alloc ?_ _)); refine blk_put (cs := #[.int .i64 0, .int .i64 x102001_1, .int .i64 x102002_1, .int .i64 x102003_1, .int .i64 x102004_1, .int .i64 x102005_1, .int .i64 x102006_1]) ?_ 1 _ rfl; (with_reducible repeat (first | refine blk_drewN ?_ _ | refine blk_drew ?_ | refine blk_alloc ?_ _)); refine blk_put (cs := #[.int .i64 x102000_1, .int .i64 x102001_1, .int .i64 x102002_1, .int .i64 x102003_1, .int .i64 x102004_1, .int .i64 x102005_1, .int .i64 x102006_1]) ?_ 0 _ rfl; (with_reducible repeat (first | refine blk_drewN ?_ _ | refine blk_drew ?_ | refine blk_alloc ?_ _)); exact BK101.out) Tryd.underlying32 rfl (by kernel_rfl)) rfl ?_
          exact ⟨by first | rfl | (simp [errW_none, errW_some] <;> rfl) | (simp [*, errW_none, errW_some] <;> rfl), by repeat (first | (with_reducible first | exact HB.out | apply below_alloc | apply pw_below_drewN | apply below_drew1 | refine below_set ?_ GE101.out) | exact HB.out)⟩
        replace c22 := Bool.eq_false_iff.mpr c22
        subst c22
        rw [if_neg (show ¬ (false = true) by decide)] at H
        by_cases c24 : 0 ≤ x5_1
        rotate_left
        · rw [if_neg c24] at H
          exact absurd H (by simp)
        rw [if_pos c24] at H
        have c24b0 : decide (0 ≤ x5_1) = true := decide_eq_true c24
        clear c24
        by_cases c25 : x5_1 < 23
        rotate_left
        · rw [if_neg c25] at H
          exact absurd H (by simp)
        rw [if_pos c25] at H
        have c25b0 : decide (x5_1 < 23) = true := decide_eq_true c25
        clear c25
        by_cases c27 : (bt (⟨#[48, 48, 48, 48, 45, 48, 48, 45, 48, 48, 84, 48, 48, 58, 48, 48, 58, 48, 48, 46, 48, 48, 48]⟩ : ByteArray) x5_1) = 48
        · rw [if_pos c27] at H
          have c27b0 : ((bt (⟨#[48, 48, 48, 48, 45, 48, 48, 45, 48, 48, 84, 48, 48, 58, 48, 48, 58, 48, 48, 46, 48, 48, 48]⟩ : ByteArray) x5_1) == 48) = true := beq_iff_eq.mpr c27
          have c27b1 : ((bt (⟨#[48, 48, 48, 48, 45, 48, 48, 45, 48, 48, 84, 48, 48, 58, 48, 48, 58, 48, 48, 46, 48, 48, 48]⟩ : ByteArray) x5_1) != 48) = false := bne_eq_false_iff_eq.mpr c27
          clear c27
          by_cases c28 : x5_1 < (a0.size : Int)
          rotate_left
          · rw [if_neg c28] at H
            exact absurd H (by simp)
          rw [if_pos c28] at H
          have c28b0 : decide (x5_1 < (a0.size : Int)) = true := decide_eq_true c28
          clear c28
          by_cases c30 : (wrap64 (x5_1 + 1)) = (a0.size : Int)
          · rw [if_pos c30] at H
            have c30b0 : ((wrap64 (x5_1 + 1)) == (a0.size : Int)) = true := beq_iff_eq.mpr c30
            have c30b1 : ((wrap64 (x5_1 + 1)) != (a0.size : Int)) = false := bne_eq_false_iff_eq.mpr c30
            clear c30
            by_cases c31 : x4_1.length < 17592186044416
            rotate_left
            · rw [if_neg c31] at H
              exact absurd H (by simp)
            rw [if_pos c31] at H
            have LMc31 := Aside0.mk c31
            clear c31
            obtain ⟨y111, hy111⟩ : ∃ y_ : List Int, y_ = (x4_1 ++ [wrap64 ((wrap64 (10 * x6_1)) + (((bt a0 x5_1) - 48) % 256))]) := ⟨_, rfl⟩
            replace H : (scale_Read.l0 kj4 a0 y111 (wrap64 (x5_1 + 1)) 0) = some (r1, r2, r3, r4, r5, r6, r7, r8) := by first | (rw [hy111]; with_reducible exact H) | (have H2_ := (Option.bind_some _ _).symm.trans H; rw [hy111]; with_reducible exact H2_) | (have H2_ := (Option.bind_some _ _).symm.trans H; with_reducible exact H2_) | with_reducible exact H | (rw [hy111]; exact H) | exact H
            have Ny111 := Aside0.mk hy111
            clear hy111
            have H' := Aside0.mk H
            clear H
            have p26 : 0 ≤ (x5_1 : Int) := of_decide_eq_true (by first | (with_reducible assumption) | assumption)
            have q26 : x5_1 < (23 : Int) := of_decide_eq_true (by first | (with_reducible assumption) | assumption)
            have hx26 := bt_at (⟨#[48, 48, 48, 48, 45, 48, 48, 45, 48, 48, 84, 48, 48, 58, 48, 48, 58, 48, 48, 46, 48, 48, 48]⟩ : ByteArray) x5_1
            replace p26 := eq_true p26
            replace q26 := eq_true q26
            have p29 : 0 ≤ (x5_1 : Int) := of_decide_eq_true (by first | (with_reducible assumption) | assumption)
            have q29 : x5_1 < (a0.size : Int) := of_decide_eq_true (by first | (with_reducible assumption) | assumption)
            have hx29 := bt_at a0 x5_1
            replace p29 := eq_true p29
            replace q29 := eq_true q29
            go_wp2_with (first | ((with_reducible refine gate_builtin (b := .append) (xs := #[.tmp 77, .tmp 79]) rfl ?_); at_builtin; refine Kd.R_append (Kd.int .i64) (w0 := w) w.heap.size rfl (.tmp 77) (.tmp 79) 22 3 (.int .i64 0) 8 rfl Tryd.underlying22 info3 rfl (by decide) (by omega) u4 x4_1 (wrap64 ((wrap64 (10 * x6_1)) + (((bt a0 x5_1) - 48) % 256))) [.int .i64 (wrap64 ((wrap64 (10 * x6_1)) + (((bt a0 x5_1) - 48) % 256)))] (fun _ => True) (fun _ => False) rfl rfl ?aP (fun _ hk => hk.elim) ?aF ?aO ?aB ?aS ?aL ?_; (case aP => exact rfl); (case aB => exact (by repeat (first | (with_reducible first | exact HB.out | apply below_alloc | apply pw_below_drewN | apply below_drew1 | refine below_set ?_ GE101.out) | exact HB.out))); (case aF => exact (fun _ _ => trivial)); (case aO => exact (by (with_reducible repeat (first | apply Kd.R_alloc | apply Kd.R_drewN | apply Kd.R_drew)); exact HO_4.out)); (case aS => exact (below_size (by repeat (first | (with_reducible first | exact HB.out | apply below_alloc | apply pw_below_drewN | apply below_drew1 | refine below_set ?_ GE101.out) | exact HB.out)))); (case aL => have := LMc31.out; omega); intro v112 w32 ho hb hg hat; rw [← Ny111.out] at ho; have HO113 := Aside0.mk (ho); replace BK101 := Aside0.mk (blk_grown (g := gb101) (o := .cells #[.int .i64 x102000_1, .int .i64 x102001_1, .int .i64 x102002_1, .int .i64 x102003_1, .int .i64 x102004_1, .int .i64 x102005_1, .int .i64 x102006_1] 32 (0, 0)) BK101.out hg (Kd.R_ne HO_4.out BK101.out (by decide))); replace HB := Aside0.mk (hb); clear HO_4; clear ho hb hg hat))
            go_roundg kj4
            case measure => have := HK1.out; have := HJ4.out; omega
            case rel => exact ⟨(y111), (wrap64 (x5_1 + 1)), (0), (x102000_1), (x102001_1), (x102002_1), (x102003_1), (x102004_1), (x102005_1), (x102006_1), (by first | rfl | (simp; done) | (simp [*]; done)), (by first | rfl | (simp; done) | (simp [*]; done)), H', ⟨by have := HK1.out; have := HJ4.out; omega⟩, ⟨by (with_reducible repeat (first | apply Kd.R_alloc | apply Kd.R_drewN | apply Kd.R_drew)); exact HO113.out⟩, ⟨by (with_reducible repeat (first | refine blk_drewN ?_ _ | refine blk_drew ?_ | refine blk_alloc ?_ _)); exact BK101.out⟩, ⟨by repeat (first | (with_reducible first | exact HB.out | apply below_alloc | apply pw_below_drewN | apply below_drew1 | refine below_set ?_ GE101.out) | exact HB.out)⟩⟩
          rw [if_neg c30] at H
          have c30b0 : ((wrap64 (x5_1 + 1)) == (a0.size : Int)) = false := beq_eq_false_iff_ne.mpr c30
          have c30b1 : ((wrap64 (x5_1 + 1)) != (a0.size : Int)) = true := bne_iff_ne.mpr c30
          obtain ⟨ji33, hji33⟩ : ∃ j_ : Int, (wrap64 (x5_1 + 1)) = j_ := ⟨_, rfl⟩
          replace H : (if 0 ≤ (ji33) then (if (ji33) < 23 then (if (bt (⟨#[48, 48, 48, 48, 45, 48, 48, 45, 48, 48, 84, 48, 48, 58, 48, 48, 58, 48, 48, 46, 48, 48, 48]⟩ : ByteArray) (ji33)) = 48 then (scale_Read.l0 kj4 a0 x4_1 ji33 (wrap64 ((wrap64 (10 * x6_1)) + (((bt a0 x5_1) - 48) % 256)))) else (if x4_1.length < 17592186044416 then (scale_Read.l0 kj4 a0 (x4_1 ++ [wrap64 ((wrap64 (10 * x6_1)) + (((bt a0 x5_1) - 48) % 256))]) ji33 0) else (none))) else (none)) else (none)) = some (r1, r2, r3, r4, r5, r6, r7, r8) := by first | (rw [hji33] at H; exact H) | (simp only [hji33] at H ⊢; exact H)
          (try rw [hji33] at c30b0)
          (try rw [hji33] at c30b1)
          have hji33w : (IntKind.i64.wrap (x5_1 + 1)) = ji33 := (i64_w _).trans hji33
          by_cases c34 : 0 ≤ (ji33)
          rotate_left
          · rw [if_neg c34] at H
            exact absurd H (by simp)
          rw [if_pos c34] at H
          have c34b0 : decide (0 ≤ (ji33)) = true := decide_eq_true c34
          clear c34
          by_cases c35 : (ji33) < 23
          rotate_left
          · rw [if_neg c35] at H
            exact absurd H (by simp)
          rw [if_pos c35] at H
          have c35b0 : decide ((ji33) < 23) = true := decide_eq_true c35
          clear c35
          by_cases c37 : (bt (⟨#[48, 48, 48, 48, 45, 48, 48, 45, 48, 48, 84, 48, 48, 58, 48, 48, 58, 48, 48, 46, 48, 48, 48]⟩ : ByteArray) (ji33)) = 48
          · rw [if_pos c37] at H
            have c37b0 : ((bt (⟨#[48, 48, 48, 48, 45, 48, 48, 45, 48, 48, 84, 48, 48, 58, 48, 48, 58, 48, 48, 46, 48, 48, 48]⟩ : ByteArray) (ji33)) == 48) = true := beq_iff_eq.mpr c37
            have c37b1 : ((bt (⟨#[48, 48, 48, 48, 45, 48, 48, 45, 48, 48, 84, 48, 48, 58, 48, 48, 58, 48, 48, 46, 48, 48, 48]⟩ : ByteArray) (ji33)) != 48) = false := bne_eq_false_iff_eq.mpr c37
            clear c37
            have H' := Aside0.mk H
            clear H
            have p26 : 0 ≤ (x5_1 : Int) := of_decide_eq_true (by first | (with_reducible assumption) | assumption)
            have q26 : x5_1 < (23 : Int) := of_decide_eq_true (by first | (with_reducible assumption) | assumption)
            have hx26 := bt_at (⟨#[48, 48, 48, 48, 45, 48, 48, 45, 48, 48, 84, 48, 48, 58, 48, 48, 58, 48, 48, 46, 48, 48, 48]⟩ : ByteArray) x5_1
            replace p26 := eq_true p26
            replace q26 := eq_true q26
            have p29 : 0 ≤ (x5_1 : Int) := of_decide_eq_true (by first | (with_reducible assumption) | assumption)
            have q29 : x5_1 < (a0.size : Int) := of_decide_eq_true (by first | (with_reducible assumption) | assumption)
            have hx29 := bt_at a0 x5_1
            replace p29 := eq_true p29
            replace q29 := eq_true q29
            have p36 : 0 ≤ ((ji33) : Int) := of_decide_eq_true (by first | (with_reducible assumption) | assumption)
            have q36 : (ji33) < (23 : Int) := of_decide_eq_true (by first | (with_reducible assumption) | assumption)
            have hx36 := bt_at (⟨#[48, 48, 48, 48, 45, 48, 48, 45, 48, 48, 84, 48, 48, 58, 48, 48, 58, 48, 48, 46, 48, 48, 48]⟩ : ByteArray) (ji33)
            replace p36 := eq_true p36
            replace q36 := eq_true q36
            go_wp2
            go_roundg kj4
            case measure => have := HK1.out; have := HJ4.out; omega
            case rel => exact ⟨(x4_1), (ji33), (wrap64 ((wrap64 (10 * x6_1)) + (((bt a0 x5_1) - 48) % 256))), (x102000_1), (x102001_1), (x102002_1), (x102003_1), (x102004_1), (x102005_1), (x102006_1), (by first | rfl | (simp; done) | (simp only [← hji33] <;> (first | rfl | simp)) | (simp [*]; done)), (by first | rfl | (simp; done) | (simp [*]; done)), H', ⟨by have := HK1.out; have := HJ4.out; omega⟩, ⟨by (with_reducible repeat (first | apply Kd.R_alloc | apply Kd.R_drewN | apply Kd.R_drew)); exact HO_4.out⟩, ⟨by (with_reducible repeat (first | refine blk_drewN ?_ _ | refine blk_drew ?_ | refine blk_alloc ?_ _)); exact BK101.out⟩, ⟨by repeat (first | (with_reducible first | exact HB.out | apply below_alloc | apply pw_below_drewN | apply below_drew1 | refine below_set ?_ GE101.out) | exact HB.out)⟩⟩
          rw [if_neg c37] at H
          have c37b0 : ((bt (⟨#[48, 48, 48, 48, 45, 48, 48, 45, 48, 48, 84, 48, 48, 58, 48, 48, 58, 48, 48, 46, 48, 48, 48]⟩ : ByteArray) (ji33)) == 48) = false := beq_eq_false_iff_ne.mpr c37
          have c37b1 : ((bt (⟨#[48, 48, 48, 48, 45, 48, 48, 45, 48, 48, 84, 48, 48, 58, 48, 48, 58, 48, 48, 46, 48, 48, 48]⟩ : ByteArray) (ji33)) != 48) = true := bne_iff_ne.mpr c37
          by_cases c39 : x4_1.length < 17592186044416
          rotate_left
          · rw [if_neg c39] at H
            exact absurd H (by simp)
          rw [if_pos c39] at H
          have LMc39 := Aside0.mk c39
          clear c39
          obtain ⟨y114, hy114⟩ : ∃ y_ : List Int, y_ = (x4_1 ++ [wrap64 ((wrap64 (10 * x6_1)) + (((bt a0 x5_1) - 48) % 256))]) := ⟨_, rfl⟩
          replace H : (scale_Read.l0 kj4 a0 y114 ji33 0) = some (r1, r2, r3, r4, r5, r6, r7, r8) := by first | (rw [hy114]; with_reducible exact H) | (have H2_ := (Option.bind_some _ _).symm.trans H; rw [hy114]; with_reducible exact H2_) | (have H2_ := (Option.bind_some _ _).symm.trans H; with_reducible exact H2_) | with_reducible exact H | (rw [hy114]; exact H) | exact H
          have Ny114 := Aside0.mk hy114
          clear hy114
          have H' := Aside0.mk H
          clear H
          have p26 : 0 ≤ (x5_1 : Int) := of_decide_eq_true (by first | (with_reducible assumption) | assumption)
          have q26 : x5_1 < (23 : Int) := of_decide_eq_true (by first | (with_reducible assumption) | assumption)
          have hx26 := bt_at (⟨#[48, 48, 48, 48, 45, 48, 48, 45, 48, 48, 84, 48, 48, 58, 48, 48, 58, 48, 48, 46, 48, 48, 48]⟩ : ByteArray) x5_1
          replace p26 := eq_true p26
          replace q26 := eq_true q26
          have p29 : 0 ≤ (x5_1 : Int) := of_decide_eq_true (by first | (with_reducible assumption) | assumption)
          have q29 : x5_1 < (a0.size : Int) := of_decide_eq_true (by first | (with_reducible assumption) | assumption)
          have hx29 := bt_at a0 x5_1
          replace p29 := eq_true p29
          replace q29 := eq_true q29
          have p36 : 0 ≤ ((ji33) : Int) := of_decide_eq_true (by first | (with_reducible assumption) | assumption)
          have q36 : (ji33) < (23 : Int) := of_decide_eq_true (by first | (with_reducible assumption) | assumption)
          have hx36 := bt_at (⟨#[48, 48, 48, 48, 45, 48, 48, 45, 48, 48, 84, 48, 48, 58, 48, 48, 58, 48, 48, 46, 48, 48, 48]⟩ : ByteArray) (ji33)
          replace p36 := eq_true p36
          replace q36 := eq_true q36
          have p38 : 0 ≤ (x5_1 : Int) := of_decide_eq_true (by first | (with_reducible assumption) | assumption)
          have q38 : x5_1 < (23 : Int) := of_decide_eq_true (by first | (with_reducible assumption) | assumption)
          have hx38 := bt_at (⟨#[48, 48, 48, 48, 45, 48, 48, 45, 48, 48, 84, 48, 48, 58, 48, 48, 58, 48, 48, 46, 48, 48, 48]⟩ : ByteArray) x5_1
          replace p38 := eq_true p38
          replace q38 := eq_true q38
          go_wp2_with (first | ((with_reducible refine gate_builtin (b := .append) (xs := #[.tmp 77, .tmp 79]) rfl ?_); at_builtin; refine Kd.R_append (Kd.int .i64) (w0 := w) w.heap.size rfl (.tmp 77) (.tmp 79) 22 3 (.int .i64 0) 8 rfl Tryd.underlying22 info3 rfl (by decide) (by omega) u4 x4_1 (wrap64 ((wrap64 (10 * x6_1)) + (((bt a0 x5_1) - 48) % 256))) [.int .i64 (wrap64 ((wrap64 (10 * x6_1)) + (((bt a0 x5_1) - 48) % 256)))] (fun _ => True) (fun _ => False) rfl rfl ?aP (fun _ hk => hk.elim) ?aF ?aO ?aB ?aS ?aL ?_; (case aP => exact rfl); (case aB => exact (by repeat (first | (with_reducible first | exact HB.out | apply below_alloc | apply pw_below_drewN | apply below_drew1 | refine below_set ?_ GE101.out) | exact HB.out))); (case aF => exact (fun _ _ => trivial)); (case aO => exact (by (with_reducible repeat (first | apply Kd.R_alloc | apply Kd.R_drewN | apply Kd.R_drew)); exact HO_4.out)); (case aS => exact (below_size (by repeat (first | (with_reducible first | exact HB.out | apply below_alloc | apply pw_below_drewN | apply below_drew1 | refine below_set ?_ GE101.out) | exact HB.out)))); (case aL => have := LMc39.out; omega); intro v115 w40 ho hb hg hat; rw [← Ny114.out] at ho; have HO116 := Aside0.mk (ho); replace BK101 := Aside0.mk (blk_grown (g := gb101) (o := .cells #[.int .i64 x102000_1, .int .i64 x102001_1, .int .i64 x102002_1, .int .i64 x102003_1, .int .i64 x102004_1, .int .i64 x102005_1, .int .i64 x102006_1] 32 (0, 0)) BK101.out hg (Kd.R_ne HO_4.out BK101.out (by decide))); replace HB := Aside0.mk (hb); clear HO_4; clear ho hb hg hat))
          go_roundg kj4
          case measure => have := HK1.out; have := HJ4.out; omega
          case rel => exact ⟨(y114), (ji33), (0), (x102000_1), (x102001_1), (x102002_1), (x102003_1), (x102004_1), (x102005_1), (x102006_1), (by first | rfl | (simp; done) | (simp only [← hji33] <;> (first | rfl | simp)) | (simp [*]; done)), (by first | rfl | (simp; done) | (simp [*]; done)), H', ⟨by have := HK1.out; have := HJ4.out; omega⟩, ⟨by (with_reducible repeat (first | apply Kd.R_alloc | apply Kd.R_drewN | apply Kd.R_drew)); exact HO116.out⟩, ⟨by (with_reducible repeat (first | refine blk_drewN ?_ _ | refine blk_drew ?_ | refine blk_alloc ?_ _)); exact BK101.out⟩, ⟨by repeat (first | (with_reducible first | exact HB.out | apply below_alloc | apply pw_below_drewN | apply below_drew1 | refine below_set ?_ GE101.out) | exact HB.out)⟩⟩
        rw [if_neg c27] at H
        have c27b0 : ((bt (⟨#[48, 48, 48, 48, 45, 48, 48, 45, 48, 48, 84, 48, 48, 58, 48, 48, 58, 48, 48, 46, 48, 48, 48]⟩ : ByteArray) x5_1) == 48) = false := beq_eq_false_iff_ne.mpr c27
        have c27b1 : ((bt (⟨#[48, 48, 48, 48, 45, 48, 48, 45, 48, 48, 84, 48, 48, 58, 48, 48, 58, 48, 48, 46, 48, 48, 48]⟩ : ByteArray) x5_1) != 48) = true := bne_iff_ne.mpr c27
        by_cases c41 : (wrap64 (x5_1 + 1)) = (a0.size : Int)
        · rw [if_pos c41] at H
          have c41b0 : ((wrap64 (x5_1 + 1)) == (a0.size : Int)) = true := beq_iff_eq.mpr c41
          have c41b1 : ((wrap64 (x5_1 + 1)) != (a0.size : Int)) = false := bne_eq_false_iff_eq.mpr c41
          clear c41
          by_cases c42 : x4_1.length < 17592186044416
          rotate_left
          · rw [if_neg c42] at H
            exact absurd H (by simp)
          rw [if_pos c42] at H
          have LMc42 := Aside0.mk c42
          clear c42
          obtain ⟨y117, hy117⟩ : ∃ y_ : List Int, y_ = (x4_1 ++ [x6_1]) := ⟨_, rfl⟩
          replace H : (scale_Read.l0 kj4 a0 y117 (wrap64 (x5_1 + 1)) 0) = some (r1, r2, r3, r4, r5, r6, r7, r8) := by first | (rw [hy117]; with_reducible exact H) | (have H2_ := (Option.bind_some _ _).symm.trans H; rw [hy117]; with_reducible exact H2_) | (have H2_ := (Option.bind_some _ _).symm.trans H; with_reducible exact H2_) | with_reducible exact H | (rw [hy117]; exact H) | exact H
          have Ny117 := Aside0.mk hy117
          clear hy117
          have H' := Aside0.mk H
          clear H
          have p26 : 0 ≤ (x5_1 : Int) := of_decide_eq_true (by first | (with_reducible assumption) | assumption)
          have q26 : x5_1 < (23 : Int) := of_decide_eq_true (by first | (with_reducible assumption) | assumption)
          have hx26 := bt_at (⟨#[48, 48, 48, 48, 45, 48, 48, 45, 48, 48, 84, 48, 48, 58, 48, 48, 58, 48, 48, 46, 48, 48, 48]⟩ : ByteArray) x5_1
          replace p26 := eq_true p26
          replace q26 := eq_true q26
          go_wp2_with (first | ((with_reducible refine gate_builtin (b := .append) (xs := #[.tmp 77, .tmp 79]) rfl ?_); at_builtin; refine Kd.R_append (Kd.int .i64) (w0 := w) w.heap.size rfl (.tmp 77) (.tmp 79) 22 3 (.int .i64 0) 8 rfl Tryd.underlying22 info3 rfl (by decide) (by omega) u4 x4_1 x6_1 [.int .i64 x6_1] (fun _ => True) (fun _ => False) rfl rfl ?aP (fun _ hk => hk.elim) ?aF ?aO ?aB ?aS ?aL ?_; (case aP => exact rfl); (case aB => exact (by repeat (first | (with_reducible first | exact HB.out | apply below_alloc | apply pw_below_drewN | apply below_drew1 | refine below_set ?_ GE101.out) | exact HB.out))); (case aF => exact (fun _ _ => trivial)); (case aO => exact (by (with_reducible repeat (first | apply Kd.R_alloc | apply Kd.R_drewN | apply Kd.R_drew)); exact HO_4.out)); (case aS => exact (below_size (by repeat (first | (with_reducible first | exact HB.out | apply below_alloc | apply pw_below_drewN | apply below_drew1 | refine below_set ?_ GE101.out) | exact HB.out)))); (case aL => have := LMc42.out; omega); intro v118 w43 ho hb hg hat; rw [← Ny117.out] at ho; have HO119 := Aside0.mk (ho); replace BK101 := Aside0.mk (blk_grown (g := gb101) (o := .cells #[.int .i64 x102000_1, .int .i64 x102001_1, .int .i64 x102002_1, .int .i64 x102003_1, .int .i64 x102004_1, .int .i64 x102005_1, .int .i64 x102006_1] 32 (0, 0)) BK101.out hg (Kd.R_ne HO_4.out BK101.out (by decide))); replace HB := Aside0.mk (hb); clear HO_4; clear ho hb hg hat))
          go_roundg kj4
          case measure => have := HK1.out; have := HJ4.out; omega
          case rel => exact ⟨(y117), (wrap64 (x5_1 + 1)), (0), (x102000_1), (x102001_1), (x102002_1), (x102003_1), (x102004_1), (x102005_1), (x102006_1), (by first | rfl | (simp; done) | (simp [*]; done)), (by first | rfl | (simp; done) | (simp [*]; done)), H', ⟨by have := HK1.out; have := HJ4.out; omega⟩, ⟨by (with_reducible repeat (first | apply Kd.R_alloc | apply Kd.R_drewN | apply Kd.R_drew)); exact HO119.out⟩, ⟨by (with_reducible repeat (first | refine blk_drewN ?_ _ | refine blk_drew ?_ | refine blk_alloc ?_ _)); exact BK101.out⟩, ⟨by repeat (first | (with_reducible first | exact HB.out | apply below_alloc | apply pw_below_drewN | apply below_drew1 | refine below_set ?_ GE101.out) | exact HB.out)⟩⟩
        rw [if_neg c41] at H
        have c41b0 : ((wrap64 (x5_1 + 1)) == (a0.size : Int)) = false := beq_eq_false_iff_ne.mpr c41
        have c41b1 : ((wrap64 (x5_1 + 1)) != (a0.size : Int)) = true := bne_iff_ne.mpr c41
        obtain ⟨ji44, hji44⟩ : ∃ j_ : Int, (wrap64 (x5_1 + 1)) = j_ := ⟨_, rfl⟩
        replace H : (if 0 ≤ (ji44) then (if (ji44) < 23 then (if (bt (⟨#[48, 48, 48, 48, 45, 48, 48, 45, 48, 48, 84, 48, 48, 58, 48, 48, 58, 48, 48, 46, 48, 48, 48]⟩ : ByteArray) (ji44)) = 48 then (scale_Read.l0 kj4 a0 x4_1 ji44 x6_1) else (scale_Read.l0 kj4 a0 x4_1 ji44 x6_1)) else (none)) else (none)) = some (r1, r2, r3, r4, r5, r6, r7, r8) := by first | (rw [hji44] at H; exact H) | (simp only [hji44] at H ⊢; exact H)
        (try rw [hji44] at c41b0)
        (try rw [hji44] at c41b1)
        have hji44w : (IntKind.i64.wrap (x5_1 + 1)) = ji44 := (i64_w _).trans hji44
        by_cases c45 : 0 ≤ (ji44)
        rotate_left
        · rw [if_neg c45] at H
          exact absurd H (by simp)
        rw [if_pos c45] at H
        have c45b0 : decide (0 ≤ (ji44)) = true := decide_eq_true c45
        clear c45
        by_cases c46 : (ji44) < 23
        rotate_left
        · rw [if_neg c46] at H
          exact absurd H (by simp)
        rw [if_pos c46] at H
        have c46b0 : decide ((ji44) < 23) = true := decide_eq_true c46
        clear c46
        by_cases c48 : (bt (⟨#[48, 48, 48, 48, 45, 48, 48, 45, 48, 48, 84, 48, 48, 58, 48, 48, 58, 48, 48, 46, 48, 48, 48]⟩ : ByteArray) (ji44)) = 48
        · rw [if_pos c48] at H
          have c48b0 : ((bt (⟨#[48, 48, 48, 48, 45, 48, 48, 45, 48, 48, 84, 48, 48, 58, 48, 48, 58, 48, 48, 46, 48, 48, 48]⟩ : ByteArray) (ji44)) == 48) = true := beq_iff_eq.mpr c48
          have c48b1 : ((bt (⟨#[48, 48, 48, 48, 45, 48, 48, 45, 48, 48, 84, 48, 48, 58, 48, 48, 58, 48, 48, 46, 48, 48, 48]⟩ : ByteArray) (ji44)) != 48) = false := bne_eq_false_iff_eq.mpr c48
          clear c48
          have H' := Aside0.mk H
          clear H
          have p26 : 0 ≤ (x5_1 : Int) := of_decide_eq_true (by first | (with_reducible assumption) | assumption)
          have q26 : x5_1 < (23 : Int) := of_decide_eq_true (by first | (with_reducible assumption) | assumption)
          have hx26 := bt_at (⟨#[48, 48, 48, 48, 45, 48, 48, 45, 48, 48, 84, 48, 48, 58, 48, 48, 58, 48, 48, 46, 48, 48, 48]⟩ : ByteArray) x5_1
          replace p26 := eq_true p26
          replace q26 := eq_true q26
          have p47 : 0 ≤ ((ji44) : Int) := of_decide_eq_true (by first | (with_reducible assumption) | assumption)
          have q47 : (ji44) < (23 : Int) := of_decide_eq_true (by first | (with_reducible assumption) | assumption)
          have hx47 := bt_at (⟨#[48, 48, 48, 48, 45, 48, 48, 45, 48, 48, 84, 48, 48, 58, 48, 48, 58, 48, 48, 46, 48, 48, 48]⟩ : ByteArray) (ji44)
          replace p47 := eq_true p47
          replace q47 := eq_true q47
          go_wp2
          go_roundg kj4
          case measure => have := HK1.out; have := HJ4.out; omega
          case rel => exact ⟨(x4_1), (ji44), (x6_1), (x102000_1), (x102001_1), (x102002_1), (x102003_1), (x102004_1), (x102005_1), (x102006_1), (by first | rfl | (simp; done) | (simp only [← hji44] <;> (first | rfl | simp)) | (simp [*]; done)), (by first | rfl | (simp; done) | (simp [*]; done)), H', ⟨by have := HK1.out; have := HJ4.out; omega⟩, ⟨by (with_reducible repeat (first | apply Kd.R_alloc | apply Kd.R_drewN | apply Kd.R_drew)); exact HO_4.out⟩, ⟨by (with_reducible repeat (first | refine blk_drewN ?_ _ | refine blk_drew ?_ | refine blk_alloc ?_ _)); exact BK101.out⟩, ⟨by repeat (first | (with_reducible first | exact HB.out | apply below_alloc | apply pw_below_drewN | apply below_drew1 | refine below_set ?_ GE101.out) | exact HB.out)⟩⟩
        rw [if_neg c48] at H
        have c48b0 : ((bt (⟨#[48, 48, 48, 48, 45, 48, 48, 45, 48, 48, 84, 48, 48, 58, 48, 48, 58, 48, 48, 46, 48, 48, 48]⟩ : ByteArray) (ji44)) == 48) = false := beq_eq_false_iff_ne.mpr c48
        have c48b1 : ((bt (⟨#[48, 48, 48, 48, 45, 48, 48, 45, 48, 48, 84, 48, 48, 58, 48, 48, 58, 48, 48, 46, 48, 48, 48]⟩ : ByteArray) (ji44)) != 48) = true := bne_iff_ne.mpr c48
        have H' := Aside0.mk H
        clear H
        have p26 : 0 ≤ (x5_1 : Int) := of_decide_eq_true (by first | (with_reducible assumption) | assumption)
        have q26 : x5_1 < (23 : Int) := of_decide_eq_true (by first | (with_reducible assumption) | assumption)
        have hx26 := bt_at (⟨#[48, 48, 48, 48, 45, 48, 48, 45, 48, 48, 84, 48, 48, 58, 48, 48, 58, 48, 48, 46, 48, 48, 48]⟩ : ByteArray) x5_1
        replace p26 := eq_true p26
        replace q26 := eq_true q26
        have p47 : 0 ≤ ((ji44) : Int) := of_decide_eq_true (by first | (with_reducible assumption) | assumption)
        have q47 : (ji44) < (23 : Int) := of_decide_eq_true (by first | (with_reducible assumption) | assumption)
        have hx47 := bt_at (⟨#[48, 48, 48, 48, 45, 48, 48, 45, 48, 48, 84, 48, 48, 58, 48, 48, 58, 48, 48, 46, 48, 48, 48]⟩ : ByteArray) (ji44)
        replace p47 := eq_true p47
        replace q47 := eq_true q47
        have p49 : 0 ≤ (x5_1 : Int) := of_decide_eq_true (by first | (with_reducible assumption) | assumption)
        have q49 : x5_1 < (23 : Int) := of_decide_eq_true (by first | (with_reducible assumption) | assumption)
        have hx49 := bt_at (⟨#[48, 48, 48, 48, 45, 48, 48, 45, 48, 48, 84, 48, 48, 58, 48, 48, 58, 48, 48, 46, 48, 48, 48]⟩ : ByteArray) x5_1
        replace p49 := eq_true p49
        replace q49 := eq_true q49
        go_wp2
        go_roundg kj4
        case measure => have := HK1.out; have := HJ4.out; omega
        case rel => exact ⟨(x4_1), (ji44), (x6_1), (x102000_1), (x102001_1), (x102002_1), (x102003_1), (x102004_1), (x102005_1), (x102006_1), (by first | rfl | (simp; done) | (simp only [← hji44] <;> (first | rfl | simp)) | (simp [*]; done)), (by first | rfl | (simp; done) | (simp [*]; done)), H', ⟨by have := HK1.out; have := HJ4.out; omega⟩, ⟨by (with_reducible repeat (first | apply Kd.R_alloc | apply Kd.R_drewN | apply Kd.R_drew)); exact HO_4.out⟩, ⟨by (with_reducible repeat (first | refine blk_drewN ?_ _ | refine blk_drew ?_ | refine blk_alloc ?_ _)); exact BK101.out⟩, ⟨by repeat (first | (with_reducible first | exact HB.out | apply below_alloc | apply pw_below_drewN | apply below_drew1 | refine below_set ?_ GE101.out) | exact HB.out)⟩⟩
    rw [if_neg c4] at H
    have c4b0 : decide (x5_1 < (a0.size : Int)) = false := decide_eq_false c4
    clear c4
    by_cases c50 : 0 < (x4_1.length : Int)
    rotate_left
    · rw [if_neg c50] at H
      exact absurd H (by simp)
    rw [if_pos c50] at H
    have c50b0 : decide (0 < (x4_1.length : Int)) = true := decide_eq_true c50
    have c50b1 : decide (0 < x4_1.length) = true := decide_eq_true (by omega)
    clear c50
    by_cases c51 : 1 < (x4_1.length : Int)
    rotate_left
    · rw [if_neg c51] at H
      exact absurd H (by simp)
    rw [if_pos c51] at H
    have c51b0 : decide (1 < (x4_1.length : Int)) = true := decide_eq_true c51
    have c51b1 : decide (1 < x4_1.length) = true := decide_eq_true (by omega)
    clear c51
    by_cases c52 : 2 < (x4_1.length : Int)
    rotate_left
    · rw [if_neg c52] at H
      exact absurd H (by simp)
    rw [if_pos c52] at H
    have c52b0 : decide (2 < (x4_1.length : Int)) = true := decide_eq_true c52
    have c52b1 : decide (2 < x4_1.length) = true := decide_eq_true (by omega)
    clear c52
    by_cases c53 : 3 < (x4_1.length : Int)
    rotate_left
    · rw [if_neg c53] at H
      exact absurd H (by simp)
    rw [if_pos c53] at H
    have c53b0 : decide (3 < (x4_1.length : Int)) = true := decide_eq_true c53
    have c53b1 : decide (3 < x4_1.length) = true := decide_eq_true (by omega)
    clear c53
    by_cases c54 : 4 < (x4_1.length : Int)
    rotate_left
    · rw [if_neg c54] at H
      exact absurd H (by simp)
    rw [if_pos c54] at H
    have c54b0 : decide (4 < (x4_1.length : Int)) = true := decide_eq_true c54
    have c54b1 : decide (4 < x4_1.length) = true := decide_eq_true (by omega)
    clear c54
    by_cases c55 : 5 < (x4_1.length : Int)
    rotate_left
    · rw [if_neg c55] at H
      exact absurd H (by simp)
    rw [if_pos c55] at H
    have c55b0 : decide (5 < (x4_1.length : Int)) = true := decide_eq_true c55
    have c55b1 : decide (5 < x4_1.length) = true := decide_eq_true (by omega)
    clear c55
    by_cases c56 : 6 < (x4_1.length : Int)
    rotate_left
    · rw [if_neg c56] at H
      exact absurd H (by simp)
    rw [if_pos c56] at H
    have c56b0 : decide (6 < (x4_1.length : Int)) = true := decide_eq_true c56
    have c56b1 : decide (6 < x4_1.length) = true := decide_eq_true (by omega)
    clear c56
    replace H := Option.bind_eq_some_iff.mp H
    obtain ⟨t110, A570, H⟩ := H
    try dsimp -simprocs only at H
    have A57 := Aside0.mk A570
    clear A570
    by_cases c58 : t110 = 0
    · rw [if_pos c58] at H
      have c58b0 : (t110 == 0) = true := beq_iff_eq.mpr c58
      have c58b1 : (t110 != 0) = false := bne_eq_false_iff_eq.mpr c58
      clear c58
      simp only [Option.some.injEq, Prod.mk.injEq] at H
      obtain ⟨rfl, rfl, rfl, rfl, rfl, rfl, rfl, rfl⟩ := H
      try go_wp2
      replace HO_4 := Aside0.mk (Kd.R_drew HO_4.out)
      replace BK101 := Aside0.mk (blk_drew BK101.out)
      replace HB := Aside0.mk (below_drew1 HB.out)
      obtain ⟨Ao60, co60, eo60⟩ := Kd.R_slice HO_4.out
      (first | subst eo60 | (injection eo60 with f1_ f2_ f3_; have f4_ := f1_.symm; have f5_ := f3_.symm; clear f1_ f2_ f3_; subst f4_; subst f5_))
      have p102 : 0 ≤ (0 : Int) := (by omega)
      have q102 : 0 < (x4_1.length : Int) := of_decide_eq_true (by first | (with_reducible assumption) | assumption)
      obtain ⟨ad102, e102, hx102_0⟩ := Kd.at_int (Kd.R_reads' HO_4.out).2.2 0 p102 q102
      cases e102
      have qi102 : (0 < x4_1.length) = True := eq_true (by omega)
      (try rw [show ((0 : Int)).toNat = 0 from rfl] at hx102_0)
      (try rw [Addr.add_zero'] at hx102_0)
      replace p102 := eq_true p102
      replace q102 := eq_true q102
      have p103 : 0 ≤ (1 : Int) := (by omega)
      have q103 : 1 < (x4_1.length : Int) := of_decide_eq_true (by first | (with_reducible assumption) | assumption)
      obtain ⟨ad103, e103, hx103_0⟩ := Kd.at_int (Kd.R_reads' HO_4.out).2.2 1 p103 q103
      obtain rfl : ad102 = ad103 := (by injection e103)
      (try simp only [show (1 : Int).toNat = 1 from rfl, Nat.reduceMul, Nat.reduceEqDiff, Go.Addr.add, ↓reduceIte] at hx103_0)
      have qi103 : (1 < x4_1.length) = True := eq_true (by omega)
      (try rw [show ((1 : Int)).toNat = 1 from rfl] at hx103_0)
      replace p103 := eq_true p103
      replace q103 := eq_true q103
      have p104 : 0 ≤ (2 : Int) := (by omega)
      have q104 : 2 < (x4_1.length : Int) := of_decide_eq_true (by first | (with_reducible assumption) | assumption)
      obtain ⟨ad104, e104, hx104_0⟩ := Kd.at_int (Kd.R_reads' HO_4.out).2.2 2 p104 q104
      obtain rfl : ad102 = ad104 := (by injection e104)
      (try simp only [show (2 : Int).toNat = 2 from rfl, Nat.reduceMul, Nat.reduceEqDiff, Go.Addr.add, ↓reduceIte] at hx104_0)
      have qi104 : (2 < x4_1.length) = True := eq_true (by omega)
      (try rw [show ((2 : Int)).toNat = 2 from rfl] at hx104_0)
      replace p104 := eq_true p104
      replace q104 := eq_true q104
      have p105 : 0 ≤ (3 : Int) := (by omega)
      have q105 : 3 < (x4_1.length : Int) := of_decide_eq_true (by first | (with_reducible assumption) | assumption)
      obtain ⟨ad105, e105, hx105_0⟩ := Kd.at_int (Kd.R_reads' HO_4.out).2.2 3 p105 q105
      obtain rfl : ad102 = ad105 := (by injection e105)
      (try simp only [show (3 : Int).toNat = 3 from rfl, Nat.reduceMul, Nat.reduceEqDiff, Go.Addr.add, ↓reduceIte] at hx105_0)
      have qi105 : (3 < x4_1.length) = True := eq_true (by omega)
      (try rw [show ((3 : Int)).toNat = 3 from rfl] at hx105_0)
      replace p105 := eq_true p105
      replace q105 := eq_true q105
      have p106 : 0 ≤ (4 : Int) := (by omega)
      have q106 : 4 < (x4_1.length : Int) := of_decide_eq_true (by first | (with_reducible assumption) | assumption)
      obtain ⟨ad106, e106, hx106_0⟩ := Kd.at_int (Kd.R_reads' HO_4.out).2.2 4 p106 q106
      obtain rfl : ad102 = ad106 := (by injection e106)
      (try simp only [show (4 : Int).toNat = 4 from rfl, Nat.reduceMul, Nat.reduceEqDiff, Go.Addr.add, ↓reduceIte] at hx106_0)
      have qi106 : (4 < x4_1.length) = True := eq_true (by omega)
      (try rw [show ((4 : Int)).toNat = 4 from rfl] at hx106_0)
      replace p106 := eq_true p106
      replace q106 := eq_true q106
      have p107 : 0 ≤ (5 : Int) := (by omega)
      have q107 : 5 < (x4_1.length : Int) := of_decide_eq_true (by first | (with_reducible assumption) | assumption)
      obtain ⟨ad107, e107, hx107_0⟩ := Kd.at_int (Kd.R_reads' HO_4.out).2.2 5 p107 q107
      obtain rfl : ad102 = ad107 := (by injection e107)
      (try simp only [show (5 : Int).toNat = 5 from rfl, Nat.reduceMul, Nat.reduceEqDiff, Go.Addr.add, ↓reduceIte] at hx107_0)
      have qi107 : (5 < x4_1.length) = True := eq_true (by omega)
      (try rw [show ((5 : Int)).toNat = 5 from rfl] at hx107_0)
      replace p107 := eq_true p107
      replace q107 := eq_true q107
      have p108 : 0 ≤ (6 : Int) := (by omega)
      have q108 : 6 < (x4_1.length : Int) := of_decide_eq_true (by first | (with_reducible assumption) | assumption)
      obtain ⟨ad108, e108, hx108_0⟩ := Kd.at_int (Kd.R_reads' HO_4.out).2.2 6 p108 q108
      obtain rfl : ad102 = ad108 := (by injection e108)
      (try simp only [show (6 : Int).toNat = 6 from rfl, Nat.reduceMul, Nat.reduceEqDiff, Go.Addr.add, ↓reduceIte] at hx108_0)
      have qi108 : (6 < x4_1.length) = True := eq_true (by omega)
      (try rw [show ((6 : Int)).toNat = 6 from rfl] at hx108_0)
      replace p108 := eq_true p108
      replace q108 := eq_true q108
      refine start_ (n := 24) (S := fun w' => w'.cell? ad102 = some (.int .i64 (rd x4_1 0)) ∧ w'.cell? ⟨ad102.block, ad102.off + 1, none⟩ = some (.int .i64 (rd x4_1 1)) ∧ w'.cell? ⟨ad102.block, ad102.off + 2, none⟩ = some (.int .i64 (rd x4_1 2)) ∧ w'.cell? ⟨ad102.block, ad102.off + 3, none⟩ = some (.int .i64 (rd x4_1 3)) ∧ w'.cell? ⟨ad102.block, ad102.off + 4, none⟩ = some (.int .i64 (rd x4_1 4)) ∧ w'.cell? ⟨ad102.block, ad102.off + 5, none⟩ = some (.int .i64 (rd x4_1 5)) ∧ w'.cell? ⟨ad102.block, ad102.off + 6, none⟩ = some (.int .i64 (rd x4_1 6))) (ds := []) (bm_ [0, 24]) (by kernel_rfl) rfl rfl ⟨hx102_0, hx103_0, hx104_0, hx105_0, hx106_0, hx107_0, hx108_0⟩ (fun hHeld => ?_); refine with_tabW scale_Read.tab13 scale_Read.bits13 (fun HT_ HW_ => ?_)
      generalize wr.drew = w59 at HO_4 BK101 HB hx102_0 hx103_0 hx104_0 hx105_0 hx106_0 hx107_0 hx108_0 hHeld ⊢
      refine pq_ 0 81 (bm_ [1, 23]) HT_ ?_
      refine pq_ 1 82 (bm_ [2, 22]) HT_ ?_
      refine pq_ 3 84 (bm_ [2, 1, 1, 20]) HT_ ?_
      refine pq_ 4 85 (bm_ [2, 1, 2, 19]) HT_ ?_
      refine pq_ 6 87 (bm_ [2, 1, 2, 1, 1, 17]) HT_ ?_
      refine pq_ 7 88 (bm_ [2, 1, 2, 1, 2, 16]) HT_ ?_
      refine pq_ 9 90 (bm_ [2, 1, 2, 1, 2, 1, 1, 14]) HT_ ?_
      refine pq_ 10 91 (bm_ [2, 1, 2, 1, 2, 1, 2, 13]) HT_ ?_
      refine pq_ 12 93 (bm_ [2, 1, 2, 1, 2, 1, 2, 1, 1, 11]) HT_ ?_
      refine pq_ 13 94 (bm_ [2, 1, 2, 1, 2, 1, 2, 1, 2, 10]) HT_ ?_
      refine pq_ 15 96 (bm_ [2, 1, 2, 1, 2, 1, 2, 1, 2, 1, 1, 8]) HT_ ?_
      refine pq_ 16 97 (bm_ [2, 1, 2, 1, 2, 1, 2, 1, 2, 1, 2, 7]) HT_ ?_
      refine pq_ 18 99 (bm_ [2, 1, 2, 1, 2, 1, 2, 1, 2, 1, 2, 1, 1, 5]) HT_ ?_
      refine pq_ 19 100 (bm_ [2, 1, 2, 1, 2, 1, 2, 1, 2, 1, 2, 1, 2, 4]) HT_ ?_
      refine tq_ 2 83 (bm_ [5, 1, 2, 1, 2, 1, 2, 1, 2, 1, 2, 4]) HT_ HW_ hHeld ?_
      refine tq_ 5 86 (bm_ [8, 1, 2, 1, 2, 1, 2, 1, 2, 4]) HT_ HW_ hHeld ?_
      refine tq_ 8 89 (bm_ [11, 1, 2, 1, 2, 1, 2, 4]) HT_ HW_ hHeld ?_
      refine tq_ 11 92 (bm_ [14, 1, 2, 1, 2, 4]) HT_ HW_ hHeld ?_
      refine tq_ 14 95 (bm_ [17, 1, 2, 4]) HT_ HW_ hHeld ?_
      refine tq_ 17 98 (bm_ [20, 4]) HT_ HW_ hHeld ?_
      refine tq_ 20 101 (bm_ [21, 3]) HT_ HW_ hHeld ?_
      refine pq_ 21 102 (bm_ [22, 2]) HT_ ?_
      refine oq_ 22 (some 7) (bm_ [23, 1]) HT_ (fun K hK => ?_)
      refine bsq_ 7 #[.int .i64 0, .int .i64 0, .int .i64 0, .int .i64 0, .int .i64 0, .int .i64 0, .int .i64 0] 32 ?_
      intro gb109 hg w61 hbox hb
      have HS0_ := (hb.cell (World.block_lt_of_cell? _ _ (hHeld.1))).trans (hHeld.1)
      have HS1_ := (hb.cell (World.block_lt_of_cell? _ _ (hHeld.2.1))).trans (hHeld.2.1)
      have HS2_ := (hb.cell (World.block_lt_of_cell? _ _ (hHeld.2.2.1))).trans (hHeld.2.2.1)
      have HS3_ := (hb.cell (World.block_lt_of_cell? _ _ (hHeld.2.2.2.1))).trans (hHeld.2.2.2.1)
      have HS4_ := (hb.cell (World.block_lt_of_cell? _ _ (hHeld.2.2.2.2.1))).trans (hHeld.2.2.2.2.1)
      have HS5_ := (hb.cell (World.block_lt_of_cell? _ _ (hHeld.2.2.2.2.2.1))).trans (hHeld.2.2.2.2.2.1)
      have HS6_ := (hb.cell (World.block_lt_of_cell? _ _ (hHeld.2.2.2.2.2.2))).trans (hHeld.2.2.2.2.2.2)
      have BK109 := Aside0.mk (hbox)
      have GW109 := gwq_ HB hg rfl
      have GE109 := GW109
      have NB101_109 := nbl_ BK101 hg rfl
      have NB109_101 := nbg_ BK101 hg rfl
      replace HO_4 := Aside0.mk (Kd.R_below (by (with_reducible repeat (first | apply Kd.R_alloc | apply Kd.R_drewN | apply Kd.R_drew)); exact HO_4.out) hb)
      replace BK101 := bkb_ BK101 hb rfl
      replace HB := hbs_ HB hb rfl rfl rfl rfl
      clear hb hbox hg
      refine hK.out _ _ ⟨HS0_, HS1_, HS2_, HS3_, HS4_, HS5_, HS6_⟩ (fun hHeld => ?_)
      clear hK K
      refine nq_ 7 ?_
      refine oq_ 23 none (bm_ [24]) HT_ (fun K hK => ?_)
      have hz0_ : w61.cell? ⟨gb109, 0, none⟩ = some (.int .i64 0) := bc_ BK109 0 rfl
      have hz1_ : w61.cell? ⟨gb109, 1, none⟩ = some (.int .i64 0) := bc_ BK109 1 rfl
      have hz2_ : w61.cell? ⟨gb109, 2, none⟩ = some (.int .i64 0) := bc_ BK109 2 rfl
      have hz3_ : w61.cell? ⟨gb109, 3, none⟩ = some (.int .i64 0) := bc_ BK109 3 rfl
      have hz4_ : w61.cell? ⟨gb109, 4, none⟩ = some (.int .i64 0) := bc_ BK109 4 rfl
      have hz5_ : w61.cell? ⟨gb109, 5, none⟩ = some (.int .i64 0) := bc_ BK109 5 rfl
      have hz6_ : w61.cell? ⟨gb109, 6, none⟩ = some (.int .i64 0) := bc_ BK109 6 rfl
      have hf0_ := blk_frozen BK109.out 0
      have hf1_ := blk_frozen BK109.out 1
      have hf2_ := blk_frozen BK109.out 2
      have hf3_ := blk_frozen BK109.out 3
      have hf4_ := blk_frozen BK109.out 4
      have hf5_ := blk_frozen BK109.out 5
      have hf6_ := blk_frozen BK109.out 6
      refine skip_ (w1 := puts_ w61 gb109 0 [.int .i64 (rd x4_1 0), .int .i64 (rd x4_1 1), .int .i64 (rd x4_1 2), .int .i64 (rd x4_1 3), .int .i64 (rd x4_1 4), .int .i64 (rd x4_1 5), .int .i64 (rd x4_1 6)]) (by rfl) rfl (by first | (go_simp; done) | (go_simp; rfl)) ?_
      clear hz0_ hf0_ hz1_ hf1_ hz2_ hf2_ hz3_ hf3_ hz4_ hf4_ hz5_ hf5_ hz6_ hf6_
      have hne_ : ad102.block ≠ gb109 := Kd.own_blk (Kd.R_ne HO_4.out BK109.out (by decide))
      have eS_ : ∀ q : Addr, q.block = ad102.block → (puts_ w61 gb109 0 [.int .i64 (rd x4_1 0), .int .i64 (rd x4_1 1), .int .i64 (rd x4_1 2), .int .i64 (rd x4_1 3), .int .i64 (rd x4_1 4), .int .i64 (rd x4_1 5), .int .i64 (rd x4_1 6)]).cell? q = w61.cell? q := fun q hq => puts_cell_far (hq ▸ hne_) _ _ _
      refine hK.out _ _ ⟨(eS_ ad102 rfl).trans (hHeld.1), (eS_ ⟨ad102.block, ad102.off + 1, none⟩ rfl).trans (hHeld.2.1), (eS_ ⟨ad102.block, ad102.off + 2, none⟩ rfl).trans (hHeld.2.2.1), (eS_ ⟨ad102.block, ad102.off + 3, none⟩ rfl).trans (hHeld.2.2.2.1), (eS_ ⟨ad102.block, ad102.off + 4, none⟩ rfl).trans (hHeld.2.2.2.2.1), (eS_ ⟨ad102.block, ad102.off + 5, none⟩ rfl).trans (hHeld.2.2.2.2.2.1), (eS_ ⟨ad102.block, ad102.off + 6, none⟩ rfl).trans (hHeld.2.2.2.2.2.2)⟩ (fun hHeld => ?_)
      clear hK K eS_ hne_
      refine done_ (done_of HT_.out (by kernel_rfl)) ?_
      clear HO_4 hHeld
      have n1_ := Aside0.mk (puts_below GE109.out [.int .i64 (rd x4_1 0), .int .i64 (rd x4_1 1), .int .i64 (rd x4_1 2), .int .i64 (rd x4_1 3), .int .i64 (rd x4_1 4), .int .i64 (rd x4_1 5), .int .i64 (rd x4_1 6)] 0 _ (by repeat (first | (with_reducible first | exact HB.out | apply below_alloc | apply pw_below_drewN | apply below_drew1) | exact HB.out)))
      have n3_ := Aside0.mk (puts_blk' (l := [.int .i64 (rd x4_1 0), .int .i64 (rd x4_1 1), .int .i64 (rd x4_1 2), .int .i64 (rd x4_1 3), .int .i64 (rd x4_1 4), .int .i64 (rd x4_1 5), .int .i64 (rd x4_1 6)]) (i := 0) (cs' := #[.int .i64 (rd x4_1 0), .int .i64 (rd x4_1 1), .int .i64 (rd x4_1 2), .int .i64 (rd x4_1 3), .int .i64 (rd x4_1 4), .int .i64 (rd x4_1 5), .int .i64 (rd x4_1 6)]) 0 0 BK109.out (by kernel_rfl))
      have m0_ := Aside0.mk (puts_far NB101_109.out [.int .i64 (rd x4_1 0), .int .i64 (rd x4_1 1), .int .i64 (rd x4_1 2), .int .i64 (rd x4_1 3), .int .i64 (rd x4_1 4), .int .i64 (rd x4_1 5), .int .i64 (rd x4_1 6)] 0 _ BK101.out)
      generalize puts_ w61 gb109 0 [.int .i64 (rd x4_1 0), .int .i64 (rd x4_1 1), .int .i64 (rd x4_1 2), .int .i64 (rd x4_1 3), .int .i64 (rd x4_1 4), .int .i64 (rd x4_1 5), .int .i64 (rd x4_1 6)] = w_ at *
      clear HB BK109 BK101; have HB := n1_; have BK109 := n3_; have BK101 := m0_; clear n1_ n3_ m0_
      try go_wp2_with (first | ((with_reducible refine gate_dst (N := 103) rfl ?_); refine wpList_load_row rfl 32 _ rfl gb109 (by first | rfl | (go_simp; done) | (go_simp; rfl)) 32 #[.int .i64 (rd x4_1 0), .int .i64 (rd x4_1 1), .int .i64 (rd x4_1 2), .int .i64 (rd x4_1 3), .int .i64 (rd x4_1 4), .int .i64 (rd x4_1 5), .int .i64 (rd x4_1 6)] (0, 0) _ BK109.out Tryd.underlying32 rfl (by kernel_rfl) ?_) | ((with_reducible refine gate_callee (f := 18) rfl ?_); refine glq_ (some 104) Tryd.func18 #[.agg #[.int .i64 (rd x4_1 0), .int .i64 (rd x4_1 1), .int .i64 (rd x4_1 2), .int .i64 (rd x4_1 3), .int .i64 (rd x4_1 4), .int .i64 (rd x4_1 5), .int .i64 (rd x4_1 6)]] ?_; (with_reducible refine (scale_Check.calls k1 (rd x4_1 0) (rd x4_1 1) (rd x4_1 2) (rd x4_1 3) (rd x4_1 4) (rd x4_1 5) (rd x4_1 6) t110 _ A57.out).mono ?_); rintro e w_ ⟨rfl, hb⟩; refine ⟨_, rfl, ?_⟩; have n1_ := hbs_ HB hb rfl rfl rfl rfl; have n3_ := bkb_ BK109 hb rfl; have m0_ := bkb_ BK101 hb rfl; clear HB BK109 BK101; have HB := n1_; have BK109 := n3_; have BK101 := m0_; clear n1_ n3_ m0_; (try clear hb)) | ((with_reducible refine gate_dst (N := 109) rfl ?_); refine wpList_load_row rfl 32 _ rfl gb109 (by first | rfl | (go_simp; done) | (go_simp; rfl)) 32 #[.int .i64 (rd x4_1 0), .int .i64 (rd x4_1 1), .int .i64 (rd x4_1 2), .int .i64 (rd x4_1 3), .int .i64 (rd x4_1 4), .int .i64 (rd x4_1 5), .int .i64 (rd x4_1 6)] (0, 0) _ BK109.out Tryd.underlying32 rfl (by kernel_rfl) ?_) | ((with_reducible refine gate_store (t := 32) (p := 2) rfl ?_); refine srow_ rfl 32 _ _ rfl rfl gb101 #[.int .i64 (rd x4_1 0), .int .i64 (rd x4_1 1), .int .i64 (rd x4_1 2), .int .i64 (rd x4_1 3), .int .i64 (rd x4_1 4), .int .i64 (rd x4_1 5), .int .i64 (rd x4_1 6)] (by first | rfl | (go_simp; done) | (go_simp; rfl)) (by first | rfl | (go_simp; done) | (go_simp; rfl)) 32 #[.int .i64 x102000_1, .int .i64 x102001_1, .int .i64 x102002_1, .int .i64 x102003_1, .int .i64 x102004_1, .int .i64 x102005_1, .int .i64 x102006_1] BK101.out (by kernel_rfl) (by kernel_rfl) (by kernel_rfl) ?_; have n1_ := Aside0.mk (below_row (by repeat (first | (with_reducible first | exact HB.out | apply below_alloc | apply pw_below_drewN | apply below_drew1) | exact HB.out)) GE101.out #[.int .i64 (rd x4_1 0), .int .i64 (rd x4_1 1), .int .i64 (rd x4_1 2), .int .i64 (rd x4_1 3), .int .i64 (rd x4_1 4), .int .i64 (rd x4_1 5), .int .i64 (rd x4_1 6)]); have n3_ := Aside0.mk (setRow_heap _ gb101 _ #[.int .i64 (rd x4_1 0), .int .i64 (rd x4_1 1), .int .i64 (rd x4_1 2), .int .i64 (rd x4_1 3), .int .i64 (rd x4_1 4), .int .i64 (rd x4_1 5), .int .i64 (rd x4_1 6)] _ _ BK101.out); generalize World.setRow _ gb101 #[.int .i64 (rd x4_1 0), .int .i64 (rd x4_1 1), .int .i64 (rd x4_1 2), .int .i64 (rd x4_1 3), .int .i64 (rd x4_1 4), .int .i64 (rd x4_1 5), .int .i64 (rd x4_1 6)] = w_ at *; clear HB BK101; have HB := n1_; have BK101 := n3_; clear n1_ n3_))
      refine bodyPost_ret (results_ct rfl _ _ gb101 32 #[.int .i64 (rd x4_1 0), .int .i64 (rd x4_1 1), .int .i64 (rd x4_1 2), .int .i64 (rd x4_1 3), .int .i64 (rd x4_1 4), .int .i64 (rd x4_1 5), .int .i64 (rd x4_1 6)] (0, 0) _ rfl BK101.out Tryd.underlying32 rfl (by kernel_rfl)) rfl ?_
      exact ⟨rfl, by repeat (first | (with_reducible first | exact HB.out | apply below_alloc | apply pw_below_drewN | apply below_drew1) | exact HB.out)⟩
    rw [if_neg c58] at H
    have c58b0 : (t110 == 0) = false := beq_eq_false_iff_ne.mpr c58
    have c58b1 : (t110 != 0) = true := bne_iff_ne.mpr c58
    simp only [Option.some.injEq, Prod.mk.injEq] at H
    obtain ⟨rfl, rfl, rfl, rfl, rfl, rfl, rfl, rfl⟩ := H
    try go_wp2
    replace HO_4 := Aside0.mk (Kd.R_drew HO_4.out)
    replace BK101 := Aside0.mk (blk_drew BK101.out)
    replace HB := Aside0.mk (below_drew1 HB.out)
    obtain ⟨Ao75, co75, eo75⟩ := Kd.R_slice HO_4.out
    (first | subst eo75 | (injection eo75 with f1_ f2_ f3_; have f4_ := f1_.symm; have f5_ := f3_.symm; clear f1_ f2_ f3_; subst f4_; subst f5_))
    have p102 : 0 ≤ (0 : Int) := (by omega)
    have q102 : 0 < (x4_1.length : Int) := of_decide_eq_true (by first | (with_reducible assumption) | assumption)
    obtain ⟨ad102, e102, hx102_0⟩ := Kd.at_int (Kd.R_reads' HO_4.out).2.2 0 p102 q102
    cases e102
    have qi102 : (0 < x4_1.length) = True := eq_true (by omega)
    (try rw [show ((0 : Int)).toNat = 0 from rfl] at hx102_0)
    (try rw [Addr.add_zero'] at hx102_0)
    replace p102 := eq_true p102
    replace q102 := eq_true q102
    have p103 : 0 ≤ (1 : Int) := (by omega)
    have q103 : 1 < (x4_1.length : Int) := of_decide_eq_true (by first | (with_reducible assumption) | assumption)
    obtain ⟨ad103, e103, hx103_0⟩ := Kd.at_int (Kd.R_reads' HO_4.out).2.2 1 p103 q103
    obtain rfl : ad102 = ad103 := (by injection e103)
    (try simp only [show (1 : Int).toNat = 1 from rfl, Nat.reduceMul, Nat.reduceEqDiff, Go.Addr.add, ↓reduceIte] at hx103_0)
    have qi103 : (1 < x4_1.length) = True := eq_true (by omega)
    (try rw [show ((1 : Int)).toNat = 1 from rfl] at hx103_0)
    replace p103 := eq_true p103
    replace q103 := eq_true q103
    have p104 : 0 ≤ (2 : Int) := (by omega)
    have q104 : 2 < (x4_1.length : Int) := of_decide_eq_true (by first | (with_reducible assumption) | assumption)
    obtain ⟨ad104, e104, hx104_0⟩ := Kd.at_int (Kd.R_reads' HO_4.out).2.2 2 p104 q104
    obtain rfl : ad102 = ad104 := (by injection e104)
    (try simp only [show (2 : Int).toNat = 2 from rfl, Nat.reduceMul, Nat.reduceEqDiff, Go.Addr.add, ↓reduceIte] at hx104_0)
    have qi104 : (2 < x4_1.length) = True := eq_true (by omega)
    (try rw [show ((2 : Int)).toNat = 2 from rfl] at hx104_0)
    replace p104 := eq_true p104
    replace q104 := eq_true q104
    have p105 : 0 ≤ (3 : Int) := (by omega)
    have q105 : 3 < (x4_1.length : Int) := of_decide_eq_true (by first | (with_reducible assumption) | assumption)
    obtain ⟨ad105, e105, hx105_0⟩ := Kd.at_int (Kd.R_reads' HO_4.out).2.2 3 p105 q105
    obtain rfl : ad102 = ad105 := (by injection e105)
    (try simp only [show (3 : Int).toNat = 3 from rfl, Nat.reduceMul, Nat.reduceEqDiff, Go.Addr.add, ↓reduceIte] at hx105_0)
    have qi105 : (3 < x4_1.length) = True := eq_true (by omega)
    (try rw [show ((3 : Int)).toNat = 3 from rfl] at hx105_0)
    replace p105 := eq_true p105
    replace q105 := eq_true q105
    have p106 : 0 ≤ (4 : Int) := (by omega)
    have q106 : 4 < (x4_1.length : Int) := of_decide_eq_true (by first | (with_reducible assumption) | assumption)
    obtain ⟨ad106, e106, hx106_0⟩ := Kd.at_int (Kd.R_reads' HO_4.out).2.2 4 p106 q106
    obtain rfl : ad102 = ad106 := (by injection e106)
    (try simp only [show (4 : Int).toNat = 4 from rfl, Nat.reduceMul, Nat.reduceEqDiff, Go.Addr.add, ↓reduceIte] at hx106_0)
    have qi106 : (4 < x4_1.length) = True := eq_true (by omega)
    (try rw [show ((4 : Int)).toNat = 4 from rfl] at hx106_0)
    replace p106 := eq_true p106
    replace q106 := eq_true q106
    have p107 : 0 ≤ (5 : Int) := (by omega)
    have q107 : 5 < (x4_1.length : Int) := of_decide_eq_true (by first | (with_reducible assumption) | assumption)
    obtain ⟨ad107, e107, hx107_0⟩ := Kd.at_int (Kd.R_reads' HO_4.out).2.2 5 p107 q107
    obtain rfl : ad102 = ad107 := (by injection e107)
    (try simp only [show (5 : Int).toNat = 5 from rfl, Nat.reduceMul, Nat.reduceEqDiff, Go.Addr.add, ↓reduceIte] at hx107_0)
    have qi107 : (5 < x4_1.length) = True := eq_true (by omega)
    (try rw [show ((5 : Int)).toNat = 5 from rfl] at hx107_0)
    replace p107 := eq_true p107
    replace q107 := eq_true q107
    have p108 : 0 ≤ (6 : Int) := (by omega)
    have q108 : 6 < (x4_1.length : Int) := of_decide_eq_true (by first | (with_reducible assumption) | assumption)
    obtain ⟨ad108, e108, hx108_0⟩ := Kd.at_int (Kd.R_reads' HO_4.out).2.2 6 p108 q108
    obtain rfl : ad102 = ad108 := (by injection e108)
    (try simp only [show (6 : Int).toNat = 6 from rfl, Nat.reduceMul, Nat.reduceEqDiff, Go.Addr.add, ↓reduceIte] at hx108_0)
    have qi108 : (6 < x4_1.length) = True := eq_true (by omega)
    (try rw [show ((6 : Int)).toNat = 6 from rfl] at hx108_0)
    replace p108 := eq_true p108
    replace q108 := eq_true q108
    refine start_ (n := 24) (S := fun w' => w'.cell? ad102 = some (.int .i64 (rd x4_1 0)) ∧ w'.cell? ⟨ad102.block, ad102.off + 1, none⟩ = some (.int .i64 (rd x4_1 1)) ∧ w'.cell? ⟨ad102.block, ad102.off + 2, none⟩ = some (.int .i64 (rd x4_1 2)) ∧ w'.cell? ⟨ad102.block, ad102.off + 3, none⟩ = some (.int .i64 (rd x4_1 3)) ∧ w'.cell? ⟨ad102.block, ad102.off + 4, none⟩ = some (.int .i64 (rd x4_1 4)) ∧ w'.cell? ⟨ad102.block, ad102.off + 5, none⟩ = some (.int .i64 (rd x4_1 5)) ∧ w'.cell? ⟨ad102.block, ad102.off + 6, none⟩ = some (.int .i64 (rd x4_1 6))) (ds := []) (bm_ [0, 24]) (by kernel_rfl) rfl rfl ⟨hx102_0, hx103_0, hx104_0, hx105_0, hx106_0, hx107_0, hx108_0⟩ (fun hHeld => ?_); refine with_tabW scale_Read.tab13 scale_Read.bits13 (fun HT_ HW_ => ?_)
    generalize wr.drew = w74 at HO_4 BK101 HB hx102_0 hx103_0 hx104_0 hx105_0 hx106_0 hx107_0 hx108_0 hHeld ⊢
    refine pq_ 0 81 (bm_ [1, 23]) HT_ ?_
    refine pq_ 1 82 (bm_ [2, 22]) HT_ ?_
    refine pq_ 3 84 (bm_ [2, 1, 1, 20]) HT_ ?_
    refine pq_ 4 85 (bm_ [2, 1, 2, 19]) HT_ ?_
    refine pq_ 6 87 (bm_ [2, 1, 2, 1, 1, 17]) HT_ ?_
    refine pq_ 7 88 (bm_ [2, 1, 2, 1, 2, 16]) HT_ ?_
    refine pq_ 9 90 (bm_ [2, 1, 2, 1, 2, 1, 1, 14]) HT_ ?_
    refine pq_ 10 91 (bm_ [2, 1, 2, 1, 2, 1, 2, 13]) HT_ ?_
    refine pq_ 12 93 (bm_ [2, 1, 2, 1, 2, 1, 2, 1, 1, 11]) HT_ ?_
    refine pq_ 13 94 (bm_ [2, 1, 2, 1, 2, 1, 2, 1, 2, 10]) HT_ ?_
    refine pq_ 15 96 (bm_ [2, 1, 2, 1, 2, 1, 2, 1, 2, 1, 1, 8]) HT_ ?_
    refine pq_ 16 97 (bm_ [2, 1, 2, 1, 2, 1, 2, 1, 2, 1, 2, 7]) HT_ ?_
    refine pq_ 18 99 (bm_ [2, 1, 2, 1, 2, 1, 2, 1, 2, 1, 2, 1, 1, 5]) HT_ ?_
    refine pq_ 19 100 (bm_ [2, 1, 2, 1, 2, 1, 2, 1, 2, 1, 2, 1, 2, 4]) HT_ ?_
    refine tq_ 2 83 (bm_ [5, 1, 2, 1, 2, 1, 2, 1, 2, 1, 2, 4]) HT_ HW_ hHeld ?_
    refine tq_ 5 86 (bm_ [8, 1, 2, 1, 2, 1, 2, 1, 2, 4]) HT_ HW_ hHeld ?_
    refine tq_ 8 89 (bm_ [11, 1, 2, 1, 2, 1, 2, 4]) HT_ HW_ hHeld ?_
    refine tq_ 11 92 (bm_ [14, 1, 2, 1, 2, 4]) HT_ HW_ hHeld ?_
    refine tq_ 14 95 (bm_ [17, 1, 2, 4]) HT_ HW_ hHeld ?_
    refine tq_ 17 98 (bm_ [20, 4]) HT_ HW_ hHeld ?_
    refine tq_ 20 101 (bm_ [21, 3]) HT_ HW_ hHeld ?_
    refine pq_ 21 102 (bm_ [22, 2]) HT_ ?_
    refine oq_ 22 (some 7) (bm_ [23, 1]) HT_ (fun K hK => ?_)
    refine bsq_ 7 #[.int .i64 0, .int .i64 0, .int .i64 0, .int .i64 0, .int .i64 0, .int .i64 0, .int .i64 0] 32 ?_
    intro gb109 hg w76 hbox hb
    have HS0_ := (hb.cell (World.block_lt_of_cell? _ _ (hHeld.1))).trans (hHeld.1)
    have HS1_ := (hb.cell (World.block_lt_of_cell? _ _ (hHeld.2.1))).trans (hHeld.2.1)
    have HS2_ := (hb.cell (World.block_lt_of_cell? _ _ (hHeld.2.2.1))).trans (hHeld.2.2.1)
    have HS3_ := (hb.cell (World.block_lt_of_cell? _ _ (hHeld.2.2.2.1))).trans (hHeld.2.2.2.1)
    have HS4_ := (hb.cell (World.block_lt_of_cell? _ _ (hHeld.2.2.2.2.1))).trans (hHeld.2.2.2.2.1)
    have HS5_ := (hb.cell (World.block_lt_of_cell? _ _ (hHeld.2.2.2.2.2.1))).trans (hHeld.2.2.2.2.2.1)
    have HS6_ := (hb.cell (World.block_lt_of_cell? _ _ (hHeld.2.2.2.2.2.2))).trans (hHeld.2.2.2.2.2.2)
    have BK109 := Aside0.mk (hbox)
    have GW109 := gwq_ HB hg rfl
    have GE109 := GW109
    have NB101_109 := nbl_ BK101 hg rfl
    have NB109_101 := nbg_ BK101 hg rfl
    replace HO_4 := Aside0.mk (Kd.R_below (by (with_reducible repeat (first | apply Kd.R_alloc | apply Kd.R_drewN | apply Kd.R_drew)); exact HO_4.out) hb)
    replace BK101 := bkb_ BK101 hb rfl
    replace HB := hbs_ HB hb rfl rfl rfl rfl
    clear hb hbox hg
    refine hK.out _ _ ⟨HS0_, HS1_, HS2_, HS3_, HS4_, HS5_, HS6_⟩ (fun hHeld => ?_)
    clear hK K
    refine nq_ 7 ?_
    refine oq_ 23 none (bm_ [24]) HT_ (fun K hK => ?_)
    have hz0_ : w76.cell? ⟨gb109, 0, none⟩ = some (.int .i64 0) := bc_ BK109 0 rfl
    have hz1_ : w76.cell? ⟨gb109, 1, none⟩ = some (.int .i64 0) := bc_ BK109 1 rfl
    have hz2_ : w76.cell? ⟨gb109, 2, none⟩ = some (.int .i64 0) := bc_ BK109 2 rfl
    have hz3_ : w76.cell? ⟨gb109, 3, none⟩ = some (.int .i64 0) := bc_ BK109 3 rfl
    have hz4_ : w76.cell? ⟨gb109, 4, none⟩ = some (.int .i64 0) := bc_ BK109 4 rfl
    have hz5_ : w76.cell? ⟨gb109, 5, none⟩ = some (.int .i64 0) := bc_ BK109 5 rfl
    have hz6_ : w76.cell? ⟨gb109, 6, none⟩ = some (.int .i64 0) := bc_ BK109 6 rfl
    have hf0_ := blk_frozen BK109.out 0
    have hf1_ := blk_frozen BK109.out 1
    have hf2_ := blk_frozen BK109.out 2
    have hf3_ := blk_frozen BK109.out 3
    have hf4_ := blk_frozen BK109.out 4
    have hf5_ := blk_frozen BK109.out 5
    have hf6_ := blk_frozen BK109.out 6
    refine skip_ (w1 := puts_ w76 gb109 0 [.int .i64 (rd x4_1 0), .int .i64 (rd x4_1 1), .int .i64 (rd x4_1 2), .int .i64 (rd x4_1 3), .int .i64 (rd x4_1 4), .int .i64 (rd x4_1 5), .int .i64 (rd x4_1 6)]) (by rfl) rfl (by first | (go_simp; done) | (go_simp; rfl)) ?_
    clear hz0_ hf0_ hz1_ hf1_ hz2_ hf2_ hz3_ hf3_ hz4_ hf4_ hz5_ hf5_ hz6_ hf6_
    have hne_ : ad102.block ≠ gb109 := Kd.own_blk (Kd.R_ne HO_4.out BK109.out (by decide))
    have eS_ : ∀ q : Addr, q.block = ad102.block → (puts_ w76 gb109 0 [.int .i64 (rd x4_1 0), .int .i64 (rd x4_1 1), .int .i64 (rd x4_1 2), .int .i64 (rd x4_1 3), .int .i64 (rd x4_1 4), .int .i64 (rd x4_1 5), .int .i64 (rd x4_1 6)]).cell? q = w76.cell? q := fun q hq => puts_cell_far (hq ▸ hne_) _ _ _
    refine hK.out _ _ ⟨(eS_ ad102 rfl).trans (hHeld.1), (eS_ ⟨ad102.block, ad102.off + 1, none⟩ rfl).trans (hHeld.2.1), (eS_ ⟨ad102.block, ad102.off + 2, none⟩ rfl).trans (hHeld.2.2.1), (eS_ ⟨ad102.block, ad102.off + 3, none⟩ rfl).trans (hHeld.2.2.2.1), (eS_ ⟨ad102.block, ad102.off + 4, none⟩ rfl).trans (hHeld.2.2.2.2.1), (eS_ ⟨ad102.block, ad102.off + 5, none⟩ rfl).trans (hHeld.2.2.2.2.2.1), (eS_ ⟨ad102.block, ad102.off + 6, none⟩ rfl).trans (hHeld.2.2.2.2.2.2)⟩ (fun hHeld => ?_)
    clear hK K eS_ hne_
    refine done_ (done_of HT_.out (by kernel_rfl)) ?_
    clear HO_4 hHeld
    have n1_ := Aside0.mk (puts_below GE109.out [.int .i64 (rd x4_1 0), .int .i64 (rd x4_1 1), .int .i64 (rd x4_1 2), .int .i64 (rd x4_1 3), .int .i64 (rd x4_1 4), .int .i64 (rd x4_1 5), .int .i64 (rd x4_1 6)] 0 _ (by repeat (first | (with_reducible first | exact HB.out | apply below_alloc | apply pw_below_drewN | apply below_drew1) | exact HB.out)))
    have n3_ := Aside0.mk (puts_blk' (l := [.int .i64 (rd x4_1 0), .int .i64 (rd x4_1 1), .int .i64 (rd x4_1 2), .int .i64 (rd x4_1 3), .int .i64 (rd x4_1 4), .int .i64 (rd x4_1 5), .int .i64 (rd x4_1 6)]) (i := 0) (cs' := #[.int .i64 (rd x4_1 0), .int .i64 (rd x4_1 1), .int .i64 (rd x4_1 2), .int .i64 (rd x4_1 3), .int .i64 (rd x4_1 4), .int .i64 (rd x4_1 5), .int .i64 (rd x4_1 6)]) 0 0 BK109.out (by kernel_rfl))
    have m0_ := Aside0.mk (puts_far NB101_109.out [.int .i64 (rd x4_1 0), .int .i64 (rd x4_1 1), .int .i64 (rd x4_1 2), .int .i64 (rd x4_1 3), .int .i64 (rd x4_1 4), .int .i64 (rd x4_1 5), .int .i64 (rd x4_1 6)] 0 _ BK101.out)
    generalize puts_ w76 gb109 0 [.int .i64 (rd x4_1 0), .int .i64 (rd x4_1 1), .int .i64 (rd x4_1 2), .int .i64 (rd x4_1 3), .int .i64 (rd x4_1 4), .int .i64 (rd x4_1 5), .int .i64 (rd x4_1 6)] = w_ at *
    clear HB BK109 BK101; have HB := n1_; have BK109 := n3_; have BK101 := m0_; clear n1_ n3_ m0_
    try go_wp2_with (first | ((with_reducible refine gate_dst (N := 103) rfl ?_); refine wpList_load_row rfl 32 _ rfl gb109 (by first | rfl | (go_simp; done) | (go_simp; rfl)) 32 #[.int .i64 (rd x4_1 0), .int .i64 (rd x4_1 1), .int .i64 (rd x4_1 2), .int .i64 (rd x4_1 3), .int .i64 (rd x4_1 4), .int .i64 (rd x4_1 5), .int .i64 (rd x4_1 6)] (0, 0) _ BK109.out Tryd.underlying32 rfl (by kernel_rfl) ?_) | ((with_reducible refine gate_callee (f := 18) rfl ?_); refine glq_ (some 104) Tryd.func18 #[.agg #[.int .i64 (rd x4_1 0), .int .i64 (rd x4_1 1), .int .i64 (rd x4_1 2), .int .i64 (rd x4_1 3), .int .i64 (rd x4_1 4), .int .i64 (rd x4_1 5), .int .i64 (rd x4_1 6)]] ?_; (with_reducible refine (scale_Check.calls k1 (rd x4_1 0) (rd x4_1 1) (rd x4_1 2) (rd x4_1 3) (rd x4_1 4) (rd x4_1 5) (rd x4_1 6) t110 _ A57.out).mono ?_); rintro e w_ ⟨rfl, hb⟩; refine ⟨_, rfl, ?_⟩; have n1_ := hbs_ HB hb rfl rfl rfl rfl; have n3_ := bkb_ BK109 hb rfl; have m0_ := bkb_ BK101 hb rfl; clear HB BK109 BK101; have HB := n1_; have BK109 := n3_; have BK101 := m0_; clear n1_ n3_ m0_; (try clear hb)) | ((with_reducible refine gate_store (t := 32) (p := 2) rfl ?_); refine srow_ rfl 32 _ _ rfl rfl gb101 #[.int .i64 0, .int .i64 0, .int .i64 0, .int .i64 0, .int .i64 0, .int .i64 0, .int .i64 0] (by first | rfl | (go_simp; done) | (go_simp; rfl)) (by first | rfl | (go_simp; done) | (go_simp; rfl)) 32 #[.int .i64 x102000_1, .int .i64 x102001_1, .int .i64 x102002_1, .int .i64 x102003_1, .int .i64 x102004_1, .int .i64 x102005_1, .int .i64 x102006_1] BK101.out (by kernel_rfl) (by kernel_rfl) (by kernel_rfl) ?_; have n1_ := Aside0.mk (below_row (by repeat (first | (with_reducible first | exact HB.out | apply below_alloc | apply pw_below_drewN | apply below_drew1) | exact HB.out)) GE101.out #[.int .i64 0, .int .i64 0, .int .i64 0, .int .i64 0, .int .i64 0, .int .i64 0, .int .i64 0]); have n3_ := Aside0.mk (setRow_heap _ gb101 _ #[.int .i64 0, .int .i64 0, .int .i64 0, .int .i64 0, .int .i64 0, .int .i64 0, .int .i64 0] _ _ BK101.out); generalize World.setRow _ gb101 #[.int .i64 0, .int .i64 0, .int .i64 0, .int .i64 0, .int .i64 0, .int .i64 0, .int .i64 0] = w_ at *; clear HB BK101; have HB := n1_; have BK101 := n3_; clear n1_ n3_))
    refine bodyPost_ret (results_ct rfl _ _ gb101 32 #[.int .i64 0, .int .i64 0, .int .i64 0, .int .i64 0, .int .i64 0, .int .i64 0, .int .i64 0] (0, 0) _ rfl BK101.out Tryd.underlying32 rfl (by kernel_rfl)) rfl ?_
    exact ⟨rfl, by repeat (first | (with_reducible first | exact HB.out | apply below_alloc | apply pw_below_drewN | apply below_drew1) | exact HB.out)⟩

end Go.Proofs.YtpbfjcohiibpcaaDoor.Q
