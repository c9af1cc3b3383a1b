/- Contracts of Go functions of the seat, one by one: each call returns what the Lean function of the same name says, wherever that is 'some'; no other condition. Written by a program of this session. -/
import Derived.Test.YtpophefonhpnmaaKFracBestNearQx0
import Derived.Test.YtpophefonhpnmaaKFracBestNearQx13
import Derived.Test.YtpophefonhpnmaaKFracBestNearQx14
import Derived.Test.YtpophefonhpnmaaKFracBestNearQx55
import Derived.Test.YtpophefonhpnmaaKFracBestNearQx56
namespace Go.Proofs.Ytpophefonhpnmaa.Q
open Go.RowKit Go.Proofs.YtpophefonhpnmaaW.PrintWords Go.Proofs.YtpophefonhpnmaaW.PrintLast Go.Proofs.YtpophefonhpnmaaW.PrintMore
attribute [local go_sem] max2_int min2_int max_two min_two max_three min_three max_four min_four   -- for this text's walks alone
set_option linter.unusedVariables false
set_option linter.unusedSimpArgs false

/-! ### frac_Best: function 52 -/
mutual
def frac_Best.j0 : Nat → Int → Bool → Int → Int → Option (Int × Int × Int)
 | 0, _, _, _, _ => none
 | k + 1, x1, x26, x102000, x102001 => if x26 = true then (some (0, 0, 4)) else (if x102001 ≤ x1 then (some (x102000, x102001, 0)) else (frac_Best.l0 k x1 x102000 x102001 x102000 x102001 0 1 1 0))
def frac_Best.l0 : Nat → Int → Int → Int → Int → Int → Int → Int → Int → Int → Option (Int × Int × Int)
 | 0, _, _, _, _, _, _, _, _, _ => none
 | k + 1, x1, x9, x10, x102000, x102001, x105000, x105001, x106000, x106001 => (num_FloorDiv.f x9 x10).bind fun t106 => (if x106001 > 0 then (if x106001 = 0 then (none) else (if t106 > (wrap64 (Int.tdiv (wrap64 (x1 - x106000)) x106001)) then ((frac_away.f k x102000 x102001 (wrap64 (x105000 + (wrap64 ((wrap64 (Int.tdiv (wrap64 (x1 - x106000)) x106001)) * x105001)))) (wrap64 (x106000 + (wrap64 ((wrap64 (Int.tdiv (wrap64 (x1 - x106000)) x106001)) * x106001))))).bind fun t107 => ((num_Product.f t107 x106001).bind fun bt108 => ((frac_away.f k x102000 x102001 x105001 x106001).bind fun t110 => ((num_Product.f t110 (wrap64 (x106000 + (wrap64 ((wrap64 (Int.tdiv (wrap64 (x1 - x106000)) x106001)) * x106001))))).bind fun bt111 => ((num_Wide_Cmp.f k bt111.1 bt111.2 bt108.1 bt108.2).bind fun t115 => (if t115 ≤ 0 then (some (x105001, x106001, 0)) else (some (wrap64 (x105000 + (wrap64 ((wrap64 (Int.tdiv (wrap64 (x1 - x106000)) x106001)) * x105001))), wrap64 (x106000 + (wrap64 ((wrap64 (Int.tdiv (wrap64 (x1 - x106000)) x106001)) * x106001))), 0)))))))) else (frac_Best.l0 k x1 x10 (wrap64 (x9 - (wrap64 (t106 * x10)))) x102000 x102001 x105001 (wrap64 (x105000 + (wrap64 (t106 * x105001)))) x106001 (wrap64 (x106000 + (wrap64 (t106 * x106001))))))) else (frac_Best.l0 k x1 x10 (wrap64 (x9 - (wrap64 (t106 * x10)))) x102000 x102001 x105001 (wrap64 (x105000 + (wrap64 (t106 * x105001)))) x106001 (wrap64 (x106000 + (wrap64 (t106 * x106001))))))
end
def frac_Best.f (k : Nat) (a0_0 : Int) (a0_1 : Int) (a1 : Int) : Option (Int × Int × Int) := (frac_Check.f k a0_0 a0_1).bind fun t103 => (if t103 = 0 then (if a1 < 1 then (frac_Best.j0 k a1 true a0_0 a0_1) else (frac_Best.j0 k a1 (decide (a1 > 4096)) a0_0 a0_1)) else (some (0, 0, t103)))
theorem frac_Best.mono_l : ∀ k, (∀ y0 y1 y2 y3, LeO (frac_Best.j0 k y0 y1 y2 y3) (frac_Best.j0 (k + 1) y0 y1 y2 y3)) ∧ (∀ y0 y1 y2 y3 y4 y5 y6 y7 y8, LeO (frac_Best.l0 k y0 y1 y2 y3 y4 y5 y6 y7 y8) (frac_Best.l0 (k + 1) y0 y1 y2 y3 y4 y5 y6 y7 y8))
 | 0 => ⟨fun _ _ _ _ r h => by simp [frac_Best.j0] at h, fun _ _ _ _ _ _ _ _ _ r h => by simp [frac_Best.l0] at h⟩
 | k + 1 => by
  obtain ⟨ih0, ih1⟩ := frac_Best.mono_l k
  refine ⟨?_, ?_⟩
  · intro y0 y1 y2 y3
    unfold frac_Best.j0
    repeat' first
    | (with_reducible exact ih0 _ _ _ _)
    | (with_reducible exact ih1 _ _ _ _ _ _ _ _ _)
    | (with_reducible exact frac_Check.mono _ _ _)
    | (with_reducible exact frac_away.mono _ _ _ _ _)
    | (with_reducible exact num_Wide_Cmp.mono _ _ _ _ _)
    | (with_reducible exact LeO.refl _)
    | (with_reducible exact LeO.none _)
    | (with_reducible refine LeO.ite ?_ ?_)
    | (with_reducible refine LeO.bind ?_ (fun _ => ?_))
    | exact ih0 _ _ _ _
    | exact ih1 _ _ _ _ _ _ _ _ _
    | exact frac_Check.mono _ _ _
    | exact frac_away.mono _ _ _ _ _
    | exact num_Wide_Cmp.mono _ _ _ _ _
    | exact LeO.none _
    | refine LeO.ite ?_ ?_
    | refine LeO.bind ?_ (fun _ => ?_)
  · intro y0 y1 y2 y3 y4 y5 y6 y7 y8
    unfold frac_Best.l0
    repeat' first
    | (with_reducible exact ih0 _ _ _ _)
    | (with_reducible exact ih1 _ _ _ _ _ _ _ _ _)
    | (with_reducible exact frac_Check.mono _ _ _)
    | (with_reducible exact frac_away.mono _ _ _ _ _)
    | (with_reducible exact num_Wide_Cmp.mono _ _ _ _ _)
    | (with_reducible exact LeO.refl _)
    | (with_reducible exact LeO.none _)
    | (with_reducible refine LeO.ite ?_ ?_)
    | (with_reducible refine LeO.bind ?_ (fun _ => ?_))
    | exact ih0 _ _ _ _
    | exact ih1 _ _ _ _ _ _ _ _ _
    | exact frac_Check.mono _ _ _
    | exact frac_away.mono _ _ _ _ _
    | exact num_Wide_Cmp.mono _ _ _ _ _
    | exact LeO.none _
    | refine LeO.ite ?_ ?_
    | refine LeO.bind ?_ (fun _ => ?_)
theorem frac_Best.mono : ∀ a0 a1 a2 k, LeO (frac_Best.f k a0 a1 a2) (frac_Best.f (k + 1) a0 a1 a2) := by
 intro a0 a1 a2 k
 obtain ⟨ih0, ih1⟩ := frac_Best.mono_l k
 unfold frac_Best.f
 repeat' first
  | (with_reducible exact ih0 _ _ _ _)
  | (with_reducible exact ih1 _ _ _ _ _ _ _ _ _)
  | (with_reducible exact frac_Check.mono _ _ _)
  | (with_reducible exact frac_away.mono _ _ _ _ _)
  | (with_reducible exact num_Wide_Cmp.mono _ _ _ _ _)
  | (with_reducible exact LeO.refl _)
  | (with_reducible exact LeO.none _)
  | (with_reducible refine LeO.ite ?_ ?_)
  | (with_reducible refine LeO.bind ?_ (fun _ => ?_))
  | exact ih0 _ _ _ _
  | exact ih1 _ _ _ _ _ _ _ _ _
  | exact frac_Check.mono _ _ _
  | exact frac_away.mono _ _ _ _ _
  | exact num_Wide_Cmp.mono _ _ _ _ _
  | exact LeO.none _
  | refine LeO.ite ?_ ?_
  | refine LeO.bind ?_ (fun _ => ?_)
def frac_Best.T12 : Bool × List (List Nat × List Nat) := (true, [([], []), ([0], [0]), ([], []), ([2], [2]), ([], []), ([], []), ([5], [5]), ([4, 6], [4, 6]), ([3, 7], [3, 7]), ([1, 8], [1, 8]), ([], []), ([10], [10]), ([], []), ([12], [12]), ([], []), ([], []), ([15], [15]), ([14, 16], [14, 16]), ([13, 17], [13, 17]), ([11, 18], [11, 18]), ([9, 0, 1, 2, 3, 4, 5, 6, 7, 8, 9], [9]), ([19, 20, 0, 1, 2, 3, 4, 5, 6, 7, 8, 9, 10, 11, 12, 13, 14, 15, 16, 17, 18, 19, 20], [19])])
def frac_Best.B12 : List Nat := [0, 1, 0, 4, 0, 0, 32, 112, 252, 511, 0, 1024, 0, 4096, 0, 0, 32768, 114688, 258048, 523264, 1023, 2097151]
theorem frac_Best.tab12 : rtab .any (opsOf Try.f52 12) = frac_Best.T12 := by kernel_rfl
theorem frac_Best.bits12 : waitsOk frac_Best.T12.2 frac_Best.B12 = true := by kernel_rfl
def frac_Best.T15 : Bool × List (List Nat × List Nat) := (true, [([], []), ([0], [0]), ([], []), ([], []), ([3], [3]), ([2, 4], [2, 4]), ([1, 5], [1, 5]), ([], []), ([7], [7]), ([], []), ([], []), ([10], [10]), ([9, 11], [9, 11]), ([8, 12], [8, 12]), ([0, 1, 2, 3, 4, 5, 6], []), ([14, 6, 0, 1, 2, 3, 4, 5, 6], [6, 14]), ([0, 1, 2, 3, 4, 5, 6, 7, 8, 9, 10, 11, 12, 13, 14, 15], []), ([16, 13, 15, 0, 1, 2, 3, 4, 5, 6, 7, 8, 9, 10, 11, 12, 13, 14, 15], [13, 16])])
def frac_Best.B15 : List Nat := [0, 1, 0, 0, 8, 28, 63, 0, 128, 0, 0, 1024, 3584, 8064, 127, 16511, 65535, 131071]
theorem frac_Best.tab15 : rtab .any (opsOf Try.f52 15) = frac_Best.T15 := by kernel_rfl
theorem frac_Best.bits15 : waitsOk frac_Best.T15.2 frac_Best.B15 = true := by kernel_rfl
def frac_Best.T16 : Bool × List (List Nat × List Nat) := (true, [([], []), ([], []), ([1], [1]), ([], []), ([3], [3]), ([0, 2, 4], [0, 2, 4]), ([], []), ([6], [6]), ([5, 7, 5], [5, 7]), ([], []), ([], []), ([10], [10]), ([], []), ([12], [12]), ([9, 11, 13, 8], [9, 11, 13]), ([], []), ([15], [15]), ([14, 16, 14], [14, 16]), ([], []), ([], []), ([18, 8, 17, 0, 1, 2, 3, 4, 5, 6, 7, 8, 18, 19], [8, 18]), ([19, 17, 20, 0, 1, 2, 3, 4, 5, 6, 7, 8, 9, 10, 11, 12, 13, 14, 15, 16, 17, 18, 19, 20], [17, 19])])
def frac_Best.B16 : List Nat := [0, 0, 2, 0, 8, 31, 0, 64, 255, 0, 0, 1024, 0, 4096, 16383, 0, 32768, 131071, 0, 0, 1048575, 2097151]
theorem frac_Best.tab16 : rtab .any (opsOf Try.f52 16) = frac_Best.T16 := by kernel_rfl
theorem frac_Best.bits16 : waitsOk frac_Best.T16.2 frac_Best.B16 = true := by kernel_rfl
set_option maxHeartbeats 8000000 in
set_option maxRecDepth 100000 in
theorem frac_Best.calls (k : Nat) (a0_0 : Int) (a0_1 : Int) (a1 : Int) (r1 : Int) (r2 : Int) (r3 : Int) (w : World) (h : frac_Best.f k a0_0 a0_1 a1 = some (r1, r2, r3)) :
 Calls Try.prog 52 #[.agg #[.int .i64 a0_0, .int .i64 a0_1], .int .i64 a1] w fun e w' => e = .returned (.tuple #[.agg #[.int .i64 r1, .int .i64 r2], .int .i64 r3]) ∧ Below w.heap.size w w' := by
  have hu77 := Try.underlying77
  have hu150 := Try.underlying150
  have hu138 := Try.underlying138
  have HB := Aside0.mk (Below.refl w.heap.size w)
  have H : ((frac_Check.f k a0_0 a0_1).bind fun t103 => (if t103 = 0 then (if a1 < 1 then (frac_Best.j0 k a1 true a0_0 a0_1) else (frac_Best.j0 k a1 (decide (a1 > 4096)) a0_0 a0_1)) else (some (0, 0, t103)))) = some (r1, r2, r3) := h
  clear h
  replace H := Option.bind_eq_some_iff.mp H
  obtain ⟨t103, A30, H⟩ := H
  try dsimp -simprocs only at H
  have A3 := Aside0.mk A30
  clear A30
  by_cases c4 : t103 = 0
  rotate_left
  · rw [if_neg c4] at H
    have c4b0 : (t103 == 0) = false := beq_eq_false_iff_ne.mpr c4
    have c4b1 : (t103 != 0) = true := bne_iff_ne.mpr c4
    simp only [Option.some.injEq, Prod.mk.injEq] at H
    obtain ⟨rfl, rfl, rfl⟩ := H
    go_enter Try.func52, Try.ntmps52
    go_wp2_with (first | ((with_reducible refine gate_dst (N := 2) rfl ?_); refine bxq_ 2 #[.int .i64 a0_0, .int .i64 a0_1] 77 ?_; intro gb101 hg w136 hbox hb; have BK101 := Aside0.mk (hbox); have GW101 := gwq_ HB hg rfl; have GE101 := GW101; replace HB := hbs_ HB hb rfl rfl rfl rfl; clear hb hbox hg) | ((with_reducible refine gate_dst (N := 4) rfl ?_); refine bxq_ 4 #[.int .i64 0, .int .i64 0] 77 ?_; intro gb102 hg w137 hbox hb; have BK102 := Aside0.mk (hbox); have GW102 := gwq_ HB hg rfl; have GE102 := GW102; have NB101_102 := nbl_ BK101 hg rfl; have NB102_101 := nbg_ BK101 hg rfl; replace BK101 := bkb_ BK101 hb rfl; replace HB := hbs_ HB hb rfl rfl rfl rfl; clear hb hbox hg; have hnb138 := NB101_102.out; have hnc138 := NB102_101.out; have hcz139_0 := bc_ BK101 0 rfl; have hcz139_1 := bc_ BK101 1 rfl; have hfz139_0 := blk_frozen BK101.out 0; have hfz139_1 := blk_frozen BK101.out 1) | ((with_reducible refine gate_callee (f := 113) rfl ?_); refine glq_ (some 16) Try.func113 #[.agg #[.int .i64 a0_0, .int .i64 a0_1]] ?_; (with_reducible refine (frac_Check.calls k a0_0 a0_1 t103 _ A3.out).mono ?_); rintro e w140 ⟨rfl, hb⟩; refine ⟨_, rfl, ?_⟩; replace BK101 := bkb_ BK101 hb rfl; replace BK102 := bkb_ BK102 hb rfl; replace HB := hbs_ HB hb rfl rfl rfl rfl; (try clear hb); have hcz141_0 := bc_ BK102 0 rfl; have hcz141_1 := bc_ BK102 1 rfl; have hfz141_0 := blk_frozen BK102.out 0; have hfz141_1 := blk_frozen BK102.out 1))
    refine bodyPost_ret (results_ct rfl _ _ gb102 77 #[.int .i64 0, .int .i64 0] (0, 0) _ rfl (by (with_reducible repeat (first | refine blk_drewN ?_ _ | refine blk_drew ?_ | refine blk_alloc ?_ _)); refine blk_put (cs := #[.int .i64 0, .int .i64 0]) ?_ 1 _ rfl; (with_reducible repeat (first | refine blk_drewN ?_ _ | refine blk_drew ?_ | refine blk_alloc ?_ _)); refine blk_put (cs := #[.int .i64 0, .int .i64 0]) ?_ 0 _ rfl; (with_reducible repeat (first | refine blk_drewN ?_ _ | refine blk_drew ?_ | refine blk_alloc ?_ _)); exact BK102.out) Try.underlying77 rfl (by kernel_rfl)) rfl ?_
    exact ⟨by first | rfl | (simp [errW_none, errW_some] <;> rfl) | (simp [*, errW_none, errW_some] <;> rfl), by repeat (first | (with_reducible first | exact HB.out | apply below_alloc | apply pw_below_drewN | apply below_drew1 | refine below_set ?_ GE101.out | refine below_set ?_ GE102.out) | exact HB.out)⟩
  rw [if_pos c4] at H
  have c4b0 : (t103 == 0) = true := beq_iff_eq.mpr c4
  have c4b1 : (t103 != 0) = false := bne_eq_false_iff_eq.mpr c4
  clear c4
  have HC5 := Aside0.mk H
  clear H
  go_enter Try.func52, Try.ntmps52
  go_upto_region 4 with (first | ((with_reducible refine gate_dst (N := 2) rfl ?_); refine bxq_ 2 #[.int .i64 a0_0, .int .i64 a0_1] 77 ?_; intro gb101 hg w6 hbox hb; have BK101 := Aside0.mk (hbox); have GW101 := gwq_ HB hg rfl; have GE101 := GW101; replace HB := hbs_ HB hb rfl rfl rfl rfl; clear hb hbox hg) | ((with_reducible refine gate_dst (N := 4) rfl ?_); refine bxq_ 4 #[.int .i64 0, .int .i64 0] 77 ?_; intro gb102 hg w7 hbox hb; have BK102 := Aside0.mk (hbox); have GW102 := gwq_ HB hg rfl; have GE102 := GW102; have NB101_102 := nbl_ BK101 hg rfl; have NB102_101 := nbg_ BK101 hg rfl; replace BK101 := bkb_ BK101 hb rfl; replace HB := hbs_ HB hb rfl rfl rfl rfl; clear hb hbox hg; have hnb8 := NB101_102.out; have hnc8 := NB102_101.out; have hcz9_0 := bc_ BK101 0 rfl; have hcz9_1 := bc_ BK101 1 rfl; have hfz9_0 := blk_frozen BK101.out 0; have hfz9_1 := blk_frozen BK101.out 1) | ((with_reducible refine gate_callee (f := 113) rfl ?_); refine glq_ (some 16) Try.func113 #[.agg #[.int .i64 a0_0, .int .i64 a0_1]] ?_; (with_reducible refine (frac_Check.calls k a0_0 a0_1 t103 _ A3.out).mono ?_); rintro e w10 ⟨rfl, hb⟩; refine ⟨_, rfl, ?_⟩; replace BK101 := bkb_ BK101 hb rfl; replace BK102 := bkb_ BK102 hb rfl; replace HB := hbs_ HB hb rfl rfl rfl rfl; (try clear hb)))
  (try simp only [Act.put, List.setIfInBounds_toArray, List.set_cons_zero, List.set_cons_succ])
  go_cut [26] (fun v26 wc => ∃ (kq : Nat) (x26_4 : Bool), v26 = .bool x26_4 ∧ Aside0 (frac_Best.j0 kq a1 x26_4 a0_0 a0_1 = some (r1, r2, r3)) ∧ Aside0 (kq ≤ k) ∧ Aside0 (wc.heap[gb101]? = some (.cells #[.int .i64 a0_0, .int .i64 a0_1] 77 (0, 0))) ∧ Aside0 (wc.heap[gb102]? = some (.cells #[.int .i64 0, .int .i64 0] 77 (0, 0))) ∧ Aside0 (Below w.heap.size w wc))
  case first =>
   have H := HC5.out
   clear HC5
   by_cases c11 : a1 < 1
   · rw [if_pos c11] at H
     have c11b0 : decide (a1 < 1) = true := decide_eq_true c11
     clear c11
     (first | rw [c11b0] | (simp only [i64_w, i32_w]; rw [c11b0]) | skip)
     have H' := Aside0.mk H
     clear H
     go_wp2
     go_meet
     case rel => exact ⟨_, (true), (by first | rfl | (simp; done) | (simp [*]; done)), H', ⟨by first | omega | exact Nat.le_refl _⟩, ⟨by (with_reducible repeat (first | refine blk_drewN ?_ _ | refine blk_drew ?_ | refine blk_alloc ?_ _)); exact BK101.out⟩, ⟨by (with_reducible repeat (first | refine blk_drewN ?_ _ | refine blk_drew ?_ | refine blk_alloc ?_ _)); exact BK102.out⟩, ⟨by repeat (first | (with_reducible first | exact HB.out | apply below_alloc | apply pw_below_drewN | apply below_drew1 | refine below_set ?_ GE101.out | refine below_set ?_ GE102.out) | exact HB.out)⟩⟩
   rw [if_neg c11] at H
   have c11b0 : decide (a1 < 1) = false := decide_eq_false c11
   clear c11
   (first | rw [c11b0] | (simp only [i64_w, i32_w]; rw [c11b0]) | skip)
   have H' := Aside0.mk H
   clear H
   go_wp2
   go_meet
   case rel => exact ⟨_, (decide (a1 > 4096)), (by first | rfl | (simp; done) | (simp [*]; done)), H', ⟨by first | omega | exact Nat.le_refl _⟩, ⟨by (with_reducible repeat (first | refine blk_drewN ?_ _ | refine blk_drew ?_ | refine blk_alloc ?_ _)); exact BK101.out⟩, ⟨by (with_reducible repeat (first | refine blk_drewN ?_ _ | refine blk_drew ?_ | refine blk_alloc ?_ _)); exact BK102.out⟩, ⟨by repeat (first | (with_reducible first | exact HB.out | apply below_alloc | apply pw_below_drewN | apply below_drew1 | refine below_set ?_ GE101.out | refine below_set ?_ GE102.out) | exact HB.out)⟩⟩
  case rest =>
   clear HC5
   obtain ⟨kq, x26_4, rfl, HA, HJ4, BK101, BK102, HB⟩ := hcut
   cases kq with
   | zero => exact absurd HA.out (by simp [frac_Best.j0])
   | succ kj4 =>
    have H := HA.out
    clear HA
    simp only [frac_Best.j0] at H
    by_cases c12 : x26_4 = true
    · subst c12
      rw [if_pos rfl] at H
      simp only [Option.some.injEq, Prod.mk.injEq] at H
      obtain ⟨rfl, rfl, rfl⟩ := H
      have hnb13 := NB102_101.out
      have hnc13 := NB101_102.out
      have hcz14_0 := bc_ BK102 0 rfl
      have hcz14_1 := bc_ BK102 1 rfl
      have hfz14_0 := blk_frozen BK102.out 0
      have hfz14_1 := blk_frozen BK102.out 1
      go_wp2
      refine bodyPost_ret (results_ct rfl _ _ gb102 77 #[.int .i64 0, .int .i64 0] (0, 0) _ rfl (by (with_reducible repeat (first | refine blk_drewN ?_ _ | refine blk_drew ?_ | refine blk_alloc ?_ _)); refine blk_put (cs := #[.int .i64 0, .int .i64 0]) ?_ 1 _ rfl; (with_reducible repeat (first | refine blk_drewN ?_ _ | refine blk_drew ?_ | refine blk_alloc ?_ _)); refine blk_put (cs := #[.int .i64 0, .int .i64 0]) ?_ 0 _ rfl; (with_reducible repeat (first | refine blk_drewN ?_ _ | refine blk_drew ?_ | refine blk_alloc ?_ _)); exact BK102.out) Try.underlying77 rfl (by kernel_rfl)) rfl ?_
      exact ⟨by first | rfl | (simp [errW_none, errW_some] <;> rfl) | (simp [*, errW_none, errW_some] <;> rfl), by repeat (first | (with_reducible first | exact HB.out | apply below_alloc | apply pw_below_drewN | apply below_drew1 | refine below_set ?_ GE101.out | refine below_set ?_ GE102.out) | exact HB.out)⟩
    replace c12 := Bool.eq_false_iff.mpr c12
    subst c12
    rw [if_neg (show ¬ (false = true) by decide)] at H
    by_cases c15 : a0_1 ≤ a1
    · rw [if_pos c15] at H
      have c15b0 : decide (a0_1 ≤ a1) = true := decide_eq_true c15
      clear c15
      simp only [Option.some.injEq, Prod.mk.injEq] at H
      obtain ⟨rfl, rfl, rfl⟩ := H
      have hnb16 := NB101_102.out
      have hnc16 := NB102_101.out
      have hcz17_0 := bc_ BK101 0 rfl
      have hcz17_1 := bc_ BK101 1 rfl
      have hfz17_0 := blk_frozen BK101.out 0
      have hfz17_1 := blk_frozen BK101.out 1
      have hcz18_0 := bc_ BK102 0 rfl
      have hcz18_1 := bc_ BK102 1 rfl
      have hfz18_0 := blk_frozen BK102.out 0
      have hfz18_1 := blk_frozen BK102.out 1
      go_wp2
      refine bodyPost_ret (results_ct rfl _ _ gb102 77 #[.int .i64 a0_0, .int .i64 a0_1] (0, 0) _ rfl (by (with_reducible repeat (first | refine blk_drewN ?_ _ | refine blk_drew ?_ | refine blk_alloc ?_ _)); refine blk_put (cs := #[.int .i64 a0_0, .int .i64 0]) ?_ 1 _ rfl; (with_reducible repeat (first | refine blk_drewN ?_ _ | refine blk_drew ?_ | refine blk_alloc ?_ _)); refine blk_put (cs := #[.int .i64 0, .int .i64 0]) ?_ 0 _ rfl; (with_reducible repeat (first | refine blk_drewN ?_ _ | refine blk_drew ?_ | refine blk_alloc ?_ _)); exact BK102.out) Try.underlying77 rfl (by kernel_rfl)) rfl ?_
      exact ⟨by first | rfl | (simp [errW_none, errW_some] <;> rfl) | (simp [*, errW_none, errW_some] <;> rfl), by repeat (first | (with_reducible first | exact HB.out | apply below_alloc | apply pw_below_drewN | apply below_drew1 | refine below_set ?_ GE101.out | refine below_set ?_ GE102.out) | exact HB.out)⟩
    rw [if_neg c15] at H
    have c15b0 : decide (a0_1 ≤ a1) = false := decide_eq_false c15
    clear c15
    have H' := Aside0.mk H
    clear H
    have hnb19 := NB101_102.out
    have hnc19 := NB102_101.out
    have hcz20_0 := bc_ BK101 0 rfl
    have hcz20_1 := bc_ BK101 1 rfl
    have hfz20_0 := blk_frozen BK101.out 0
    have hfz20_1 := blk_frozen BK101.out 1
    try go_wp2_with (first | ((with_reducible refine gate_dst (N := 7) rfl ?_); refine bxq_ 7 #[.int .i64 0, .int .i64 0] 150 ?_; intro gb104 hg w21 hbox hb; have BK104 := Aside0.mk (hbox); have GW104 := gwq_ HB hg rfl; have GE104 := GW104; have NB101_104 := nbl_ BK101 hg rfl; have NB104_101 := nbg_ BK101 hg rfl; have NB102_104 := nbl_ BK102 hg rfl; have NB104_102 := nbg_ BK102 hg rfl; replace BK101 := bkb_ BK101 hb rfl; replace BK102 := bkb_ BK102 hb rfl; replace HB := hbs_ HB hb rfl rfl rfl rfl; clear hb hbox hg) | ((with_reducible refine gate_dst (N := 8) rfl ?_); refine bxq_ 8 #[.int .i64 0, .int .i64 0] 150 ?_; intro gb105 hg w22 hbox hb; have BK105 := Aside0.mk (hbox); have GW105 := gwq_ HB hg rfl; have GE105 := GW105; have NB101_105 := nbl_ BK101 hg rfl; have NB105_101 := nbg_ BK101 hg rfl; have NB102_105 := nbl_ BK102 hg rfl; have NB105_102 := nbg_ BK102 hg rfl; have NB104_105 := nbl_ BK104 hg rfl; have NB105_104 := nbg_ BK104 hg rfl; replace BK101 := bkb_ BK101 hb rfl; replace BK102 := bkb_ BK102 hb rfl; replace BK104 := bkb_ BK104 hb rfl; replace HB := hbs_ HB hb rfl rfl rfl rfl; clear hb hbox hg; have hnb23 := NB104_101.out; have hnc23 := NB101_104.out; have hnb24 := NB104_102.out; have hnc24 := NB102_104.out; have hnb25 := NB104_105.out; have hnc25 := NB105_104.out; have hcz26_0 := bc_ BK104 0 rfl; have hcz26_1 := bc_ BK104 1 rfl; have hfz26_0 := blk_frozen BK104.out 0; have hfz26_1 := blk_frozen BK104.out 1; have hnb27 := NB105_101.out; have hnc27 := NB101_105.out; have hnb28 := NB105_102.out; have hnc28 := NB102_105.out; have hcz29_0 := bc_ BK105 0 rfl; have hcz29_1 := bc_ BK105 1 rfl; have hfz29_0 := blk_frozen BK105.out 0; have hfz29_1 := blk_frozen BK105.out 1))
    have n0_ : Aside0 (((((w22.setCell ⟨gb104, 0, none⟩ (.int .i64 0)).setCell ⟨gb104, 1, none⟩ (.int .i64 1)).setCell ⟨gb105, 0, none⟩ (.int .i64 1)).setCell ⟨gb105, 1, none⟩ (.int .i64 0)).heap[gb101]? = some (.cells #[.int .i64 a0_0, .int .i64 a0_1] 77 (0, 0))) := ⟨by (with_reducible repeat (first | refine blk_drewN ?_ _ | refine blk_drew ?_ | refine blk_alloc ?_ _)); refine blk_far ?_ NB101_105.out _; (with_reducible repeat (first | refine blk_drewN ?_ _ | refine blk_drew ?_ | refine blk_alloc ?_ _)); refine blk_far ?_ NB101_105.out _; (with_reducible repeat (first | refine blk_drewN ?_ _ | refine blk_drew ?_ | refine blk_alloc ?_ _)); refine blk_far ?_ NB101_104.out _; (with_reducible repeat (first | refine blk_drewN ?_ _ | refine blk_drew ?_ | refine blk_alloc ?_ _)); refine blk_far ?_ NB101_104.out _; (with_reducible repeat (first | refine blk_drewN ?_ _ | refine blk_drew ?_ | refine blk_alloc ?_ _)); exact BK101.out⟩
    have n1_ : Aside0 (((((w22.setCell ⟨gb104, 0, none⟩ (.int .i64 0)).setCell ⟨gb104, 1, none⟩ (.int .i64 1)).setCell ⟨gb105, 0, none⟩ (.int .i64 1)).setCell ⟨gb105, 1, none⟩ (.int .i64 0)).heap[gb102]? = some (.cells #[.int .i64 0, .int .i64 0] 77 (0, 0))) := ⟨by (with_reducible repeat (first | refine blk_drewN ?_ _ | refine blk_drew ?_ | refine blk_alloc ?_ _)); refine blk_far ?_ NB102_105.out _; (with_reducible repeat (first | refine blk_drewN ?_ _ | refine blk_drew ?_ | refine blk_alloc ?_ _)); refine blk_far ?_ NB102_105.out _; (with_reducible repeat (first | refine blk_drewN ?_ _ | refine blk_drew ?_ | refine blk_alloc ?_ _)); refine blk_far ?_ NB102_104.out _; (with_reducible repeat (first | refine blk_drewN ?_ _ | refine blk_drew ?_ | refine blk_alloc ?_ _)); refine blk_far ?_ NB102_104.out _; (with_reducible repeat (first | refine blk_drewN ?_ _ | refine blk_drew ?_ | refine blk_alloc ?_ _)); exact BK102.out⟩
    have n2_ : Aside0 (((((w22.setCell ⟨gb104, 0, none⟩ (.int .i64 0)).setCell ⟨gb104, 1, none⟩ (.int .i64 1)).setCell ⟨gb105, 0, none⟩ (.int .i64 1)).setCell ⟨gb105, 1, none⟩ (.int .i64 0)).heap[gb104]? = some (.cells #[.int .i64 0, .int .i64 1] 150 (0, 0))) := ⟨by (with_reducible repeat (first | refine blk_drewN ?_ _ | refine blk_drew ?_ | refine blk_alloc ?_ _)); refine blk_far ?_ NB104_105.out _; (with_reducible repeat (first | refine blk_drewN ?_ _ | refine blk_drew ?_ | refine blk_alloc ?_ _)); refine blk_far ?_ NB104_105.out _; (with_reducible repeat (first | refine blk_drewN ?_ _ | refine blk_drew ?_ | refine blk_alloc ?_ _)); refine blk_put (cs := #[.int .i64 0, .int .i64 0]) ?_ 1 _ rfl; (with_reducible repeat (first | refine blk_drewN ?_ _ | refine blk_drew ?_ | refine blk_alloc ?_ _)); refine blk_put (cs := #[.int .i64 0, .int .i64 0]) ?_ 0 _ rfl; (with_reducible repeat (first | refine blk_drewN ?_ _ | refine blk_drew ?_ | refine blk_alloc ?_ _)); exact BK104.out⟩
    have n3_ : Aside0 (((((w22.setCell ⟨gb104, 0, none⟩ (.int .i64 0)).setCell ⟨gb104, 1, none⟩ (.int .i64 1)).setCell ⟨gb105, 0, none⟩ (.int .i64 1)).setCell ⟨gb105, 1, none⟩ (.int .i64 0)).heap[gb105]? = some (.cells #[.int .i64 1, .int .i64 0] 150 (0, 0))) := ⟨by (with_reducible repeat (first | refine blk_drewN ?_ _ | refine blk_drew ?_ | refine blk_alloc ?_ _)); refine blk_put (cs := #[.int .i64 1, .int .i64 0]) ?_ 1 _ rfl; (with_reducible repeat (first | refine blk_drewN ?_ _ | refine blk_drew ?_ | refine blk_alloc ?_ _)); refine blk_put (cs := #[.int .i64 0, .int .i64 0]) ?_ 0 _ rfl; (with_reducible repeat (first | refine blk_drewN ?_ _ | refine blk_drew ?_ | refine blk_alloc ?_ _)); refine blk_far ?_ NB105_104.out _; (with_reducible repeat (first | refine blk_drewN ?_ _ | refine blk_drew ?_ | refine blk_alloc ?_ _)); refine blk_far ?_ NB105_104.out _; (with_reducible repeat (first | refine blk_drewN ?_ _ | refine blk_drew ?_ | refine blk_alloc ?_ _)); exact BK105.out⟩
    have n4_ : Aside0 (Below w.heap.size w ((((w22.setCell ⟨gb104, 0, none⟩ (.int .i64 0)).setCell ⟨gb104, 1, none⟩ (.int .i64 1)).setCell ⟨gb105, 0, none⟩ (.int .i64 1)).setCell ⟨gb105, 1, none⟩ (.int .i64 0))) := ⟨by repeat (first | (with_reducible first | exact HB.out | apply below_alloc | apply pw_below_drewN | apply below_drew1 | refine below_set ?_ GE101.out | refine below_set ?_ GE102.out | refine below_set ?_ GE104.out | refine below_set ?_ GE105.out) | exact HB.out)⟩
    (try clear BK101)
    (try clear BK102)
    (try clear BK104)
    (try clear BK105)
    (try clear HB)
    generalize ((((w22.setCell ⟨gb104, 0, none⟩ (.int .i64 0)).setCell ⟨gb104, 1, none⟩ (.int .i64 1)).setCell ⟨gb105, 0, none⟩ (.int .i64 1)).setCell ⟨gb105, 1, none⟩ (.int .i64 0)) = w30 at n0_ n1_ n2_ n3_ n4_ ⊢
    have BK101 := n0_
    have BK102 := n1_
    have BK104 := n2_
    have BK105 := n3_
    have HB := n4_
    clear n0_ n1_ n2_ n3_ n4_
    replace BK101 := Aside0.mk (blk_drew BK101.out)
    replace BK102 := Aside0.mk (blk_drew BK102.out)
    replace BK104 := Aside0.mk (blk_drew BK104.out)
    replace BK105 := Aside0.mk (blk_drew BK105.out)
    replace HB := Aside0.mk (below_drew1 HB.out)
    refine start_ (n := 6) (S := fun w' => w'.cell? ⟨gb101, 0, none⟩ = some (.int .i64 a0_0) ∧ w'.cell? ⟨gb101, 1, none⟩ = some (.int .i64 a0_1)) (ds := []) #[false, false, false, false, false, false] (by kernel_rfl) rfl rfl ⟨bc_ BK101 0 rfl, bc_ BK101 1 rfl⟩ (fun hHeld => ?_)
    generalize w30.drew = w31 at BK101 BK102 BK104 BK105 HB hHeld ⊢
    refine pure_ (i := 0) (N := some 35) (v := ?_) (a' := ?_) #[true, false, false, false, false, false] rfl rfl (by kernel_rfl) (fun _ _ _ h => h) (Or.inl ⟨by rfl, ?_⟩) ?_ ?_
    rotate_left
    · intro w'
      go_simp
      with_reducible rfl
    rotate_left
    · simp only [Act.put, List.setIfInBounds_toArray, List.set_cons_zero, List.set_cons_succ, i64_w, i32_w]
      rfl
    refine pure_ (i := 2) (N := some 37) (v := ?_) (a' := ?_) #[true, false, true, false, false, false] rfl rfl (by kernel_rfl) (fun _ _ _ h => h) (Or.inl ⟨by rfl, ?_⟩) ?_ ?_
    rotate_left
    · intro w'
      go_simp
      with_reducible rfl
    rotate_left
    · simp only [Act.put, List.setIfInBounds_toArray, List.set_cons_zero, List.set_cons_succ, i64_w, i32_w]
      rfl
    refine take_ (i := 1) (N := some 36) (v := ?_) (a' := ?_) #[true, true, true, false, false, false] rfl rfl (by kernel_rfl) (fun _ _ _ h => h) (Or.inl ⟨by rfl, ?_⟩) hHeld ?_ ?_
    rotate_left
    · rintro w' ⟨s0, s1⟩
      go_simp
      with_reducible rfl
    rotate_left
    · simp only [Act.put, List.setIfInBounds_toArray, List.set_cons_zero, List.set_cons_succ, i64_w, i32_w]
      rfl
    refine pure_ (i := 4) (N := some 9) (v := ?_) (a' := ?_) #[true, true, true, false, true, false] rfl rfl (by kernel_rfl) (fun _ _ _ h => h) (Or.inl ⟨by rfl, ?_⟩) ?_ ?_
    rotate_left
    · intro w'
      go_simp
      with_reducible rfl
    rotate_left
    · simp only [Act.put, List.setIfInBounds_toArray, List.set_cons_zero, List.set_cons_succ, i64_w, i32_w]
      rfl
    refine take_ (i := 3) (N := some 38) (v := ?_) (a' := ?_) #[true, true, true, true, true, false] rfl rfl (by kernel_rfl) (fun _ _ _ h => h) (Or.inl ⟨by rfl, ?_⟩) hHeld ?_ ?_
    rotate_left
    · rintro w' ⟨s0, s1⟩
      go_simp
      with_reducible rfl
    rotate_left
    · simp only [Act.put, List.setIfInBounds_toArray, List.set_cons_zero, List.set_cons_succ, i64_w, i32_w]
      rfl
    refine pure_ (i := 5) (N := some 10) (v := ?_) (a' := ?_) #[true, true, true, true, true, true] rfl rfl (by kernel_rfl) (fun _ _ _ h => h) (Or.inl ⟨by rfl, ?_⟩) ?_ ?_
    rotate_left
    · intro w'
      go_simp
      with_reducible rfl
    rotate_left
    · simp only [Act.put, List.setIfInBounds_toArray, List.set_cons_zero, List.set_cons_succ, i64_w, i32_w]
      rfl
    refine done_ (by kernel_rfl) ?_
    try go_wp2
    go_loopg [9, 10] kj4 (fun kq v9 v10 w' => ∃ (x9_2 : Int) (x10_2 : Int) (x105000_2 : Int) (x105001_2 : Int) (x106000_2 : Int) (x106001_2 : Int), v9 = .int .i64 x9_2 ∧ v10 = .int .i64 x10_2 ∧ Aside0 (frac_Best.l0 kq a1 x9_2 x10_2 a0_0 a0_1 x105000_2 x105001_2 x106000_2 x106001_2 = some (r1, r2, r3)) ∧ Aside0 (kq ≤ kj4) ∧ Aside0 (w'.heap[gb101]? = some (.cells #[.int .i64 a0_0, .int .i64 a0_1] 77 (0, 0))) ∧ Aside0 (w'.heap[gb102]? = some (.cells #[.int .i64 0, .int .i64 0] 77 (0, 0))) ∧ Aside0 (w'.heap[gb104]? = some (.cells #[.int .i64 x105000_2, .int .i64 x105001_2] 150 (0, 0))) ∧ Aside0 (w'.heap[gb105]? = some (.cells #[.int .i64 x106000_2, .int .i64 x106001_2] 150 (0, 0))) ∧ Aside0 (Below w.heap.size w w'))
    case atStart => exact ⟨(a0_0), (a0_1), (0), (1), (1), (0), (by first | rfl | (simp; done) | (simp [*]; done)), (by first | rfl | (simp; done) | (simp [*]; done)), H', ⟨Nat.le_refl _⟩, ⟨by (with_reducible repeat (first | refine blk_drewN ?_ _ | refine blk_drew ?_ | refine blk_alloc ?_ _)); exact BK101.out⟩, ⟨by (with_reducible repeat (first | refine blk_drewN ?_ _ | refine blk_drew ?_ | refine blk_alloc ?_ _)); exact BK102.out⟩, ⟨by (with_reducible repeat (first | refine blk_drewN ?_ _ | refine blk_drew ?_ | refine blk_alloc ?_ _)); exact BK104.out⟩, ⟨by (with_reducible repeat (first | refine blk_drewN ?_ _ | refine blk_drew ?_ | refine blk_alloc ?_ _)); exact BK105.out⟩, ⟨by repeat (first | (with_reducible first | exact HB.out | apply below_alloc | apply pw_below_drewN | apply below_drew1 | refine below_set ?_ GE101.out | refine below_set ?_ GE102.out | refine below_set ?_ GE104.out | refine below_set ?_ GE105.out) | exact HB.out)⟩⟩
    case round =>
     clear H'
     obtain ⟨x9_2, x10_2, x105000_2, x105001_2, x106000_2, x106001_2, rfl, rfl, HA, HK2, BK101, BK102, BK104, BK105, HB⟩ := hrel
     cases gk with
     | zero => exact absurd HA.out (by simp [frac_Best.l0])
     | succ k2 =>
      have H := HA.out
      clear HA
      simp only [frac_Best.l0] at H
      replace H := Option.bind_eq_some_iff.mp H
      obtain ⟨t106, A320, H⟩ := H
      try dsimp -simprocs only at H
      have A32 := Aside0.mk A320
      clear A320
      by_cases c33 : x106001_2 > 0
      rotate_left
      · rw [if_neg c33] at H
        have c33b0 : decide (0 < x106001_2) = false := decide_eq_false c33
        clear c33
        have H' := Aside0.mk H
        clear H
        try go_wp2_with (first | ((with_reducible refine gate_callee (f := 47) rfl ?_); refine glq_ (some 41) Try.func47 #[.int .i64 x9_2, .int .i64 x10_2] ?_; (with_reducible refine (num_FloorDiv.calls x9_2 x10_2 t106 _ A32.out).mono ?_); rintro e w' ⟨rfl, ⟨nd, rfl⟩⟩; refine ⟨_, rfl, ?_⟩; (repeat (rw [drewN_self wr]; generalize hq_ : World.drewN wr _ = wr; have n0_ : Aside0 (wr.heap[gb101]? = some (.cells #[.int .i64 a0_0, .int .i64 a0_1] 77 (0, 0))) := ⟨by rw [← hq_]; exact BK101.out⟩; have n1_ : Aside0 (wr.heap[gb102]? = some (.cells #[.int .i64 0, .int .i64 0] 77 (0, 0))) := ⟨by rw [← hq_]; exact BK102.out⟩; have n2_ : Aside0 (wr.heap[gb104]? = some (.cells #[.int .i64 x105000_2, .int .i64 x105001_2] 150 (0, 0))) := ⟨by rw [← hq_]; exact BK104.out⟩; have n3_ : Aside0 (wr.heap[gb105]? = some (.cells #[.int .i64 x106000_2, .int .i64 x106001_2] 150 (0, 0))) := ⟨by rw [← hq_]; exact BK105.out⟩; have n4_ : Aside0 (Below w.heap.size w wr) := ⟨by rw [← hq_]; exact (by repeat (first | (with_reducible first | exact HB.out | apply below_alloc | apply pw_below_drewN | apply below_drew1 | refine below_set ?_ GE101.out | refine below_set ?_ GE102.out | refine below_set ?_ GE104.out | refine below_set ?_ GE105.out) | exact HB.out))⟩; clear BK101 BK102 BK104 BK105 HB hq_; have BK101 := n0_; have BK102 := n1_; have BK104 := n2_; have BK105 := n3_; have HB := n4_; clear n0_ n1_ n2_ n3_ n4_)); have hnb127 := NB105_101.out; have hnc127 := NB101_105.out; have hnb128 := NB105_102.out; have hnc128 := NB102_105.out; have hnb129 := NB105_104.out; have hnc129 := NB104_105.out; have hcz130_0 := bc_ BK105 0 rfl; have hcz130_1 := bc_ BK105 1 rfl; have hfz130_0 := blk_frozen BK105.out 0; have hfz130_1 := blk_frozen BK105.out 1))
        replace BK101 := Aside0.mk (blk_drew BK101.out)
        replace BK102 := Aside0.mk (blk_drew BK102.out)
        replace BK104 := Aside0.mk (blk_drew BK104.out)
        replace BK105 := Aside0.mk (blk_drew BK105.out)
        replace HB := Aside0.mk (below_drew1 HB.out)
        refine startR_ (n := 22) (fun w' => w'.cell? ⟨gb104, 0, none⟩ = some (.int .i64 x105000_2) ∧ w'.cell? ⟨gb104, 1, none⟩ = some (.int .i64 x105001_2)) [20, 21] (fun w' => w'.cell? ⟨gb105, 0, none⟩ = some (.int .i64 x106000_2) ∧ w'.cell? ⟨gb105, 1, none⟩ = some (.int .i64 x106001_2)) [21] (bm_ [0, 22]) (by kernel_rfl) rfl rfl ⟨bc_ BK104 0 rfl, bc_ BK104 1 rfl⟩ ⟨bc_ BK105 0 rfl, bc_ BK105 1 rfl⟩ (fun hHeld => ?_)
        generalize wr.drew = w131 at BK101 BK102 BK104 BK105 HB hHeld ⊢
        refine pureR_ (i := 0) (N := some 56) (v := ?_) (a' := ?_) (bm_ [1, 21]) rfl rfl (by kernel_rfl) (fun _ _ _ h => h) (Or.inl ⟨by rfl, ?_⟩) ?_ ?_
        rotate_left
        · intro w'
          go_simp
          with_reducible rfl
        rotate_left
        · simp only [Act.put, List.setIfInBounds_toArray, List.set_cons_zero, List.set_cons_succ, i64_w, i32_w]
          rfl
        refine pureR_ (i := 2) (N := some 58) (v := ?_) (a' := ?_) (bm_ [1, 1, 1, 19]) rfl rfl (by kernel_rfl) (fun _ _ _ h => h) (Or.inl ⟨by rfl, ?_⟩) ?_ ?_
        rotate_left
        · intro w'
          go_simp
          with_reducible rfl
        rotate_left
        · simp only [Act.put, List.setIfInBounds_toArray, List.set_cons_zero, List.set_cons_succ, i64_w, i32_w]
          rfl
        refine pureR_ (i := 4) (N := some 60) (v := ?_) (a' := ?_) (bm_ [1, 1, 1, 1, 1, 17]) rfl rfl (by kernel_rfl) (fun _ _ _ h => h) (Or.inl ⟨by rfl, ?_⟩) ?_ ?_
        rotate_left
        · intro w'
          go_simp
          with_reducible rfl
        rotate_left
        · simp only [Act.put, List.setIfInBounds_toArray, List.set_cons_zero, List.set_cons_succ, i64_w, i32_w]
          rfl
        refine pureR_ (i := 5) (N := some 61) (v := ?_) (a' := ?_) (bm_ [1, 1, 1, 1, 2, 16]) rfl rfl (by kernel_rfl) (fun _ _ _ h => h) (Or.inl ⟨by rfl, ?_⟩) ?_ ?_
        rotate_left
        · intro w'
          go_simp
          with_reducible rfl
        rotate_left
        · simp only [Act.put, List.setIfInBounds_toArray, List.set_cons_zero, List.set_cons_succ, i64_w, i32_w]
          rfl
        refine pureR_ (i := 10) (N := some 66) (v := ?_) (a' := ?_) (bm_ [1, 1, 1, 1, 2, 4, 1, 11]) rfl rfl (by kernel_rfl) (fun _ _ _ h => h) (Or.inl ⟨by rfl, ?_⟩) ?_ ?_
        rotate_left
        · intro w'
          go_simp
          with_reducible rfl
        rotate_left
        · simp only [Act.put, List.setIfInBounds_toArray, List.set_cons_zero, List.set_cons_succ, i64_w, i32_w]
          rfl
        refine pureR_ (i := 12) (N := some 68) (v := ?_) (a' := ?_) (bm_ [1, 1, 1, 1, 2, 4, 1, 1, 1, 9]) rfl rfl (by kernel_rfl) (fun _ _ _ h => h) (Or.inl ⟨by rfl, ?_⟩) ?_ ?_
        rotate_left
        · intro w'
          go_simp
          with_reducible rfl
        rotate_left
        · simp only [Act.put, List.setIfInBounds_toArray, List.set_cons_zero, List.set_cons_succ, i64_w, i32_w]
          rfl
        refine pureR_ (i := 14) (N := some 70) (v := ?_) (a' := ?_) (bm_ [1, 1, 1, 1, 2, 4, 1, 1, 1, 1, 1, 7]) rfl rfl (by kernel_rfl) (fun _ _ _ h => h) (Or.inl ⟨by rfl, ?_⟩) ?_ ?_
        rotate_left
        · intro w'
          go_simp
          with_reducible rfl
        rotate_left
        · simp only [Act.put, List.setIfInBounds_toArray, List.set_cons_zero, List.set_cons_succ, i64_w, i32_w]
          rfl
        refine pureR_ (i := 15) (N := some 71) (v := ?_) (a' := ?_) (bm_ [1, 1, 1, 1, 2, 4, 1, 1, 1, 1, 2, 6]) rfl rfl (by kernel_rfl) (fun _ _ _ h => h) (Or.inl ⟨by rfl, ?_⟩) ?_ ?_
        rotate_left
        · intro w'
          go_simp
          with_reducible rfl
        rotate_left
        · simp only [Act.put, List.setIfInBounds_toArray, List.set_cons_zero, List.set_cons_succ, i64_w, i32_w]
          rfl
        refine take1R_ (i := 1) (N := some 57) (v := ?_) (a' := ?_) (bm_ [3, 1, 2, 4, 1, 1, 1, 1, 2, 6]) rfl rfl (by kernel_rfl) (fun _ _ _ h => h) (Or.inl ⟨by rfl, ?_⟩) hHeld.1 ?_ ?_
        rotate_left
        · rintro w' ⟨s0, s1⟩
          go_simp
          with_reducible rfl
        rotate_left
        · simp only [Act.put, List.setIfInBounds_toArray, List.set_cons_zero, List.set_cons_succ, i64_w, i32_w]
          rfl
        refine take1R_ (i := 3) (N := some 59) (v := ?_) (a' := ?_) (bm_ [6, 4, 1, 1, 1, 1, 2, 6]) rfl rfl (by kernel_rfl) (fun _ _ _ h => h) (Or.inl ⟨by rfl, ?_⟩) hHeld.1 ?_ ?_
        rotate_left
        · rintro w' ⟨s0, s1⟩
          go_simp
          with_reducible rfl
        rotate_left
        · simp only [Act.put, List.setIfInBounds_toArray, List.set_cons_zero, List.set_cons_succ, i64_w, i32_w]
          rfl
        refine take1R_ (i := 6) (N := some 62) (v := ?_) (a' := ?_) (bm_ [7, 3, 1, 1, 1, 1, 2, 6]) rfl rfl (by kernel_rfl) (fun _ _ _ h => h) (Or.inl ⟨by rfl, ?_⟩) hHeld.1 ?_ ?_
        rotate_left
        · rintro w' ⟨s0, s1⟩
          go_simp
          with_reducible rfl
        rotate_left
        · simp only [Act.put, List.setIfInBounds_toArray, List.set_cons_zero, List.set_cons_succ, i64_w, i32_w]
          rfl
        refine pureR_ (i := 7) (N := some 63) (v := ?_) (a' := ?_) (bm_ [8, 2, 1, 1, 1, 1, 2, 6]) rfl rfl (by kernel_rfl) (fun _ _ _ h => h) (Or.inl ⟨by rfl, ?_⟩) ?_ ?_
        rotate_left
        · intro w'
          go_simp
          with_reducible rfl
        rotate_left
        · simp only [Act.put, List.setIfInBounds_toArray, List.set_cons_zero, List.set_cons_succ, i64_w, i32_w]
          rfl
        refine pureR_ (i := 8) (N := some 64) (v := ?_) (a' := ?_) (bm_ [9, 1, 1, 1, 1, 1, 2, 6]) rfl rfl (by kernel_rfl) (fun _ _ _ h => h) (Or.inl ⟨by rfl, ?_⟩) ?_ ?_
        rotate_left
        · intro w'
          go_simp
          with_reducible rfl
        rotate_left
        · simp only [Act.put, List.setIfInBounds_toArray, List.set_cons_zero, List.set_cons_succ, i64_w, i32_w]
          rfl
        refine pureR_ (i := 9) (N := some 65) (v := ?_) (a' := ?_) (bm_ [11, 1, 1, 1, 2, 6]) rfl rfl (by kernel_rfl) (fun _ _ _ h => h) (Or.inl ⟨by rfl, ?_⟩) ?_ ?_
        rotate_left
        · intro w'
          go_simp
          with_reducible rfl
        rotate_left
        · simp only [Act.put, List.setIfInBounds_toArray, List.set_cons_zero, List.set_cons_succ, i64_w, i32_w]
          rfl
        refine take2R_ (i := 11) (N := some 67) (v := ?_) (a' := ?_) (bm_ [13, 1, 2, 6]) rfl rfl (by kernel_rfl) (fun _ _ _ h => h) (Or.inl ⟨by rfl, ?_⟩) hHeld.2 ?_ ?_
        rotate_left
        · rintro w' ⟨s0, s1⟩
          go_simp
          with_reducible rfl
        rotate_left
        · simp only [Act.put, List.setIfInBounds_toArray, List.set_cons_zero, List.set_cons_succ, i64_w, i32_w]
          rfl
        refine take2R_ (i := 13) (N := some 69) (v := ?_) (a' := ?_) (bm_ [16, 6]) rfl rfl (by kernel_rfl) (fun _ _ _ h => h) (Or.inl ⟨by rfl, ?_⟩) hHeld.2 ?_ ?_
        rotate_left
        · rintro w' ⟨s0, s1⟩
          go_simp
          with_reducible rfl
        rotate_left
        · simp only [Act.put, List.setIfInBounds_toArray, List.set_cons_zero, List.set_cons_succ, i64_w, i32_w]
          rfl
        refine take2R_ (i := 16) (N := some 72) (v := ?_) (a' := ?_) (bm_ [17, 5]) rfl rfl (by kernel_rfl) (fun _ _ _ h => h) (Or.inl ⟨by rfl, ?_⟩) hHeld.2 ?_ ?_
        rotate_left
        · rintro w' ⟨s0, s1⟩
          go_simp
          with_reducible rfl
        rotate_left
        · simp only [Act.put, List.setIfInBounds_toArray, List.set_cons_zero, List.set_cons_succ, i64_w, i32_w]
          rfl
        refine pureR_ (i := 17) (N := some 73) (v := ?_) (a' := ?_) (bm_ [18, 4]) rfl rfl (by kernel_rfl) (fun _ _ _ h => h) (Or.inl ⟨by rfl, ?_⟩) ?_ ?_
        rotate_left
        · intro w'
          go_simp
          with_reducible rfl
        rotate_left
        · simp only [Act.put, List.setIfInBounds_toArray, List.set_cons_zero, List.set_cons_succ, i64_w, i32_w]
          rfl
        refine pureR_ (i := 18) (N := some 74) (v := ?_) (a' := ?_) (bm_ [19, 3]) rfl rfl (by kernel_rfl) (fun _ _ _ h => h) (Or.inl ⟨by rfl, ?_⟩) ?_ ?_
        rotate_left
        · intro w'
          go_simp
          with_reducible rfl
        rotate_left
        · simp only [Act.put, List.setIfInBounds_toArray, List.set_cons_zero, List.set_cons_succ, i64_w, i32_w]
          rfl
        refine pureR_ (i := 19) (N := some 75) (v := ?_) (a' := ?_) (bm_ [20, 2]) rfl rfl (by kernel_rfl) (fun _ _ _ h => h) (Or.inl ⟨by rfl, ?_⟩) ?_ ?_
        rotate_left
        · intro w'
          go_simp
          with_reducible rfl
        rotate_left
        · simp only [Act.put, List.setIfInBounds_toArray, List.set_cons_zero, List.set_cons_succ, i64_w, i32_w]
          rfl
        refine oneR_ (i := 20) (N := none) (bm_ [21, 1]) rfl rfl (by kernel_rfl) (fun K hK => ?_)
        have hs132 : w131.cell? ⟨gb104, 0, none⟩ = some (.int .i64 x105000_2) := bc_ BK104 0 rfl
        have hfs132 := blk_frozen BK104.out 0
        have hns132_0 := NB101_104.out
        have hns132_1 := NB102_104.out
        have hns132_3 := NB105_104.out
        have hms132_0 := NB104_101.out
        have hms132_1 := NB104_102.out
        have hms132_3 := NB104_105.out
        have hs133 : w131.cell? ⟨gb104, 1, none⟩ = some (.int .i64 x105001_2) := bc_ BK104 1 rfl
        have hfs133 := blk_frozen BK104.out 1
        have hns133_0 := NB101_104.out
        have hns133_1 := NB102_104.out
        have hns133_3 := NB105_104.out
        have hms133_0 := NB104_101.out
        have hms133_1 := NB104_102.out
        have hms133_3 := NB104_105.out
        refine skip_ (w1 := ?_) (by rfl) rfl ?_ ?_
        rotate_left
        · go_simp
          rfl
        refine hK.out _ _ ⟨fun hn_ => absurd (by decide) hn_, fun _ hs_ => ⟨((cell_far (p := ⟨gb104, _, none⟩) NB105_104.out _).trans ((cell_far (p := ⟨gb104, _, none⟩) NB105_104.out _).trans (hs_.1))), ((cell_far (p := ⟨gb104, _, none⟩) NB105_104.out _).trans ((cell_far (p := ⟨gb104, _, none⟩) NB105_104.out _).trans (hs_.2)))⟩⟩ ?_
        clear hK K
        refine oneR_ (i := 21) (N := none) (bm_ [22]) rfl rfl (by kernel_rfl) (fun K hK => ?_)
        have hs134 : w131.cell? ⟨gb105, 0, none⟩ = some (.int .i64 x106000_2) := bc_ BK105 0 rfl
        have hfs134 := blk_frozen BK105.out 0
        have hns134_0 := NB101_105.out
        have hns134_1 := NB102_105.out
        have hns134_2 := NB104_105.out
        have hms134_0 := NB105_101.out
        have hms134_1 := NB105_102.out
        have hms134_2 := NB105_104.out
        have hs135 : w131.cell? ⟨gb105, 1, none⟩ = some (.int .i64 x106001_2) := bc_ BK105 1 rfl
        have hfs135 := blk_frozen BK105.out 1
        have hns135_0 := NB101_105.out
        have hns135_1 := NB102_105.out
        have hns135_2 := NB104_105.out
        have hms135_0 := NB105_101.out
        have hms135_1 := NB105_102.out
        have hms135_2 := NB105_104.out
        refine skip_ (w1 := ?_) (by rfl) rfl ?_ ?_
        rotate_left
        · go_simp
          rfl
        refine hK.out _ _ ⟨fun hn_ => absurd (by decide) hn_, fun hn_ => absurd (by decide) hn_⟩ ?_
        clear hK K
        refine doneR_ (by kernel_rfl) ?_
        try go_wp2
        go_roundg k2
        case measure => have := HJ4.out; have := HK2.out; omega
        case rel => exact ⟨(x10_2), (wrap64 (x9_2 - (wrap64 (t106 * x10_2)))), (x105001_2), (wrap64 (x105000_2 + (wrap64 (t106 * x105001_2)))), (x106001_2), (wrap64 (x106000_2 + (wrap64 (t106 * x106001_2)))), (by first | rfl | (simp; done) | (simp [*]; done)), (by first | rfl | (simp; done) | (simp [*]; done)), H', ⟨by have := HJ4.out; have := HK2.out; omega⟩, ⟨by (with_reducible repeat (first | refine blk_drewN ?_ _ | refine blk_drew ?_ | refine blk_alloc ?_ _)); refine blk_far ?_ NB101_105.out _; (with_reducible repeat (first | refine blk_drewN ?_ _ | refine blk_drew ?_ | refine blk_alloc ?_ _)); refine blk_far ?_ NB101_105.out _; (with_reducible repeat (first | refine blk_drewN ?_ _ | refine blk_drew ?_ | refine blk_alloc ?_ _)); refine blk_far ?_ NB101_104.out _; (with_reducible repeat (first | refine blk_drewN ?_ _ | refine blk_drew ?_ | refine blk_alloc ?_ _)); refine blk_far ?_ NB101_104.out _; (with_reducible repeat (first | refine blk_drewN ?_ _ | refine blk_drew ?_ | refine blk_alloc ?_ _)); exact BK101.out⟩, ⟨by (with_reducible repeat (first | refine blk_drewN ?_ _ | refine blk_drew ?_ | refine blk_alloc ?_ _)); refine blk_far ?_ NB102_105.out _; (with_reducible repeat (first | refine blk_drewN ?_ _ | refine blk_drew ?_ | refine blk_alloc ?_ _)); refine blk_far ?_ NB102_105.out _; (with_reducible repeat (first | refine blk_drewN ?_ _ | refine blk_drew ?_ | refine blk_alloc ?_ _)); refine blk_far ?_ NB102_104.out _; (with_reducible repeat (first | refine blk_drewN ?_ _ | refine blk_drew ?_ | refine blk_alloc ?_ _)); refine blk_far ?_ NB102_104.out _; (with_reducible repeat (first | refine blk_drewN ?_ _ | refine blk_drew ?_ | refine blk_alloc ?_ _)); exact BK102.out⟩, ⟨by (with_reducible repeat (first | refine blk_drewN ?_ _ | refine blk_drew ?_ | refine blk_alloc ?_ _)); refine blk_far ?_ NB104_105.out _; (with_reducible repeat (first | refine blk_drewN ?_ _ | refine blk_drew ?_ | refine blk_alloc ?_ _)); refine blk_far ?_ NB104_105.out _; (with_reducible repeat (first | refine blk_drewN ?_ _ | refine blk_drew ?_ | refine blk_alloc ?_ _)); refine blk_put (cs := #[.int .i64 x105001_2, .int .i64 x105001_2]) ?_ 1 _ rfl; (with_reducible repeat (first | refine blk_drewN ?_ _ | refine blk_drew ?_ | refine blk_alloc ?_ _)); refine blk_put (cs := #[.int .i64 x105000_2, .int .i64 x105001_2]) ?_ 0 _ rfl; (with_reducible repeat (first | refine blk_drewN ?_ _ | refine blk_drew ?_ | refine blk_alloc ?_ _)); exact BK104.out⟩, ⟨by (with_reducible repeat (first | refine blk_drewN ?_ _ | refine blk_drew ?_ | refine blk_alloc ?_ _)); refine blk_put (cs := #[.int .i64 x106001_2, .int .i64 x106001_2]) ?_ 1 _ rfl; (with_reducible repeat (first | refine blk_drewN ?_ _ | refine blk_drew ?_ | refine blk_alloc ?_ _)); refine blk_put (cs := #[.int .i64 x106000_2, .int .i64 x106001_2]) ?_ 0 _ rfl; (with_reducible repeat (first | refine blk_drewN ?_ _ | refine blk_drew ?_ | refine blk_alloc ?_ _)); refine blk_far ?_ NB105_104.out _; (with_reducible repeat (first | refine blk_drewN ?_ _ | refine blk_drew ?_ | refine blk_alloc ?_ _)); refine blk_far ?_ NB105_104.out _; (with_reducible repeat (first | refine blk_drewN ?_ _ | refine blk_drew ?_ | refine blk_alloc ?_ _)); exact BK105.out⟩, ⟨by repeat (first | (with_reducible first | exact HB.out | apply below_alloc | apply pw_below_drewN | apply below_drew1 | refine below_set ?_ GE101.out | refine below_set ?_ GE102.out | refine below_set ?_ GE104.out | refine below_set ?_ GE105.out) | exact HB.out)⟩⟩
      rw [if_pos c33] at H
      have c33b0 : decide (0 < x106001_2) = true := decide_eq_true c33
      clear c33
      by_cases c34 : x106001_2 = 0
      · rw [if_pos c34] at H
        exact absurd H (by simp)
      rw [if_neg c34] at H
      have c34b0 : (x106001_2 == 0) = false := beq_eq_false_iff_ne.mpr c34
      have c34b1 : (x106001_2 != 0) = true := bne_iff_ne.mpr c34
      by_cases c35 : t106 > (wrap64 (Int.tdiv (wrap64 (a1 - x106000_2)) x106001_2))
      rotate_left
      · rw [if_neg c35] at H
        have c35b0 : decide ((wrap64 (Int.tdiv (wrap64 (a1 - x106000_2)) x106001_2)) < t106) = false := decide_eq_false c35
        clear c35
        have H' := Aside0.mk H
        clear H
        try go_wp2_with (first | ((with_reducible refine gate_callee (f := 47) rfl ?_); refine glq_ (some 41) Try.func47 #[.int .i64 x9_2, .int .i64 x10_2] ?_; (with_reducible refine (num_FloorDiv.calls x9_2 x10_2 t106 _ A32.out).mono ?_); rintro e w' ⟨rfl, ⟨nd, rfl⟩⟩; refine ⟨_, rfl, ?_⟩; (repeat (rw [drewN_self wr]; generalize hq_ : World.drewN wr _ = wr; have n0_ : Aside0 (wr.heap[gb101]? = some (.cells #[.int .i64 a0_0, .int .i64 a0_1] 77 (0, 0))) := ⟨by rw [← hq_]; exact BK101.out⟩; have n1_ : Aside0 (wr.heap[gb102]? = some (.cells #[.int .i64 0, .int .i64 0] 77 (0, 0))) := ⟨by rw [← hq_]; exact BK102.out⟩; have n2_ : Aside0 (wr.heap[gb104]? = some (.cells #[.int .i64 x105000_2, .int .i64 x105001_2] 150 (0, 0))) := ⟨by rw [← hq_]; exact BK104.out⟩; have n3_ : Aside0 (wr.heap[gb105]? = some (.cells #[.int .i64 x106000_2, .int .i64 x106001_2] 150 (0, 0))) := ⟨by rw [← hq_]; exact BK105.out⟩; have n4_ : Aside0 (Below w.heap.size w wr) := ⟨by rw [← hq_]; exact (by repeat (first | (with_reducible first | exact HB.out | apply below_alloc | apply pw_below_drewN | apply below_drew1 | refine below_set ?_ GE101.out | refine below_set ?_ GE102.out | refine below_set ?_ GE104.out | refine below_set ?_ GE105.out) | exact HB.out))⟩; clear BK101 BK102 BK104 BK105 HB hq_; have BK101 := n0_; have BK102 := n1_; have BK104 := n2_; have BK105 := n3_; have HB := n4_; clear n0_ n1_ n2_ n3_ n4_)); have hnb118 := NB105_101.out; have hnc118 := NB101_105.out; have hnb119 := NB105_102.out; have hnc119 := NB102_105.out; have hnb120 := NB105_104.out; have hnc120 := NB104_105.out; have hcz121_0 := bc_ BK105 0 rfl; have hcz121_1 := bc_ BK105 1 rfl; have hfz121_0 := blk_frozen BK105.out 0; have hfz121_1 := blk_frozen BK105.out 1))
        replace BK101 := Aside0.mk (blk_drew BK101.out)
        replace BK102 := Aside0.mk (blk_drew BK102.out)
        replace BK104 := Aside0.mk (blk_drew BK104.out)
        replace BK105 := Aside0.mk (blk_drew BK105.out)
        replace HB := Aside0.mk (below_drew1 HB.out)
        refine startR_ (n := 22) (fun w' => w'.cell? ⟨gb104, 0, none⟩ = some (.int .i64 x105000_2) ∧ w'.cell? ⟨gb104, 1, none⟩ = some (.int .i64 x105001_2)) [20, 21] (fun w' => w'.cell? ⟨gb105, 0, none⟩ = some (.int .i64 x106000_2) ∧ w'.cell? ⟨gb105, 1, none⟩ = some (.int .i64 x106001_2)) [21] (bm_ [0, 22]) (by kernel_rfl) rfl rfl ⟨bc_ BK104 0 rfl, bc_ BK104 1 rfl⟩ ⟨bc_ BK105 0 rfl, bc_ BK105 1 rfl⟩ (fun hHeld => ?_)
        generalize wr.drew = w122 at BK101 BK102 BK104 BK105 HB hHeld ⊢
        refine pureR_ (i := 0) (N := some 56) (v := ?_) (a' := ?_) (bm_ [1, 21]) rfl rfl (by kernel_rfl) (fun _ _ _ h => h) (Or.inl ⟨by rfl, ?_⟩) ?_ ?_
        rotate_left
        · intro w'
          go_simp
          with_reducible rfl
        rotate_left
        · simp only [Act.put, List.setIfInBounds_toArray, List.set_cons_zero, List.set_cons_succ, i64_w, i32_w]
          rfl
        refine pureR_ (i := 2) (N := some 58) (v := ?_) (a' := ?_) (bm_ [1, 1, 1, 19]) rfl rfl (by kernel_rfl) (fun _ _ _ h => h) (Or.inl ⟨by rfl, ?_⟩) ?_ ?_
        rotate_left
        · intro w'
          go_simp
          with_reducible rfl
        rotate_left
        · simp only [Act.put, List.setIfInBounds_toArray, List.set_cons_zero, List.set_cons_succ, i64_w, i32_w]
          rfl
        refine pureR_ (i := 4) (N := some 60) (v := ?_) (a' := ?_) (bm_ [1, 1, 1, 1, 1, 17]) rfl rfl (by kernel_rfl) (fun _ _ _ h => h) (Or.inl ⟨by rfl, ?_⟩) ?_ ?_
        rotate_left
        · intro w'
          go_simp
          with_reducible rfl
        rotate_left
        · simp only [Act.put, List.setIfInBounds_toArray, List.set_cons_zero, List.set_cons_succ, i64_w, i32_w]
          rfl
        refine pureR_ (i := 5) (N := some 61) (v := ?_) (a' := ?_) (bm_ [1, 1, 1, 1, 2, 16]) rfl rfl (by kernel_rfl) (fun _ _ _ h => h) (Or.inl ⟨by rfl, ?_⟩) ?_ ?_
        rotate_left
        · intro w'
          go_simp
          with_reducible rfl
        rotate_left
        · simp only [Act.put, List.setIfInBounds_toArray, List.set_cons_zero, List.set_cons_succ, i64_w, i32_w]
          rfl
        refine pureR_ (i := 10) (N := some 66) (v := ?_) (a' := ?_) (bm_ [1, 1, 1, 1, 2, 4, 1, 11]) rfl rfl (by kernel_rfl) (fun _ _ _ h => h) (Or.inl ⟨by rfl, ?_⟩) ?_ ?_
        rotate_left
        · intro w'
          go_simp
          with_reducible rfl
        rotate_left
        · simp only [Act.put, List.setIfInBounds_toArray, List.set_cons_zero, List.set_cons_succ, i64_w, i32_w]
          rfl
        refine pureR_ (i := 12) (N := some 68) (v := ?_) (a' := ?_) (bm_ [1, 1, 1, 1, 2, 4, 1, 1, 1, 9]) rfl rfl (by kernel_rfl) (fun _ _ _ h => h) (Or.inl ⟨by rfl, ?_⟩) ?_ ?_
        rotate_left
        · intro w'
          go_simp
          with_reducible rfl
        rotate_left
        · simp only [Act.put, List.setIfInBounds_toArray, List.set_cons_zero, List.set_cons_succ, i64_w, i32_w]
          rfl
        refine pureR_ (i := 14) (N := some 70) (v := ?_) (a' := ?_) (bm_ [1, 1, 1, 1, 2, 4, 1, 1, 1, 1, 1, 7]) rfl rfl (by kernel_rfl) (fun _ _ _ h => h) (Or.inl ⟨by rfl, ?_⟩) ?_ ?_
        rotate_left
        · intro w'
          go_simp
          with_reducible rfl
        rotate_left
        · simp only [Act.put, List.setIfInBounds_toArray, List.set_cons_zero, List.set_cons_succ, i64_w, i32_w]
          rfl
        refine pureR_ (i := 15) (N := some 71) (v := ?_) (a' := ?_) (bm_ [1, 1, 1, 1, 2, 4, 1, 1, 1, 1, 2, 6]) rfl rfl (by kernel_rfl) (fun _ _ _ h => h) (Or.inl ⟨by rfl, ?_⟩) ?_ ?_
        rotate_left
        · intro w'
          go_simp
          with_reducible rfl
        rotate_left
        · simp only [Act.put, List.setIfInBounds_toArray, List.set_cons_zero, List.set_cons_succ, i64_w, i32_w]
          rfl
        refine take1R_ (i := 1) (N := some 57) (v := ?_) (a' := ?_) (bm_ [3, 1, 2, 4, 1, 1, 1, 1, 2, 6]) rfl rfl (by kernel_rfl) (fun _ _ _ h => h) (Or.inl ⟨by rfl, ?_⟩) hHeld.1 ?_ ?_
        rotate_left
        · rintro w' ⟨s0, s1⟩
          go_simp
          with_reducible rfl
        rotate_left
        · simp only [Act.put, List.setIfInBounds_toArray, List.set_cons_zero, List.set_cons_succ, i64_w, i32_w]
          rfl
        refine take1R_ (i := 3) (N := some 59) (v := ?_) (a' := ?_) (bm_ [6, 4, 1, 1, 1, 1, 2, 6]) rfl rfl (by kernel_rfl) (fun _ _ _ h => h) (Or.inl ⟨by rfl, ?_⟩) hHeld.1 ?_ ?_
        rotate_left
        · rintro w' ⟨s0, s1⟩
          go_simp
          with_reducible rfl
        rotate_left
        · simp only [Act.put, List.setIfInBounds_toArray, List.set_cons_zero, List.set_cons_succ, i64_w, i32_w]
          rfl
        refine take1R_ (i := 6) (N := some 62) (v := ?_) (a' := ?_) (bm_ [7, 3, 1, 1, 1, 1, 2, 6]) rfl rfl (by kernel_rfl) (fun _ _ _ h => h) (Or.inl ⟨by rfl, ?_⟩) hHeld.1 ?_ ?_
        rotate_left
        · rintro w' ⟨s0, s1⟩
          go_simp
          with_reducible rfl
        rotate_left
        · simp only [Act.put, List.setIfInBounds_toArray, List.set_cons_zero, List.set_cons_succ, i64_w, i32_w]
          rfl
        refine pureR_ (i := 7) (N := some 63) (v := ?_) (a' := ?_) (bm_ [8, 2, 1, 1, 1, 1, 2, 6]) rfl rfl (by kernel_rfl) (fun _ _ _ h => h) (Or.inl ⟨by rfl, ?_⟩) ?_ ?_
        rotate_left
        · intro w'
          go_simp
          with_reducible rfl
        rotate_left
        · simp only [Act.put, List.setIfInBounds_toArray, List.set_cons_zero, List.set_cons_succ, i64_w, i32_w]
          rfl
        refine pureR_ (i := 8) (N := some 64) (v := ?_) (a' := ?_) (bm_ [9, 1, 1, 1, 1, 1, 2, 6]) rfl rfl (by kernel_rfl) (fun _ _ _ h => h) (Or.inl ⟨by rfl, ?_⟩) ?_ ?_
        rotate_left
        · intro w'
          go_simp
          with_reducible rfl
        rotate_left
        · simp only [Act.put, List.setIfInBounds_toArray, List.set_cons_zero, List.set_cons_succ, i64_w, i32_w]
          rfl
        refine pureR_ (i := 9) (N := some 65) (v := ?_) (a' := ?_) (bm_ [11, 1, 1, 1, 2, 6]) rfl rfl (by kernel_rfl) (fun _ _ _ h => h) (Or.inl ⟨by rfl, ?_⟩) ?_ ?_
        rotate_left
        · intro w'
          go_simp
          with_reducible rfl
        rotate_left
        · simp only [Act.put, List.setIfInBounds_toArray, List.set_cons_zero, List.set_cons_succ, i64_w, i32_w]
          rfl
        refine take2R_ (i := 11) (N := some 67) (v := ?_) (a' := ?_) (bm_ [13, 1, 2, 6]) rfl rfl (by kernel_rfl) (fun _ _ _ h => h) (Or.inl ⟨by rfl, ?_⟩) hHeld.2 ?_ ?_
        rotate_left
        · rintro w' ⟨s0, s1⟩
          go_simp
          with_reducible rfl
        rotate_left
        · simp only [Act.put, List.setIfInBounds_toArray, List.set_cons_zero, List.set_cons_succ, i64_w, i32_w]
          rfl
        refine take2R_ (i := 13) (N := some 69) (v := ?_) (a' := ?_) (bm_ [16, 6]) rfl rfl (by kernel_rfl) (fun _ _ _ h => h) (Or.inl ⟨by rfl, ?_⟩) hHeld.2 ?_ ?_
        rotate_left
        · rintro w' ⟨s0, s1⟩
          go_simp
          with_reducible rfl
        rotate_left
        · simp only [Act.put, List.setIfInBounds_toArray, List.set_cons_zero, List.set_cons_succ, i64_w, i32_w]
          rfl
        refine take2R_ (i := 16) (N := some 72) (v := ?_) (a' := ?_) (bm_ [17, 5]) rfl rfl (by kernel_rfl) (fun _ _ _ h => h) (Or.inl ⟨by rfl, ?_⟩) hHeld.2 ?_ ?_
        rotate_left
        · rintro w' ⟨s0, s1⟩
          go_simp
          with_reducible rfl
        rotate_left
        · simp only [Act.put, List.setIfInBounds_toArray, List.set_cons_zero, List.set_cons_succ, i64_w, i32_w]
          rfl
        refine pureR_ (i := 17) (N := some 73) (v := ?_) (a' := ?_) (bm_ [18, 4]) rfl rfl (by kernel_rfl) (fun _ _ _ h => h) (Or.inl ⟨by rfl, ?_⟩) ?_ ?_
        rotate_left
        · intro w'
          go_simp
          with_reducible rfl
        rotate_left
        · simp only [Act.put, List.setIfInBounds_toArray, List.set_cons_zero, List.set_cons_succ, i64_w, i32_w]
          rfl
        refine pureR_ (i := 18) (N := some 74) (v := ?_) (a' := ?_) (bm_ [19, 3]) rfl rfl (by kernel_rfl) (fun _ _ _ h => h) (Or.inl ⟨by rfl, ?_⟩) ?_ ?_
        rotate_left
        · intro w'
          go_simp
          with_reducible rfl
        rotate_left
        · simp only [Act.put, List.setIfInBounds_toArray, List.set_cons_zero, List.set_cons_succ, i64_w, i32_w]
          rfl
        refine pureR_ (i := 19) (N := some 75) (v := ?_) (a' := ?_) (bm_ [20, 2]) rfl rfl (by kernel_rfl) (fun _ _ _ h => h) (Or.inl ⟨by rfl, ?_⟩) ?_ ?_
        rotate_left
        · intro w'
          go_simp
          with_reducible rfl
        rotate_left
        · simp only [Act.put, List.setIfInBounds_toArray, List.set_cons_zero, List.set_cons_succ, i64_w, i32_w]
          rfl
        refine oneR_ (i := 20) (N := none) (bm_ [21, 1]) rfl rfl (by kernel_rfl) (fun K hK => ?_)
        have hs123 : w122.cell? ⟨gb104, 0, none⟩ = some (.int .i64 x105000_2) := bc_ BK104 0 rfl
        have hfs123 := blk_frozen BK104.out 0
        have hns123_0 := NB101_104.out
        have hns123_1 := NB102_104.out
        have hns123_3 := NB105_104.out
        have hms123_0 := NB104_101.out
        have hms123_1 := NB104_102.out
        have hms123_3 := NB104_105.out
        have hs124 : w122.cell? ⟨gb104, 1, none⟩ = some (.int .i64 x105001_2) := bc_ BK104 1 rfl
        have hfs124 := blk_frozen BK104.out 1
        have hns124_0 := NB101_104.out
        have hns124_1 := NB102_104.out
        have hns124_3 := NB105_104.out
        have hms124_0 := NB104_101.out
        have hms124_1 := NB104_102.out
        have hms124_3 := NB104_105.out
        refine skip_ (w1 := ?_) (by rfl) rfl ?_ ?_
        rotate_left
        · go_simp
          rfl
        refine hK.out _ _ ⟨fun hn_ => absurd (by decide) hn_, fun _ hs_ => ⟨((cell_far (p := ⟨gb104, _, none⟩) NB105_104.out _).trans ((cell_far (p := ⟨gb104, _, none⟩) NB105_104.out _).trans (hs_.1))), ((cell_far (p := ⟨gb104, _, none⟩) NB105_104.out _).trans ((cell_far (p := ⟨gb104, _, none⟩) NB105_104.out _).trans (hs_.2)))⟩⟩ ?_
        clear hK K
        refine oneR_ (i := 21) (N := none) (bm_ [22]) rfl rfl (by kernel_rfl) (fun K hK => ?_)
        have hs125 : w122.cell? ⟨gb105, 0, none⟩ = some (.int .i64 x106000_2) := bc_ BK105 0 rfl
        have hfs125 := blk_frozen BK105.out 0
        have hns125_0 := NB101_105.out
        have hns125_1 := NB102_105.out
        have hns125_2 := NB104_105.out
        have hms125_0 := NB105_101.out
        have hms125_1 := NB105_102.out
        have hms125_2 := NB105_104.out
        have hs126 : w122.cell? ⟨gb105, 1, none⟩ = some (.int .i64 x106001_2) := bc_ BK105 1 rfl
        have hfs126 := blk_frozen BK105.out 1
        have hns126_0 := NB101_105.out
        have hns126_1 := NB102_105.out
        have hns126_2 := NB104_105.out
        have hms126_0 := NB105_101.out
        have hms126_1 := NB105_102.out
        have hms126_2 := NB105_104.out
        refine skip_ (w1 := ?_) (by rfl) rfl ?_ ?_
        rotate_left
        · go_simp
          rfl
        refine hK.out _ _ ⟨fun hn_ => absurd (by decide) hn_, fun hn_ => absurd (by decide) hn_⟩ ?_
        clear hK K
        refine doneR_ (by kernel_rfl) ?_
        try go_wp2
        go_roundg k2
        case measure => have := HJ4.out; have := HK2.out; omega
        case rel => exact ⟨(x10_2), (wrap64 (x9_2 - (wrap64 (t106 * x10_2)))), (x105001_2), (wrap64 (x105000_2 + (wrap64 (t106 * x105001_2)))), (x106001_2), (wrap64 (x106000_2 + (wrap64 (t106 * x106001_2)))), (by first | rfl | (simp; done) | (simp [*]; done)), (by first | rfl | (simp; done) | (simp [*]; done)), H', ⟨by have := HJ4.out; have := HK2.out; omega⟩, ⟨by (with_reducible repeat (first | refine blk_drewN ?_ _ | refine blk_drew ?_ | refine blk_alloc ?_ _)); refine blk_far ?_ NB101_105.out _; (with_reducible repeat (first | refine blk_drewN ?_ _ | refine blk_drew ?_ | refine blk_alloc ?_ _)); refine blk_far ?_ NB101_105.out _; (with_reducible repeat (first | refine blk_drewN ?_ _ | refine blk_drew ?_ | refine blk_alloc ?_ _)); refine blk_far ?_ NB101_104.out _; (with_reducible repeat (first | refine blk_drewN ?_ _ | refine blk_drew ?_ | refine blk_alloc ?_ _)); refine blk_far ?_ NB101_104.out _; (with_reducible repeat (first | refine blk_drewN ?_ _ | refine blk_drew ?_ | refine blk_alloc ?_ _)); exact BK101.out⟩, ⟨by (with_reducible repeat (first | refine blk_drewN ?_ _ | refine blk_drew ?_ | refine blk_alloc ?_ _)); refine blk_far ?_ NB102_105.out _; (with_reducible repeat (first | refine blk_drewN ?_ _ | refine blk_drew ?_ | refine blk_alloc ?_ _)); refine blk_far ?_ NB102_105.out _; (with_reducible repeat (first | refine blk_drewN ?_ _ | refine blk_drew ?_ | refine blk_alloc ?_ _)); refine blk_far ?_ NB102_104.out _; (with_reducible repeat (first | refine blk_drewN ?_ _ | refine blk_drew ?_ | refine blk_alloc ?_ _)); refine blk_far ?_ NB102_104.out _; (with_reducible repeat (first | refine blk_drewN ?_ _ | refine blk_drew ?_ | refine blk_alloc ?_ _)); exact BK102.out⟩, ⟨by (with_reducible repeat (first | refine blk_drewN ?_ _ | refine blk_drew ?_ | refine blk_alloc ?_ _)); refine blk_far ?_ NB104_105.out _; (with_reducible repeat (first | refine blk_drewN ?_ _ | refine blk_drew ?_ | refine blk_alloc ?_ _)); refine blk_far ?_ NB104_105.out _; (with_reducible repeat (first | refine blk_drewN ?_ _ | refine blk_drew ?_ | refine blk_alloc ?_ _)); refine blk_put (cs := #[.int .i64 x105001_2, .int .i64 x105001_2]) ?_ 1 _ rfl; (with_reducible repeat (first | refine blk_drewN ?_ _ | refine blk_drew ?_ | refine blk_alloc ?_ _)); refine blk_put (cs := #[.int .i64 x105000_2, .int .i64 x105001_2]) ?_ 0 _ rfl; (with_reducible repeat (first | refine blk_drewN ?_ _ | refine blk_drew ?_ | refine blk_alloc ?_ _)); exact BK104.out⟩, ⟨by (with_reducible repeat (first | refine blk_drewN ?_ _ | refine blk_drew ?_ | refine blk_alloc ?_ _)); refine blk_put (cs := #[.int .i64 x106001_2, .int .i64 x106001_2]) ?_ 1 _ rfl; (with_reducible repeat (first | refine blk_drewN ?_ _ | refine blk_drew ?_ | refine blk_alloc ?_ _)); refine blk_put (cs := #[.int .i64 x106000_2, .int .i64 x106001_2]) ?_ 0 _ rfl; (with_reducible repeat (first | refine blk_drewN ?_ _ | refine blk_drew ?_ | refine blk_alloc ?_ _)); refine blk_far ?_ NB105_104.out _; (with_reducible repeat (first | refine blk_drewN ?_ _ | refine blk_drew ?_ | refine blk_alloc ?_ _)); refine blk_far ?_ NB105_104.out _; (with_reducible repeat (first | refine blk_drewN ?_ _ | refine blk_drew ?_ | refine blk_alloc ?_ _)); exact BK105.out⟩, ⟨by repeat (first | (with_reducible first | exact HB.out | apply below_alloc | apply pw_below_drewN | apply below_drew1 | refine below_set ?_ GE101.out | refine below_set ?_ GE102.out | refine below_set ?_ GE104.out | refine below_set ?_ GE105.out) | exact HB.out)⟩⟩
      rw [if_pos c35] at H
      have c35b0 : decide ((wrap64 (Int.tdiv (wrap64 (a1 - x106000_2)) x106001_2)) < t106) = true := decide_eq_true c35
      clear c35
      replace H := Option.bind_eq_some_iff.mp H
      obtain ⟨t107, A360, H⟩ := H
      try dsimp -simprocs only at H
      have A36 := Aside0.mk A360
      clear A360
      replace H := Option.bind_eq_some_iff.mp H
      obtain ⟨⟨t108, t109⟩, A370, H⟩ := H
      try dsimp -simprocs only at H
      have A37 := Aside0.mk A370
      clear A370
      replace H := Option.bind_eq_some_iff.mp H
      obtain ⟨t110, A380, H⟩ := H
      try dsimp -simprocs only at H
      have A38 := Aside0.mk A380
      clear A380
      replace H := Option.bind_eq_some_iff.mp H
      obtain ⟨⟨t111, t112⟩, A390, H⟩ := H
      try dsimp -simprocs only at H
      have A39 := Aside0.mk A390
      clear A390
      replace H := Option.bind_eq_some_iff.mp H
      obtain ⟨t115, A400, H⟩ := H
      try dsimp -simprocs only at H
      have A40 := Aside0.mk A400
      clear A400
      by_cases c41 : t115 ≤ 0
      · rw [if_pos c41] at H
        have c41b0 : decide (t115 ≤ 0) = true := decide_eq_true c41
        clear c41
        simp only [Option.some.injEq, Prod.mk.injEq] at H
        obtain ⟨rfl, rfl, rfl⟩ := H
        try go_wp2_with (first | ((with_reducible refine gate_callee (f := 47) rfl ?_); refine glq_ (some 41) Try.func47 #[.int .i64 x9_2, .int .i64 x10_2] ?_; (with_reducible refine (num_FloorDiv.calls x9_2 x10_2 t106 _ A32.out).mono ?_); rintro e w' ⟨rfl, ⟨nd, rfl⟩⟩; refine ⟨_, rfl, ?_⟩; (repeat (rw [drewN_self wr]; generalize hq_ : World.drewN wr _ = wr; have n0_ : Aside0 (wr.heap[gb101]? = some (.cells #[.int .i64 a0_0, .int .i64 a0_1] 77 (0, 0))) := ⟨by rw [← hq_]; exact BK101.out⟩; have n1_ : Aside0 (wr.heap[gb102]? = some (.cells #[.int .i64 0, .int .i64 0] 77 (0, 0))) := ⟨by rw [← hq_]; exact BK102.out⟩; have n2_ : Aside0 (wr.heap[gb104]? = some (.cells #[.int .i64 x105000_2, .int .i64 x105001_2] 150 (0, 0))) := ⟨by rw [← hq_]; exact BK104.out⟩; have n3_ : Aside0 (wr.heap[gb105]? = some (.cells #[.int .i64 x106000_2, .int .i64 x106001_2] 150 (0, 0))) := ⟨by rw [← hq_]; exact BK105.out⟩; have n4_ : Aside0 (Below w.heap.size w wr) := ⟨by rw [← hq_]; exact (by repeat (first | (with_reducible first | exact HB.out | apply below_alloc | apply pw_below_drewN | apply below_drew1 | refine below_set ?_ GE101.out | refine below_set ?_ GE102.out | refine below_set ?_ GE104.out | refine below_set ?_ GE105.out) | exact HB.out))⟩; clear BK101 BK102 BK104 BK105 HB hq_; have BK101 := n0_; have BK102 := n1_; have BK104 := n2_; have BK105 := n3_; have HB := n4_; clear n0_ n1_ n2_ n3_ n4_)); have hnb42 := NB105_101.out; have hnc42 := NB101_105.out; have hnb43 := NB105_102.out; have hnc43 := NB102_105.out; have hnb44 := NB105_104.out; have hnc44 := NB104_105.out; have hcz45_0 := bc_ BK105 0 rfl; have hcz45_1 := bc_ BK105 1 rfl; have hfz45_0 := blk_frozen BK105.out 0; have hfz45_1 := blk_frozen BK105.out 1))
        replace BK101 := Aside0.mk (blk_drew BK101.out)
        replace BK102 := Aside0.mk (blk_drew BK102.out)
        replace BK104 := Aside0.mk (blk_drew BK104.out)
        replace BK105 := Aside0.mk (blk_drew BK105.out)
        replace HB := Aside0.mk (below_drew1 HB.out)
        refine startR_ (n := 18) (fun w' => w'.cell? ⟨gb104, 0, none⟩ = some (.int .i64 x105000_2)) [15, 17] (fun w' => w'.cell? ⟨gb104, 1, none⟩ = some (.int .i64 x105001_2) ∧ w'.cell? ⟨gb105, 0, none⟩ = some (.int .i64 x106000_2) ∧ w'.cell? ⟨gb105, 1, none⟩ = some (.int .i64 x106001_2)) [17] (bm_ [0, 18]) (by kernel_rfl) rfl rfl (bc_ BK104 0 rfl) ⟨bc_ BK104 1 rfl, bc_ BK105 0 rfl, bc_ BK105 1 rfl⟩ (fun hHeld => ?_)
        generalize wr.drew = w46 at BK101 BK102 BK104 BK105 HB hHeld ⊢
        refine pureR_ (i := 0) (N := some 89) (v := ?_) (a' := ?_) (bm_ [1, 17]) rfl rfl (by kernel_rfl) (fun _ _ _ h => h) (Or.inl ⟨by rfl, ?_⟩) ?_ ?_
        rotate_left
        · intro w'
          go_simp
          with_reducible rfl
        rotate_left
        · simp only [Act.put, List.setIfInBounds_toArray, List.set_cons_zero, List.set_cons_succ, i64_w, i32_w]
          rfl
        refine pureR_ (i := 2) (N := some 91) (v := ?_) (a' := ?_) (bm_ [1, 1, 1, 15]) rfl rfl (by kernel_rfl) (fun _ _ _ h => h) (Or.inl ⟨by rfl, ?_⟩) ?_ ?_
        rotate_left
        · intro w'
          go_simp
          with_reducible rfl
        rotate_left
        · simp only [Act.put, List.setIfInBounds_toArray, List.set_cons_zero, List.set_cons_succ, i64_w, i32_w]
          rfl
        refine pureR_ (i := 3) (N := some 92) (v := ?_) (a' := ?_) (bm_ [1, 1, 2, 14]) rfl rfl (by kernel_rfl) (fun _ _ _ h => h) (Or.inl ⟨by rfl, ?_⟩) ?_ ?_
        rotate_left
        · intro w'
          go_simp
          with_reducible rfl
        rotate_left
        · simp only [Act.put, List.setIfInBounds_toArray, List.set_cons_zero, List.set_cons_succ, i64_w, i32_w]
          rfl
        refine pureR_ (i := 7) (N := some 96) (v := ?_) (a' := ?_) (bm_ [1, 1, 2, 3, 1, 10]) rfl rfl (by kernel_rfl) (fun _ _ _ h => h) (Or.inl ⟨by rfl, ?_⟩) ?_ ?_
        rotate_left
        · intro w'
          go_simp
          with_reducible rfl
        rotate_left
        · simp only [Act.put, List.setIfInBounds_toArray, List.set_cons_zero, List.set_cons_succ, i64_w, i32_w]
          rfl
        refine pureR_ (i := 9) (N := some 98) (v := ?_) (a' := ?_) (bm_ [1, 1, 2, 3, 1, 1, 1, 8]) rfl rfl (by kernel_rfl) (fun _ _ _ h => h) (Or.inl ⟨by rfl, ?_⟩) ?_ ?_
        rotate_left
        · intro w'
          go_simp
          with_reducible rfl
        rotate_left
        · simp only [Act.put, List.setIfInBounds_toArray, List.set_cons_zero, List.set_cons_succ, i64_w, i32_w]
          rfl
        refine pureR_ (i := 10) (N := some 99) (v := ?_) (a' := ?_) (bm_ [1, 1, 2, 3, 1, 1, 2, 7]) rfl rfl (by kernel_rfl) (fun _ _ _ h => h) (Or.inl ⟨by rfl, ?_⟩) ?_ ?_
        rotate_left
        · intro w'
          go_simp
          with_reducible rfl
        rotate_left
        · simp only [Act.put, List.setIfInBounds_toArray, List.set_cons_zero, List.set_cons_succ, i64_w, i32_w]
          rfl
        refine take1R_ (i := 1) (N := some 90) (v := ?_) (a' := ?_) (bm_ [4, 3, 1, 1, 2, 7]) rfl rfl (by kernel_rfl) (fun _ _ _ h => h) (Or.inl ⟨by rfl, ?_⟩) hHeld.1 ?_ ?_
        rotate_left
        · intro w' s0
          go_simp
          with_reducible rfl
        rotate_left
        · simp only [Act.put, List.setIfInBounds_toArray, List.set_cons_zero, List.set_cons_succ, i64_w, i32_w]
          rfl
        refine take2R_ (i := 4) (N := some 93) (v := ?_) (a' := ?_) (bm_ [5, 2, 1, 1, 2, 7]) rfl rfl (by kernel_rfl) (fun _ _ _ h => h) (Or.inl ⟨by rfl, ?_⟩) hHeld.2 ?_ ?_
        rotate_left
        · rintro w' ⟨s0, s1, s2⟩
          go_simp
          with_reducible rfl
        rotate_left
        · simp only [Act.put, List.setIfInBounds_toArray, List.set_cons_zero, List.set_cons_succ, i64_w, i32_w]
          rfl
        refine pureR_ (i := 5) (N := some 94) (v := ?_) (a' := ?_) (bm_ [6, 1, 1, 1, 2, 7]) rfl rfl (by kernel_rfl) (fun _ _ _ h => h) (Or.inl ⟨by rfl, ?_⟩) ?_ ?_
        rotate_left
        · intro w'
          go_simp
          with_reducible rfl
        rotate_left
        · simp only [Act.put, List.setIfInBounds_toArray, List.set_cons_zero, List.set_cons_succ, i64_w, i32_w]
          rfl
        refine pureR_ (i := 6) (N := some 95) (v := ?_) (a' := ?_) (bm_ [8, 1, 2, 7]) rfl rfl (by kernel_rfl) (fun _ _ _ h => h) (Or.inl ⟨by rfl, ?_⟩) ?_ ?_
        rotate_left
        · intro w'
          go_simp
          with_reducible rfl
        rotate_left
        · simp only [Act.put, List.setIfInBounds_toArray, List.set_cons_zero, List.set_cons_succ, i64_w, i32_w]
          rfl
        refine pureR_ (i := 14) (N := some 103) (v := ?_) (a' := ?_) (bm_ [8, 1, 2, 3, 1, 3]) rfl rfl (by kernel_rfl) (fun _ _ _ h => h) (Or.inl ⟨by rfl, ?_⟩) ?_ ?_
        rotate_left
        · intro w'
          go_simp
          with_reducible rfl
        rotate_left
        · simp only [Act.put, List.setIfInBounds_toArray, List.set_cons_zero, List.set_cons_succ, i64_w, i32_w]
          rfl
        refine take2R_ (i := 8) (N := some 97) (v := ?_) (a' := ?_) (bm_ [11, 3, 1, 3]) rfl rfl (by kernel_rfl) (fun _ _ _ h => h) (Or.inl ⟨by rfl, ?_⟩) hHeld.2 ?_ ?_
        rotate_left
        · rintro w' ⟨s0, s1, s2⟩
          go_simp
          with_reducible rfl
        rotate_left
        · simp only [Act.put, List.setIfInBounds_toArray, List.set_cons_zero, List.set_cons_succ, i64_w, i32_w]
          rfl
        refine take2R_ (i := 11) (N := some 100) (v := ?_) (a' := ?_) (bm_ [12, 2, 1, 3]) rfl rfl (by kernel_rfl) (fun _ _ _ h => h) (Or.inl ⟨by rfl, ?_⟩) hHeld.2 ?_ ?_
        rotate_left
        · rintro w' ⟨s0, s1, s2⟩
          go_simp
          with_reducible rfl
        rotate_left
        · simp only [Act.put, List.setIfInBounds_toArray, List.set_cons_zero, List.set_cons_succ, i64_w, i32_w]
          rfl
        refine pureR_ (i := 12) (N := some 101) (v := ?_) (a' := ?_) (bm_ [13, 1, 1, 3]) rfl rfl (by kernel_rfl) (fun _ _ _ h => h) (Or.inl ⟨by rfl, ?_⟩) ?_ ?_
        rotate_left
        · intro w'
          go_simp
          with_reducible rfl
        rotate_left
        · simp only [Act.put, List.setIfInBounds_toArray, List.set_cons_zero, List.set_cons_succ, i64_w, i32_w]
          rfl
        refine pureR_ (i := 13) (N := some 102) (v := ?_) (a' := ?_) (bm_ [15, 3]) rfl rfl (by kernel_rfl) (fun _ _ _ h => h) (Or.inl ⟨by rfl, ?_⟩) ?_ ?_
        rotate_left
        · intro w'
          go_simp
          with_reducible rfl
        rotate_left
        · simp only [Act.put, List.setIfInBounds_toArray, List.set_cons_zero, List.set_cons_succ, i64_w, i32_w]
          rfl
        refine oneR_ (i := 15) (N := none) (bm_ [16, 2]) rfl rfl (by kernel_rfl) (fun K hK => ?_)
        have hs47 : w46.cell? ⟨gb104, 0, none⟩ = some (.int .i64 x105000_2) := bc_ BK104 0 rfl
        have hfs47 := blk_frozen BK104.out 0
        have hns47_0 := NB101_104.out
        have hns47_1 := NB102_104.out
        have hns47_3 := NB105_104.out
        have hms47_0 := NB104_101.out
        have hms47_1 := NB104_102.out
        have hms47_3 := NB104_105.out
        refine skip_ (w1 := ?_) (by rfl) rfl ?_ ?_
        rotate_left
        · go_simp
          rfl
        refine hK.out _ _ ⟨fun hn_ => absurd (by decide) hn_, fun _ hs_ => ⟨((cell_off_ (by decide)).trans hs_.1), ((cell_far (p := ⟨gb104, _, none⟩) NB105_104.out _).trans (hs_.2.1)), ((cell_far (p := ⟨gb104, _, none⟩) NB105_104.out _).trans (hs_.2.2))⟩⟩ ?_
        clear hK K
        refine pureR_ (i := 16) (N := some 104) (v := ?_) (a' := ?_) (bm_ [17, 1]) rfl rfl (by kernel_rfl) (fun _ _ _ h => h) (Or.inl ⟨by rfl, ?_⟩) ?_ ?_
        rotate_left
        · intro w'
          go_simp
          with_reducible rfl
        rotate_left
        · simp only [Act.put, List.setIfInBounds_toArray, List.set_cons_zero, List.set_cons_succ, i64_w, i32_w]
          rfl
        refine oneR_ (i := 17) (N := none) (bm_ [18]) rfl rfl (by kernel_rfl) (fun K hK => ?_)
        have hs48 : w46.cell? ⟨gb105, 0, none⟩ = some (.int .i64 x106000_2) := bc_ BK105 0 rfl
        have hfs48 := blk_frozen BK105.out 0
        have hns48_0 := NB101_105.out
        have hns48_1 := NB102_105.out
        have hns48_2 := NB104_105.out
        have hms48_0 := NB105_101.out
        have hms48_1 := NB105_102.out
        have hms48_2 := NB105_104.out
        refine skip_ (w1 := ?_) (by rfl) rfl ?_ ?_
        rotate_left
        · go_simp
          rfl
        refine hK.out _ _ ⟨fun hn_ => absurd (by decide) hn_, fun hn_ => absurd (by decide) hn_⟩ ?_
        clear hK K
        refine doneR_ (by kernel_rfl) ?_
        try go_wp2
        have n0_ : Aside0 (((w46.setCell ⟨gb104, 0, none⟩ (.int .i64 (wrap64 (x105000_2 + (wrap64 ((wrap64 (Int.tdiv (wrap64 (a1 - x106000_2)) x106001_2)) * x105001_2)))))).setCell ⟨gb105, 0, none⟩ (.int .i64 (wrap64 (x106000_2 + (wrap64 ((wrap64 (Int.tdiv (wrap64 (a1 - x106000_2)) x106001_2)) * x106001_2)))))).heap[gb101]? = some (.cells #[.int .i64 a0_0, .int .i64 a0_1] 77 (0, 0))) := ⟨by (with_reducible repeat (first | refine blk_drewN ?_ _ | refine blk_drew ?_ | refine blk_alloc ?_ _)); refine blk_far ?_ NB101_105.out _; (with_reducible repeat (first | refine blk_drewN ?_ _ | refine blk_drew ?_ | refine blk_alloc ?_ _)); refine blk_far ?_ NB101_104.out _; (with_reducible repeat (first | refine blk_drewN ?_ _ | refine blk_drew ?_ | refine blk_alloc ?_ _)); exact BK101.out⟩
        have n1_ : Aside0 (((w46.setCell ⟨gb104, 0, none⟩ (.int .i64 (wrap64 (x105000_2 + (wrap64 ((wrap64 (Int.tdiv (wrap64 (a1 - x106000_2)) x106001_2)) * x105001_2)))))).setCell ⟨gb105, 0, none⟩ (.int .i64 (wrap64 (x106000_2 + (wrap64 ((wrap64 (Int.tdiv (wrap64 (a1 - x106000_2)) x106001_2)) * x106001_2)))))).heap[gb102]? = some (.cells #[.int .i64 0, .int .i64 0] 77 (0, 0))) := ⟨by (with_reducible repeat (first | refine blk_drewN ?_ _ | refine blk_drew ?_ | refine blk_alloc ?_ _)); refine blk_far ?_ NB102_105.out _; (with_reducible repeat (first | refine blk_drewN ?_ _ | refine blk_drew ?_ | refine blk_alloc ?_ _)); refine blk_far ?_ NB102_104.out _; (with_reducible repeat (first | refine blk_drewN ?_ _ | refine blk_drew ?_ | refine blk_alloc ?_ _)); exact BK102.out⟩
        have n2_ : Aside0 (((w46.setCell ⟨gb104, 0, none⟩ (.int .i64 (wrap64 (x105000_2 + (wrap64 ((wrap64 (Int.tdiv (wrap64 (a1 - x106000_2)) x106001_2)) * x105001_2)))))).setCell ⟨gb105, 0, none⟩ (.int .i64 (wrap64 (x106000_2 + (wrap64 ((wrap64 (Int.tdiv (wrap64 (a1 - x106000_2)) x106001_2)) * x106001_2)))))).heap[gb104]? = some (.cells #[.int .i64 (wrap64 (x105000_2 + (wrap64 ((wrap64 (Int.tdiv (wrap64 (a1 - x106000_2)) x106001_2)) * x105001_2)))), .int .i64 x105001_2] 150 (0, 0))) := ⟨by (with_reducible repeat (first | refine blk_drewN ?_ _ | refine blk_drew ?_ | refine blk_alloc ?_ _)); refine blk_far ?_ NB104_105.out _; (with_reducible repeat (first | refine blk_drewN ?_ _ | refine blk_drew ?_ | refine blk_alloc ?_ _)); refine blk_put (cs := #[.int .i64 x105000_2, .int .i64 x105001_2]) ?_ 0 _ rfl; (with_reducible repeat (first | refine blk_drewN ?_ _ | refine blk_drew ?_ | refine blk_alloc ?_ _)); exact BK104.out⟩
        have n3_ : Aside0 (((w46.setCell ⟨gb104, 0, none⟩ (.int .i64 (wrap64 (x105000_2 + (wrap64 ((wrap64 (Int.tdiv (wrap64 (a1 - x106000_2)) x106001_2)) * x105001_2)))))).setCell ⟨gb105, 0, none⟩ (.int .i64 (wrap64 (x106000_2 + (wrap64 ((wrap64 (Int.tdiv (wrap64 (a1 - x106000_2)) x106001_2)) * x106001_2)))))).heap[gb105]? = some (.cells #[.int .i64 (wrap64 (x106000_2 + (wrap64 ((wrap64 (Int.tdiv (wrap64 (a1 - x106000_2)) x106001_2)) * x106001_2)))), .int .i64 x106001_2] 150 (0, 0))) := ⟨by (with_reducible repeat (first | refine blk_drewN ?_ _ | refine blk_drew ?_ | refine blk_alloc ?_ _)); refine blk_put (cs := #[.int .i64 x106000_2, .int .i64 x106001_2]) ?_ 0 _ rfl; (with_reducible repeat (first | refine blk_drewN ?_ _ | refine blk_drew ?_ | refine blk_alloc ?_ _)); refine blk_far ?_ NB105_104.out _; (with_reducible repeat (first | refine blk_drewN ?_ _ | refine blk_drew ?_ | refine blk_alloc ?_ _)); exact BK105.out⟩
        have n4_ : Aside0 (Below w.heap.size w ((w46.setCell ⟨gb104, 0, none⟩ (.int .i64 (wrap64 (x105000_2 + (wrap64 ((wrap64 (Int.tdiv (wrap64 (a1 - x106000_2)) x106001_2)) * x105001_2)))))).setCell ⟨gb105, 0, none⟩ (.int .i64 (wrap64 (x106000_2 + (wrap64 ((wrap64 (Int.tdiv (wrap64 (a1 - x106000_2)) x106001_2)) * x106001_2))))))) := ⟨by repeat (first | (with_reducible first | exact HB.out | apply below_alloc | apply pw_below_drewN | apply below_drew1 | refine below_set ?_ GE101.out | refine below_set ?_ GE102.out | refine below_set ?_ GE104.out | refine below_set ?_ GE105.out) | exact HB.out)⟩
        (try clear BK101)
        (try clear BK102)
        (try clear BK104)
        (try clear BK105)
        (try clear HB)
        generalize ((w46.setCell ⟨gb104, 0, none⟩ (.int .i64 (wrap64 (x105000_2 + (wrap64 ((wrap64 (Int.tdiv (wrap64 (a1 - x106000_2)) x106001_2)) * x105001_2)))))).setCell ⟨gb105, 0, none⟩ (.int .i64 (wrap64 (x106000_2 + (wrap64 ((wrap64 (Int.tdiv (wrap64 (a1 - x106000_2)) x106001_2)) * x106001_2)))))) = w49 at n0_ n1_ n2_ n3_ n4_ ⊢
        have BK101 := n0_
        have BK102 := n1_
        have BK104 := n2_
        have BK105 := n3_
        have HB := n4_
        clear n0_ n1_ n2_ n3_ n4_
        replace BK101 := Aside0.mk (blk_drew BK101.out)
        replace BK102 := Aside0.mk (blk_drew BK102.out)
        replace BK104 := Aside0.mk (blk_drew BK104.out)
        replace BK105 := Aside0.mk (blk_drew BK105.out)
        replace HB := Aside0.mk (below_drew1 HB.out)
        refine start_ (n := 22) (S := fun w' => True) (ds := []) (bm_ [0, 22]) (by kernel_rfl) rfl rfl trivial (fun hHeld => ?_); refine with_tabW frac_Best.tab16 frac_Best.bits16 (fun HT_ HW_ => ?_)
        generalize w49.drew = w50 at BK101 BK102 BK104 BK105 HB hHeld ⊢
        refine inv_at [0, 1, 2, 3, 4, 5, 6, 7, 8, 9, 10, 11, 12, 13, 14, 15, 16, 17, 18, 19, 20, 21] (fun a0_ b a w' => ∃ (gb113 : Nat) (gb114 : Nat) (m18_ : Value) (m19_ : Value), a = putSel a0_ b [(0, 105, .agg #[.int .i64 a0_0, .int .i64 a0_1]), (1, 106, .pointer (some ⟨gb104, 0, none⟩)), (2, 107, .int .i64 (wrap64 (x105000_2 + (wrap64 ((wrap64 (Int.tdiv (wrap64 (a1 - x106000_2)) x106001_2)) * x105001_2))))), (3, 108, .pointer (some ⟨gb105, 0, none⟩)), (4, 109, .int .i64 (wrap64 (x106000_2 + (wrap64 ((wrap64 (Int.tdiv (wrap64 (a1 - x106000_2)) x106001_2)) * x106001_2))))), (5, 110, .int .i64 t107), (6, 111, .pointer (some ⟨gb105, 1, none⟩)), (7, 112, .int .i64 x106001_2), (8, 113, .agg #[.int .i64 t108, .int .u64 t109]), (9, 114, .agg #[.int .i64 a0_0, .int .i64 a0_1]), (10, 115, .pointer (some ⟨gb104, 1, none⟩)), (11, 116, .int .i64 x105001_2), (12, 117, .pointer (some ⟨gb105, 1, none⟩)), (13, 118, .int .i64 x106001_2), (14, 119, .int .i64 t110), (15, 120, .pointer (some ⟨gb105, 0, none⟩)), (16, 121, .int .i64 (wrap64 (x106000_2 + (wrap64 ((wrap64 (Int.tdiv (wrap64 (a1 - x106000_2)) x106001_2)) * x106001_2))))), (17, 122, .agg #[.int .i64 t111, .int .u64 t112]), (18, 13, m18_), (19, 14, m19_)] ∧ (w'.heap[gb101]? = some (.cells #[.int .i64 a0_0, .int .i64 a0_1] 77 (0, 0))) ∧ (w'.heap[gb102]? = some (.cells #[.int .i64 0, .int .i64 0] 77 (0, 0))) ∧ (w'.heap[gb104]? = some (.cells #[.int .i64 (wrap64 (x105000_2 + (wrap64 ((wrap64 (Int.tdiv (wrap64 (a1 - x106000_2)) x106001_2)) * x105001_2)))), .int .i64 x105001_2] 150 (0, 0))) ∧ (w'.heap[gb105]? = some (.cells #[.int .i64 (wrap64 (x106000_2 + (wrap64 ((wrap64 (Int.tdiv (wrap64 (a1 - x106000_2)) x106001_2)) * x106001_2)))), .int .i64 x106001_2] 150 (0, 0))) ∧ (Below w.heap.size w w') ∧ (b 18 = true → b 19 = true → gb114 ≠ gb113) ∧ (b 18 = true → b 19 = true → gb113 ≠ gb114) ∧ (b 18 = true → b 20 = false → w'.heap[gb113]? = some (.cells #[.int .i64 0, .int .u64 0] 138 (0, 0))) ∧ (b 18 = true → w.heap.size ≤ gb113) ∧ (b 18 = true → w.heap.size ≤ gb113) ∧ (b 18 = true → gb101 ≠ gb113) ∧ (b 18 = true → gb113 ≠ gb101) ∧ (b 18 = true → gb102 ≠ gb113) ∧ (b 18 = true → gb113 ≠ gb102) ∧ (b 18 = true → gb104 ≠ gb113) ∧ (b 18 = true → gb113 ≠ gb104) ∧ (b 18 = true → gb105 ≠ gb113) ∧ (b 18 = true → gb113 ≠ gb105) ∧ (b 19 = true → b 21 = false → w'.heap[gb114]? = some (.cells #[.int .i64 0, .int .u64 0] 138 (0, 0))) ∧ (b 19 = true → w.heap.size ≤ gb114) ∧ (b 19 = true → w.heap.size ≤ gb114) ∧ (b 19 = true → gb101 ≠ gb114) ∧ (b 19 = true → gb114 ≠ gb101) ∧ (b 19 = true → gb102 ≠ gb114) ∧ (b 19 = true → gb114 ≠ gb102) ∧ (b 19 = true → gb104 ≠ gb114) ∧ (b 19 = true → gb114 ≠ gb104) ∧ (b 19 = true → gb105 ≠ gb114) ∧ (b 19 = true → gb114 ≠ gb105) ∧ (b 20 = true → w'.heap[gb113]? = some (.cells #[.int .i64 t108, .int .u64 t109] 138 (0, 0))) ∧ (b 21 = true → w'.heap[gb114]? = some (.cells #[.int .i64 t111, .int .u64 t112] 138 (0, 0))) ∧ (b 18 = true → (m18_ : Value) = .pointer (some ⟨gb113, 0, none⟩)) ∧ (b 19 = true → (m19_ : Value) = .pointer (some ⟨gb114, 0, none⟩))) HT_.out HW_.out (by kernel_rfl) (by kernel_rfl) ?_ ?_ ?_
        · exact ⟨0, 0, .bool false, .bool false, by simp only [putSel, Bool.false_eq_true, if_false], BK101.out, BK102.out, BK104.out, BK105.out, HB.out, fun h_ => absurd h_ (by decide), fun h_ => absurd h_ (by decide), fun h_ => absurd h_ (by decide), fun h_ => absurd h_ (by decide), fun h_ => absurd h_ (by decide), fun h_ => absurd h_ (by decide), fun h_ => absurd h_ (by decide), fun h_ => absurd h_ (by decide), fun h_ => absurd h_ (by decide), fun h_ => absurd h_ (by decide), fun h_ => absurd h_ (by decide), fun h_ => absurd h_ (by decide), fun h_ => absurd h_ (by decide), fun h_ => absurd h_ (by decide), fun h_ => absurd h_ (by decide), fun h_ => absurd h_ (by decide), fun h_ => absurd h_ (by decide), fun h_ => absurd h_ (by decide), fun h_ => absurd h_ (by decide), fun h_ => absurd h_ (by decide), fun h_ => absurd h_ (by decide), fun h_ => absurd h_ (by decide), fun h_ => absurd h_ (by decide), fun h_ => absurd h_ (by decide), fun h_ => absurd h_ (by decide), fun h_ => absurd h_ (by decide), fun h_ => absurd h_ (by decide), fun h_ => absurd h_ (by decide)⟩
        · skip
          clear BK101 BK102 BK104 BK105 HB
          refine steps_cons ?_ ?_
          · rintro b a w' ⟨gb113, gb114, m18_, m19_, ha, Q_BK101, Q_BK102, Q_BK104, Q_BK105, Q_HB, Q_NB114_113, Q_NB113_114, Q_BK113, Q_GW113, Q_GE113, Q_NB101_113, Q_NB113_101, Q_NB102_113, Q_NB113_102, Q_NB104_113, Q_NB113_104, Q_NB105_113, Q_NB113_105, Q_BK114, Q_GW114, Q_GE114, Q_NB101_114, Q_NB114_101, Q_NB102_114, Q_NB114_102, Q_NB104_114, Q_NB114_104, Q_NB105_114, Q_NB114_105, Q_BK113_e20, Q_BK114_e21, Q_X18_, Q_X19_⟩ hb_ hon hoff
            refine ⟨_, rfl, fun K hK => ?_⟩
            have e2 : a.tmps[2]? = some (.pointer (some ⟨gb101, 0, none⟩)) := by rw [ha]; exact (putSel_off rfl).trans rfl
            replace ha := Aside0.mk ha
            have BK101 := Aside0.mk Q_BK101
            have BK102 := Aside0.mk Q_BK102
            have BK104 := Aside0.mk Q_BK104
            have BK105 := Aside0.mk Q_BK105
            have HB := Aside0.mk Q_HB
            have hc0_ : w'.cell? ⟨gb101, 0, none⟩ = some (.int .i64 a0_0) := bc_ BK101 0 rfl
            have hc1_ : w'.cell? ⟨gb101, 1, none⟩ = some (.int .i64 a0_1) := bc_ BK101 1 rfl
            refine value_ (w1 := w') (v := .agg #[.int .i64 a0_0, .int .i64 a0_1]) (by rfl) rfl ?_ ?_
            · go_simp
              (try simp only [i64_w])
              try rfl
            refine hK.out _ _ ⟨gb113, gb114, m18_, m19_, (by rw [ha.out]; exact putSel_upk 0 hb_ rfl rfl rfl), Q_BK101, Q_BK102, Q_BK104, Q_BK105, Q_HB, Q_NB114_113, Q_NB113_114, Q_BK113, Q_GW113, Q_GE113, Q_NB101_113, Q_NB113_101, Q_NB102_113, Q_NB113_102, Q_NB104_113, Q_NB113_104, Q_NB105_113, Q_NB113_105, Q_BK114, Q_GW114, Q_GE114, Q_NB101_114, Q_NB114_101, Q_NB102_114, Q_NB114_102, Q_NB104_114, Q_NB114_104, Q_NB105_114, Q_NB114_105, fun h0_ => absurd ((hoff 20 (by kernel_rfl)).symm.trans h0_) (by decide), fun h0_ => absurd ((hoff 21 (by kernel_rfl)).symm.trans h0_) (by decide), Q_X18_, Q_X19_⟩
          refine steps_cons ?_ ?_
          · rintro b a w' ⟨gb113, gb114, m18_, m19_, ha, Q_BK101, Q_BK102, Q_BK104, Q_BK105, Q_HB, Q_NB114_113, Q_NB113_114, Q_BK113, Q_GW113, Q_GE113, Q_NB101_113, Q_NB113_101, Q_NB102_113, Q_NB113_102, Q_NB104_113, Q_NB113_104, Q_NB105_113, Q_NB113_105, Q_BK114, Q_GW114, Q_GE114, Q_NB101_114, Q_NB114_101, Q_NB102_114, Q_NB114_102, Q_NB104_114, Q_NB114_104, Q_NB105_114, Q_NB114_105, Q_BK113_e20, Q_BK114_e21, Q_X18_, Q_X19_⟩ hb_ hon hoff
            refine ⟨_, rfl, fun K hK => ?_⟩
            have e7 : a.tmps[7]? = some (.pointer (some ⟨gb104, 0, none⟩)) := by rw [ha]; exact (putSel_off rfl).trans rfl
            replace ha := Aside0.mk ha
            have BK101 := Aside0.mk Q_BK101
            have BK102 := Aside0.mk Q_BK102
            have BK104 := Aside0.mk Q_BK104
            have BK105 := Aside0.mk Q_BK105
            have HB := Aside0.mk Q_HB
            refine value_ (w1 := w') (v := .pointer (some ⟨gb104, 0, none⟩)) (by rfl) rfl ?_ ?_
            · go_simp
              (try simp only [i64_w])
              try rfl
            refine hK.out _ _ ⟨gb113, gb114, m18_, m19_, (by rw [ha.out]; exact putSel_upk 1 hb_ rfl rfl rfl), Q_BK101, Q_BK102, Q_BK104, Q_BK105, Q_HB, Q_NB114_113, Q_NB113_114, Q_BK113, Q_GW113, Q_GE113, Q_NB101_113, Q_NB113_101, Q_NB102_113, Q_NB113_102, Q_NB104_113, Q_NB113_104, Q_NB105_113, Q_NB113_105, Q_BK114, Q_GW114, Q_GE114, Q_NB101_114, Q_NB114_101, Q_NB102_114, Q_NB114_102, Q_NB104_114, Q_NB114_104, Q_NB105_114, Q_NB114_105, fun h0_ => absurd ((hoff 20 (by kernel_rfl)).symm.trans h0_) (by decide), fun h0_ => absurd ((hoff 21 (by kernel_rfl)).symm.trans h0_) (by decide), Q_X18_, Q_X19_⟩
          refine steps_cons ?_ ?_
          · rintro b a w' ⟨gb113, gb114, m18_, m19_, ha, Q_BK101, Q_BK102, Q_BK104, Q_BK105, Q_HB, Q_NB114_113, Q_NB113_114, Q_BK113, Q_GW113, Q_GE113, Q_NB101_113, Q_NB113_101, Q_NB102_113, Q_NB113_102, Q_NB104_113, Q_NB113_104, Q_NB105_113, Q_NB113_105, Q_BK114, Q_GW114, Q_GE114, Q_NB101_114, Q_NB114_101, Q_NB102_114, Q_NB114_102, Q_NB104_114, Q_NB114_104, Q_NB105_114, Q_NB114_105, Q_BK113_e20, Q_BK114_e21, Q_X18_, Q_X19_⟩ hb_ hon hoff
            refine ⟨_, rfl, fun K hK => ?_⟩
            have e106 : a.tmps[106]? = some (.pointer (some ⟨gb104, 0, none⟩)) := by rw [ha]; exact putSel_on (e := (1, 106, .pointer (some ⟨gb104, 0, none⟩))) 1 rfl rfl (hon 1 (by kernel_rfl)) rfl
            replace ha := Aside0.mk ha
            have BK101 := Aside0.mk Q_BK101
            have BK102 := Aside0.mk Q_BK102
            have BK104 := Aside0.mk Q_BK104
            have BK105 := Aside0.mk Q_BK105
            have HB := Aside0.mk Q_HB
            have hc0_ : w'.cell? ⟨gb104, 0, none⟩ = some (.int .i64 (wrap64 (x105000_2 + (wrap64 ((wrap64 (Int.tdiv (wrap64 (a1 - x106000_2)) x106001_2)) * x105001_2))))) := bc_ BK104 0 rfl
            have hc1_ : w'.cell? ⟨gb104, 1, none⟩ = some (.int .i64 x105001_2) := bc_ BK104 1 rfl
            refine value_ (w1 := w') (v := .int .i64 (wrap64 (x105000_2 + (wrap64 ((wrap64 (Int.tdiv (wrap64 (a1 - x106000_2)) x106001_2)) * x105001_2))))) (by rfl) rfl ?_ ?_
            · go_simp
              (try simp only [i64_w])
              try rfl
            refine hK.out _ _ ⟨gb113, gb114, m18_, m19_, (by rw [ha.out]; exact putSel_upk 2 hb_ rfl rfl rfl), Q_BK101, Q_BK102, Q_BK104, Q_BK105, Q_HB, Q_NB114_113, Q_NB113_114, Q_BK113, Q_GW113, Q_GE113, Q_NB101_113, Q_NB113_101, Q_NB102_113, Q_NB113_102, Q_NB104_113, Q_NB113_104, Q_NB105_113, Q_NB113_105, Q_BK114, Q_GW114, Q_GE114, Q_NB101_114, Q_NB114_101, Q_NB102_114, Q_NB114_102, Q_NB104_114, Q_NB114_104, Q_NB105_114, Q_NB114_105, fun h0_ => absurd ((hoff 20 (by kernel_rfl)).symm.trans h0_) (by decide), fun h0_ => absurd ((hoff 21 (by kernel_rfl)).symm.trans h0_) (by decide), Q_X18_, Q_X19_⟩
          refine steps_cons ?_ ?_
          · rintro b a w' ⟨gb113, gb114, m18_, m19_, ha, Q_BK101, Q_BK102, Q_BK104, Q_BK105, Q_HB, Q_NB114_113, Q_NB113_114, Q_BK113, Q_GW113, Q_GE113, Q_NB101_113, Q_NB113_101, Q_NB102_113, Q_NB113_102, Q_NB104_113, Q_NB113_104, Q_NB105_113, Q_NB113_105, Q_BK114, Q_GW114, Q_GE114, Q_NB101_114, Q_NB114_101, Q_NB102_114, Q_NB114_102, Q_NB104_114, Q_NB114_104, Q_NB105_114, Q_NB114_105, Q_BK113_e20, Q_BK114_e21, Q_X18_, Q_X19_⟩ hb_ hon hoff
            refine ⟨_, rfl, fun K hK => ?_⟩
            have e8 : a.tmps[8]? = some (.pointer (some ⟨gb105, 0, none⟩)) := by rw [ha]; exact (putSel_off rfl).trans rfl
            replace ha := Aside0.mk ha
            have BK101 := Aside0.mk Q_BK101
            have BK102 := Aside0.mk Q_BK102
            have BK104 := Aside0.mk Q_BK104
            have BK105 := Aside0.mk Q_BK105
            have HB := Aside0.mk Q_HB
            refine value_ (w1 := w') (v := .pointer (some ⟨gb105, 0, none⟩)) (by rfl) rfl ?_ ?_
            · go_simp
              (try simp only [i64_w])
              try rfl
            refine hK.out _ _ ⟨gb113, gb114, m18_, m19_, (by rw [ha.out]; exact putSel_upk 3 hb_ rfl rfl rfl), Q_BK101, Q_BK102, Q_BK104, Q_BK105, Q_HB, Q_NB114_113, Q_NB113_114, Q_BK113, Q_GW113, Q_GE113, Q_NB101_113, Q_NB113_101, Q_NB102_113, Q_NB113_102, Q_NB104_113, Q_NB113_104, Q_NB105_113, Q_NB113_105, Q_BK114, Q_GW114, Q_GE114, Q_NB101_114, Q_NB114_101, Q_NB102_114, Q_NB114_102, Q_NB104_114, Q_NB114_104, Q_NB105_114, Q_NB114_105, fun h0_ => absurd ((hoff 20 (by kernel_rfl)).symm.trans h0_) (by decide), fun h0_ => absurd ((hoff 21 (by kernel_rfl)).symm.trans h0_) (by decide), Q_X18_, Q_X19_⟩
          refine steps_cons ?_ ?_
          · rintro b a w' ⟨gb113, gb114, m18_, m19_, ha, Q_BK101, Q_BK102, Q_BK104, Q_BK105, Q_HB, Q_NB114_113, Q_NB113_114, Q_BK113, Q_GW113, Q_GE113, Q_NB101_113, Q_NB113_101, Q_NB102_113, Q_NB113_102, Q_NB104_113, Q_NB113_104, Q_NB105_113, Q_NB113_105, Q_BK114, Q_GW114, Q_GE114, Q_NB101_114, Q_NB114_101, Q_NB102_114, Q_NB114_102, Q_NB104_114, Q_NB114_104, Q_NB105_114, Q_NB114_105, Q_BK113_e20, Q_BK114_e21, Q_X18_, Q_X19_⟩ hb_ hon hoff
            refine ⟨_, rfl, fun K hK => ?_⟩
            have e108 : a.tmps[108]? = some (.pointer (some ⟨gb105, 0, none⟩)) := by rw [ha]; exact putSel_on (e := (3, 108, .pointer (some ⟨gb105, 0, none⟩))) 3 rfl rfl (hon 3 (by kernel_rfl)) rfl
            replace ha := Aside0.mk ha
            have BK101 := Aside0.mk Q_BK101
            have BK102 := Aside0.mk Q_BK102
            have BK104 := Aside0.mk Q_BK104
            have BK105 := Aside0.mk Q_BK105
            have HB := Aside0.mk Q_HB
            have hc0_ : w'.cell? ⟨gb105, 0, none⟩ = some (.int .i64 (wrap64 (x106000_2 + (wrap64 ((wrap64 (Int.tdiv (wrap64 (a1 - x106000_2)) x106001_2)) * x106001_2))))) := bc_ BK105 0 rfl
            have hc1_ : w'.cell? ⟨gb105, 1, none⟩ = some (.int .i64 x106001_2) := bc_ BK105 1 rfl
            refine value_ (w1 := w') (v := .int .i64 (wrap64 (x106000_2 + (wrap64 ((wrap64 (Int.tdiv (wrap64 (a1 - x106000_2)) x106001_2)) * x106001_2))))) (by rfl) rfl ?_ ?_
            · go_simp
              (try simp only [i64_w])
              try rfl
            refine hK.out _ _ ⟨gb113, gb114, m18_, m19_, (by rw [ha.out]; exact putSel_upk 4 hb_ rfl rfl rfl), Q_BK101, Q_BK102, Q_BK104, Q_BK105, Q_HB, Q_NB114_113, Q_NB113_114, Q_BK113, Q_GW113, Q_GE113, Q_NB101_113, Q_NB113_101, Q_NB102_113, Q_NB113_102, Q_NB104_113, Q_NB113_104, Q_NB105_113, Q_NB113_105, Q_BK114, Q_GW114, Q_GE114, Q_NB101_114, Q_NB114_101, Q_NB102_114, Q_NB114_102, Q_NB104_114, Q_NB114_104, Q_NB105_114, Q_NB114_105, fun h0_ => absurd ((hoff 20 (by kernel_rfl)).symm.trans h0_) (by decide), fun h0_ => absurd ((hoff 21 (by kernel_rfl)).symm.trans h0_) (by decide), Q_X18_, Q_X19_⟩
          refine steps_cons ?_ ?_
          · rintro b a w' ⟨gb113, gb114, m18_, m19_, ha, Q_BK101, Q_BK102, Q_BK104, Q_BK105, Q_HB, Q_NB114_113, Q_NB113_114, Q_BK113, Q_GW113, Q_GE113, Q_NB101_113, Q_NB113_101, Q_NB102_113, Q_NB113_102, Q_NB104_113, Q_NB113_104, Q_NB105_113, Q_NB113_105, Q_BK114, Q_GW114, Q_GE114, Q_NB101_114, Q_NB114_101, Q_NB102_114, Q_NB114_102, Q_NB104_114, Q_NB114_104, Q_NB105_114, Q_NB114_105, Q_BK113_e20, Q_BK114_e21, Q_X18_, Q_X19_⟩ hb_ hon hoff
            refine ⟨_, rfl, fun K hK => ?_⟩
            have e105 : a.tmps[105]? = some (.agg #[.int .i64 a0_0, .int .i64 a0_1]) := by rw [ha]; exact putSel_on (e := (0, 105, .agg #[.int .i64 a0_0, .int .i64 a0_1])) 0 rfl rfl (hon 0 (by kernel_rfl)) rfl
            have e107 : a.tmps[107]? = some (.int .i64 (wrap64 (x105000_2 + (wrap64 ((wrap64 (Int.tdiv (wrap64 (a1 - x106000_2)) x106001_2)) * x105001_2))))) := by rw [ha]; exact putSel_on (e := (2, 107, .int .i64 (wrap64 (x105000_2 + (wrap64 ((wrap64 (Int.tdiv (wrap64 (a1 - x106000_2)) x106001_2)) * x105001_2)))))) 2 rfl rfl (hon 2 (by kernel_rfl)) rfl
            have e109 : a.tmps[109]? = some (.int .i64 (wrap64 (x106000_2 + (wrap64 ((wrap64 (Int.tdiv (wrap64 (a1 - x106000_2)) x106001_2)) * x106001_2))))) := by rw [ha]; exact putSel_on (e := (4, 109, .int .i64 (wrap64 (x106000_2 + (wrap64 ((wrap64 (Int.tdiv (wrap64 (a1 - x106000_2)) x106001_2)) * x106001_2)))))) 4 rfl rfl (hon 4 (by kernel_rfl)) rfl
            replace ha := Aside0.mk ha
            have BK101 := Aside0.mk Q_BK101
            have BK102 := Aside0.mk Q_BK102
            have BK104 := Aside0.mk Q_BK104
            have BK105 := Aside0.mk Q_BK105
            have HB := Aside0.mk Q_HB
            refine goes_ Try.func114 (by kernel_rfl) rfl #[.agg #[.int .i64 a0_0, .int .i64 a0_1], .int .i64 (wrap64 (x105000_2 + (wrap64 ((wrap64 (Int.tdiv (wrap64 (a1 - x106000_2)) x106001_2)) * x105001_2)))), .int .i64 (wrap64 (x106000_2 + (wrap64 ((wrap64 (Int.tdiv (wrap64 (a1 - x106000_2)) x106001_2)) * x106001_2))))] (by rfl) rfl rfl (by first | (simp only [List.map_toArray, List.map_cons, List.map_nil, Act.eval, Array.getD_eq_getD_getElem?, Option.getD_some, e105, e107, e109]; done) | (simp only [List.map_toArray, List.map_cons, List.map_nil, Act.eval, Array.getD_eq_getD_getElem?, Option.getD_some, e105, e107, e109]; rfl)) ?_
            with_reducible refine (frac_away.calls k2 a0_0 a0_1 (wrap64 (x105000_2 + (wrap64 ((wrap64 (Int.tdiv (wrap64 (a1 - x106000_2)) x106001_2)) * x105001_2)))) (wrap64 (x106000_2 + (wrap64 ((wrap64 (Int.tdiv (wrap64 (a1 - x106000_2)) x106001_2)) * x106001_2)))) t107 _ A36.out).mono ?_
            rintro e w51 ⟨rfl, hb⟩
            refine ⟨_, rfl, ?_⟩
            have n0_ := bkb_ BK101 hb rfl
            have n1_ := bkb_ BK102 hb rfl
            have n2_ := bkb_ BK104 hb rfl
            have n3_ := bkb_ BK105 hb rfl
            have n4_ := hbs_ HB hb rfl rfl rfl rfl
            have z_BK113 := fun (h0_ : b 18 = true) (h1_ : b 20 = false) => (show w51.heap[gb113]? = some (.cells #[.int .i64 0, .int .u64 0] 138 (0, 0)) from by first | exact (blk_below (g := gb113) (o := .cells #[.int .i64 0, .int .u64 0] 138 (0, 0)) (by (with_reducible repeat (first | refine blk_drewN ?_ _ | refine blk_drew ?_ | refine blk_alloc ?_ _)); exact (Q_BK113 h0_ h1_)) hb))
            have z_BK114 := fun (h0_ : b 19 = true) (h1_ : b 21 = false) => (show w51.heap[gb114]? = some (.cells #[.int .i64 0, .int .u64 0] 138 (0, 0)) from by first | exact (blk_below (g := gb114) (o := .cells #[.int .i64 0, .int .u64 0] 138 (0, 0)) (by (with_reducible repeat (first | refine blk_drewN ?_ _ | refine blk_drew ?_ | refine blk_alloc ?_ _)); exact (Q_BK114 h0_ h1_)) hb))
            clear BK101
            clear BK102
            clear BK104
            clear BK105
            clear HB
            have BK101 := n0_
            have BK102 := n1_
            have BK104 := n2_
            have BK105 := n3_
            have HB := n4_
            clear n0_ n1_ n2_ n3_ n4_
            (try clear hb)
            refine hK.out _ _ ⟨gb113, gb114, m18_, m19_, (by rw [ha.out]; exact putSel_upk 5 hb_ rfl rfl rfl), BK101.out, BK102.out, BK104.out, BK105.out, (by repeat (first | (with_reducible first | exact HB.out | apply below_alloc | apply pw_below_drewN | apply below_drew1 | refine below_set ?_ GE101.out | refine below_set ?_ GE102.out | refine below_set ?_ GE104.out | refine below_set ?_ GE105.out) | exact HB.out)), Q_NB114_113, Q_NB113_114, z_BK113, Q_GW113, Q_GE113, Q_NB101_113, Q_NB113_101, Q_NB102_113, Q_NB113_102, Q_NB104_113, Q_NB113_104, Q_NB105_113, Q_NB113_105, z_BK114, Q_GW114, Q_GE114, Q_NB101_114, Q_NB114_101, Q_NB102_114, Q_NB114_102, Q_NB104_114, Q_NB114_104, Q_NB105_114, Q_NB114_105, fun h0_ => absurd ((hoff 20 (by kernel_rfl)).symm.trans h0_) (by decide), fun h0_ => absurd ((hoff 21 (by kernel_rfl)).symm.trans h0_) (by decide), Q_X18_, Q_X19_⟩
          refine steps_cons ?_ ?_
          · rintro b a w' ⟨gb113, gb114, m18_, m19_, ha, Q_BK101, Q_BK102, Q_BK104, Q_BK105, Q_HB, Q_NB114_113, Q_NB113_114, Q_BK113, Q_GW113, Q_GE113, Q_NB101_113, Q_NB113_101, Q_NB102_113, Q_NB113_102, Q_NB104_113, Q_NB113_104, Q_NB105_113, Q_NB113_105, Q_BK114, Q_GW114, Q_GE114, Q_NB101_114, Q_NB114_101, Q_NB102_114, Q_NB114_102, Q_NB104_114, Q_NB114_104, Q_NB105_114, Q_NB114_105, Q_BK113_e20, Q_BK114_e21, Q_X18_, Q_X19_⟩ hb_ hon hoff
            refine ⟨_, rfl, fun K hK => ?_⟩
            have e8 : a.tmps[8]? = some (.pointer (some ⟨gb105, 0, none⟩)) := by rw [ha]; exact (putSel_off rfl).trans rfl
            replace ha := Aside0.mk ha
            have BK101 := Aside0.mk Q_BK101
            have BK102 := Aside0.mk Q_BK102
            have BK104 := Aside0.mk Q_BK104
            have BK105 := Aside0.mk Q_BK105
            have HB := Aside0.mk Q_HB
            refine value_ (w1 := w') (v := .pointer (some ⟨gb105, 1, none⟩)) (by rfl) rfl ?_ ?_
            · go_simp
              (try simp only [i64_w])
              try rfl
            refine hK.out _ _ ⟨gb113, gb114, m18_, m19_, (by rw [ha.out]; exact putSel_upk 6 hb_ rfl rfl rfl), Q_BK101, Q_BK102, Q_BK104, Q_BK105, Q_HB, Q_NB114_113, Q_NB113_114, Q_BK113, Q_GW113, Q_GE113, Q_NB101_113, Q_NB113_101, Q_NB102_113, Q_NB113_102, Q_NB104_113, Q_NB113_104, Q_NB105_113, Q_NB113_105, Q_BK114, Q_GW114, Q_GE114, Q_NB101_114, Q_NB114_101, Q_NB102_114, Q_NB114_102, Q_NB104_114, Q_NB114_104, Q_NB105_114, Q_NB114_105, fun h0_ => absurd ((hoff 20 (by kernel_rfl)).symm.trans h0_) (by decide), fun h0_ => absurd ((hoff 21 (by kernel_rfl)).symm.trans h0_) (by decide), Q_X18_, Q_X19_⟩
          refine steps_cons ?_ ?_
          · rintro b a w' ⟨gb113, gb114, m18_, m19_, ha, Q_BK101, Q_BK102, Q_BK104, Q_BK105, Q_HB, Q_NB114_113, Q_NB113_114, Q_BK113, Q_GW113, Q_GE113, Q_NB101_113, Q_NB113_101, Q_NB102_113, Q_NB113_102, Q_NB104_113, Q_NB113_104, Q_NB105_113, Q_NB113_105, Q_BK114, Q_GW114, Q_GE114, Q_NB101_114, Q_NB114_101, Q_NB102_114, Q_NB114_102, Q_NB104_114, Q_NB114_104, Q_NB105_114, Q_NB114_105, Q_BK113_e20, Q_BK114_e21, Q_X18_, Q_X19_⟩ hb_ hon hoff
            refine ⟨_, rfl, fun K hK => ?_⟩
            have e111 : a.tmps[111]? = some (.pointer (some ⟨gb105, 1, none⟩)) := by rw [ha]; exact putSel_on (e := (6, 111, .pointer (some ⟨gb105, 1, none⟩))) 6 rfl rfl (hon 6 (by kernel_rfl)) rfl
            replace ha := Aside0.mk ha
            have BK101 := Aside0.mk Q_BK101
            have BK102 := Aside0.mk Q_BK102
            have BK104 := Aside0.mk Q_BK104
            have BK105 := Aside0.mk Q_BK105
            have HB := Aside0.mk Q_HB
            have hc0_ : w'.cell? ⟨gb105, 0, none⟩ = some (.int .i64 (wrap64 (x106000_2 + (wrap64 ((wrap64 (Int.tdiv (wrap64 (a1 - x106000_2)) x106001_2)) * x106001_2))))) := bc_ BK105 0 rfl
            have hc1_ : w'.cell? ⟨gb105, 1, none⟩ = some (.int .i64 x106001_2) := bc_ BK105 1 rfl
            refine value_ (w1 := w') (v := .int .i64 x106001_2) (by rfl) rfl ?_ ?_
            · go_simp
              (try simp only [i64_w])
              try rfl
            refine hK.out _ _ ⟨gb113, gb114, m18_, m19_, (by rw [ha.out]; exact putSel_upk 7 hb_ rfl rfl rfl), Q_BK101, Q_BK102, Q_BK104, Q_BK105, Q_HB, Q_NB114_113, Q_NB113_114, Q_BK113, Q_GW113, Q_GE113, Q_NB101_113, Q_NB113_101, Q_NB102_113, Q_NB113_102, Q_NB104_113, Q_NB113_104, Q_NB105_113, Q_NB113_105, Q_BK114, Q_GW114, Q_GE114, Q_NB101_114, Q_NB114_101, Q_NB102_114, Q_NB114_102, Q_NB104_114, Q_NB114_104, Q_NB105_114, Q_NB114_105, fun h0_ => absurd ((hoff 20 (by kernel_rfl)).symm.trans h0_) (by decide), fun h0_ => absurd ((hoff 21 (by kernel_rfl)).symm.trans h0_) (by decide), Q_X18_, Q_X19_⟩
          refine steps_cons ?_ ?_
          · rintro b a w' ⟨gb113, gb114, m18_, m19_, ha, Q_BK101, Q_BK102, Q_BK104, Q_BK105, Q_HB, Q_NB114_113, Q_NB113_114, Q_BK113, Q_GW113, Q_GE113, Q_NB101_113, Q_NB113_101, Q_NB102_113, Q_NB113_102, Q_NB104_113, Q_NB113_104, Q_NB105_113, Q_NB113_105, Q_BK114, Q_GW114, Q_GE114, Q_NB101_114, Q_NB114_101, Q_NB102_114, Q_NB114_102, Q_NB104_114, Q_NB114_104, Q_NB105_114, Q_NB114_105, Q_BK113_e20, Q_BK114_e21, Q_X18_, Q_X19_⟩ hb_ hon hoff
            refine ⟨_, rfl, fun K hK => ?_⟩
            have e110 : a.tmps[110]? = some (.int .i64 t107) := by rw [ha]; exact putSel_on (e := (5, 110, .int .i64 t107)) 5 rfl rfl (hon 5 (by kernel_rfl)) rfl
            have e112 : a.tmps[112]? = some (.int .i64 x106001_2) := by rw [ha]; exact putSel_on (e := (7, 112, .int .i64 x106001_2)) 7 rfl rfl (hon 7 (by kernel_rfl)) rfl
            replace ha := Aside0.mk ha
            have BK101 := Aside0.mk Q_BK101
            have BK102 := Aside0.mk Q_BK102
            have BK104 := Aside0.mk Q_BK104
            have BK105 := Aside0.mk Q_BK105
            have HB := Aside0.mk Q_HB
            refine goes_ Try.func107 (by kernel_rfl) rfl #[.int .i64 t107, .int .i64 x106001_2] (by rfl) rfl rfl (by first | (simp only [List.map_toArray, List.map_cons, List.map_nil, Act.eval, Array.getD_eq_getD_getElem?, Option.getD_some, e110, e112]; done) | (simp only [List.map_toArray, List.map_cons, List.map_nil, Act.eval, Array.getD_eq_getD_getElem?, Option.getD_some, e110, e112]; rfl)) ?_
            with_reducible refine (num_Product.calls t107 x106001_2 t108 t109 _ A37.out).mono ?_
            rintro e w53 ⟨rfl, hb⟩
            refine ⟨_, rfl, ?_⟩
            have n0_ := bkb_ BK101 hb rfl
            have n1_ := bkb_ BK102 hb rfl
            have n2_ := bkb_ BK104 hb rfl
            have n3_ := bkb_ BK105 hb rfl
            have n4_ := hbs_ HB hb rfl rfl rfl rfl
            have z_BK113 := fun (h0_ : b 18 = true) (h1_ : b 20 = false) => (show w53.heap[gb113]? = some (.cells #[.int .i64 0, .int .u64 0] 138 (0, 0)) from by first | exact (blk_below (g := gb113) (o := .cells #[.int .i64 0, .int .u64 0] 138 (0, 0)) (by (with_reducible repeat (first | refine blk_drewN ?_ _ | refine blk_drew ?_ | refine blk_alloc ?_ _)); exact (Q_BK113 h0_ h1_)) hb))
            have z_BK114 := fun (h0_ : b 19 = true) (h1_ : b 21 = false) => (show w53.heap[gb114]? = some (.cells #[.int .i64 0, .int .u64 0] 138 (0, 0)) from by first | exact (blk_below (g := gb114) (o := .cells #[.int .i64 0, .int .u64 0] 138 (0, 0)) (by (with_reducible repeat (first | refine blk_drewN ?_ _ | refine blk_drew ?_ | refine blk_alloc ?_ _)); exact (Q_BK114 h0_ h1_)) hb))
            clear BK101
            clear BK102
            clear BK104
            clear BK105
            clear HB
            have BK101 := n0_
            have BK102 := n1_
            have BK104 := n2_
            have BK105 := n3_
            have HB := n4_
            clear n0_ n1_ n2_ n3_ n4_
            (try clear hb)
            refine hK.out _ _ ⟨gb113, gb114, m18_, m19_, (by rw [ha.out]; exact putSel_upk 8 hb_ rfl rfl rfl), BK101.out, BK102.out, BK104.out, BK105.out, (by repeat (first | (with_reducible first | exact HB.out | apply below_alloc | apply pw_below_drewN | apply below_drew1 | refine below_set ?_ GE101.out | refine below_set ?_ GE102.out | refine below_set ?_ GE104.out | refine below_set ?_ GE105.out) | exact HB.out)), Q_NB114_113, Q_NB113_114, z_BK113, Q_GW113, Q_GE113, Q_NB101_113, Q_NB113_101, Q_NB102_113, Q_NB113_102, Q_NB104_113, Q_NB113_104, Q_NB105_113, Q_NB113_105, z_BK114, Q_GW114, Q_GE114, Q_NB101_114, Q_NB114_101, Q_NB102_114, Q_NB114_102, Q_NB104_114, Q_NB114_104, Q_NB105_114, Q_NB114_105, fun h0_ => absurd ((hoff 20 (by kernel_rfl)).symm.trans h0_) (by decide), fun h0_ => absurd ((hoff 21 (by kernel_rfl)).symm.trans h0_) (by decide), Q_X18_, Q_X19_⟩
          refine steps_cons ?_ ?_
          · rintro b a w' ⟨gb113, gb114, m18_, m19_, ha, Q_BK101, Q_BK102, Q_BK104, Q_BK105, Q_HB, Q_NB114_113, Q_NB113_114, Q_BK113, Q_GW113, Q_GE113, Q_NB101_113, Q_NB113_101, Q_NB102_113, Q_NB113_102, Q_NB104_113, Q_NB113_104, Q_NB105_113, Q_NB113_105, Q_BK114, Q_GW114, Q_GE114, Q_NB101_114, Q_NB114_101, Q_NB102_114, Q_NB114_102, Q_NB104_114, Q_NB114_104, Q_NB105_114, Q_NB114_105, Q_BK113_e20, Q_BK114_e21, Q_X18_, Q_X19_⟩ hb_ hon hoff
            refine ⟨_, rfl, fun K hK => ?_⟩
            have e2 : a.tmps[2]? = some (.pointer (some ⟨gb101, 0, none⟩)) := by rw [ha]; exact (putSel_off rfl).trans rfl
            replace ha := Aside0.mk ha
            have BK101 := Aside0.mk Q_BK101
            have BK102 := Aside0.mk Q_BK102
            have BK104 := Aside0.mk Q_BK104
            have BK105 := Aside0.mk Q_BK105
            have HB := Aside0.mk Q_HB
            have hc0_ : w'.cell? ⟨gb101, 0, none⟩ = some (.int .i64 a0_0) := bc_ BK101 0 rfl
            have hc1_ : w'.cell? ⟨gb101, 1, none⟩ = some (.int .i64 a0_1) := bc_ BK101 1 rfl
            refine value_ (w1 := w') (v := .agg #[.int .i64 a0_0, .int .i64 a0_1]) (by rfl) rfl ?_ ?_
            · go_simp
              (try simp only [i64_w])
              try rfl
            refine hK.out _ _ ⟨gb113, gb114, m18_, m19_, (by rw [ha.out]; exact putSel_upk 9 hb_ rfl rfl rfl), Q_BK101, Q_BK102, Q_BK104, Q_BK105, Q_HB, Q_NB114_113, Q_NB113_114, Q_BK113, Q_GW113, Q_GE113, Q_NB101_113, Q_NB113_101, Q_NB102_113, Q_NB113_102, Q_NB104_113, Q_NB113_104, Q_NB105_113, Q_NB113_105, Q_BK114, Q_GW114, Q_GE114, Q_NB101_114, Q_NB114_101, Q_NB102_114, Q_NB114_102, Q_NB104_114, Q_NB114_104, Q_NB105_114, Q_NB114_105, fun h0_ => absurd ((hoff 20 (by kernel_rfl)).symm.trans h0_) (by decide), fun h0_ => absurd ((hoff 21 (by kernel_rfl)).symm.trans h0_) (by decide), Q_X18_, Q_X19_⟩
          refine steps_cons ?_ ?_
          · rintro b a w' ⟨gb113, gb114, m18_, m19_, ha, Q_BK101, Q_BK102, Q_BK104, Q_BK105, Q_HB, Q_NB114_113, Q_NB113_114, Q_BK113, Q_GW113, Q_GE113, Q_NB101_113, Q_NB113_101, Q_NB102_113, Q_NB113_102, Q_NB104_113, Q_NB113_104, Q_NB105_113, Q_NB113_105, Q_BK114, Q_GW114, Q_GE114, Q_NB101_114, Q_NB114_101, Q_NB102_114, Q_NB114_102, Q_NB104_114, Q_NB114_104, Q_NB105_114, Q_NB114_105, Q_BK113_e20, Q_BK114_e21, Q_X18_, Q_X19_⟩ hb_ hon hoff
            refine ⟨_, rfl, fun K hK => ?_⟩
            have e7 : a.tmps[7]? = some (.pointer (some ⟨gb104, 0, none⟩)) := by rw [ha]; exact (putSel_off rfl).trans rfl
            replace ha := Aside0.mk ha
            have BK101 := Aside0.mk Q_BK101
            have BK102 := Aside0.mk Q_BK102
            have BK104 := Aside0.mk Q_BK104
            have BK105 := Aside0.mk Q_BK105
            have HB := Aside0.mk Q_HB
            refine value_ (w1 := w') (v := .pointer (some ⟨gb104, 1, none⟩)) (by rfl) rfl ?_ ?_
            · go_simp
              (try simp only [i64_w])
              try rfl
            refine hK.out _ _ ⟨gb113, gb114, m18_, m19_, (by rw [ha.out]; exact putSel_upk 10 hb_ rfl rfl rfl), Q_BK101, Q_BK102, Q_BK104, Q_BK105, Q_HB, Q_NB114_113, Q_NB113_114, Q_BK113, Q_GW113, Q_GE113, Q_NB101_113, Q_NB113_101, Q_NB102_113, Q_NB113_102, Q_NB104_113, Q_NB113_104, Q_NB105_113, Q_NB113_105, Q_BK114, Q_GW114, Q_GE114, Q_NB101_114, Q_NB114_101, Q_NB102_114, Q_NB114_102, Q_NB104_114, Q_NB114_104, Q_NB105_114, Q_NB114_105, fun h0_ => absurd ((hoff 20 (by kernel_rfl)).symm.trans h0_) (by decide), fun h0_ => absurd ((hoff 21 (by kernel_rfl)).symm.trans h0_) (by decide), Q_X18_, Q_X19_⟩
          refine steps_cons ?_ ?_
          · rintro b a w' ⟨gb113, gb114, m18_, m19_, ha, Q_BK101, Q_BK102, Q_BK104, Q_BK105, Q_HB, Q_NB114_113, Q_NB113_114, Q_BK113, Q_GW113, Q_GE113, Q_NB101_113, Q_NB113_101, Q_NB102_113, Q_NB113_102, Q_NB104_113, Q_NB113_104, Q_NB105_113, Q_NB113_105, Q_BK114, Q_GW114, Q_GE114, Q_NB101_114, Q_NB114_101, Q_NB102_114, Q_NB114_102, Q_NB104_114, Q_NB114_104, Q_NB105_114, Q_NB114_105, Q_BK113_e20, Q_BK114_e21, Q_X18_, Q_X19_⟩ hb_ hon hoff
            refine ⟨_, rfl, fun K hK => ?_⟩
            have e115 : a.tmps[115]? = some (.pointer (some ⟨gb104, 1, none⟩)) := by rw [ha]; exact putSel_on (e := (10, 115, .pointer (some ⟨gb104, 1, none⟩))) 10 rfl rfl (hon 10 (by kernel_rfl)) rfl
            replace ha := Aside0.mk ha
            have BK101 := Aside0.mk Q_BK101
            have BK102 := Aside0.mk Q_BK102
            have BK104 := Aside0.mk Q_BK104
            have BK105 := Aside0.mk Q_BK105
            have HB := Aside0.mk Q_HB
            have hc0_ : w'.cell? ⟨gb104, 0, none⟩ = some (.int .i64 (wrap64 (x105000_2 + (wrap64 ((wrap64 (Int.tdiv (wrap64 (a1 - x106000_2)) x106001_2)) * x105001_2))))) := bc_ BK104 0 rfl
            have hc1_ : w'.cell? ⟨gb104, 1, none⟩ = some (.int .i64 x105001_2) := bc_ BK104 1 rfl
            refine value_ (w1 := w') (v := .int .i64 x105001_2) (by rfl) rfl ?_ ?_
            · go_simp
              (try simp only [i64_w])
              try rfl
            refine hK.out _ _ ⟨gb113, gb114, m18_, m19_, (by rw [ha.out]; exact putSel_upk 11 hb_ rfl rfl rfl), Q_BK101, Q_BK102, Q_BK104, Q_BK105, Q_HB, Q_NB114_113, Q_NB113_114, Q_BK113, Q_GW113, Q_GE113, Q_NB101_113, Q_NB113_101, Q_NB102_113, Q_NB113_102, Q_NB104_113, Q_NB113_104, Q_NB105_113, Q_NB113_105, Q_BK114, Q_GW114, Q_GE114, Q_NB101_114, Q_NB114_101, Q_NB102_114, Q_NB114_102, Q_NB104_114, Q_NB114_104, Q_NB105_114, Q_NB114_105, fun h0_ => absurd ((hoff 20 (by kernel_rfl)).symm.trans h0_) (by decide), fun h0_ => absurd ((hoff 21 (by kernel_rfl)).symm.trans h0_) (by decide), Q_X18_, Q_X19_⟩
          refine steps_cons ?_ ?_
          · rintro b a w' ⟨gb113, gb114, m18_, m19_, ha, Q_BK101, Q_BK102, Q_BK104, Q_BK105, Q_HB, Q_NB114_113, Q_NB113_114, Q_BK113, Q_GW113, Q_GE113, Q_NB101_113, Q_NB113_101, Q_NB102_113, Q_NB113_102, Q_NB104_113, Q_NB113_104, Q_NB105_113, Q_NB113_105, Q_BK114, Q_GW114, Q_GE114, Q_NB101_114, Q_NB114_101, Q_NB102_114, Q_NB114_102, Q_NB104_114, Q_NB114_104, Q_NB105_114, Q_NB114_105, Q_BK113_e20, Q_BK114_e21, Q_X18_, Q_X19_⟩ hb_ hon hoff
            refine ⟨_, rfl, fun K hK => ?_⟩
            have e8 : a.tmps[8]? = some (.pointer (some ⟨gb105, 0, none⟩)) := by rw [ha]; exact (putSel_off rfl).trans rfl
            replace ha := Aside0.mk ha
            have BK101 := Aside0.mk Q_BK101
            have BK102 := Aside0.mk Q_BK102
            have BK104 := Aside0.mk Q_BK104
            have BK105 := Aside0.mk Q_BK105
            have HB := Aside0.mk Q_HB
            refine value_ (w1 := w') (v := .pointer (some ⟨gb105, 1, none⟩)) (by rfl) rfl ?_ ?_
            · go_simp
              (try simp only [i64_w])
              try rfl
            refine hK.out _ _ ⟨gb113, gb114, m18_, m19_, (by rw [ha.out]; exact putSel_upk 12 hb_ rfl rfl rfl), Q_BK101, Q_BK102, Q_BK104, Q_BK105, Q_HB, Q_NB114_113, Q_NB113_114, Q_BK113, Q_GW113, Q_GE113, Q_NB101_113, Q_NB113_101, Q_NB102_113, Q_NB113_102, Q_NB104_113, Q_NB113_104, Q_NB105_113, Q_NB113_105, Q_BK114, Q_GW114, Q_GE114, Q_NB101_114, Q_NB114_101, Q_NB102_114, Q_NB114_102, Q_NB104_114, Q_NB114_104, Q_NB105_114, Q_NB114_105, fun h0_ => absurd ((hoff 20 (by kernel_rfl)).symm.trans h0_) (by decide), fun h0_ => absurd ((hoff 21 (by kernel_rfl)).symm.trans h0_) (by decide), Q_X18_, Q_X19_⟩
          refine steps_cons ?_ ?_
          · rintro b a w' ⟨gb113, gb114, m18_, m19_, ha, Q_BK101, Q_BK102, Q_BK104, Q_BK105, Q_HB, Q_NB114_113, Q_NB113_114, Q_BK113, Q_GW113, Q_GE113, Q_NB101_113, Q_NB113_101, Q_NB102_113, Q_NB113_102, Q_NB104_113, Q_NB113_104, Q_NB105_113, Q_NB113_105, Q_BK114, Q_GW114, Q_GE114, Q_NB101_114, Q_NB114_101, Q_NB102_114, Q_NB114_102, Q_NB104_114, Q_NB114_104, Q_NB105_114, Q_NB114_105, Q_BK113_e20, Q_BK114_e21, Q_X18_, Q_X19_⟩ hb_ hon hoff
            refine ⟨_, rfl, fun K hK => ?_⟩
            have e117 : a.tmps[117]? = some (.pointer (some ⟨gb105, 1, none⟩)) := by rw [ha]; exact putSel_on (e := (12, 117, .pointer (some ⟨gb105, 1, none⟩))) 12 rfl rfl (hon 12 (by kernel_rfl)) rfl
            replace ha := Aside0.mk ha
            have BK101 := Aside0.mk Q_BK101
            have BK102 := Aside0.mk Q_BK102
            have BK104 := Aside0.mk Q_BK104
            have BK105 := Aside0.mk Q_BK105
            have HB := Aside0.mk Q_HB
            have hc0_ : w'.cell? ⟨gb105, 0, none⟩ = some (.int .i64 (wrap64 (x106000_2 + (wrap64 ((wrap64 (Int.tdiv (wrap64 (a1 - x106000_2)) x106001_2)) * x106001_2))))) := bc_ BK105 0 rfl
            have hc1_ : w'.cell? ⟨gb105, 1, none⟩ = some (.int .i64 x106001_2) := bc_ BK105 1 rfl
            refine value_ (w1 := w') (v := .int .i64 x106001_2) (by rfl) rfl ?_ ?_
            · go_simp
              (try simp only [i64_w])
              try rfl
            refine hK.out _ _ ⟨gb113, gb114, m18_, m19_, (by rw [ha.out]; exact putSel_upk 13 hb_ rfl rfl rfl), Q_BK101, Q_BK102, Q_BK104, Q_BK105, Q_HB, Q_NB114_113, Q_NB113_114, Q_BK113, Q_GW113, Q_GE113, Q_NB101_113, Q_NB113_101, Q_NB102_113, Q_NB113_102, Q_NB104_113, Q_NB113_104, Q_NB105_113, Q_NB113_105, Q_BK114, Q_GW114, Q_GE114, Q_NB101_114, Q_NB114_101, Q_NB102_114, Q_NB114_102, Q_NB104_114, Q_NB114_104, Q_NB105_114, Q_NB114_105, fun h0_ => absurd ((hoff 20 (by kernel_rfl)).symm.trans h0_) (by decide), fun h0_ => absurd ((hoff 21 (by kernel_rfl)).symm.trans h0_) (by decide), Q_X18_, Q_X19_⟩
          refine steps_cons ?_ ?_
          · rintro b a w' ⟨gb113, gb114, m18_, m19_, ha, Q_BK101, Q_BK102, Q_BK104, Q_BK105, Q_HB, Q_NB114_113, Q_NB113_114, Q_BK113, Q_GW113, Q_GE113, Q_NB101_113, Q_NB113_101, Q_NB102_113, Q_NB113_102, Q_NB104_113, Q_NB113_104, Q_NB105_113, Q_NB113_105, Q_BK114, Q_GW114, Q_GE114, Q_NB101_114, Q_NB114_101, Q_NB102_114, Q_NB114_102, Q_NB104_114, Q_NB114_104, Q_NB105_114, Q_NB114_105, Q_BK113_e20, Q_BK114_e21, Q_X18_, Q_X19_⟩ hb_ hon hoff
            refine ⟨_, rfl, fun K hK => ?_⟩
            have e114 : a.tmps[114]? = some (.agg #[.int .i64 a0_0, .int .i64 a0_1]) := by rw [ha]; exact putSel_on (e := (9, 114, .agg #[.int .i64 a0_0, .int .i64 a0_1])) 9 rfl rfl (hon 9 (by kernel_rfl)) rfl
            have e116 : a.tmps[116]? = some (.int .i64 x105001_2) := by rw [ha]; exact putSel_on (e := (11, 116, .int .i64 x105001_2)) 11 rfl rfl (hon 11 (by kernel_rfl)) rfl
            have e118 : a.tmps[118]? = some (.int .i64 x106001_2) := by rw [ha]; exact putSel_on (e := (13, 118, .int .i64 x106001_2)) 13 rfl rfl (hon 13 (by kernel_rfl)) rfl
            replace ha := Aside0.mk ha
            have BK101 := Aside0.mk Q_BK101
            have BK102 := Aside0.mk Q_BK102
            have BK104 := Aside0.mk Q_BK104
            have BK105 := Aside0.mk Q_BK105
            have HB := Aside0.mk Q_HB
            refine goes_ Try.func114 (by kernel_rfl) rfl #[.agg #[.int .i64 a0_0, .int .i64 a0_1], .int .i64 x105001_2, .int .i64 x106001_2] (by rfl) rfl rfl (by first | (simp only [List.map_toArray, List.map_cons, List.map_nil, Act.eval, Array.getD_eq_getD_getElem?, Option.getD_some, e114, e116, e118]; done) | (simp only [List.map_toArray, List.map_cons, List.map_nil, Act.eval, Array.getD_eq_getD_getElem?, Option.getD_some, e114, e116, e118]; rfl)) ?_
            with_reducible refine (frac_away.calls k2 a0_0 a0_1 x105001_2 x106001_2 t110 _ A38.out).mono ?_
            rintro e w54 ⟨rfl, hb⟩
            refine ⟨_, rfl, ?_⟩
            have n0_ := bkb_ BK101 hb rfl
            have n1_ := bkb_ BK102 hb rfl
            have n2_ := bkb_ BK104 hb rfl
            have n3_ := bkb_ BK105 hb rfl
            have n4_ := hbs_ HB hb rfl rfl rfl rfl
            have z_BK113 := fun (h0_ : b 18 = true) (h1_ : b 20 = false) => (show w54.heap[gb113]? = some (.cells #[.int .i64 0, .int .u64 0] 138 (0, 0)) from by first | exact (blk_below (g := gb113) (o := .cells #[.int .i64 0, .int .u64 0] 138 (0, 0)) (by (with_reducible repeat (first | refine blk_drewN ?_ _ | refine blk_drew ?_ | refine blk_alloc ?_ _)); exact (Q_BK113 h0_ h1_)) hb))
            have z_BK114 := fun (h0_ : b 19 = true) (h1_ : b 21 = false) => (show w54.heap[gb114]? = some (.cells #[.int .i64 0, .int .u64 0] 138 (0, 0)) from by first | exact (blk_below (g := gb114) (o := .cells #[.int .i64 0, .int .u64 0] 138 (0, 0)) (by (with_reducible repeat (first | refine blk_drewN ?_ _ | refine blk_drew ?_ | refine blk_alloc ?_ _)); exact (Q_BK114 h0_ h1_)) hb))
            clear BK101
            clear BK102
            clear BK104
            clear BK105
            clear HB
            have BK101 := n0_
            have BK102 := n1_
            have BK104 := n2_
            have BK105 := n3_
            have HB := n4_
            clear n0_ n1_ n2_ n3_ n4_
            (try clear hb)
            refine hK.out _ _ ⟨gb113, gb114, m18_, m19_, (by rw [ha.out]; exact putSel_upk 14 hb_ rfl rfl rfl), BK101.out, BK102.out, BK104.out, BK105.out, (by repeat (first | (with_reducible first | exact HB.out | apply below_alloc | apply pw_below_drewN | apply below_drew1 | refine below_set ?_ GE101.out | refine below_set ?_ GE102.out | refine below_set ?_ GE104.out | refine below_set ?_ GE105.out) | exact HB.out)), Q_NB114_113, Q_NB113_114, z_BK113, Q_GW113, Q_GE113, Q_NB101_113, Q_NB113_101, Q_NB102_113, Q_NB113_102, Q_NB104_113, Q_NB113_104, Q_NB105_113, Q_NB113_105, z_BK114, Q_GW114, Q_GE114, Q_NB101_114, Q_NB114_101, Q_NB102_114, Q_NB114_102, Q_NB104_114, Q_NB114_104, Q_NB105_114, Q_NB114_105, fun h0_ => absurd ((hoff 20 (by kernel_rfl)).symm.trans h0_) (by decide), fun h0_ => absurd ((hoff 21 (by kernel_rfl)).symm.trans h0_) (by decide), Q_X18_, Q_X19_⟩
          refine steps_cons ?_ ?_
          · rintro b a w' ⟨gb113, gb114, m18_, m19_, ha, Q_BK101, Q_BK102, Q_BK104, Q_BK105, Q_HB, Q_NB114_113, Q_NB113_114, Q_BK113, Q_GW113, Q_GE113, Q_NB101_113, Q_NB113_101, Q_NB102_113, Q_NB113_102, Q_NB104_113, Q_NB113_104, Q_NB105_113, Q_NB113_105, Q_BK114, Q_GW114, Q_GE114, Q_NB101_114, Q_NB114_101, Q_NB102_114, Q_NB114_102, Q_NB104_114, Q_NB114_104, Q_NB105_114, Q_NB114_105, Q_BK113_e20, Q_BK114_e21, Q_X18_, Q_X19_⟩ hb_ hon hoff
            refine ⟨_, rfl, fun K hK => ?_⟩
            have e8 : a.tmps[8]? = some (.pointer (some ⟨gb105, 0, none⟩)) := by rw [ha]; exact (putSel_off rfl).trans rfl
            replace ha := Aside0.mk ha
            have BK101 := Aside0.mk Q_BK101
            have BK102 := Aside0.mk Q_BK102
            have BK104 := Aside0.mk Q_BK104
            have BK105 := Aside0.mk Q_BK105
            have HB := Aside0.mk Q_HB
            refine value_ (w1 := w') (v := .pointer (some ⟨gb105, 0, none⟩)) (by rfl) rfl ?_ ?_
            · go_simp
              (try simp only [i64_w])
              try rfl
            refine hK.out _ _ ⟨gb113, gb114, m18_, m19_, (by rw [ha.out]; exact putSel_upk 15 hb_ rfl rfl rfl), Q_BK101, Q_BK102, Q_BK104, Q_BK105, Q_HB, Q_NB114_113, Q_NB113_114, Q_BK113, Q_GW113, Q_GE113, Q_NB101_113, Q_NB113_101, Q_NB102_113, Q_NB113_102, Q_NB104_113, Q_NB113_104, Q_NB105_113, Q_NB113_105, Q_BK114, Q_GW114, Q_GE114, Q_NB101_114, Q_NB114_101, Q_NB102_114, Q_NB114_102, Q_NB104_114, Q_NB114_104, Q_NB105_114, Q_NB114_105, fun h0_ => absurd ((hoff 20 (by kernel_rfl)).symm.trans h0_) (by decide), fun h0_ => absurd ((hoff 21 (by kernel_rfl)).symm.trans h0_) (by decide), Q_X18_, Q_X19_⟩
          refine steps_cons ?_ ?_
          · rintro b a w' ⟨gb113, gb114, m18_, m19_, ha, Q_BK101, Q_BK102, Q_BK104, Q_BK105, Q_HB, Q_NB114_113, Q_NB113_114, Q_BK113, Q_GW113, Q_GE113, Q_NB101_113, Q_NB113_101, Q_NB102_113, Q_NB113_102, Q_NB104_113, Q_NB113_104, Q_NB105_113, Q_NB113_105, Q_BK114, Q_GW114, Q_GE114, Q_NB101_114, Q_NB114_101, Q_NB102_114, Q_NB114_102, Q_NB104_114, Q_NB114_104, Q_NB105_114, Q_NB114_105, Q_BK113_e20, Q_BK114_e21, Q_X18_, Q_X19_⟩ hb_ hon hoff
            refine ⟨_, rfl, fun K hK => ?_⟩
            have e120 : a.tmps[120]? = some (.pointer (some ⟨gb105, 0, none⟩)) := by rw [ha]; exact putSel_on (e := (15, 120, .pointer (some ⟨gb105, 0, none⟩))) 15 rfl rfl (hon 15 (by kernel_rfl)) rfl
            replace ha := Aside0.mk ha
            have BK101 := Aside0.mk Q_BK101
            have BK102 := Aside0.mk Q_BK102
            have BK104 := Aside0.mk Q_BK104
            have BK105 := Aside0.mk Q_BK105
            have HB := Aside0.mk Q_HB
            have hc0_ : w'.cell? ⟨gb105, 0, none⟩ = some (.int .i64 (wrap64 (x106000_2 + (wrap64 ((wrap64 (Int.tdiv (wrap64 (a1 - x106000_2)) x106001_2)) * x106001_2))))) := bc_ BK105 0 rfl
            have hc1_ : w'.cell? ⟨gb105, 1, none⟩ = some (.int .i64 x106001_2) := bc_ BK105 1 rfl
            refine value_ (w1 := w') (v := .int .i64 (wrap64 (x106000_2 + (wrap64 ((wrap64 (Int.tdiv (wrap64 (a1 - x106000_2)) x106001_2)) * x106001_2))))) (by rfl) rfl ?_ ?_
            · go_simp
              (try simp only [i64_w])
              try rfl
            refine hK.out _ _ ⟨gb113, gb114, m18_, m19_, (by rw [ha.out]; exact putSel_upk 16 hb_ rfl rfl rfl), Q_BK101, Q_BK102, Q_BK104, Q_BK105, Q_HB, Q_NB114_113, Q_NB113_114, Q_BK113, Q_GW113, Q_GE113, Q_NB101_113, Q_NB113_101, Q_NB102_113, Q_NB113_102, Q_NB104_113, Q_NB113_104, Q_NB105_113, Q_NB113_105, Q_BK114, Q_GW114, Q_GE114, Q_NB101_114, Q_NB114_101, Q_NB102_114, Q_NB114_102, Q_NB104_114, Q_NB114_104, Q_NB105_114, Q_NB114_105, fun h0_ => absurd ((hoff 20 (by kernel_rfl)).symm.trans h0_) (by decide), fun h0_ => absurd ((hoff 21 (by kernel_rfl)).symm.trans h0_) (by decide), Q_X18_, Q_X19_⟩
          refine steps_cons ?_ ?_
          · rintro b a w' ⟨gb113, gb114, m18_, m19_, ha, Q_BK101, Q_BK102, Q_BK104, Q_BK105, Q_HB, Q_NB114_113, Q_NB113_114, Q_BK113, Q_GW113, Q_GE113, Q_NB101_113, Q_NB113_101, Q_NB102_113, Q_NB113_102, Q_NB104_113, Q_NB113_104, Q_NB105_113, Q_NB113_105, Q_BK114, Q_GW114, Q_GE114, Q_NB101_114, Q_NB114_101, Q_NB102_114, Q_NB114_102, Q_NB104_114, Q_NB114_104, Q_NB105_114, Q_NB114_105, Q_BK113_e20, Q_BK114_e21, Q_X18_, Q_X19_⟩ hb_ hon hoff
            refine ⟨_, rfl, fun K hK => ?_⟩
            have e119 : a.tmps[119]? = some (.int .i64 t110) := by rw [ha]; exact putSel_on (e := (14, 119, .int .i64 t110)) 14 rfl rfl (hon 14 (by kernel_rfl)) rfl
            have e121 : a.tmps[121]? = some (.int .i64 (wrap64 (x106000_2 + (wrap64 ((wrap64 (Int.tdiv (wrap64 (a1 - x106000_2)) x106001_2)) * x106001_2))))) := by rw [ha]; exact putSel_on (e := (16, 121, .int .i64 (wrap64 (x106000_2 + (wrap64 ((wrap64 (Int.tdiv (wrap64 (a1 - x106000_2)) x106001_2)) * x106001_2)))))) 16 rfl rfl (hon 16 (by kernel_rfl)) rfl
            replace ha := Aside0.mk ha
            have BK101 := Aside0.mk Q_BK101
            have BK102 := Aside0.mk Q_BK102
            have BK104 := Aside0.mk Q_BK104
            have BK105 := Aside0.mk Q_BK105
            have HB := Aside0.mk Q_HB
            refine goes_ Try.func107 (by kernel_rfl) rfl #[.int .i64 t110, .int .i64 (wrap64 (x106000_2 + (wrap64 ((wrap64 (Int.tdiv (wrap64 (a1 - x106000_2)) x106001_2)) * x106001_2))))] (by rfl) rfl rfl (by first | (simp only [List.map_toArray, List.map_cons, List.map_nil, Act.eval, Array.getD_eq_getD_getElem?, Option.getD_some, e119, e121]; done) | (simp only [List.map_toArray, List.map_cons, List.map_nil, Act.eval, Array.getD_eq_getD_getElem?, Option.getD_some, e119, e121]; rfl)) ?_
            with_reducible refine (num_Product.calls t110 (wrap64 (x106000_2 + (wrap64 ((wrap64 (Int.tdiv (wrap64 (a1 - x106000_2)) x106001_2)) * x106001_2)))) t111 t112 _ A39.out).mono ?_
            rintro e w55 ⟨rfl, hb⟩
            refine ⟨_, rfl, ?_⟩
            have n0_ := bkb_ BK101 hb rfl
            have n1_ := bkb_ BK102 hb rfl
            have n2_ := bkb_ BK104 hb rfl
            have n3_ := bkb_ BK105 hb rfl
            have n4_ := hbs_ HB hb rfl rfl rfl rfl
            have z_BK113 := fun (h0_ : b 18 = true) (h1_ : b 20 = false) => (show w55.heap[gb113]? = some (.cells #[.int .i64 0, .int .u64 0] 138 (0, 0)) from by first | exact (blk_below (g := gb113) (o := .cells #[.int .i64 0, .int .u64 0] 138 (0, 0)) (by (with_reducible repeat (first | refine blk_drewN ?_ _ | refine blk_drew ?_ | refine blk_alloc ?_ _)); exact (Q_BK113 h0_ h1_)) hb))
            have z_BK114 := fun (h0_ : b 19 = true) (h1_ : b 21 = false) => (show w55.heap[gb114]? = some (.cells #[.int .i64 0, .int .u64 0] 138 (0, 0)) from by first | exact (blk_below (g := gb114) (o := .cells #[.int .i64 0, .int .u64 0] 138 (0, 0)) (by (with_reducible repeat (first | refine blk_drewN ?_ _ | refine blk_drew ?_ | refine blk_alloc ?_ _)); exact (Q_BK114 h0_ h1_)) hb))
            clear BK101
            clear BK102
            clear BK104
            clear BK105
            clear HB
            have BK101 := n0_
            have BK102 := n1_
            have BK104 := n2_
            have BK105 := n3_
            have HB := n4_
            clear n0_ n1_ n2_ n3_ n4_
            (try clear hb)
            refine hK.out _ _ ⟨gb113, gb114, m18_, m19_, (by rw [ha.out]; exact putSel_upk 17 hb_ rfl rfl rfl), BK101.out, BK102.out, BK104.out, BK105.out, (by repeat (first | (with_reducible first | exact HB.out | apply below_alloc | apply pw_below_drewN | apply below_drew1 | refine below_set ?_ GE101.out | refine below_set ?_ GE102.out | refine below_set ?_ GE104.out | refine below_set ?_ GE105.out) | exact HB.out)), Q_NB114_113, Q_NB113_114, z_BK113, Q_GW113, Q_GE113, Q_NB101_113, Q_NB113_101, Q_NB102_113, Q_NB113_102, Q_NB104_113, Q_NB113_104, Q_NB105_113, Q_NB113_105, z_BK114, Q_GW114, Q_GE114, Q_NB101_114, Q_NB114_101, Q_NB102_114, Q_NB114_102, Q_NB104_114, Q_NB114_104, Q_NB105_114, Q_NB114_105, fun h0_ => absurd ((hoff 20 (by kernel_rfl)).symm.trans h0_) (by decide), fun h0_ => absurd ((hoff 21 (by kernel_rfl)).symm.trans h0_) (by decide), Q_X18_, Q_X19_⟩
          refine steps_cons ?_ ?_
          · rintro b a w' ⟨gb113, gb114, m18_, m19_, ha, Q_BK101, Q_BK102, Q_BK104, Q_BK105, Q_HB, Q_NB114_113, Q_NB113_114, Q_BK113, Q_GW113, Q_GE113, Q_NB101_113, Q_NB113_101, Q_NB102_113, Q_NB113_102, Q_NB104_113, Q_NB113_104, Q_NB105_113, Q_NB113_105, Q_BK114, Q_GW114, Q_GE114, Q_NB101_114, Q_NB114_101, Q_NB102_114, Q_NB114_102, Q_NB104_114, Q_NB114_104, Q_NB105_114, Q_NB114_105, Q_BK113_e20, Q_BK114_e21, Q_X18_, Q_X19_⟩ hb_ hon hoff
            refine ⟨_, rfl, fun K hK => ?_⟩
            replace ha := Aside0.mk ha
            have BK101 := Aside0.mk Q_BK101
            have BK102 := Aside0.mk Q_BK102
            have BK104 := Aside0.mk Q_BK104
            have BK105 := Aside0.mk Q_BK105
            have HB := Aside0.mk Q_HB
            refine bsq_ 13 #[.int .i64 0, .int .u64 0] 138 ?_
            intro gb113 hg w51 hbox hb
            have n0_ := bkb_ BK101 hb rfl
            have n1_ := bkb_ BK102 hb rfl
            have n2_ := bkb_ BK104 hb rfl
            have n3_ := bkb_ BK105 hb rfl
            have n4_ := hbs_ HB hb rfl rfl rfl rfl
            have n5_ := Aside0.mk (hbox)
            have n6_ := Aside0.mk ((by rw [hg]; exact (below_size (by exact HB.out)) : w.heap.size ≤ gb113))
            have n7_ := n6_
            have n8_ := nbl_ BK101 hg rfl
            have n9_ := nbg_ BK101 hg rfl
            have n10_ := nbl_ BK102 hg rfl
            have n11_ := nbg_ BK102 hg rfl
            have n12_ := nbl_ BK104 hg rfl
            have n13_ := nbg_ BK104 hg rfl
            have n14_ := nbl_ BK105 hg rfl
            have n15_ := nbg_ BK105 hg rfl
            have z_NB114_113 := fun (h0_ : up b 18 18 = true) (h1_ : up b 18 19 = true) => (show gb114 ≠ gb113 from ((by rw [hg]; exact Nat.ne_of_lt (by cases he_ : b 21 <;> first | exact blk_lt (Q_BK114 h1_ he_) | exact blk_lt (Q_BK114_e21 he_)) : gb114 ≠ gb113)))
            have z_NB113_114 := fun (h0_ : up b 18 18 = true) (h1_ : up b 18 19 = true) => (show gb113 ≠ gb114 from ((by rw [hg]; exact Nat.ne_of_gt (by cases he_ : b 21 <;> first | exact blk_lt (Q_BK114 h1_ he_) | exact blk_lt (Q_BK114_e21 he_)) : gb113 ≠ gb114)))
            have z_BK114 := fun (h0_ : b 19 = true) (h1_ : b 21 = false) => (show w51.heap[gb114]? = some (.cells #[.int .i64 0, .int .u64 0] 138 (0, 0)) from by first | exact (blk_below (g := gb114) (o := .cells #[.int .i64 0, .int .u64 0] 138 (0, 0)) (by (with_reducible repeat (first | refine blk_drewN ?_ _ | refine blk_drew ?_ | refine blk_alloc ?_ _)); exact (Q_BK114 h0_ h1_)) hb))
            clear BK101
            clear BK102
            clear BK104
            clear BK105
            clear HB
            have BK101 := n0_
            have BK102 := n1_
            have BK104 := n2_
            have BK105 := n3_
            have HB := n4_
            have BK113 := n5_
            have GW113 := n6_
            have GE113 := n7_
            have NB101_113 := n8_
            have NB113_101 := n9_
            have NB102_113 := n10_
            have NB113_102 := n11_
            have NB104_113 := n12_
            have NB113_104 := n13_
            have NB105_113 := n14_
            have NB113_105 := n15_
            clear n0_ n1_ n2_ n3_ n4_ n5_ n6_ n7_ n8_ n9_ n10_ n11_ n12_ n13_ n14_ n15_
            clear hb hbox hg
            refine hK.out _ _ ⟨gb113, gb114, (.pointer (some ⟨gb113, 0, none⟩)), m19_, (by rw [ha.out]; exact putSel_upk 18 hb_ rfl rfl rfl), BK101.out, BK102.out, BK104.out, BK105.out, (by repeat (first | (with_reducible first | exact HB.out | apply below_alloc | apply pw_below_drewN | apply below_drew1 | refine below_set ?_ GE101.out | refine below_set ?_ GE102.out | refine below_set ?_ GE104.out | refine below_set ?_ GE105.out | refine below_set ?_ GE113.out) | exact HB.out)), z_NB114_113, z_NB113_114, fun _ _ => BK113.out, fun _ => GW113.out, fun _ => GE113.out, fun _ => NB101_113.out, fun _ => NB113_101.out, fun _ => NB102_113.out, fun _ => NB113_102.out, fun _ => NB104_113.out, fun _ => NB113_104.out, fun _ => NB105_113.out, fun _ => NB113_105.out, z_BK114, Q_GW114, Q_GE114, Q_NB101_114, Q_NB114_101, Q_NB102_114, Q_NB114_102, Q_NB104_114, Q_NB114_104, Q_NB105_114, Q_NB114_105, fun h0_ => absurd ((hoff 20 (by kernel_rfl)).symm.trans h0_) (by decide), fun h0_ => absurd ((hoff 21 (by kernel_rfl)).symm.trans h0_) (by decide), fun _ => rfl, Q_X19_⟩
          refine steps_cons ?_ ?_
          · rintro b a w' ⟨gb113, gb114, m18_, m19_, ha, Q_BK101, Q_BK102, Q_BK104, Q_BK105, Q_HB, Q_NB114_113, Q_NB113_114, Q_BK113, Q_GW113, Q_GE113, Q_NB101_113, Q_NB113_101, Q_NB102_113, Q_NB113_102, Q_NB104_113, Q_NB113_104, Q_NB105_113, Q_NB113_105, Q_BK114, Q_GW114, Q_GE114, Q_NB101_114, Q_NB114_101, Q_NB102_114, Q_NB114_102, Q_NB104_114, Q_NB114_104, Q_NB105_114, Q_NB114_105, Q_BK113_e20, Q_BK114_e21, Q_X18_, Q_X19_⟩ hb_ hon hoff
            refine ⟨_, rfl, fun K hK => ?_⟩
            replace ha := Aside0.mk ha
            have BK101 := Aside0.mk Q_BK101
            have BK102 := Aside0.mk Q_BK102
            have BK104 := Aside0.mk Q_BK104
            have BK105 := Aside0.mk Q_BK105
            have HB := Aside0.mk Q_HB
            refine bsq_ 14 #[.int .i64 0, .int .u64 0] 138 ?_
            intro gb114 hg w51 hbox hb
            have n0_ := bkb_ BK101 hb rfl
            have n1_ := bkb_ BK102 hb rfl
            have n2_ := bkb_ BK104 hb rfl
            have n3_ := bkb_ BK105 hb rfl
            have n4_ := hbs_ HB hb rfl rfl rfl rfl
            have n5_ := Aside0.mk (hbox)
            have n6_ := Aside0.mk ((by rw [hg]; exact (below_size (by exact HB.out)) : w.heap.size ≤ gb114))
            have n7_ := n6_
            have n8_ := nbl_ BK101 hg rfl
            have n9_ := nbg_ BK101 hg rfl
            have n10_ := nbl_ BK102 hg rfl
            have n11_ := nbg_ BK102 hg rfl
            have n12_ := nbl_ BK104 hg rfl
            have n13_ := nbg_ BK104 hg rfl
            have n14_ := nbl_ BK105 hg rfl
            have n15_ := nbg_ BK105 hg rfl
            have z_NB114_113 := fun (h0_ : up b 19 18 = true) (h1_ : up b 19 19 = true) => (show gb114 ≠ gb113 from ((by rw [hg]; exact Nat.ne_of_gt (by cases he_ : b 20 <;> first | exact blk_lt (Q_BK113 h0_ he_) | exact blk_lt (Q_BK113_e20 he_)) : gb114 ≠ gb113)))
            have z_NB113_114 := fun (h0_ : up b 19 18 = true) (h1_ : up b 19 19 = true) => (show gb113 ≠ gb114 from ((by rw [hg]; exact Nat.ne_of_lt (by cases he_ : b 20 <;> first | exact blk_lt (Q_BK113 h0_ he_) | exact blk_lt (Q_BK113_e20 he_)) : gb113 ≠ gb114)))
            have z_BK113 := fun (h0_ : b 18 = true) (h1_ : b 20 = false) => (show w51.heap[gb113]? = some (.cells #[.int .i64 0, .int .u64 0] 138 (0, 0)) from by first | exact (blk_below (g := gb113) (o := .cells #[.int .i64 0, .int .u64 0] 138 (0, 0)) (by (with_reducible repeat (first | refine blk_drewN ?_ _ | refine blk_drew ?_ | refine blk_alloc ?_ _)); exact (Q_BK113 h0_ h1_)) hb))
            clear BK101
            clear BK102
            clear BK104
            clear BK105
            clear HB
            have BK101 := n0_
            have BK102 := n1_
            have BK104 := n2_
            have BK105 := n3_
            have HB := n4_
            have BK114 := n5_
            have GW114 := n6_
            have GE114 := n7_
            have NB101_114 := n8_
            have NB114_101 := n9_
            have NB102_114 := n10_
            have NB114_102 := n11_
            have NB104_114 := n12_
            have NB114_104 := n13_
            have NB105_114 := n14_
            have NB114_105 := n15_
            clear n0_ n1_ n2_ n3_ n4_ n5_ n6_ n7_ n8_ n9_ n10_ n11_ n12_ n13_ n14_ n15_
            clear hb hbox hg
            refine hK.out _ _ ⟨gb113, gb114, m18_, (.pointer (some ⟨gb114, 0, none⟩)), (by rw [ha.out]; exact putSel_upk 19 hb_ rfl rfl rfl), BK101.out, BK102.out, BK104.out, BK105.out, (by repeat (first | (with_reducible first | exact HB.out | apply below_alloc | apply pw_below_drewN | apply below_drew1 | refine below_set ?_ GE101.out | refine below_set ?_ GE102.out | refine below_set ?_ GE104.out | refine below_set ?_ GE105.out | refine below_set ?_ GE114.out) | exact HB.out)), z_NB114_113, z_NB113_114, z_BK113, Q_GW113, Q_GE113, Q_NB101_113, Q_NB113_101, Q_NB102_113, Q_NB113_102, Q_NB104_113, Q_NB113_104, Q_NB105_113, Q_NB113_105, fun _ _ => BK114.out, fun _ => GW114.out, fun _ => GE114.out, fun _ => NB101_114.out, fun _ => NB114_101.out, fun _ => NB102_114.out, fun _ => NB114_102.out, fun _ => NB104_114.out, fun _ => NB114_104.out, fun _ => NB105_114.out, fun _ => NB114_105.out, fun h0_ => absurd ((hoff 20 (by kernel_rfl)).symm.trans h0_) (by decide), fun h0_ => absurd ((hoff 21 (by kernel_rfl)).symm.trans h0_) (by decide), Q_X18_, fun _ => rfl⟩
          refine steps_cons ?_ ?_
          · rintro b a w' ⟨gb113, gb114, m18_, m19_, ha, Q_BK101, Q_BK102, Q_BK104, Q_BK105, Q_HB, Q_NB114_113, Q_NB113_114, Q_BK113, Q_GW113, Q_GE113, Q_NB101_113, Q_NB113_101, Q_NB102_113, Q_NB113_102, Q_NB104_113, Q_NB113_104, Q_NB105_113, Q_NB113_105, Q_BK114, Q_GW114, Q_GE114, Q_NB101_114, Q_NB114_101, Q_NB102_114, Q_NB114_102, Q_NB104_114, Q_NB114_104, Q_NB105_114, Q_NB114_105, Q_BK113_e20, Q_BK114_e21, Q_X18_, Q_X19_⟩ hb_ hon hoff
            refine ⟨_, rfl, fun K hK => ?_⟩
            have e13 : a.tmps[13]? = some (m18_) := by rw [ha]; exact putSel_on (e := (18, 13, m18_)) 18 rfl rfl (hon 18 (by kernel_rfl)) rfl
            rw [Q_X18_ (hon 18 (by kernel_rfl))] at e13
            have e113 : a.tmps[113]? = some (.agg #[.int .i64 t108, .int .u64 t109]) := by rw [ha]; exact putSel_on (e := (8, 113, .agg #[.int .i64 t108, .int .u64 t109])) 8 rfl rfl (hon 8 (by kernel_rfl)) rfl
            replace ha := Aside0.mk ha
            have BK101 := Aside0.mk Q_BK101
            have BK102 := Aside0.mk Q_BK102
            have BK104 := Aside0.mk Q_BK104
            have BK105 := Aside0.mk Q_BK105
            have HB := Aside0.mk Q_HB
            have NB114_113 := Aside0.mk (Q_NB114_113 (hon 18 (by kernel_rfl)) (hon 19 (by kernel_rfl)))
            have NB113_114 := Aside0.mk (Q_NB113_114 (hon 18 (by kernel_rfl)) (hon 19 (by kernel_rfl)))
            have BK113 := Aside0.mk (Q_BK113 (hon 18 (by kernel_rfl)) hb_)
            have GW113 := Aside0.mk (Q_GW113 (hon 18 (by kernel_rfl)))
            have GE113 := Aside0.mk (Q_GE113 (hon 18 (by kernel_rfl)))
            have NB101_113 := Aside0.mk (Q_NB101_113 (hon 18 (by kernel_rfl)))
            have NB113_101 := Aside0.mk (Q_NB113_101 (hon 18 (by kernel_rfl)))
            have NB102_113 := Aside0.mk (Q_NB102_113 (hon 18 (by kernel_rfl)))
            have NB113_102 := Aside0.mk (Q_NB113_102 (hon 18 (by kernel_rfl)))
            have NB104_113 := Aside0.mk (Q_NB104_113 (hon 18 (by kernel_rfl)))
            have NB113_104 := Aside0.mk (Q_NB113_104 (hon 18 (by kernel_rfl)))
            have NB105_113 := Aside0.mk (Q_NB105_113 (hon 18 (by kernel_rfl)))
            have NB113_105 := Aside0.mk (Q_NB113_105 (hon 18 (by kernel_rfl)))
            have BK114 := Aside0.mk (Q_BK114 (hon 19 (by kernel_rfl)) (hoff 21 (by kernel_rfl)))
            have GW114 := Aside0.mk (Q_GW114 (hon 19 (by kernel_rfl)))
            have GE114 := Aside0.mk (Q_GE114 (hon 19 (by kernel_rfl)))
            have NB101_114 := Aside0.mk (Q_NB101_114 (hon 19 (by kernel_rfl)))
            have NB114_101 := Aside0.mk (Q_NB114_101 (hon 19 (by kernel_rfl)))
            have NB102_114 := Aside0.mk (Q_NB102_114 (hon 19 (by kernel_rfl)))
            have NB114_102 := Aside0.mk (Q_NB114_102 (hon 19 (by kernel_rfl)))
            have NB104_114 := Aside0.mk (Q_NB104_114 (hon 19 (by kernel_rfl)))
            have NB114_104 := Aside0.mk (Q_NB114_104 (hon 19 (by kernel_rfl)))
            have NB105_114 := Aside0.mk (Q_NB105_114 (hon 19 (by kernel_rfl)))
            have NB114_105 := Aside0.mk (Q_NB114_105 (hon 19 (by kernel_rfl)))
            have hs58 : w'.cell? ⟨gb113, 0, none⟩ = some (.int .i64 0) := bc_ BK113 0 rfl
            have hfs58 := blk_frozen BK113.out 0
            have hns58_0 := NB101_113.out
            have hns58_1 := NB102_113.out
            have hns58_2 := NB104_113.out
            have hns58_3 := NB105_113.out
            have hns58_5 := NB114_113.out
            have hms58_0 := NB113_101.out
            have hms58_1 := NB113_102.out
            have hms58_2 := NB113_104.out
            have hms58_3 := NB113_105.out
            have hms58_5 := NB113_114.out
            have hs59 : w'.cell? ⟨gb113, 1, none⟩ = some (.int .u64 0) := bc_ BK113 1 rfl
            have hfs59 := blk_frozen BK113.out 1
            have hns59_0 := NB101_113.out
            have hns59_1 := NB102_113.out
            have hns59_2 := NB104_113.out
            have hns59_3 := NB105_113.out
            have hns59_5 := NB114_113.out
            have hms59_0 := NB113_101.out
            have hms59_1 := NB113_102.out
            have hms59_2 := NB113_104.out
            have hms59_3 := NB113_105.out
            have hms59_5 := NB113_114.out
            refine skip_ (w1 := ?_) (by rfl) rfl ?_ ?_
            rotate_left
            · go_simp
              rfl
            refine hK.out _ _ ⟨gb113, gb114, m18_, m19_, (by rw [ha.out]; exact putSel_none (v := undef) rfl), (by (with_reducible repeat (first | refine blk_drewN ?_ _ | refine blk_drew ?_ | refine blk_alloc ?_ _)); refine blk_far ?_ NB101_113.out _; (with_reducible repeat (first | refine blk_drewN ?_ _ | refine blk_drew ?_ | refine blk_alloc ?_ _)); refine blk_far ?_ NB101_113.out _; (with_reducible repeat (first | refine blk_drewN ?_ _ | refine blk_drew ?_ | refine blk_alloc ?_ _)); exact BK101.out), (by (with_reducible repeat (first | refine blk_drewN ?_ _ | refine blk_drew ?_ | refine blk_alloc ?_ _)); refine blk_far ?_ NB102_113.out _; (with_reducible repeat (first | refine blk_drewN ?_ _ | refine blk_drew ?_ | refine blk_alloc ?_ _)); refine blk_far ?_ NB102_113.out _; (with_reducible repeat (first | refine blk_drewN ?_ _ | refine blk_drew ?_ | refine blk_alloc ?_ _)); exact BK102.out), (by (with_reducible repeat (first | refine blk_drewN ?_ _ | refine blk_drew ?_ | refine blk_alloc ?_ _)); refine blk_far ?_ NB104_113.out _; (with_reducible repeat (first | refine blk_drewN ?_ _ | refine blk_drew ?_ | refine blk_alloc ?_ _)); refine blk_far ?_ NB104_113.out _; (with_reducible repeat (first | refine blk_drewN ?_ _ | refine blk_drew ?_ | refine blk_alloc ?_ _)); exact BK104.out), (by (with_reducible repeat (first | refine blk_drewN ?_ _ | refine blk_drew ?_ | refine blk_alloc ?_ _)); refine blk_far ?_ NB105_113.out _; (with_reducible repeat (first | refine blk_drewN ?_ _ | refine blk_drew ?_ | refine blk_alloc ?_ _)); refine blk_far ?_ NB105_113.out _; (with_reducible repeat (first | refine blk_drewN ?_ _ | refine blk_drew ?_ | refine blk_alloc ?_ _)); exact BK105.out), (by repeat (first | (with_reducible first | exact HB.out | apply below_alloc | apply pw_below_drewN | apply below_drew1 | refine below_set ?_ GE101.out | refine below_set ?_ GE102.out | refine below_set ?_ GE104.out | refine below_set ?_ GE105.out | refine below_set ?_ GE113.out | refine below_set ?_ GE114.out) | exact HB.out)), fun _ _ => NB114_113.out, fun _ _ => NB113_114.out, fun _ h1_ => absurd ((up_self b 20).symm.trans h1_) (by decide), fun _ => GW113.out, fun _ => GE113.out, fun _ => NB101_113.out, fun _ => NB113_101.out, fun _ => NB102_113.out, fun _ => NB113_102.out, fun _ => NB104_113.out, fun _ => NB113_104.out, fun _ => NB105_113.out, fun _ => NB113_105.out, fun _ _ => (by (with_reducible repeat (first | refine blk_drewN ?_ _ | refine blk_drew ?_ | refine blk_alloc ?_ _)); refine blk_far ?_ NB114_113.out _; (with_reducible repeat (first | refine blk_drewN ?_ _ | refine blk_drew ?_ | refine blk_alloc ?_ _)); refine blk_far ?_ NB114_113.out _; (with_reducible repeat (first | refine blk_drewN ?_ _ | refine blk_drew ?_ | refine blk_alloc ?_ _)); exact BK114.out), fun _ => GW114.out, fun _ => GE114.out, fun _ => NB101_114.out, fun _ => NB114_101.out, fun _ => NB102_114.out, fun _ => NB114_102.out, fun _ => NB104_114.out, fun _ => NB114_104.out, fun _ => NB105_114.out, fun _ => NB114_105.out, fun _ => (by (with_reducible repeat (first | refine blk_drewN ?_ _ | refine blk_drew ?_ | refine blk_alloc ?_ _)); refine blk_put (cs := #[.int .i64 t108, .int .u64 0]) ?_ 1 _ rfl; (with_reducible repeat (first | refine blk_drewN ?_ _ | refine blk_drew ?_ | refine blk_alloc ?_ _)); refine blk_put (cs := #[.int .i64 0, .int .u64 0]) ?_ 0 _ rfl; (with_reducible repeat (first | refine blk_drewN ?_ _ | refine blk_drew ?_ | refine blk_alloc ?_ _)); exact BK113.out), fun h0_ => absurd ((hoff 21 (by kernel_rfl)).symm.trans h0_) (by decide), Q_X18_, Q_X19_⟩
          refine steps_cons ?_ ?_
          · rintro b a w' ⟨gb113, gb114, m18_, m19_, ha, Q_BK101, Q_BK102, Q_BK104, Q_BK105, Q_HB, Q_NB114_113, Q_NB113_114, Q_BK113, Q_GW113, Q_GE113, Q_NB101_113, Q_NB113_101, Q_NB102_113, Q_NB113_102, Q_NB104_113, Q_NB113_104, Q_NB105_113, Q_NB113_105, Q_BK114, Q_GW114, Q_GE114, Q_NB101_114, Q_NB114_101, Q_NB102_114, Q_NB114_102, Q_NB104_114, Q_NB114_104, Q_NB105_114, Q_NB114_105, Q_BK113_e20, Q_BK114_e21, Q_X18_, Q_X19_⟩ hb_ hon hoff
            refine ⟨_, rfl, fun K hK => ?_⟩
            have e14 : a.tmps[14]? = some (m19_) := by rw [ha]; exact putSel_on (e := (19, 14, m19_)) 19 rfl rfl (hon 19 (by kernel_rfl)) rfl
            rw [Q_X19_ (hon 19 (by kernel_rfl))] at e14
            have e122 : a.tmps[122]? = some (.agg #[.int .i64 t111, .int .u64 t112]) := by rw [ha]; exact putSel_on (e := (17, 122, .agg #[.int .i64 t111, .int .u64 t112])) 17 rfl rfl (hon 17 (by kernel_rfl)) rfl
            replace ha := Aside0.mk ha
            have BK101 := Aside0.mk Q_BK101
            have BK102 := Aside0.mk Q_BK102
            have BK104 := Aside0.mk Q_BK104
            have BK105 := Aside0.mk Q_BK105
            have HB := Aside0.mk Q_HB
            have NB114_113 := Aside0.mk (Q_NB114_113 (hon 18 (by kernel_rfl)) (hon 19 (by kernel_rfl)))
            have NB113_114 := Aside0.mk (Q_NB113_114 (hon 18 (by kernel_rfl)) (hon 19 (by kernel_rfl)))
            have GW113 := Aside0.mk (Q_GW113 (hon 18 (by kernel_rfl)))
            have GE113 := Aside0.mk (Q_GE113 (hon 18 (by kernel_rfl)))
            have NB101_113 := Aside0.mk (Q_NB101_113 (hon 18 (by kernel_rfl)))
            have NB113_101 := Aside0.mk (Q_NB113_101 (hon 18 (by kernel_rfl)))
            have NB102_113 := Aside0.mk (Q_NB102_113 (hon 18 (by kernel_rfl)))
            have NB113_102 := Aside0.mk (Q_NB113_102 (hon 18 (by kernel_rfl)))
            have NB104_113 := Aside0.mk (Q_NB104_113 (hon 18 (by kernel_rfl)))
            have NB113_104 := Aside0.mk (Q_NB113_104 (hon 18 (by kernel_rfl)))
            have NB105_113 := Aside0.mk (Q_NB105_113 (hon 18 (by kernel_rfl)))
            have NB113_105 := Aside0.mk (Q_NB113_105 (hon 18 (by kernel_rfl)))
            have BK114 := Aside0.mk (Q_BK114 (hon 19 (by kernel_rfl)) hb_)
            have GW114 := Aside0.mk (Q_GW114 (hon 19 (by kernel_rfl)))
            have GE114 := Aside0.mk (Q_GE114 (hon 19 (by kernel_rfl)))
            have NB101_114 := Aside0.mk (Q_NB101_114 (hon 19 (by kernel_rfl)))
            have NB114_101 := Aside0.mk (Q_NB114_101 (hon 19 (by kernel_rfl)))
            have NB102_114 := Aside0.mk (Q_NB102_114 (hon 19 (by kernel_rfl)))
            have NB114_102 := Aside0.mk (Q_NB114_102 (hon 19 (by kernel_rfl)))
            have NB104_114 := Aside0.mk (Q_NB104_114 (hon 19 (by kernel_rfl)))
            have NB114_104 := Aside0.mk (Q_NB114_104 (hon 19 (by kernel_rfl)))
            have NB105_114 := Aside0.mk (Q_NB105_114 (hon 19 (by kernel_rfl)))
            have NB114_105 := Aside0.mk (Q_NB114_105 (hon 19 (by kernel_rfl)))
            have BK113 := Aside0.mk (Q_BK113_e20 (hon 20 (by kernel_rfl)))
            have hs60 : w'.cell? ⟨gb114, 0, none⟩ = some (.int .i64 0) := bc_ BK114 0 rfl
            have hfs60 := blk_frozen BK114.out 0
            have hns60_0 := NB101_114.out
            have hns60_1 := NB102_114.out
            have hns60_2 := NB104_114.out
            have hns60_3 := NB105_114.out
            have hns60_4 := NB113_114.out
            have hms60_0 := NB114_101.out
            have hms60_1 := NB114_102.out
            have hms60_2 := NB114_104.out
            have hms60_3 := NB114_105.out
            have hms60_4 := NB114_113.out
            have hs61 : w'.cell? ⟨gb114, 1, none⟩ = some (.int .u64 0) := bc_ BK114 1 rfl
            have hfs61 := blk_frozen BK114.out 1
            have hns61_0 := NB101_114.out
            have hns61_1 := NB102_114.out
            have hns61_2 := NB104_114.out
            have hns61_3 := NB105_114.out
            have hns61_4 := NB113_114.out
            have hms61_0 := NB114_101.out
            have hms61_1 := NB114_102.out
            have hms61_2 := NB114_104.out
            have hms61_3 := NB114_105.out
            have hms61_4 := NB114_113.out
            refine skip_ (w1 := ?_) (by rfl) rfl ?_ ?_
            rotate_left
            · go_simp
              rfl
            refine hK.out _ _ ⟨gb113, gb114, m18_, m19_, (by rw [ha.out]; exact putSel_none (v := undef) rfl), (by (with_reducible repeat (first | refine blk_drewN ?_ _ | refine blk_drew ?_ | refine blk_alloc ?_ _)); refine blk_far ?_ NB101_114.out _; (with_reducible repeat (first | refine blk_drewN ?_ _ | refine blk_drew ?_ | refine blk_alloc ?_ _)); refine blk_far ?_ NB101_114.out _; (with_reducible repeat (first | refine blk_drewN ?_ _ | refine blk_drew ?_ | refine blk_alloc ?_ _)); exact BK101.out), (by (with_reducible repeat (first | refine blk_drewN ?_ _ | refine blk_drew ?_ | refine blk_alloc ?_ _)); refine blk_far ?_ NB102_114.out _; (with_reducible repeat (first | refine blk_drewN ?_ _ | refine blk_drew ?_ | refine blk_alloc ?_ _)); refine blk_far ?_ NB102_114.out _; (with_reducible repeat (first | refine blk_drewN ?_ _ | refine blk_drew ?_ | refine blk_alloc ?_ _)); exact BK102.out), (by (with_reducible repeat (first | refine blk_drewN ?_ _ | refine blk_drew ?_ | refine blk_alloc ?_ _)); refine blk_far ?_ NB104_114.out _; (with_reducible repeat (first | refine blk_drewN ?_ _ | refine blk_drew ?_ | refine blk_alloc ?_ _)); refine blk_far ?_ NB104_114.out _; (with_reducible repeat (first | refine blk_drewN ?_ _ | refine blk_drew ?_ | refine blk_alloc ?_ _)); exact BK104.out), (by (with_reducible repeat (first | refine blk_drewN ?_ _ | refine blk_drew ?_ | refine blk_alloc ?_ _)); refine blk_far ?_ NB105_114.out _; (with_reducible repeat (first | refine blk_drewN ?_ _ | refine blk_drew ?_ | refine blk_alloc ?_ _)); refine blk_far ?_ NB105_114.out _; (with_reducible repeat (first | refine blk_drewN ?_ _ | refine blk_drew ?_ | refine blk_alloc ?_ _)); exact BK105.out), (by repeat (first | (with_reducible first | exact HB.out | apply below_alloc | apply pw_below_drewN | apply below_drew1 | refine below_set ?_ GE101.out | refine below_set ?_ GE102.out | refine below_set ?_ GE104.out | refine below_set ?_ GE105.out | refine below_set ?_ GE113.out | refine below_set ?_ GE114.out) | exact HB.out)), fun _ _ => NB114_113.out, fun _ _ => NB113_114.out, fun _ h1_ => absurd ((hon 20 (by kernel_rfl)).symm.trans h1_) (by decide), fun _ => GW113.out, fun _ => GE113.out, fun _ => NB101_113.out, fun _ => NB113_101.out, fun _ => NB102_113.out, fun _ => NB113_102.out, fun _ => NB104_113.out, fun _ => NB113_104.out, fun _ => NB105_113.out, fun _ => NB113_105.out, fun _ h1_ => absurd ((up_self b 21).symm.trans h1_) (by decide), fun _ => GW114.out, fun _ => GE114.out, fun _ => NB101_114.out, fun _ => NB114_101.out, fun _ => NB102_114.out, fun _ => NB114_102.out, fun _ => NB104_114.out, fun _ => NB114_104.out, fun _ => NB105_114.out, fun _ => NB114_105.out, fun _ => (by (with_reducible repeat (first | refine blk_drewN ?_ _ | refine blk_drew ?_ | refine blk_alloc ?_ _)); refine blk_far ?_ NB113_114.out _; (with_reducible repeat (first | refine blk_drewN ?_ _ | refine blk_drew ?_ | refine blk_alloc ?_ _)); refine blk_far ?_ NB113_114.out _; (with_reducible repeat (first | refine blk_drewN ?_ _ | refine blk_drew ?_ | refine blk_alloc ?_ _)); exact BK113.out), fun _ => (by (with_reducible repeat (first | refine blk_drewN ?_ _ | refine blk_drew ?_ | refine blk_alloc ?_ _)); refine blk_put (cs := #[.int .i64 t111, .int .u64 0]) ?_ 1 _ rfl; (with_reducible repeat (first | refine blk_drewN ?_ _ | refine blk_drew ?_ | refine blk_alloc ?_ _)); refine blk_put (cs := #[.int .i64 0, .int .u64 0]) ?_ 0 _ rfl; (with_reducible repeat (first | refine blk_drewN ?_ _ | refine blk_drew ?_ | refine blk_alloc ?_ _)); exact BK114.out), Q_X18_, Q_X19_⟩
          exact steps_nil
        rintro b a w61 hall ⟨gb113, gb114, m18_, m19_, ha, Q_BK101, Q_BK102, Q_BK104, Q_BK105, Q_HB, Q_NB114_113, Q_NB113_114, Q_BK113, Q_GW113, Q_GE113, Q_NB101_113, Q_NB113_101, Q_NB102_113, Q_NB113_102, Q_NB104_113, Q_NB113_104, Q_NB105_113, Q_NB113_105, Q_BK114, Q_GW114, Q_GE114, Q_NB101_114, Q_NB114_101, Q_NB102_114, Q_NB114_102, Q_NB104_114, Q_NB114_104, Q_NB105_114, Q_NB114_105, Q_BK113_e20, Q_BK114_e21, Q_X18_, Q_X19_⟩
        clear BK101 BK102 BK104 BK105 HB
        have hb0_ := hall 0 (by kernel_rfl)
        have hb1_ := hall 1 (by kernel_rfl)
        have hb2_ := hall 2 (by kernel_rfl)
        have hb3_ := hall 3 (by kernel_rfl)
        have hb4_ := hall 4 (by kernel_rfl)
        have hb5_ := hall 5 (by kernel_rfl)
        have hb6_ := hall 6 (by kernel_rfl)
        have hb7_ := hall 7 (by kernel_rfl)
        have hb8_ := hall 8 (by kernel_rfl)
        have hb9_ := hall 9 (by kernel_rfl)
        have hb10_ := hall 10 (by kernel_rfl)
        have hb11_ := hall 11 (by kernel_rfl)
        have hb12_ := hall 12 (by kernel_rfl)
        have hb13_ := hall 13 (by kernel_rfl)
        have hb14_ := hall 14 (by kernel_rfl)
        have hb15_ := hall 15 (by kernel_rfl)
        have hb16_ := hall 16 (by kernel_rfl)
        have hb17_ := hall 17 (by kernel_rfl)
        have hb18_ := hall 18 (by kernel_rfl)
        have hb19_ := hall 19 (by kernel_rfl)
        have hb20_ := hall 20 (by kernel_rfl)
        have hb21_ := hall 21 (by kernel_rfl)
        subst ha
        obtain rfl := Q_X18_ hb18_
        obtain rfl := Q_X19_ hb19_
        simp only [putSel, hb0_, hb1_, hb2_, hb3_, hb4_, hb5_, hb6_, hb7_, hb8_, hb9_, hb10_, hb11_, hb12_, hb13_, hb14_, hb15_, hb16_, hb17_, hb18_, hb19_, hb20_, hb21_, if_true, Act.put, List.setIfInBounds_toArray, List.set_cons_zero, List.set_cons_succ]
        have BK101 := Aside0.mk Q_BK101
        clear Q_BK101
        have BK102 := Aside0.mk Q_BK102
        clear Q_BK102
        have BK104 := Aside0.mk Q_BK104
        clear Q_BK104
        have BK105 := Aside0.mk Q_BK105
        clear Q_BK105
        have HB := Aside0.mk Q_HB
        clear Q_HB
        have NB114_113 := Aside0.mk (Q_NB114_113 hb18_ hb19_)
        clear Q_NB114_113
        have NB113_114 := Aside0.mk (Q_NB113_114 hb18_ hb19_)
        clear Q_NB113_114
        clear Q_BK113
        have GW113 := Aside0.mk (Q_GW113 hb18_)
        clear Q_GW113
        have GE113 := Aside0.mk (Q_GE113 hb18_)
        clear Q_GE113
        have NB101_113 := Aside0.mk (Q_NB101_113 hb18_)
        clear Q_NB101_113
        have NB113_101 := Aside0.mk (Q_NB113_101 hb18_)
        clear Q_NB113_101
        have NB102_113 := Aside0.mk (Q_NB102_113 hb18_)
        clear Q_NB102_113
        have NB113_102 := Aside0.mk (Q_NB113_102 hb18_)
        clear Q_NB113_102
        have NB104_113 := Aside0.mk (Q_NB104_113 hb18_)
        clear Q_NB104_113
        have NB113_104 := Aside0.mk (Q_NB113_104 hb18_)
        clear Q_NB113_104
        have NB105_113 := Aside0.mk (Q_NB105_113 hb18_)
        clear Q_NB105_113
        have NB113_105 := Aside0.mk (Q_NB113_105 hb18_)
        clear Q_NB113_105
        clear Q_BK114
        have GW114 := Aside0.mk (Q_GW114 hb19_)
        clear Q_GW114
        have GE114 := Aside0.mk (Q_GE114 hb19_)
        clear Q_GE114
        have NB101_114 := Aside0.mk (Q_NB101_114 hb19_)
        clear Q_NB101_114
        have NB114_101 := Aside0.mk (Q_NB114_101 hb19_)
        clear Q_NB114_101
        have NB102_114 := Aside0.mk (Q_NB102_114 hb19_)
        clear Q_NB102_114
        have NB114_102 := Aside0.mk (Q_NB114_102 hb19_)
        clear Q_NB114_102
        have NB104_114 := Aside0.mk (Q_NB104_114 hb19_)
        clear Q_NB104_114
        have NB114_104 := Aside0.mk (Q_NB114_104 hb19_)
        clear Q_NB114_104
        have NB105_114 := Aside0.mk (Q_NB105_114 hb19_)
        clear Q_NB105_114
        have NB114_105 := Aside0.mk (Q_NB114_105 hb19_)
        clear Q_NB114_105
        have BK113 := Aside0.mk (Q_BK113_e20 hb20_)
        clear Q_BK113_e20
        have BK114 := Aside0.mk (Q_BK114_e21 hb21_)
        clear Q_BK114_e21
        clear hall hb0_ hb1_ hb2_ hb3_ hb4_ hb5_ hb6_ hb7_ hb8_ hb9_ hb10_ hb11_ hb12_ hb13_ hb14_ hb15_ hb16_ hb17_ hb18_ hb19_ hb20_ hb21_
        have hnb62 := NB114_101.out
        have hnc62 := NB101_114.out
        have hnb63 := NB114_102.out
        have hnc63 := NB102_114.out
        have hnb64 := NB114_104.out
        have hnc64 := NB104_114.out
        have hnb65 := NB114_105.out
        have hnc65 := NB105_114.out
        have hnb66 := NB114_113.out
        have hnc66 := NB113_114.out
        have hcz67_0 := bc_ BK114 0 rfl
        have hcz67_1 := bc_ BK114 1 rfl
        have hfz67_0 := blk_frozen BK114.out 0
        have hfz67_1 := blk_frozen BK114.out 1
        have hnb68 := NB113_101.out
        have hnc68 := NB101_113.out
        have hnb69 := NB113_102.out
        have hnc69 := NB102_113.out
        have hnb70 := NB113_104.out
        have hnc70 := NB104_113.out
        have hnb71 := NB113_105.out
        have hnc71 := NB105_113.out
        have hcz72_0 := bc_ BK113 0 rfl
        have hcz72_1 := bc_ BK113 1 rfl
        have hfz72_0 := blk_frozen BK113.out 0
        have hfz72_1 := blk_frozen BK113.out 1
        try go_wp2_with (first | ((with_reducible refine gate_callee (f := 108) rfl ?_); refine glq_ (some 125) Try.func108 #[.agg #[.int .i64 t111, .int .u64 t112], .agg #[.int .i64 t108, .int .u64 t109]] ?_; (with_reducible refine (num_Wide_Cmp.calls k2 t111 t112 t108 t109 t115 _ A40.out).mono ?_); rintro e w73 ⟨rfl, hb⟩; refine ⟨_, rfl, ?_⟩; replace BK101 := bkb_ BK101 hb rfl; replace BK102 := bkb_ BK102 hb rfl; replace BK104 := bkb_ BK104 hb rfl; replace BK105 := bkb_ BK105 hb rfl; replace BK113 := bkb_ BK113 hb rfl; replace BK114 := bkb_ BK114 hb rfl; replace HB := hbs_ HB hb rfl rfl rfl rfl; (try clear hb); have hnb74 := NB104_101.out; have hnc74 := NB101_104.out; have hnb75 := NB104_102.out; have hnc75 := NB102_104.out; have hcz76_0 := bc_ BK104 0 rfl; have hcz76_1 := bc_ BK104 1 rfl; have hfz76_0 := blk_frozen BK104.out 0; have hfz76_1 := blk_frozen BK104.out 1; have hcz77_0 := bc_ BK105 0 rfl; have hcz77_1 := bc_ BK105 1 rfl; have hfz77_0 := blk_frozen BK105.out 0; have hfz77_1 := blk_frozen BK105.out 1; have hnb78 := NB102_101.out; have hnc78 := NB101_102.out; have hcz79_0 := bc_ BK102 0 rfl; have hcz79_1 := bc_ BK102 1 rfl; have hfz79_0 := blk_frozen BK102.out 0; have hfz79_1 := blk_frozen BK102.out 1))
        refine bodyPost_ret (results_ct rfl _ _ gb102 77 #[.int .i64 x105001_2, .int .i64 x106001_2] (0, 0) _ rfl (by (with_reducible repeat (first | refine blk_drewN ?_ _ | refine blk_drew ?_ | refine blk_alloc ?_ _)); refine blk_put (cs := #[.int .i64 x105001_2, .int .i64 0]) ?_ 1 _ rfl; (with_reducible repeat (first | refine blk_drewN ?_ _ | refine blk_drew ?_ | refine blk_alloc ?_ _)); refine blk_put (cs := #[.int .i64 0, .int .i64 0]) ?_ 0 _ rfl; (with_reducible repeat (first | refine blk_drewN ?_ _ | refine blk_drew ?_ | refine blk_alloc ?_ _)); exact BK102.out) Try.underlying77 rfl (by kernel_rfl)) rfl ?_
        exact ⟨by first | rfl | (simp [errW_none, errW_some] <;> rfl) | (simp [*, errW_none, errW_some] <;> rfl), by repeat (first | (with_reducible first | exact HB.out | apply below_alloc | apply pw_below_drewN | apply below_drew1 | refine below_set ?_ GE101.out | refine below_set ?_ GE102.out | refine below_set ?_ GE104.out | refine below_set ?_ GE105.out | refine below_set ?_ GE113.out | refine below_set ?_ GE114.out) | exact HB.out)⟩
      rw [if_neg c41] at H
      have c41b0 : decide (t115 ≤ 0) = false := decide_eq_false c41
      clear c41
      simp only [Option.some.injEq, Prod.mk.injEq] at H
      obtain ⟨rfl, rfl, rfl⟩ := H
      try go_wp2_with (first | ((with_reducible refine gate_callee (f := 47) rfl ?_); refine glq_ (some 41) Try.func47 #[.int .i64 x9_2, .int .i64 x10_2] ?_; (with_reducible refine (num_FloorDiv.calls x9_2 x10_2 t106 _ A32.out).mono ?_); rintro e w' ⟨rfl, ⟨nd, rfl⟩⟩; refine ⟨_, rfl, ?_⟩; (repeat (rw [drewN_self wr]; generalize hq_ : World.drewN wr _ = wr; have n0_ : Aside0 (wr.heap[gb101]? = some (.cells #[.int .i64 a0_0, .int .i64 a0_1] 77 (0, 0))) := ⟨by rw [← hq_]; exact BK101.out⟩; have n1_ : Aside0 (wr.heap[gb102]? = some (.cells #[.int .i64 0, .int .i64 0] 77 (0, 0))) := ⟨by rw [← hq_]; exact BK102.out⟩; have n2_ : Aside0 (wr.heap[gb104]? = some (.cells #[.int .i64 x105000_2, .int .i64 x105001_2] 150 (0, 0))) := ⟨by rw [← hq_]; exact BK104.out⟩; have n3_ : Aside0 (wr.heap[gb105]? = some (.cells #[.int .i64 x106000_2, .int .i64 x106001_2] 150 (0, 0))) := ⟨by rw [← hq_]; exact BK105.out⟩; have n4_ : Aside0 (Below w.heap.size w wr) := ⟨by rw [← hq_]; exact (by repeat (first | (with_reducible first | exact HB.out | apply below_alloc | apply pw_below_drewN | apply below_drew1 | refine below_set ?_ GE101.out | refine below_set ?_ GE102.out | refine below_set ?_ GE104.out | refine below_set ?_ GE105.out) | exact HB.out))⟩; clear BK101 BK102 BK104 BK105 HB hq_; have BK101 := n0_; have BK102 := n1_; have BK104 := n2_; have BK105 := n3_; have HB := n4_; clear n0_ n1_ n2_ n3_ n4_)); have hnb80 := NB105_101.out; have hnc80 := NB101_105.out; have hnb81 := NB105_102.out; have hnc81 := NB102_105.out; have hnb82 := NB105_104.out; have hnc82 := NB104_105.out; have hcz83_0 := bc_ BK105 0 rfl; have hcz83_1 := bc_ BK105 1 rfl; have hfz83_0 := blk_frozen BK105.out 0; have hfz83_1 := blk_frozen BK105.out 1))
      replace BK101 := Aside0.mk (blk_drew BK101.out)
      replace BK102 := Aside0.mk (blk_drew BK102.out)
      replace BK104 := Aside0.mk (blk_drew BK104.out)
      replace BK105 := Aside0.mk (blk_drew BK105.out)
      replace HB := Aside0.mk (below_drew1 HB.out)
      refine startR_ (n := 18) (fun w' => w'.cell? ⟨gb104, 0, none⟩ = some (.int .i64 x105000_2)) [15, 17] (fun w' => w'.cell? ⟨gb104, 1, none⟩ = some (.int .i64 x105001_2) ∧ w'.cell? ⟨gb105, 0, none⟩ = some (.int .i64 x106000_2) ∧ w'.cell? ⟨gb105, 1, none⟩ = some (.int .i64 x106001_2)) [17] (bm_ [0, 18]) (by kernel_rfl) rfl rfl (bc_ BK104 0 rfl) ⟨bc_ BK104 1 rfl, bc_ BK105 0 rfl, bc_ BK105 1 rfl⟩ (fun hHeld => ?_)
      generalize wr.drew = w84 at BK101 BK102 BK104 BK105 HB hHeld ⊢
      refine pureR_ (i := 0) (N := some 89) (v := ?_) (a' := ?_) (bm_ [1, 17]) rfl rfl (by kernel_rfl) (fun _ _ _ h => h) (Or.inl ⟨by rfl, ?_⟩) ?_ ?_
      rotate_left
      · intro w'
        go_simp
        with_reducible rfl
      rotate_left
      · simp only [Act.put, List.setIfInBounds_toArray, List.set_cons_zero, List.set_cons_succ, i64_w, i32_w]
        rfl
      refine pureR_ (i := 2) (N := some 91) (v := ?_) (a' := ?_) (bm_ [1, 1, 1, 15]) rfl rfl (by kernel_rfl) (fun _ _ _ h => h) (Or.inl ⟨by rfl, ?_⟩) ?_ ?_
      rotate_left
      · intro w'
        go_simp
        with_reducible rfl
      rotate_left
      · simp only [Act.put, List.setIfInBounds_toArray, List.set_cons_zero, List.set_cons_succ, i64_w, i32_w]
        rfl
      refine pureR_ (i := 3) (N := some 92) (v := ?_) (a' := ?_) (bm_ [1, 1, 2, 14]) rfl rfl (by kernel_rfl) (fun _ _ _ h => h) (Or.inl ⟨by rfl, ?_⟩) ?_ ?_
      rotate_left
      · intro w'
        go_simp
        with_reducible rfl
      rotate_left
      · simp only [Act.put, List.setIfInBounds_toArray, List.set_cons_zero, List.set_cons_succ, i64_w, i32_w]
        rfl
      refine pureR_ (i := 7) (N := some 96) (v := ?_) (a' := ?_) (bm_ [1, 1, 2, 3, 1, 10]) rfl rfl (by kernel_rfl) (fun _ _ _ h => h) (Or.inl ⟨by rfl, ?_⟩) ?_ ?_
      rotate_left
      · intro w'
        go_simp
        with_reducible rfl
      rotate_left
      · simp only [Act.put, List.setIfInBounds_toArray, List.set_cons_zero, List.set_cons_succ, i64_w, i32_w]
        rfl
      refine pureR_ (i := 9) (N := some 98) (v := ?_) (a' := ?_) (bm_ [1, 1, 2, 3, 1, 1, 1, 8]) rfl rfl (by kernel_rfl) (fun _ _ _ h => h) (Or.inl ⟨by rfl, ?_⟩) ?_ ?_
      rotate_left
      · intro w'
        go_simp
        with_reducible rfl
      rotate_left
      · simp only [Act.put, List.setIfInBounds_toArray, List.set_cons_zero, List.set_cons_succ, i64_w, i32_w]
        rfl
      refine pureR_ (i := 10) (N := some 99) (v := ?_) (a' := ?_) (bm_ [1, 1, 2, 3, 1, 1, 2, 7]) rfl rfl (by kernel_rfl) (fun _ _ _ h => h) (Or.inl ⟨by rfl, ?_⟩) ?_ ?_
      rotate_left
      · intro w'
        go_simp
        with_reducible rfl
      rotate_left
      · simp only [Act.put, List.setIfInBounds_toArray, List.set_cons_zero, List.set_cons_succ, i64_w, i32_w]
        rfl
      refine take1R_ (i := 1) (N := some 90) (v := ?_) (a' := ?_) (bm_ [4, 3, 1, 1, 2, 7]) rfl rfl (by kernel_rfl) (fun _ _ _ h => h) (Or.inl ⟨by rfl, ?_⟩) hHeld.1 ?_ ?_
      rotate_left
      · intro w' s0
        go_simp
        with_reducible rfl
      rotate_left
      · simp only [Act.put, List.setIfInBounds_toArray, List.set_cons_zero, List.set_cons_succ, i64_w, i32_w]
        rfl
      refine take2R_ (i := 4) (N := some 93) (v := ?_) (a' := ?_) (bm_ [5, 2, 1, 1, 2, 7]) rfl rfl (by kernel_rfl) (fun _ _ _ h => h) (Or.inl ⟨by rfl, ?_⟩) hHeld.2 ?_ ?_
      rotate_left
      · rintro w' ⟨s0, s1, s2⟩
        go_simp
        with_reducible rfl
      rotate_left
      · simp only [Act.put, List.setIfInBounds_toArray, List.set_cons_zero, List.set_cons_succ, i64_w, i32_w]
        rfl
      refine pureR_ (i := 5) (N := some 94) (v := ?_) (a' := ?_) (bm_ [6, 1, 1, 1, 2, 7]) rfl rfl (by kernel_rfl) (fun _ _ _ h => h) (Or.inl ⟨by rfl, ?_⟩) ?_ ?_
      rotate_left
      · intro w'
        go_simp
        with_reducible rfl
      rotate_left
      · simp only [Act.put, List.setIfInBounds_toArray, List.set_cons_zero, List.set_cons_succ, i64_w, i32_w]
        rfl
      refine pureR_ (i := 6) (N := some 95) (v := ?_) (a' := ?_) (bm_ [8, 1, 2, 7]) rfl rfl (by kernel_rfl) (fun _ _ _ h => h) (Or.inl ⟨by rfl, ?_⟩) ?_ ?_
      rotate_left
      · intro w'
        go_simp
        with_reducible rfl
      rotate_left
      · simp only [Act.put, List.setIfInBounds_toArray, List.set_cons_zero, List.set_cons_succ, i64_w, i32_w]
        rfl
      refine pureR_ (i := 14) (N := some 103) (v := ?_) (a' := ?_) (bm_ [8, 1, 2, 3, 1, 3]) rfl rfl (by kernel_rfl) (fun _ _ _ h => h) (Or.inl ⟨by rfl, ?_⟩) ?_ ?_
      rotate_left
      · intro w'
        go_simp
        with_reducible rfl
      rotate_left
      · simp only [Act.put, List.setIfInBounds_toArray, List.set_cons_zero, List.set_cons_succ, i64_w, i32_w]
        rfl
      refine take2R_ (i := 8) (N := some 97) (v := ?_) (a' := ?_) (bm_ [11, 3, 1, 3]) rfl rfl (by kernel_rfl) (fun _ _ _ h => h) (Or.inl ⟨by rfl, ?_⟩) hHeld.2 ?_ ?_
      rotate_left
      · rintro w' ⟨s0, s1, s2⟩
        go_simp
        with_reducible rfl
      rotate_left
      · simp only [Act.put, List.setIfInBounds_toArray, List.set_cons_zero, List.set_cons_succ, i64_w, i32_w]
        rfl
      refine take2R_ (i := 11) (N := some 100) (v := ?_) (a' := ?_) (bm_ [12, 2, 1, 3]) rfl rfl (by kernel_rfl) (fun _ _ _ h => h) (Or.inl ⟨by rfl, ?_⟩) hHeld.2 ?_ ?_
      rotate_left
      · rintro w' ⟨s0, s1, s2⟩
        go_simp
        with_reducible rfl
      rotate_left
      · simp only [Act.put, List.setIfInBounds_toArray, List.set_cons_zero, List.set_cons_succ, i64_w, i32_w]
        rfl
      refine pureR_ (i := 12) (N := some 101) (v := ?_) (a' := ?_) (bm_ [13, 1, 1, 3]) rfl rfl (by kernel_rfl) (fun _ _ _ h => h) (Or.inl ⟨by rfl, ?_⟩) ?_ ?_
      rotate_left
      · intro w'
        go_simp
        with_reducible rfl
      rotate_left
      · simp only [Act.put, List.setIfInBounds_toArray, List.set_cons_zero, List.set_cons_succ, i64_w, i32_w]
        rfl
      refine pureR_ (i := 13) (N := some 102) (v := ?_) (a' := ?_) (bm_ [15, 3]) rfl rfl (by kernel_rfl) (fun _ _ _ h => h) (Or.inl ⟨by rfl, ?_⟩) ?_ ?_
      rotate_left
      · intro w'
        go_simp
        with_reducible rfl
      rotate_left
      · simp only [Act.put, List.setIfInBounds_toArray, List.set_cons_zero, List.set_cons_succ, i64_w, i32_w]
        rfl
      refine oneR_ (i := 15) (N := none) (bm_ [16, 2]) rfl rfl (by kernel_rfl) (fun K hK => ?_)
      have hs85 : w84.cell? ⟨gb104, 0, none⟩ = some (.int .i64 x105000_2) := bc_ BK104 0 rfl
      have hfs85 := blk_frozen BK104.out 0
      have hns85_0 := NB101_104.out
      have hns85_1 := NB102_104.out
      have hns85_3 := NB105_104.out
      have hms85_0 := NB104_101.out
      have hms85_1 := NB104_102.out
      have hms85_3 := NB104_105.out
      refine skip_ (w1 := ?_) (by rfl) rfl ?_ ?_
      rotate_left
      · go_simp
        rfl
      refine hK.out _ _ ⟨fun hn_ => absurd (by decide) hn_, fun _ hs_ => ⟨((cell_off_ (by decide)).trans hs_.1), ((cell_far (p := ⟨gb104, _, none⟩) NB105_104.out _).trans (hs_.2.1)), ((cell_far (p := ⟨gb104, _, none⟩) NB105_104.out _).trans (hs_.2.2))⟩⟩ ?_
      clear hK K
      refine pureR_ (i := 16) (N := some 104) (v := ?_) (a' := ?_) (bm_ [17, 1]) rfl rfl (by kernel_rfl) (fun _ _ _ h => h) (Or.inl ⟨by rfl, ?_⟩) ?_ ?_
      rotate_left
      · intro w'
        go_simp
        with_reducible rfl
      rotate_left
      · simp only [Act.put, List.setIfInBounds_toArray, List.set_cons_zero, List.set_cons_succ, i64_w, i32_w]
        rfl
      refine oneR_ (i := 17) (N := none) (bm_ [18]) rfl rfl (by kernel_rfl) (fun K hK => ?_)
      have hs86 : w84.cell? ⟨gb105, 0, none⟩ = some (.int .i64 x106000_2) := bc_ BK105 0 rfl
      have hfs86 := blk_frozen BK105.out 0
      have hns86_0 := NB101_105.out
      have hns86_1 := NB102_105.out
      have hns86_2 := NB104_105.out
      have hms86_0 := NB105_101.out
      have hms86_1 := NB105_102.out
      have hms86_2 := NB105_104.out
      refine skip_ (w1 := ?_) (by rfl) rfl ?_ ?_
      rotate_left
      · go_simp
        rfl
      refine hK.out _ _ ⟨fun hn_ => absurd (by decide) hn_, fun hn_ => absurd (by decide) hn_⟩ ?_
      clear hK K
      refine doneR_ (by kernel_rfl) ?_
      try go_wp2
      have n0_ : Aside0 (((w84.setCell ⟨gb104, 0, none⟩ (.int .i64 (wrap64 (x105000_2 + (wrap64 ((wrap64 (Int.tdiv (wrap64 (a1 - x106000_2)) x106001_2)) * x105001_2)))))).setCell ⟨gb105, 0, none⟩ (.int .i64 (wrap64 (x106000_2 + (wrap64 ((wrap64 (Int.tdiv (wrap64 (a1 - x106000_2)) x106001_2)) * x106001_2)))))).heap[gb101]? = some (.cells #[.int .i64 a0_0, .int .i64 a0_1] 77 (0, 0))) := ⟨by (with_reducible repeat (first | refine blk_drewN ?_ _ | refine blk_drew ?_ | refine blk_alloc ?_ _)); refine blk_far ?_ NB101_105.out _; (with_reducible repeat (first | refine blk_drewN ?_ _ | refine blk_drew ?_ | refine blk_alloc ?_ _)); refine blk_far ?_ NB101_104.out _; (with_reducible repeat (first | refine blk_drewN ?_ _ | refine blk_drew ?_ | refine blk_alloc ?_ _)); exact BK101.out⟩
      have n1_ : Aside0 (((w84.setCell ⟨gb104, 0, none⟩ (.int .i64 (wrap64 (x105000_2 + (wrap64 ((wrap64 (Int.tdiv (wrap64 (a1 - x106000_2)) x106001_2)) * x105001_2)))))).setCell ⟨gb105, 0, none⟩ (.int .i64 (wrap64 (x106000_2 + (wrap64 ((wrap64 (Int.tdiv (wrap64 (a1 - x106000_2)) x106001_2)) * x106001_2)))))).heap[gb102]? = some (.cells #[.int .i64 0, .int .i64 0] 77 (0, 0))) := ⟨by (with_reducible repeat (first | refine blk_drewN ?_ _ | refine blk_drew ?_ | refine blk_alloc ?_ _)); refine blk_far ?_ NB102_105.out _; (with_reducible repeat (first | refine blk_drewN ?_ _ | refine blk_drew ?_ | refine blk_alloc ?_ _)); refine blk_far ?_ NB102_104.out _; (with_reducible repeat (first | refine blk_drewN ?_ _ | refine blk_drew ?_ | refine blk_alloc ?_ _)); exact BK102.out⟩
      have n2_ : Aside0 (((w84.setCell ⟨gb104, 0, none⟩ (.int .i64 (wrap64 (x105000_2 + (wrap64 ((wrap64 (Int.tdiv (wrap64 (a1 - x106000_2)) x106001_2)) * x105001_2)))))).setCell ⟨gb105, 0, none⟩ (.int .i64 (wrap64 (x106000_2 + (wrap64 ((wrap64 (Int.tdiv (wrap64 (a1 - x106000_2)) x106001_2)) * x106001_2)))))).heap[gb104]? = some (.cells #[.int .i64 (wrap64 (x105000_2 + (wrap64 ((wrap64 (Int.tdiv (wrap64 (a1 - x106000_2)) x106001_2)) * x105001_2)))), .int .i64 x105001_2] 150 (0, 0))) := ⟨by (with_reducible repeat (first | refine blk_drewN ?_ _ | refine blk_drew ?_ | refine blk_alloc ?_ _)); refine blk_far ?_ NB104_105.out _; (with_reducible repeat (first | refine blk_drewN ?_ _ | refine blk_drew ?_ | refine blk_alloc ?_ _)); refine blk_put (cs := #[.int .i64 x105000_2, .int .i64 x105001_2]) ?_ 0 _ rfl; (with_reducible repeat (first | refine blk_drewN ?_ _ | refine blk_drew ?_ | refine blk_alloc ?_ _)); exact BK104.out⟩
      have n3_ : Aside0 (((w84.setCell ⟨gb104, 0, none⟩ (.int .i64 (wrap64 (x105000_2 + (wrap64 ((wrap64 (Int.tdiv (wrap64 (a1 - x106000_2)) x106001_2)) * x105001_2)))))).setCell ⟨gb105, 0, none⟩ (.int .i64 (wrap64 (x106000_2 + (wrap64 ((wrap64 (Int.tdiv (wrap64 (a1 - x106000_2)) x106001_2)) * x106001_2)))))).heap[gb105]? = some (.cells #[.int .i64 (wrap64 (x106000_2 + (wrap64 ((wrap64 (Int.tdiv (wrap64 (a1 - x106000_2)) x106001_2)) * x106001_2)))), .int .i64 x106001_2] 150 (0, 0))) := ⟨by (with_reducible repeat (first | refine blk_drewN ?_ _ | refine blk_drew ?_ | refine blk_alloc ?_ _)); refine blk_put (cs := #[.int .i64 x106000_2, .int .i64 x106001_2]) ?_ 0 _ rfl; (with_reducible repeat (first | refine blk_drewN ?_ _ | refine blk_drew ?_ | refine blk_alloc ?_ _)); refine blk_far ?_ NB105_104.out _; (with_reducible repeat (first | refine blk_drewN ?_ _ | refine blk_drew ?_ | refine blk_alloc ?_ _)); exact BK105.out⟩
      have n4_ : Aside0 (Below w.heap.size w ((w84.setCell ⟨gb104, 0, none⟩ (.int .i64 (wrap64 (x105000_2 + (wrap64 ((wrap64 (Int.tdiv (wrap64 (a1 - x106000_2)) x106001_2)) * x105001_2)))))).setCell ⟨gb105, 0, none⟩ (.int .i64 (wrap64 (x106000_2 + (wrap64 ((wrap64 (Int.tdiv (wrap64 (a1 - x106000_2)) x106001_2)) * x106001_2))))))) := ⟨by repeat (first | (with_reducible first | exact HB.out | apply below_alloc | apply pw_below_drewN | apply below_drew1 | refine below_set ?_ GE101.out | refine below_set ?_ GE102.out | refine below_set ?_ GE104.out | refine below_set ?_ GE105.out) | exact HB.out)⟩
      (try clear BK101)
      (try clear BK102)
      (try clear BK104)
      (try clear BK105)
      (try clear HB)
      generalize ((w84.setCell ⟨gb104, 0, none⟩ (.int .i64 (wrap64 (x105000_2 + (wrap64 ((wrap64 (Int.tdiv (wrap64 (a1 - x106000_2)) x106001_2)) * x105001_2)))))).setCell ⟨gb105, 0, none⟩ (.int .i64 (wrap64 (x106000_2 + (wrap64 ((wrap64 (Int.tdiv (wrap64 (a1 - x106000_2)) x106001_2)) * x106001_2)))))) = w87 at n0_ n1_ n2_ n3_ n4_ ⊢
      have BK101 := n0_
      have BK102 := n1_
      have BK104 := n2_
      have BK105 := n3_
      have HB := n4_
      clear n0_ n1_ n2_ n3_ n4_
      replace BK101 := Aside0.mk (blk_drew BK101.out)
      replace BK102 := Aside0.mk (blk_drew BK102.out)
      replace BK104 := Aside0.mk (blk_drew BK104.out)
      replace BK105 := Aside0.mk (blk_drew BK105.out)
      replace HB := Aside0.mk (below_drew1 HB.out)
      refine start_ (n := 22) (S := fun w' => True) (ds := []) (bm_ [0, 22]) (by kernel_rfl) rfl rfl trivial (fun hHeld => ?_); refine with_tabW frac_Best.tab16 frac_Best.bits16 (fun HT_ HW_ => ?_)
      generalize w87.drew = w88 at BK101 BK102 BK104 BK105 HB hHeld ⊢
      refine inv_at [0, 1, 2, 3, 4, 5, 6, 7, 8, 9, 10, 11, 12, 13, 14, 15, 16, 17, 18, 19, 20, 21] (fun a0_ b a w' => ∃ (gb113 : Nat) (gb114 : Nat) (m18_ : Value) (m19_ : Value), a = putSel a0_ b [(0, 105, .agg #[.int .i64 a0_0, .int .i64 a0_1]), (1, 106, .pointer (some ⟨gb104, 0, none⟩)), (2, 107, .int .i64 (wrap64 (x105000_2 + (wrap64 ((wrap64 (Int.tdiv (wrap64 (a1 - x106000_2)) x106001_2)) * x105001_2))))), (3, 108, .pointer (some ⟨gb105, 0, none⟩)), (4, 109, .int .i64 (wrap64 (x106000_2 + (wrap64 ((wrap64 (Int.tdiv (wrap64 (a1 - x106000_2)) x106001_2)) * x106001_2))))), (5, 110, .int .i64 t107), (6, 111, .pointer (some ⟨gb105, 1, none⟩)), (7, 112, .int .i64 x106001_2), (8, 113, .agg #[.int .i64 t108, .int .u64 t109]), (9, 114, .agg #[.int .i64 a0_0, .int .i64 a0_1]), (10, 115, .pointer (some ⟨gb104, 1, none⟩)), (11, 116, .int .i64 x105001_2), (12, 117, .pointer (some ⟨gb105, 1, none⟩)), (13, 118, .int .i64 x106001_2), (14, 119, .int .i64 t110), (15, 120, .pointer (some ⟨gb105, 0, none⟩)), (16, 121, .int .i64 (wrap64 (x106000_2 + (wrap64 ((wrap64 (Int.tdiv (wrap64 (a1 - x106000_2)) x106001_2)) * x106001_2))))), (17, 122, .agg #[.int .i64 t111, .int .u64 t112]), (18, 13, m18_), (19, 14, m19_)] ∧ (w'.heap[gb101]? = some (.cells #[.int .i64 a0_0, .int .i64 a0_1] 77 (0, 0))) ∧ (w'.heap[gb102]? = some (.cells #[.int .i64 0, .int .i64 0] 77 (0, 0))) ∧ (w'.heap[gb104]? = some (.cells #[.int .i64 (wrap64 (x105000_2 + (wrap64 ((wrap64 (Int.tdiv (wrap64 (a1 - x106000_2)) x106001_2)) * x105001_2)))), .int .i64 x105001_2] 150 (0, 0))) ∧ (w'.heap[gb105]? = some (.cells #[.int .i64 (wrap64 (x106000_2 + (wrap64 ((wrap64 (Int.tdiv (wrap64 (a1 - x106000_2)) x106001_2)) * x106001_2)))), .int .i64 x106001_2] 150 (0, 0))) ∧ (Below w.heap.size w w') ∧ (b 18 = true → b 19 = true → gb114 ≠ gb113) ∧ (b 18 = true → b 19 = true → gb113 ≠ gb114) ∧ (b 18 = true → b 20 = false → w'.heap[gb113]? = some (.cells #[.int .i64 0, .int .u64 0] 138 (0, 0))) ∧ (b 18 = true → w.heap.size ≤ gb113) ∧ (b 18 = true → w.heap.size ≤ gb113) ∧ (b 18 = true → gb101 ≠ gb113) ∧ (b 18 = true → gb113 ≠ gb101) ∧ (b 18 = true → gb102 ≠ gb113) ∧ (b 18 = true → gb113 ≠ gb102) ∧ (b 18 = true → gb104 ≠ gb113) ∧ (b 18 = true → gb113 ≠ gb104) ∧ (b 18 = true → gb105 ≠ gb113) ∧ (b 18 = true → gb113 ≠ gb105) ∧ (b 19 = true → b 21 = false → w'.heap[gb114]? = some (.cells #[.int .i64 0, .int .u64 0] 138 (0, 0))) ∧ (b 19 = true → w.heap.size ≤ gb114) ∧ (b 19 = true → w.heap.size ≤ gb114) ∧ (b 19 = true → gb101 ≠ gb114) ∧ (b 19 = true → gb114 ≠ gb101) ∧ (b 19 = true → gb102 ≠ gb114) ∧ (b 19 = true → gb114 ≠ gb102) ∧ (b 19 = true → gb104 ≠ gb114) ∧ (b 19 = true → gb114 ≠ gb104) ∧ (b 19 = true → gb105 ≠ gb114) ∧ (b 19 = true → gb114 ≠ gb105) ∧ (b 20 = true → w'.heap[gb113]? = some (.cells #[.int .i64 t108, .int .u64 t109] 138 (0, 0))) ∧ (b 21 = true → w'.heap[gb114]? = some (.cells #[.int .i64 t111, .int .u64 t112] 138 (0, 0))) ∧ (b 18 = true → (m18_ : Value) = .pointer (some ⟨gb113, 0, none⟩)) ∧ (b 19 = true → (m19_ : Value) = .pointer (some ⟨gb114, 0, none⟩))) HT_.out HW_.out (by kernel_rfl) (by kernel_rfl) ?_ ?_ ?_
      · exact ⟨0, 0, .bool false, .bool false, by simp only [putSel, Bool.false_eq_true, if_false], BK101.out, BK102.out, BK104.out, BK105.out, HB.out, fun h_ => absurd h_ (by decide), fun h_ => absurd h_ (by decide), fun h_ => absurd h_ (by decide), fun h_ => absurd h_ (by decide), fun h_ => absurd h_ (by decide), fun h_ => absurd h_ (by decide), fun h_ => absurd h_ (by decide), fun h_ => absurd h_ (by decide), fun h_ => absurd h_ (by decide), fun h_ => absurd h_ (by decide), fun h_ => absurd h_ (by decide), fun h_ => absurd h_ (by decide), fun h_ => absurd h_ (by decide), fun h_ => absurd h_ (by decide), fun h_ => absurd h_ (by decide), fun h_ => absurd h_ (by decide), fun h_ => absurd h_ (by decide), fun h_ => absurd h_ (by decide), fun h_ => absurd h_ (by decide), fun h_ => absurd h_ (by decide), fun h_ => absurd h_ (by decide), fun h_ => absurd h_ (by decide), fun h_ => absurd h_ (by decide), fun h_ => absurd h_ (by decide), fun h_ => absurd h_ (by decide), fun h_ => absurd h_ (by decide), fun h_ => absurd h_ (by decide), fun h_ => absurd h_ (by decide)⟩
      · skip
        clear BK101 BK102 BK104 BK105 HB
        refine steps_cons ?_ ?_
        · rintro b a w' ⟨gb113, gb114, m18_, m19_, ha, Q_BK101, Q_BK102, Q_BK104, Q_BK105, Q_HB, Q_NB114_113, Q_NB113_114, Q_BK113, Q_GW113, Q_GE113, Q_NB101_113, Q_NB113_101, Q_NB102_113, Q_NB113_102, Q_NB104_113, Q_NB113_104, Q_NB105_113, Q_NB113_105, Q_BK114, Q_GW114, Q_GE114, Q_NB101_114, Q_NB114_101, Q_NB102_114, Q_NB114_102, Q_NB104_114, Q_NB114_104, Q_NB105_114, Q_NB114_105, Q_BK113_e20, Q_BK114_e21, Q_X18_, Q_X19_⟩ hb_ hon hoff
          refine ⟨_, rfl, fun K hK => ?_⟩
          have e2 : a.tmps[2]? = some (.pointer (some ⟨gb101, 0, none⟩)) := by rw [ha]; exact (putSel_off rfl).trans rfl
          replace ha := Aside0.mk ha
          have BK101 := Aside0.mk Q_BK101
          have BK102 := Aside0.mk Q_BK102
          have BK104 := Aside0.mk Q_BK104
          have BK105 := Aside0.mk Q_BK105
          have HB := Aside0.mk Q_HB
          have hc0_ : w'.cell? ⟨gb101, 0, none⟩ = some (.int .i64 a0_0) := bc_ BK101 0 rfl
          have hc1_ : w'.cell? ⟨gb101, 1, none⟩ = some (.int .i64 a0_1) := bc_ BK101 1 rfl
          refine value_ (w1 := w') (v := .agg #[.int .i64 a0_0, .int .i64 a0_1]) (by rfl) rfl ?_ ?_
          · go_simp
            (try simp only [i64_w])
            try rfl
          refine hK.out _ _ ⟨gb113, gb114, m18_, m19_, (by rw [ha.out]; exact putSel_upk 0 hb_ rfl rfl rfl), Q_BK101, Q_BK102, Q_BK104, Q_BK105, Q_HB, Q_NB114_113, Q_NB113_114, Q_BK113, Q_GW113, Q_GE113, Q_NB101_113, Q_NB113_101, Q_NB102_113, Q_NB113_102, Q_NB104_113, Q_NB113_104, Q_NB105_113, Q_NB113_105, Q_BK114, Q_GW114, Q_GE114, Q_NB101_114, Q_NB114_101, Q_NB102_114, Q_NB114_102, Q_NB104_114, Q_NB114_104, Q_NB105_114, Q_NB114_105, fun h0_ => absurd ((hoff 20 (by kernel_rfl)).symm.trans h0_) (by decide), fun h0_ => absurd ((hoff 21 (by kernel_rfl)).symm.trans h0_) (by decide), Q_X18_, Q_X19_⟩
        refine steps_cons ?_ ?_
        · rintro b a w' ⟨gb113, gb114, m18_, m19_, ha, Q_BK101, Q_BK102, Q_BK104, Q_BK105, Q_HB, Q_NB114_113, Q_NB113_114, Q_BK113, Q_GW113, Q_GE113, Q_NB101_113, Q_NB113_101, Q_NB102_113, Q_NB113_102, Q_NB104_113, Q_NB113_104, Q_NB105_113, Q_NB113_105, Q_BK114, Q_GW114, Q_GE114, Q_NB101_114, Q_NB114_101, Q_NB102_114, Q_NB114_102, Q_NB104_114, Q_NB114_104, Q_NB105_114, Q_NB114_105, Q_BK113_e20, Q_BK114_e21, Q_X18_, Q_X19_⟩ hb_ hon hoff
          refine ⟨_, rfl, fun K hK => ?_⟩
          have e7 : a.tmps[7]? = some (.pointer (some ⟨gb104, 0, none⟩)) := by rw [ha]; exact (putSel_off rfl).trans rfl
          replace ha := Aside0.mk ha
          have BK101 := Aside0.mk Q_BK101
          have BK102 := Aside0.mk Q_BK102
          have BK104 := Aside0.mk Q_BK104
          have BK105 := Aside0.mk Q_BK105
          have HB := Aside0.mk Q_HB
          refine value_ (w1 := w') (v := .pointer (some ⟨gb104, 0, none⟩)) (by rfl) rfl ?_ ?_
          · go_simp
            (try simp only [i64_w])
            try rfl
          refine hK.out _ _ ⟨gb113, gb114, m18_, m19_, (by rw [ha.out]; exact putSel_upk 1 hb_ rfl rfl rfl), Q_BK101, Q_BK102, Q_BK104, Q_BK105, Q_HB, Q_NB114_113, Q_NB113_114, Q_BK113, Q_GW113, Q_GE113, Q_NB101_113, Q_NB113_101, Q_NB102_113, Q_NB113_102, Q_NB104_113, Q_NB113_104, Q_NB105_113, Q_NB113_105, Q_BK114, Q_GW114, Q_GE114, Q_NB101_114, Q_NB114_101, Q_NB102_114, Q_NB114_102, Q_NB104_114, Q_NB114_104, Q_NB105_114, Q_NB114_105, fun h0_ => absurd ((hoff 20 (by kernel_rfl)).symm.trans h0_) (by decide), fun h0_ => absurd ((hoff 21 (by kernel_rfl)).symm.trans h0_) (by decide), Q_X18_, Q_X19_⟩
        refine steps_cons ?_ ?_
        · rintro b a w' ⟨gb113, gb114, m18_, m19_, ha, Q_BK101, Q_BK102, Q_BK104, Q_BK105, Q_HB, Q_NB114_113, Q_NB113_114, Q_BK113, Q_GW113, Q_GE113, Q_NB101_113, Q_NB113_101, Q_NB102_113, Q_NB113_102, Q_NB104_113, Q_NB113_104, Q_NB105_113, Q_NB113_105, Q_BK114, Q_GW114, Q_GE114, Q_NB101_114, Q_NB114_101, Q_NB102_114, Q_NB114_102, Q_NB104_114, Q_NB114_104, Q_NB105_114, Q_NB114_105, Q_BK113_e20, Q_BK114_e21, Q_X18_, Q_X19_⟩ hb_ hon hoff
          refine ⟨_, rfl, fun K hK => ?_⟩
          have e106 : a.tmps[106]? = some (.pointer (some ⟨gb104, 0, none⟩)) := by rw [ha]; exact putSel_on (e := (1, 106, .pointer (some ⟨gb104, 0, none⟩))) 1 rfl rfl (hon 1 (by kernel_rfl)) rfl
          replace ha := Aside0.mk ha
          have BK101 := Aside0.mk Q_BK101
          have BK102 := Aside0.mk Q_BK102
          have BK104 := Aside0.mk Q_BK104
          have BK105 := Aside0.mk Q_BK105
          have HB := Aside0.mk Q_HB
          have hc0_ : w'.cell? ⟨gb104, 0, none⟩ = some (.int .i64 (wrap64 (x105000_2 + (wrap64 ((wrap64 (Int.tdiv (wrap64 (a1 - x106000_2)) x106001_2)) * x105001_2))))) := bc_ BK104 0 rfl
          have hc1_ : w'.cell? ⟨gb104, 1, none⟩ = some (.int .i64 x105001_2) := bc_ BK104 1 rfl
          refine value_ (w1 := w') (v := .int .i64 (wrap64 (x105000_2 + (wrap64 ((wrap64 (Int.tdiv (wrap64 (a1 - x106000_2)) x106001_2)) * x105001_2))))) (by rfl) rfl ?_ ?_
          · go_simp
            (try simp only [i64_w])
            try rfl
          refine hK.out _ _ ⟨gb113, gb114, m18_, m19_, (by rw [ha.out]; exact putSel_upk 2 hb_ rfl rfl rfl), Q_BK101, Q_BK102, Q_BK104, Q_BK105, Q_HB, Q_NB114_113, Q_NB113_114, Q_BK113, Q_GW113, Q_GE113, Q_NB101_113, Q_NB113_101, Q_NB102_113, Q_NB113_102, Q_NB104_113, Q_NB113_104, Q_NB105_113, Q_NB113_105, Q_BK114, Q_GW114, Q_GE114, Q_NB101_114, Q_NB114_101, Q_NB102_114, Q_NB114_102, Q_NB104_114, Q_NB114_104, Q_NB105_114, Q_NB114_105, fun h0_ => absurd ((hoff 20 (by kernel_rfl)).symm.trans h0_) (by decide), fun h0_ => absurd ((hoff 21 (by kernel_rfl)).symm.trans h0_) (by decide), Q_X18_, Q_X19_⟩
        refine steps_cons ?_ ?_
        · rintro b a w' ⟨gb113, gb114, m18_, m19_, ha, Q_BK101, Q_BK102, Q_BK104, Q_BK105, Q_HB, Q_NB114_113, Q_NB113_114, Q_BK113, Q_GW113, Q_GE113, Q_NB101_113, Q_NB113_101, Q_NB102_113, Q_NB113_102, Q_NB104_113, Q_NB113_104, Q_NB105_113, Q_NB113_105, Q_BK114, Q_GW114, Q_GE114, Q_NB101_114, Q_NB114_101, Q_NB102_114, Q_NB114_102, Q_NB104_114, Q_NB114_104, Q_NB105_114, Q_NB114_105, Q_BK113_e20, Q_BK114_e21, Q_X18_, Q_X19_⟩ hb_ hon hoff
          refine ⟨_, rfl, fun K hK => ?_⟩
          have e8 : a.tmps[8]? = some (.pointer (some ⟨gb105, 0, none⟩)) := by rw [ha]; exact (putSel_off rfl).trans rfl
          replace ha := Aside0.mk ha
          have BK101 := Aside0.mk Q_BK101
          have BK102 := Aside0.mk Q_BK102
          have BK104 := Aside0.mk Q_BK104
          have BK105 := Aside0.mk Q_BK105
          have HB := Aside0.mk Q_HB
          refine value_ (w1 := w') (v := .pointer (some ⟨gb105, 0, none⟩)) (by rfl) rfl ?_ ?_
          · go_simp
            (try simp only [i64_w])
            try rfl
          refine hK.out _ _ ⟨gb113, gb114, m18_, m19_, (by rw [ha.out]; exact putSel_upk 3 hb_ rfl rfl rfl), Q_BK101, Q_BK102, Q_BK104, Q_BK105, Q_HB, Q_NB114_113, Q_NB113_114, Q_BK113, Q_GW113, Q_GE113, Q_NB101_113, Q_NB113_101, Q_NB102_113, Q_NB113_102, Q_NB104_113, Q_NB113_104, Q_NB105_113, Q_NB113_105, Q_BK114, Q_GW114, Q_GE114, Q_NB101_114, Q_NB114_101, Q_NB102_114, Q_NB114_102, Q_NB104_114, Q_NB114_104, Q_NB105_114, Q_NB114_105, fun h0_ => absurd ((hoff 20 (by kernel_rfl)).symm.trans h0_) (by decide), fun h0_ => absurd ((hoff 21 (by kernel_rfl)).symm.trans h0_) (by decide), Q_X18_, Q_X19_⟩
        refine steps_cons ?_ ?_
        · rintro b a w' ⟨gb113, gb114, m18_, m19_, ha, Q_BK101, Q_BK102, Q_BK104, Q_BK105, Q_HB, Q_NB114_113, Q_NB113_114, Q_BK113, Q_GW113, Q_GE113, Q_NB101_113, Q_NB113_101, Q_NB102_113, Q_NB113_102, Q_NB104_113, Q_NB113_104, Q_NB105_113, Q_NB113_105, Q_BK114, Q_GW114, Q_GE114, Q_NB101_114, Q_NB114_101, Q_NB102_114, Q_NB114_102, Q_NB104_114, Q_NB114_104, Q_NB105_114, Q_NB114_105, Q_BK113_e20, Q_BK114_e21, Q_X18_, Q_X19_⟩ hb_ hon hoff
          refine ⟨_, rfl, fun K hK => ?_⟩
          have e108 : a.tmps[108]? = some (.pointer (some ⟨gb105, 0, none⟩)) := by rw [ha]; exact putSel_on (e := (3, 108, .pointer (some ⟨gb105, 0, none⟩))) 3 rfl rfl (hon 3 (by kernel_rfl)) rfl
          replace ha := Aside0.mk ha
          have BK101 := Aside0.mk Q_BK101
          have BK102 := Aside0.mk Q_BK102
          have BK104 := Aside0.mk Q_BK104
          have BK105 := Aside0.mk Q_BK105
          have HB := Aside0.mk Q_HB
          have hc0_ : w'.cell? ⟨gb105, 0, none⟩ = some (.int .i64 (wrap64 (x106000_2 + (wrap64 ((wrap64 (Int.tdiv (wrap64 (a1 - x106000_2)) x106001_2)) * x106001_2))))) := bc_ BK105 0 rfl
          have hc1_ : w'.cell? ⟨gb105, 1, none⟩ = some (.int .i64 x106001_2) := bc_ BK105 1 rfl
          refine value_ (w1 := w') (v := .int .i64 (wrap64 (x106000_2 + (wrap64 ((wrap64 (Int.tdiv (wrap64 (a1 - x106000_2)) x106001_2)) * x106001_2))))) (by rfl) rfl ?_ ?_
          · go_simp
            (try simp only [i64_w])
            try rfl
          refine hK.out _ _ ⟨gb113, gb114, m18_, m19_, (by rw [ha.out]; exact putSel_upk 4 hb_ rfl rfl rfl), Q_BK101, Q_BK102, Q_BK104, Q_BK105, Q_HB, Q_NB114_113, Q_NB113_114, Q_BK113, Q_GW113, Q_GE113, Q_NB101_113, Q_NB113_101, Q_NB102_113, Q_NB113_102, Q_NB104_113, Q_NB113_104, Q_NB105_113, Q_NB113_105, Q_BK114, Q_GW114, Q_GE114, Q_NB101_114, Q_NB114_101, Q_NB102_114, Q_NB114_102, Q_NB104_114, Q_NB114_104, Q_NB105_114, Q_NB114_105, fun h0_ => absurd ((hoff 20 (by kernel_rfl)).symm.trans h0_) (by decide), fun h0_ => absurd ((hoff 21 (by kernel_rfl)).symm.trans h0_) (by decide), Q_X18_, Q_X19_⟩
        refine steps_cons ?_ ?_
        · rintro b a w' ⟨gb113, gb114, m18_, m19_, ha, Q_BK101, Q_BK102, Q_BK104, Q_BK105, Q_HB, Q_NB114_113, Q_NB113_114, Q_BK113, Q_GW113, Q_GE113, Q_NB101_113, Q_NB113_101, Q_NB102_113, Q_NB113_102, Q_NB104_113, Q_NB113_104, Q_NB105_113, Q_NB113_105, Q_BK114, Q_GW114, Q_GE114, Q_NB101_114, Q_NB114_101, Q_NB102_114, Q_NB114_102, Q_NB104_114, Q_NB114_104, Q_NB105_114, Q_NB114_105, Q_BK113_e20, Q_BK114_e21, Q_X18_, Q_X19_⟩ hb_ hon hoff
          refine ⟨_, rfl, fun K hK => ?_⟩
          have e105 : a.tmps[105]? = some (.agg #[.int .i64 a0_0, .int .i64 a0_1]) := by rw [ha]; exact putSel_on (e := (0, 105, .agg #[.int .i64 a0_0, .int .i64 a0_1])) 0 rfl rfl (hon 0 (by kernel_rfl)) rfl
          have e107 : a.tmps[107]? = some (.int .i64 (wrap64 (x105000_2 + (wrap64 ((wrap64 (Int.tdiv (wrap64 (a1 - x106000_2)) x106001_2)) * x105001_2))))) := by rw [ha]; exact putSel_on (e := (2, 107, .int .i64 (wrap64 (x105000_2 + (wrap64 ((wrap64 (Int.tdiv (wrap64 (a1 - x106000_2)) x106001_2)) * x105001_2)))))) 2 rfl rfl (hon 2 (by kernel_rfl)) rfl
          have e109 : a.tmps[109]? = some (.int .i64 (wrap64 (x106000_2 + (wrap64 ((wrap64 (Int.tdiv (wrap64 (a1 - x106000_2)) x106001_2)) * x106001_2))))) := by rw [ha]; exact putSel_on (e := (4, 109, .int .i64 (wrap64 (x106000_2 + (wrap64 ((wrap64 (Int.tdiv (wrap64 (a1 - x106000_2)) x106001_2)) * x106001_2)))))) 4 rfl rfl (hon 4 (by kernel_rfl)) rfl
          replace ha := Aside0.mk ha
          have BK101 := Aside0.mk Q_BK101
          have BK102 := Aside0.mk Q_BK102
          have BK104 := Aside0.mk Q_BK104
          have BK105 := Aside0.mk Q_BK105
          have HB := Aside0.mk Q_HB
          refine goes_ Try.func114 (by kernel_rfl) rfl #[.agg #[.int .i64 a0_0, .int .i64 a0_1], .int .i64 (wrap64 (x105000_2 + (wrap64 ((wrap64 (Int.tdiv (wrap64 (a1 - x106000_2)) x106001_2)) * x105001_2)))), .int .i64 (wrap64 (x106000_2 + (wrap64 ((wrap64 (Int.tdiv (wrap64 (a1 - x106000_2)) x106001_2)) * x106001_2))))] (by rfl) rfl rfl (by first | (simp only [List.map_toArray, List.map_cons, List.map_nil, Act.eval, Array.getD_eq_getD_getElem?, Option.getD_some, e105, e107, e109]; done) | (simp only [List.map_toArray, List.map_cons, List.map_nil, Act.eval, Array.getD_eq_getD_getElem?, Option.getD_some, e105, e107, e109]; rfl)) ?_
          with_reducible refine (frac_away.calls k2 a0_0 a0_1 (wrap64 (x105000_2 + (wrap64 ((wrap64 (Int.tdiv (wrap64 (a1 - x106000_2)) x106001_2)) * x105001_2)))) (wrap64 (x106000_2 + (wrap64 ((wrap64 (Int.tdiv (wrap64 (a1 - x106000_2)) x106001_2)) * x106001_2)))) t107 _ A36.out).mono ?_
          rintro e w89 ⟨rfl, hb⟩
          refine ⟨_, rfl, ?_⟩
          have n0_ := bkb_ BK101 hb rfl
          have n1_ := bkb_ BK102 hb rfl
          have n2_ := bkb_ BK104 hb rfl
          have n3_ := bkb_ BK105 hb rfl
          have n4_ := hbs_ HB hb rfl rfl rfl rfl
          have z_BK113 := fun (h0_ : b 18 = true) (h1_ : b 20 = false) => (show w89.heap[gb113]? = some (.cells #[.int .i64 0, .int .u64 0] 138 (0, 0)) from by first | exact (blk_below (g := gb113) (o := .cells #[.int .i64 0, .int .u64 0] 138 (0, 0)) (by (with_reducible repeat (first | refine blk_drewN ?_ _ | refine blk_drew ?_ | refine blk_alloc ?_ _)); exact (Q_BK113 h0_ h1_)) hb))
          have z_BK114 := fun (h0_ : b 19 = true) (h1_ : b 21 = false) => (show w89.heap[gb114]? = some (.cells #[.int .i64 0, .int .u64 0] 138 (0, 0)) from by first | exact (blk_below (g := gb114) (o := .cells #[.int .i64 0, .int .u64 0] 138 (0, 0)) (by (with_reducible repeat (first | refine blk_drewN ?_ _ | refine blk_drew ?_ | refine blk_alloc ?_ _)); exact (Q_BK114 h0_ h1_)) hb))
          clear BK101
          clear BK102
          clear BK104
          clear BK105
          clear HB
          have BK101 := n0_
          have BK102 := n1_
          have BK104 := n2_
          have BK105 := n3_
          have HB := n4_
          clear n0_ n1_ n2_ n3_ n4_
          (try clear hb)
          refine hK.out _ _ ⟨gb113, gb114, m18_, m19_, (by rw [ha.out]; exact putSel_upk 5 hb_ rfl rfl rfl), BK101.out, BK102.out, BK104.out, BK105.out, (by repeat (first | (with_reducible first | exact HB.out | apply below_alloc | apply pw_below_drewN | apply below_drew1 | refine below_set ?_ GE101.out | refine below_set ?_ GE102.out | refine below_set ?_ GE104.out | refine below_set ?_ GE105.out) | exact HB.out)), Q_NB114_113, Q_NB113_114, z_BK113, Q_GW113, Q_GE113, Q_NB101_113, Q_NB113_101, Q_NB102_113, Q_NB113_102, Q_NB104_113, Q_NB113_104, Q_NB105_113, Q_NB113_105, z_BK114, Q_GW114, Q_GE114, Q_NB101_114, Q_NB114_101, Q_NB102_114, Q_NB114_102, Q_NB104_114, Q_NB114_104, Q_NB105_114, Q_NB114_105, fun h0_ => absurd ((hoff 20 (by kernel_rfl)).symm.trans h0_) (by decide), fun h0_ => absurd ((hoff 21 (by kernel_rfl)).symm.trans h0_) (by decide), Q_X18_, Q_X19_⟩
        refine steps_cons ?_ ?_
        · rintro b a w' ⟨gb113, gb114, m18_, m19_, ha, Q_BK101, Q_BK102, Q_BK104, Q_BK105, Q_HB, Q_NB114_113, Q_NB113_114, Q_BK113, Q_GW113, Q_GE113, Q_NB101_113, Q_NB113_101, Q_NB102_113, Q_NB113_102, Q_NB104_113, Q_NB113_104, Q_NB105_113, Q_NB113_105, Q_BK114, Q_GW114, Q_GE114, Q_NB101_114, Q_NB114_101, Q_NB102_114, Q_NB114_102, Q_NB104_114, Q_NB114_104, Q_NB105_114, Q_NB114_105, Q_BK113_e20, Q_BK114_e21, Q_X18_, Q_X19_⟩ hb_ hon hoff
          refine ⟨_, rfl, fun K hK => ?_⟩
          have e8 : a.tmps[8]? = some (.pointer (some ⟨gb105, 0, none⟩)) := by rw [ha]; exact (putSel_off rfl).trans rfl
          replace ha := Aside0.mk ha
          have BK101 := Aside0.mk Q_BK101
          have BK102 := Aside0.mk Q_BK102
          have BK104 := Aside0.mk Q_BK104
          have BK105 := Aside0.mk Q_BK105
          have HB := Aside0.mk Q_HB
          refine value_ (w1 := w') (v := .pointer (some ⟨gb105, 1, none⟩)) (by rfl) rfl ?_ ?_
          · go_simp
            (try simp only [i64_w])
            try rfl
          refine hK.out _ _ ⟨gb113, gb114, m18_, m19_, (by rw [ha.out]; exact putSel_upk 6 hb_ rfl rfl rfl), Q_BK101, Q_BK102, Q_BK104, Q_BK105, Q_HB, Q_NB114_113, Q_NB113_114, Q_BK113, Q_GW113, Q_GE113, Q_NB101_113, Q_NB113_101, Q_NB102_113, Q_NB113_102, Q_NB104_113, Q_NB113_104, Q_NB105_113, Q_NB113_105, Q_BK114, Q_GW114, Q_GE114, Q_NB101_114, Q_NB114_101, Q_NB102_114, Q_NB114_102, Q_NB104_114, Q_NB114_104, Q_NB105_114, Q_NB114_105, fun h0_ => absurd ((hoff 20 (by kernel_rfl)).symm.trans h0_) (by decide), fun h0_ => absurd ((hoff 21 (by kernel_rfl)).symm.trans h0_) (by decide), Q_X18_, Q_X19_⟩
        refine steps_cons ?_ ?_
        · rintro b a w' ⟨gb113, gb114, m18_, m19_, ha, Q_BK101, Q_BK102, Q_BK104, Q_BK105, Q_HB, Q_NB114_113, Q_NB113_114, Q_BK113, Q_GW113, Q_GE113, Q_NB101_113, Q_NB113_101, Q_NB102_113, Q_NB113_102, Q_NB104_113, Q_NB113_104, Q_NB105_113, Q_NB113_105, Q_BK114, Q_GW114, Q_GE114, Q_NB101_114, Q_NB114_101, Q_NB102_114, Q_NB114_102, Q_NB104_114, Q_NB114_104, Q_NB105_114, Q_NB114_105, Q_BK113_e20, Q_BK114_e21, Q_X18_, Q_X19_⟩ hb_ hon hoff
          refine ⟨_, rfl, fun K hK => ?_⟩
          have e111 : a.tmps[111]? = some (.pointer (some ⟨gb105, 1, none⟩)) := by rw [ha]; exact putSel_on (e := (6, 111, .pointer (some ⟨gb105, 1, none⟩))) 6 rfl rfl (hon 6 (by kernel_rfl)) rfl
          replace ha := Aside0.mk ha
          have BK101 := Aside0.mk Q_BK101
          have BK102 := Aside0.mk Q_BK102
          have BK104 := Aside0.mk Q_BK104
          have BK105 := Aside0.mk Q_BK105
          have HB := Aside0.mk Q_HB
          have hc0_ : w'.cell? ⟨gb105, 0, none⟩ = some (.int .i64 (wrap64 (x106000_2 + (wrap64 ((wrap64 (Int.tdiv (wrap64 (a1 - x106000_2)) x106001_2)) * x106001_2))))) := bc_ BK105 0 rfl
          have hc1_ : w'.cell? ⟨gb105, 1, none⟩ = some (.int .i64 x106001_2) := bc_ BK105 1 rfl
          refine value_ (w1 := w') (v := .int .i64 x106001_2) (by rfl) rfl ?_ ?_
          · go_simp
            (try simp only [i64_w])
            try rfl
          refine hK.out _ _ ⟨gb113, gb114, m18_, m19_, (by rw [ha.out]; exact putSel_upk 7 hb_ rfl rfl rfl), Q_BK101, Q_BK102, Q_BK104, Q_BK105, Q_HB, Q_NB114_113, Q_NB113_114, Q_BK113, Q_GW113, Q_GE113, Q_NB101_113, Q_NB113_101, Q_NB102_113, Q_NB113_102, Q_NB104_113, Q_NB113_104, Q_NB105_113, Q_NB113_105, Q_BK114, Q_GW114, Q_GE114, Q_NB101_114, Q_NB114_101, Q_NB102_114, Q_NB114_102, Q_NB104_114, Q_NB114_104, Q_NB105_114, Q_NB114_105, fun h0_ => absurd ((hoff 20 (by kernel_rfl)).symm.trans h0_) (by decide), fun h0_ => absurd ((hoff 21 (by kernel_rfl)).symm.trans h0_) (by decide), Q_X18_, Q_X19_⟩
        refine steps_cons ?_ ?_
        · rintro b a w' ⟨gb113, gb114, m18_, m19_, ha, Q_BK101, Q_BK102, Q_BK104, Q_BK105, Q_HB, Q_NB114_113, Q_NB113_114, Q_BK113, Q_GW113, Q_GE113, Q_NB101_113, Q_NB113_101, Q_NB102_113, Q_NB113_102, Q_NB104_113, Q_NB113_104, Q_NB105_113, Q_NB113_105, Q_BK114, Q_GW114, Q_GE114, Q_NB101_114, Q_NB114_101, Q_NB102_114, Q_NB114_102, Q_NB104_114, Q_NB114_104, Q_NB105_114, Q_NB114_105, Q_BK113_e20, Q_BK114_e21, Q_X18_, Q_X19_⟩ hb_ hon hoff
          refine ⟨_, rfl, fun K hK => ?_⟩
          have e110 : a.tmps[110]? = some (.int .i64 t107) := by rw [ha]; exact putSel_on (e := (5, 110, .int .i64 t107)) 5 rfl rfl (hon 5 (by kernel_rfl)) rfl
          have e112 : a.tmps[112]? = some (.int .i64 x106001_2) := by rw [ha]; exact putSel_on (e := (7, 112, .int .i64 x106001_2)) 7 rfl rfl (hon 7 (by kernel_rfl)) rfl
          replace ha := Aside0.mk ha
          have BK101 := Aside0.mk Q_BK101
          have BK102 := Aside0.mk Q_BK102
          have BK104 := Aside0.mk Q_BK104
          have BK105 := Aside0.mk Q_BK105
          have HB := Aside0.mk Q_HB
          refine goes_ Try.func107 (by kernel_rfl) rfl #[.int .i64 t107, .int .i64 x106001_2] (by rfl) rfl rfl (by first | (simp only [List.map_toArray, List.map_cons, List.map_nil, Act.eval, Array.getD_eq_getD_getElem?, Option.getD_some, e110, e112]; done) | (simp only [List.map_toArray, List.map_cons, List.map_nil, Act.eval, Array.getD_eq_getD_getElem?, Option.getD_some, e110, e112]; rfl)) ?_
          with_reducible refine (num_Product.calls t107 x106001_2 t108 t109 _ A37.out).mono ?_
          rintro e w91 ⟨rfl, hb⟩
          refine ⟨_, rfl, ?_⟩
          have n0_ := bkb_ BK101 hb rfl
          have n1_ := bkb_ BK102 hb rfl
          have n2_ := bkb_ BK104 hb rfl
          have n3_ := bkb_ BK105 hb rfl
          have n4_ := hbs_ HB hb rfl rfl rfl rfl
          have z_BK113 := fun (h0_ : b 18 = true) (h1_ : b 20 = false) => (show w91.heap[gb113]? = some (.cells #[.int .i64 0, .int .u64 0] 138 (0, 0)) from by first | exact (blk_below (g := gb113) (o := .cells #[.int .i64 0, .int .u64 0] 138 (0, 0)) (by (with_reducible repeat (first | refine blk_drewN ?_ _ | refine blk_drew ?_ | refine blk_alloc ?_ _)); exact (Q_BK113 h0_ h1_)) hb))
          have z_BK114 := fun (h0_ : b 19 = true) (h1_ : b 21 = false) => (show w91.heap[gb114]? = some (.cells #[.int .i64 0, .int .u64 0] 138 (0, 0)) from by first | exact (blk_below (g := gb114) (o := .cells #[.int .i64 0, .int .u64 0] 138 (0, 0)) (by (with_reducible repeat (first | refine blk_drewN ?_ _ | refine blk_drew ?_ | refine blk_alloc ?_ _)); exact (Q_BK114 h0_ h1_)) hb))
          clear BK101
          clear BK102
          clear BK104
          clear BK105
          clear HB
          have BK101 := n0_
          have BK102 := n1_
          have BK104 := n2_
          have BK105 := n3_
          have HB := n4_
          clear n0_ n1_ n2_ n3_ n4_
          (try clear hb)
          refine hK.out _ _ ⟨gb113, gb114, m18_, m19_, (by rw [ha.out]; exact putSel_upk 8 hb_ rfl rfl rfl), BK101.out, BK102.out, BK104.out, BK105.out, (by repeat (first | (with_reducible first | exact HB.out | apply below_alloc | apply pw_below_drewN | apply below_drew1 | refine below_set ?_ GE101.out | refine below_set ?_ GE102.out | refine below_set ?_ GE104.out | refine below_set ?_ GE105.out) | exact HB.out)), Q_NB114_113, Q_NB113_114, z_BK113, Q_GW113, Q_GE113, Q_NB101_113, Q_NB113_101, Q_NB102_113, Q_NB113_102, Q_NB104_113, Q_NB113_104, Q_NB105_113, Q_NB113_105, z_BK114, Q_GW114, Q_GE114, Q_NB101_114, Q_NB114_101, Q_NB102_114, Q_NB114_102, Q_NB104_114, Q_NB114_104, Q_NB105_114, Q_NB114_105, fun h0_ => absurd ((hoff 20 (by kernel_rfl)).symm.trans h0_) (by decide), fun h0_ => absurd ((hoff 21 (by kernel_rfl)).symm.trans h0_) (by decide), Q_X18_, Q_X19_⟩
        refine steps_cons ?_ ?_
        · rintro b a w' ⟨gb113, gb114, m18_, m19_, ha, Q_BK101, Q_BK102, Q_BK104, Q_BK105, Q_HB, Q_NB114_113, Q_NB113_114, Q_BK113, Q_GW113, Q_GE113, Q_NB101_113, Q_NB113_101, Q_NB102_113, Q_NB113_102, Q_NB104_113, Q_NB113_104, Q_NB105_113, Q_NB113_105, Q_BK114, Q_GW114, Q_GE114, Q_NB101_114, Q_NB114_101, Q_NB102_114, Q_NB114_102, Q_NB104_114, Q_NB114_104, Q_NB105_114, Q_NB114_105, Q_BK113_e20, Q_BK114_e21, Q_X18_, Q_X19_⟩ hb_ hon hoff
          refine ⟨_, rfl, fun K hK => ?_⟩
          have e2 : a.tmps[2]? = some (.pointer (some ⟨gb101, 0, none⟩)) := by rw [ha]; exact (putSel_off rfl).trans rfl
          replace ha := Aside0.mk ha
          have BK101 := Aside0.mk Q_BK101
          have BK102 := Aside0.mk Q_BK102
          have BK104 := Aside0.mk Q_BK104
          have BK105 := Aside0.mk Q_BK105
          have HB := Aside0.mk Q_HB
          have hc0_ : w'.cell? ⟨gb101, 0, none⟩ = some (.int .i64 a0_0) := bc_ BK101 0 rfl
          have hc1_ : w'.cell? ⟨gb101, 1, none⟩ = some (.int .i64 a0_1) := bc_ BK101 1 rfl
          refine value_ (w1 := w') (v := .agg #[.int .i64 a0_0, .int .i64 a0_1]) (by rfl) rfl ?_ ?_
          · go_simp
            (try simp only [i64_w])
            try rfl
          refine hK.out _ _ ⟨gb113, gb114, m18_, m19_, (by rw [ha.out]; exact putSel_upk 9 hb_ rfl rfl rfl), Q_BK101, Q_BK102, Q_BK104, Q_BK105, Q_HB, Q_NB114_113, Q_NB113_114, Q_BK113, Q_GW113, Q_GE113, Q_NB101_113, Q_NB113_101, Q_NB102_113, Q_NB113_102, Q_NB104_113, Q_NB113_104, Q_NB105_113, Q_NB113_105, Q_BK114, Q_GW114, Q_GE114, Q_NB101_114, Q_NB114_101, Q_NB102_114, Q_NB114_102, Q_NB104_114, Q_NB114_104, Q_NB105_114, Q_NB114_105, fun h0_ => absurd ((hoff 20 (by kernel_rfl)).symm.trans h0_) (by decide), fun h0_ => absurd ((hoff 21 (by kernel_rfl)).symm.trans h0_) (by decide), Q_X18_, Q_X19_⟩
        refine steps_cons ?_ ?_
        · rintro b a w' ⟨gb113, gb114, m18_, m19_, ha, Q_BK101, Q_BK102, Q_BK104, Q_BK105, Q_HB, Q_NB114_113, Q_NB113_114, Q_BK113, Q_GW113, Q_GE113, Q_NB101_113, Q_NB113_101, Q_NB102_113, Q_NB113_102, Q_NB104_113, Q_NB113_104, Q_NB105_113, Q_NB113_105, Q_BK114, Q_GW114, Q_GE114, Q_NB101_114, Q_NB114_101, Q_NB102_114, Q_NB114_102, Q_NB104_114, Q_NB114_104, Q_NB105_114, Q_NB114_105, Q_BK113_e20, Q_BK114_e21, Q_X18_, Q_X19_⟩ hb_ hon hoff
          refine ⟨_, rfl, fun K hK => ?_⟩
          have e7 : a.tmps[7]? = some (.pointer (some ⟨gb104, 0, none⟩)) := by rw [ha]; exact (putSel_off rfl).trans rfl
          replace ha := Aside0.mk ha
          have BK101 := Aside0.mk Q_BK101
          have BK102 := Aside0.mk Q_BK102
          have BK104 := Aside0.mk Q_BK104
          have BK105 := Aside0.mk Q_BK105
          have HB := Aside0.mk Q_HB
          refine value_ (w1 := w') (v := .pointer (some ⟨gb104, 1, none⟩)) (by rfl) rfl ?_ ?_
          · go_simp
            (try simp only [i64_w])
            try rfl
          refine hK.out _ _ ⟨gb113, gb114, m18_, m19_, (by rw [ha.out]; exact putSel_upk 10 hb_ rfl rfl rfl), Q_BK101, Q_BK102, Q_BK104, Q_BK105, Q_HB, Q_NB114_113, Q_NB113_114, Q_BK113, Q_GW113, Q_GE113, Q_NB101_113, Q_NB113_101, Q_NB102_113, Q_NB113_102, Q_NB104_113, Q_NB113_104, Q_NB105_113, Q_NB113_105, Q_BK114, Q_GW114, Q_GE114, Q_NB101_114, Q_NB114_101, Q_NB102_114, Q_NB114_102, Q_NB104_114, Q_NB114_104, Q_NB105_114, Q_NB114_105, fun h0_ => absurd ((hoff 20 (by kernel_rfl)).symm.trans h0_) (by decide), fun h0_ => absurd ((hoff 21 (by kernel_rfl)).symm.trans h0_) (by decide), Q_X18_, Q_X19_⟩
        refine steps_cons ?_ ?_
        · rintro b a w' ⟨gb113, gb114, m18_, m19_, ha, Q_BK101, Q_BK102, Q_BK104, Q_BK105, Q_HB, Q_NB114_113, Q_NB113_114, Q_BK113, Q_GW113, Q_GE113, Q_NB101_113, Q_NB113_101, Q_NB102_113, Q_NB113_102, Q_NB104_113, Q_NB113_104, Q_NB105_113, Q_NB113_105, Q_BK114, Q_GW114, Q_GE114, Q_NB101_114, Q_NB114_101, Q_NB102_114, Q_NB114_102, Q_NB104_114, Q_NB114_104, Q_NB105_114, Q_NB114_105, Q_BK113_e20, Q_BK114_e21, Q_X18_, Q_X19_⟩ hb_ hon hoff
          refine ⟨_, rfl, fun K hK => ?_⟩
          have e115 : a.tmps[115]? = some (.pointer (some ⟨gb104, 1, none⟩)) := by rw [ha]; exact putSel_on (e := (10, 115, .pointer (some ⟨gb104, 1, none⟩))) 10 rfl rfl (hon 10 (by kernel_rfl)) rfl
          replace ha := Aside0.mk ha
          have BK101 := Aside0.mk Q_BK101
          have BK102 := Aside0.mk Q_BK102
          have BK104 := Aside0.mk Q_BK104
          have BK105 := Aside0.mk Q_BK105
          have HB := Aside0.mk Q_HB
          have hc0_ : w'.cell? ⟨gb104, 0, none⟩ = some (.int .i64 (wrap64 (x105000_2 + (wrap64 ((wrap64 (Int.tdiv (wrap64 (a1 - x106000_2)) x106001_2)) * x105001_2))))) := bc_ BK104 0 rfl
          have hc1_ : w'.cell? ⟨gb104, 1, none⟩ = some (.int .i64 x105001_2) := bc_ BK104 1 rfl
          refine value_ (w1 := w') (v := .int .i64 x105001_2) (by rfl) rfl ?_ ?_
          · go_simp
            (try simp only [i64_w])
            try rfl
          refine hK.out _ _ ⟨gb113, gb114, m18_, m19_, (by rw [ha.out]; exact putSel_upk 11 hb_ rfl rfl rfl), Q_BK101, Q_BK102, Q_BK104, Q_BK105, Q_HB, Q_NB114_113, Q_NB113_114, Q_BK113, Q_GW113, Q_GE113, Q_NB101_113, Q_NB113_101, Q_NB102_113, Q_NB113_102, Q_NB104_113, Q_NB113_104, Q_NB105_113, Q_NB113_105, Q_BK114, Q_GW114, Q_GE114, Q_NB101_114, Q_NB114_101, Q_NB102_114, Q_NB114_102, Q_NB104_114, Q_NB114_104, Q_NB105_114, Q_NB114_105, fun h0_ => absurd ((hoff 20 (by kernel_rfl)).symm.trans h0_) (by decide), fun h0_ => absurd ((hoff 21 (by kernel_rfl)).symm.trans h0_) (by decide), Q_X18_, Q_X19_⟩
        refine steps_cons ?_ ?_
        · rintro b a w' ⟨gb113, gb114, m18_, m19_, ha, Q_BK101, Q_BK102, Q_BK104, Q_BK105, Q_HB, Q_NB114_113, Q_NB113_114, Q_BK113, Q_GW113, Q_GE113, Q_NB101_113, Q_NB113_101, Q_NB102_113, Q_NB113_102, Q_NB104_113, Q_NB113_104, Q_NB105_113, Q_NB113_105, Q_BK114, Q_GW114, Q_GE114, Q_NB101_114, Q_NB114_101, Q_NB102_114, Q_NB114_102, Q_NB104_114, Q_NB114_104, Q_NB105_114, Q_NB114_105, Q_BK113_e20, Q_BK114_e21, Q_X18_, Q_X19_⟩ hb_ hon hoff
          refine ⟨_, rfl, fun K hK => ?_⟩
          have e8 : a.tmps[8]? = some (.pointer (some ⟨gb105, 0, none⟩)) := by rw [ha]; exact (putSel_off rfl).trans rfl
          replace ha := Aside0.mk ha
          have BK101 := Aside0.mk Q_BK101
          have BK102 := Aside0.mk Q_BK102
          have BK104 := Aside0.mk Q_BK104
          have BK105 := Aside0.mk Q_BK105
          have HB := Aside0.mk Q_HB
          refine value_ (w1 := w') (v := .pointer (some ⟨gb105, 1, none⟩)) (by rfl) rfl ?_ ?_
          · go_simp
            (try simp only [i64_w])
            try rfl
          refine hK.out _ _ ⟨gb113, gb114, m18_, m19_, (by rw [ha.out]; exact putSel_upk 12 hb_ rfl rfl rfl), Q_BK101, Q_BK102, Q_BK104, Q_BK105, Q_HB, Q_NB114_113, Q_NB113_114, Q_BK113, Q_GW113, Q_GE113, Q_NB101_113, Q_NB113_101, Q_NB102_113, Q_NB113_102, Q_NB104_113, Q_NB113_104, Q_NB105_113, Q_NB113_105, Q_BK114, Q_GW114, Q_GE114, Q_NB101_114, Q_NB114_101, Q_NB102_114, Q_NB114_102, Q_NB104_114, Q_NB114_104, Q_NB105_114, Q_NB114_105, fun h0_ => absurd ((hoff 20 (by kernel_rfl)).symm.trans h0_) (by decide), fun h0_ => absurd ((hoff 21 (by kernel_rfl)).symm.trans h0_) (by decide), Q_X18_, Q_X19_⟩
        refine steps_cons ?_ ?_
        · rintro b a w' ⟨gb113, gb114, m18_, m19_, ha, Q_BK101, Q_BK102, Q_BK104, Q_BK105, Q_HB, Q_NB114_113, Q_NB113_114, Q_BK113, Q_GW113, Q_GE113, Q_NB101_113, Q_NB113_101, Q_NB102_113, Q_NB113_102, Q_NB104_113, Q_NB113_104, Q_NB105_113, Q_NB113_105, Q_BK114, Q_GW114, Q_GE114, Q_NB101_114, Q_NB114_101, Q_NB102_114, Q_NB114_102, Q_NB104_114, Q_NB114_104, Q_NB105_114, Q_NB114_105, Q_BK113_e20, Q_BK114_e21, Q_X18_, Q_X19_⟩ hb_ hon hoff
          refine ⟨_, rfl, fun K hK => ?_⟩
          have e117 : a.tmps[117]? = some (.pointer (some ⟨gb105, 1, none⟩)) := by rw [ha]; exact putSel_on (e := (12, 117, .pointer (some ⟨gb105, 1, none⟩))) 12 rfl rfl (hon 12 (by kernel_rfl)) rfl
          replace ha := Aside0.mk ha
          have BK101 := Aside0.mk Q_BK101
          have BK102 := Aside0.mk Q_BK102
          have BK104 := Aside0.mk Q_BK104
          have BK105 := Aside0.mk Q_BK105
          have HB := Aside0.mk Q_HB
          have hc0_ : w'.cell? ⟨gb105, 0, none⟩ = some (.int .i64 (wrap64 (x106000_2 + (wrap64 ((wrap64 (Int.tdiv (wrap64 (a1 - x106000_2)) x106001_2)) * x106001_2))))) := bc_ BK105 0 rfl
          have hc1_ : w'.cell? ⟨gb105, 1, none⟩ = some (.int .i64 x106001_2) := bc_ BK105 1 rfl
          refine value_ (w1 := w') (v := .int .i64 x106001_2) (by rfl) rfl ?_ ?_
          · go_simp
            (try simp only [i64_w])
            try rfl
          refine hK.out _ _ ⟨gb113, gb114, m18_, m19_, (by rw [ha.out]; exact putSel_upk 13 hb_ rfl rfl rfl), Q_BK101, Q_BK102, Q_BK104, Q_BK105, Q_HB, Q_NB114_113, Q_NB113_114, Q_BK113, Q_GW113, Q_GE113, Q_NB101_113, Q_NB113_101, Q_NB102_113, Q_NB113_102, Q_NB104_113, Q_NB113_104, Q_NB105_113, Q_NB113_105, Q_BK114, Q_GW114, Q_GE114, Q_NB101_114, Q_NB114_101, Q_NB102_114, Q_NB114_102, Q_NB104_114, Q_NB114_104, Q_NB105_114, Q_NB114_105, fun h0_ => absurd ((hoff 20 (by kernel_rfl)).symm.trans h0_) (by decide), fun h0_ => absurd ((hoff 21 (by kernel_rfl)).symm.trans h0_) (by decide), Q_X18_, Q_X19_⟩
        refine steps_cons ?_ ?_
        · rintro b a w' ⟨gb113, gb114, m18_, m19_, ha, Q_BK101, Q_BK102, Q_BK104, Q_BK105, Q_HB, Q_NB114_113, Q_NB113_114, Q_BK113, Q_GW113, Q_GE113, Q_NB101_113, Q_NB113_101, Q_NB102_113, Q_NB113_102, Q_NB104_113, Q_NB113_104, Q_NB105_113, Q_NB113_105, Q_BK114, Q_GW114, Q_GE114, Q_NB101_114, Q_NB114_101, Q_NB102_114, Q_NB114_102, Q_NB104_114, Q_NB114_104, Q_NB105_114, Q_NB114_105, Q_BK113_e20, Q_BK114_e21, Q_X18_, Q_X19_⟩ hb_ hon hoff
          refine ⟨_, rfl, fun K hK => ?_⟩
          have e114 : a.tmps[114]? = some (.agg #[.int .i64 a0_0, .int .i64 a0_1]) := by rw [ha]; exact putSel_on (e := (9, 114, .agg #[.int .i64 a0_0, .int .i64 a0_1])) 9 rfl rfl (hon 9 (by kernel_rfl)) rfl
          have e116 : a.tmps[116]? = some (.int .i64 x105001_2) := by rw [ha]; exact putSel_on (e := (11, 116, .int .i64 x105001_2)) 11 rfl rfl (hon 11 (by kernel_rfl)) rfl
          have e118 : a.tmps[118]? = some (.int .i64 x106001_2) := by rw [ha]; exact putSel_on (e := (13, 118, .int .i64 x106001_2)) 13 rfl rfl (hon 13 (by kernel_rfl)) rfl
          replace ha := Aside0.mk ha
          have BK101 := Aside0.mk Q_BK101
          have BK102 := Aside0.mk Q_BK102
          have BK104 := Aside0.mk Q_BK104
          have BK105 := Aside0.mk Q_BK105
          have HB := Aside0.mk Q_HB
          refine goes_ Try.func114 (by kernel_rfl) rfl #[.agg #[.int .i64 a0_0, .int .i64 a0_1], .int .i64 x105001_2, .int .i64 x106001_2] (by rfl) rfl rfl (by first | (simp only [List.map_toArray, List.map_cons, List.map_nil, Act.eval, Array.getD_eq_getD_getElem?, Option.getD_some, e114, e116, e118]; done) | (simp only [List.map_toArray, List.map_cons, List.map_nil, Act.eval, Array.getD_eq_getD_getElem?, Option.getD_some, e114, e116, e118]; rfl)) ?_
          with_reducible refine (frac_away.calls k2 a0_0 a0_1 x105001_2 x106001_2 t110 _ A38.out).mono ?_
          rintro e w92 ⟨rfl, hb⟩
          refine ⟨_, rfl, ?_⟩
          have n0_ := bkb_ BK101 hb rfl
          have n1_ := bkb_ BK102 hb rfl
          have n2_ := bkb_ BK104 hb rfl
          have n3_ := bkb_ BK105 hb rfl
          have n4_ := hbs_ HB hb rfl rfl rfl rfl
          have z_BK113 := fun (h0_ : b 18 = true) (h1_ : b 20 = false) => (show w92.heap[gb113]? = some (.cells #[.int .i64 0, .int .u64 0] 138 (0, 0)) from by first | exact (blk_below (g := gb113) (o := .cells #[.int .i64 0, .int .u64 0] 138 (0, 0)) (by (with_reducible repeat (first | refine blk_drewN ?_ _ | refine blk_drew ?_ | refine blk_alloc ?_ _)); exact (Q_BK113 h0_ h1_)) hb))
          have z_BK114 := fun (h0_ : b 19 = true) (h1_ : b 21 = false) => (show w92.heap[gb114]? = some (.cells #[.int .i64 0, .int .u64 0] 138 (0, 0)) from by first | exact (blk_below (g := gb114) (o := .cells #[.int .i64 0, .int .u64 0] 138 (0, 0)) (by (with_reducible repeat (first | refine blk_drewN ?_ _ | refine blk_drew ?_ | refine blk_alloc ?_ _)); exact (Q_BK114 h0_ h1_)) hb))
          clear BK101
          clear BK102
          clear BK104
          clear BK105
          clear HB
          have BK101 := n0_
          have BK102 := n1_
          have BK104 := n2_
          have BK105 := n3_
          have HB := n4_
          clear n0_ n1_ n2_ n3_ n4_
          (try clear hb)
          refine hK.out _ _ ⟨gb113, gb114, m18_, m19_, (by rw [ha.out]; exact putSel_upk 14 hb_ rfl rfl rfl), BK101.out, BK102.out, BK104.out, BK105.out, (by repeat (first | (with_reducible first | exact HB.out | apply below_alloc | apply pw_below_drewN | apply below_drew1 | refine below_set ?_ GE101.out | refine below_set ?_ GE102.out | refine below_set ?_ GE104.out | refine below_set ?_ GE105.out) | exact HB.out)), Q_NB114_113, Q_NB113_114, z_BK113, Q_GW113, Q_GE113, Q_NB101_113, Q_NB113_101, Q_NB102_113, Q_NB113_102, Q_NB104_113, Q_NB113_104, Q_NB105_113, Q_NB113_105, z_BK114, Q_GW114, Q_GE114, Q_NB101_114, Q_NB114_101, Q_NB102_114, Q_NB114_102, Q_NB104_114, Q_NB114_104, Q_NB105_114, Q_NB114_105, fun h0_ => absurd ((hoff 20 (by kernel_rfl)).symm.trans h0_) (by decide), fun h0_ => absurd ((hoff 21 (by kernel_rfl)).symm.trans h0_) (by decide), Q_X18_, Q_X19_⟩
        refine steps_cons ?_ ?_
        · rintro b a w' ⟨gb113, gb114, m18_, m19_, ha, Q_BK101, Q_BK102, Q_BK104, Q_BK105, Q_HB, Q_NB114_113, Q_NB113_114, Q_BK113, Q_GW113, Q_GE113, Q_NB101_113, Q_NB113_101, Q_NB102_113, Q_NB113_102, Q_NB104_113, Q_NB113_104, Q_NB105_113, Q_NB113_105, Q_BK114, Q_GW114, Q_GE114, Q_NB101_114, Q_NB114_101, Q_NB102_114, Q_NB114_102, Q_NB104_114, Q_NB114_104, Q_NB105_114, Q_NB114_105, Q_BK113_e20, Q_BK114_e21, Q_X18_, Q_X19_⟩ hb_ hon hoff
          refine ⟨_, rfl, fun K hK => ?_⟩
          have e8 : a.tmps[8]? = some (.pointer (some ⟨gb105, 0, none⟩)) := by rw [ha]; exact (putSel_off rfl).trans rfl
          replace ha := Aside0.mk ha
          have BK101 := Aside0.mk Q_BK101
          have BK102 := Aside0.mk Q_BK102
          have BK104 := Aside0.mk Q_BK104
          have BK105 := Aside0.mk Q_BK105
          have HB := Aside0.mk Q_HB
          refine value_ (w1 := w') (v := .pointer (some ⟨gb105, 0, none⟩)) (by rfl) rfl ?_ ?_
          · go_simp
            (try simp only [i64_w])
            try rfl
          refine hK.out _ _ ⟨gb113, gb114, m18_, m19_, (by rw [ha.out]; exact putSel_upk 15 hb_ rfl rfl rfl), Q_BK101, Q_BK102, Q_BK104, Q_BK105, Q_HB, Q_NB114_113, Q_NB113_114, Q_BK113, Q_GW113, Q_GE113, Q_NB101_113, Q_NB113_101, Q_NB102_113, Q_NB113_102, Q_NB104_113, Q_NB113_104, Q_NB105_113, Q_NB113_105, Q_BK114, Q_GW114, Q_GE114, Q_NB101_114, Q_NB114_101, Q_NB102_114, Q_NB114_102, Q_NB104_114, Q_NB114_104, Q_NB105_114, Q_NB114_105, fun h0_ => absurd ((hoff 20 (by kernel_rfl)).symm.trans h0_) (by decide), fun h0_ => absurd ((hoff 21 (by kernel_rfl)).symm.trans h0_) (by decide), Q_X18_, Q_X19_⟩
        refine steps_cons ?_ ?_
        · rintro b a w' ⟨gb113, gb114, m18_, m19_, ha, Q_BK101, Q_BK102, Q_BK104, Q_BK105, Q_HB, Q_NB114_113, Q_NB113_114, Q_BK113, Q_GW113, Q_GE113, Q_NB101_113, Q_NB113_101, Q_NB102_113, Q_NB113_102, Q_NB104_113, Q_NB113_104, Q_NB105_113, Q_NB113_105, Q_BK114, Q_GW114, Q_GE114, Q_NB101_114, Q_NB114_101, Q_NB102_114, Q_NB114_102, Q_NB104_114, Q_NB114_104, Q_NB105_114, Q_NB114_105, Q_BK113_e20, Q_BK114_e21, Q_X18_, Q_X19_⟩ hb_ hon hoff
          refine ⟨_, rfl, fun K hK => ?_⟩
          have e120 : a.tmps[120]? = some (.pointer (some ⟨gb105, 0, none⟩)) := by rw [ha]; exact putSel_on (e := (15, 120, .pointer (some ⟨gb105, 0, none⟩))) 15 rfl rfl (hon 15 (by kernel_rfl)) rfl
          replace ha := Aside0.mk ha
          have BK101 := Aside0.mk Q_BK101
          have BK102 := Aside0.mk Q_BK102
          have BK104 := Aside0.mk Q_BK104
          have BK105 := Aside0.mk Q_BK105
          have HB := Aside0.mk Q_HB
          have hc0_ : w'.cell? ⟨gb105, 0, none⟩ = some (.int .i64 (wrap64 (x106000_2 + (wrap64 ((wrap64 (Int.tdiv (wrap64 (a1 - x106000_2)) x106001_2)) * x106001_2))))) := bc_ BK105 0 rfl
          have hc1_ : w'.cell? ⟨gb105, 1, none⟩ = some (.int .i64 x106001_2) := bc_ BK105 1 rfl
          refine value_ (w1 := w') (v := .int .i64 (wrap64 (x106000_2 + (wrap64 ((wrap64 (Int.tdiv (wrap64 (a1 - x106000_2)) x106001_2)) * x106001_2))))) (by rfl) rfl ?_ ?_
          · go_simp
            (try simp only [i64_w])
            try rfl
          refine hK.out _ _ ⟨gb113, gb114, m18_, m19_, (by rw [ha.out]; exact putSel_upk 16 hb_ rfl rfl rfl), Q_BK101, Q_BK102, Q_BK104, Q_BK105, Q_HB, Q_NB114_113, Q_NB113_114, Q_BK113, Q_GW113, Q_GE113, Q_NB101_113, Q_NB113_101, Q_NB102_113, Q_NB113_102, Q_NB104_113, Q_NB113_104, Q_NB105_113, Q_NB113_105, Q_BK114, Q_GW114, Q_GE114, Q_NB101_114, Q_NB114_101, Q_NB102_114, Q_NB114_102, Q_NB104_114, Q_NB114_104, Q_NB105_114, Q_NB114_105, fun h0_ => absurd ((hoff 20 (by kernel_rfl)).symm.trans h0_) (by decide), fun h0_ => absurd ((hoff 21 (by kernel_rfl)).symm.trans h0_) (by decide), Q_X18_, Q_X19_⟩
        refine steps_cons ?_ ?_
        · rintro b a w' ⟨gb113, gb114, m18_, m19_, ha, Q_BK101, Q_BK102, Q_BK104, Q_BK105, Q_HB, Q_NB114_113, Q_NB113_114, Q_BK113, Q_GW113, Q_GE113, Q_NB101_113, Q_NB113_101, Q_NB102_113, Q_NB113_102, Q_NB104_113, Q_NB113_104, Q_NB105_113, Q_NB113_105, Q_BK114, Q_GW114, Q_GE114, Q_NB101_114, Q_NB114_101, Q_NB102_114, Q_NB114_102, Q_NB104_114, Q_NB114_104, Q_NB105_114, Q_NB114_105, Q_BK113_e20, Q_BK114_e21, Q_X18_, Q_X19_⟩ hb_ hon hoff
          refine ⟨_, rfl, fun K hK => ?_⟩
          have e119 : a.tmps[119]? = some (.int .i64 t110) := by rw [ha]; exact putSel_on (e := (14, 119, .int .i64 t110)) 14 rfl rfl (hon 14 (by kernel_rfl)) rfl
          have e121 : a.tmps[121]? = some (.int .i64 (wrap64 (x106000_2 + (wrap64 ((wrap64 (Int.tdiv (wrap64 (a1 - x106000_2)) x106001_2)) * x106001_2))))) := by rw [ha]; exact putSel_on (e := (16, 121, .int .i64 (wrap64 (x106000_2 + (wrap64 ((wrap64 (Int.tdiv (wrap64 (a1 - x106000_2)) x106001_2)) * x106001_2)))))) 16 rfl rfl (hon 16 (by kernel_rfl)) rfl
          replace ha := Aside0.mk ha
          have BK101 := Aside0.mk Q_BK101
          have BK102 := Aside0.mk Q_BK102
          have BK104 := Aside0.mk Q_BK104
          have BK105 := Aside0.mk Q_BK105
          have HB := Aside0.mk Q_HB
          refine goes_ Try.func107 (by kernel_rfl) rfl #[.int .i64 t110, .int .i64 (wrap64 (x106000_2 + (wrap64 ((wrap64 (Int.tdiv (wrap64 (a1 - x106000_2)) x106001_2)) * x106001_2))))] (by rfl) rfl rfl (by first | (simp only [List.map_toArray, List.map_cons, List.map_nil, Act.eval, Array.getD_eq_getD_getElem?, Option.getD_some, e119, e121]; done) | (simp only [List.map_toArray, List.map_cons, List.map_nil, Act.eval, Array.getD_eq_getD_getElem?, Option.getD_some, e119, e121]; rfl)) ?_
          with_reducible refine (num_Product.calls t110 (wrap64 (x106000_2 + (wrap64 ((wrap64 (Int.tdiv (wrap64 (a1 - x106000_2)) x106001_2)) * x106001_2)))) t111 t112 _ A39.out).mono ?_
          rintro e w93 ⟨rfl, hb⟩
          refine ⟨_, rfl, ?_⟩
          have n0_ := bkb_ BK101 hb rfl
          have n1_ := bkb_ BK102 hb rfl
          have n2_ := bkb_ BK104 hb rfl
          have n3_ := bkb_ BK105 hb rfl
          have n4_ := hbs_ HB hb rfl rfl rfl rfl
          have z_BK113 := fun (h0_ : b 18 = true) (h1_ : b 20 = false) => (show w93.heap[gb113]? = some (.cells #[.int .i64 0, .int .u64 0] 138 (0, 0)) from by first | exact (blk_below (g := gb113) (o := .cells #[.int .i64 0, .int .u64 0] 138 (0, 0)) (by (with_reducible repeat (first | refine blk_drewN ?_ _ | refine blk_drew ?_ | refine blk_alloc ?_ _)); exact (Q_BK113 h0_ h1_)) hb))
          have z_BK114 := fun (h0_ : b 19 = true) (h1_ : b 21 = false) => (show w93.heap[gb114]? = some (.cells #[.int .i64 0, .int .u64 0] 138 (0, 0)) from by first | exact (blk_below (g := gb114) (o := .cells #[.int .i64 0, .int .u64 0] 138 (0, 0)) (by (with_reducible repeat (first | refine blk_drewN ?_ _ | refine blk_drew ?_ | refine blk_alloc ?_ _)); exact (Q_BK114 h0_ h1_)) hb))
          clear BK101
          clear BK102
          clear BK104
          clear BK105
          clear HB
          have BK101 := n0_
          have BK102 := n1_
          have BK104 := n2_
          have BK105 := n3_
          have HB := n4_
          clear n0_ n1_ n2_ n3_ n4_
          (try clear hb)
          refine hK.out _ _ ⟨gb113, gb114, m18_, m19_, (by rw [ha.out]; exact putSel_upk 17 hb_ rfl rfl rfl), BK101.out, BK102.out, BK104.out, BK105.out, (by repeat (first | (with_reducible first | exact HB.out | apply below_alloc | apply pw_below_drewN | apply below_drew1 | refine below_set ?_ GE101.out | refine below_set ?_ GE102.out | refine below_set ?_ GE104.out | refine below_set ?_ GE105.out) | exact HB.out)), Q_NB114_113, Q_NB113_114, z_BK113, Q_GW113, Q_GE113, Q_NB101_113, Q_NB113_101, Q_NB102_113, Q_NB113_102, Q_NB104_113, Q_NB113_104, Q_NB105_113, Q_NB113_105, z_BK114, Q_GW114, Q_GE114, Q_NB101_114, Q_NB114_101, Q_NB102_114, Q_NB114_102, Q_NB104_114, Q_NB114_104, Q_NB105_114, Q_NB114_105, fun h0_ => absurd ((hoff 20 (by kernel_rfl)).symm.trans h0_) (by decide), fun h0_ => absurd ((hoff 21 (by kernel_rfl)).symm.trans h0_) (by decide), Q_X18_, Q_X19_⟩
        refine steps_cons ?_ ?_
        · rintro b a w' ⟨gb113, gb114, m18_, m19_, ha, Q_BK101, Q_BK102, Q_BK104, Q_BK105, Q_HB, Q_NB114_113, Q_NB113_114, Q_BK113, Q_GW113, Q_GE113, Q_NB101_113, Q_NB113_101, Q_NB102_113, Q_NB113_102, Q_NB104_113, Q_NB113_104, Q_NB105_113, Q_NB113_105, Q_BK114, Q_GW114, Q_GE114, Q_NB101_114, Q_NB114_101, Q_NB102_114, Q_NB114_102, Q_NB104_114, Q_NB114_104, Q_NB105_114, Q_NB114_105, Q_BK113_e20, Q_BK114_e21, Q_X18_, Q_X19_⟩ hb_ hon hoff
          refine ⟨_, rfl, fun K hK => ?_⟩
          replace ha := Aside0.mk ha
          have BK101 := Aside0.mk Q_BK101
          have BK102 := Aside0.mk Q_BK102
          have BK104 := Aside0.mk Q_BK104
          have BK105 := Aside0.mk Q_BK105
          have HB := Aside0.mk Q_HB
          refine bsq_ 13 #[.int .i64 0, .int .u64 0] 138 ?_
          intro gb113 hg w89 hbox hb
          have n0_ := bkb_ BK101 hb rfl
          have n1_ := bkb_ BK102 hb rfl
          have n2_ := bkb_ BK104 hb rfl
          have n3_ := bkb_ BK105 hb rfl
          have n4_ := hbs_ HB hb rfl rfl rfl rfl
          have n5_ := Aside0.mk (hbox)
          have n6_ := Aside0.mk ((by rw [hg]; exact (below_size (by exact HB.out)) : w.heap.size ≤ gb113))
          have n7_ := n6_
          have n8_ := nbl_ BK101 hg rfl
          have n9_ := nbg_ BK101 hg rfl
          have n10_ := nbl_ BK102 hg rfl
          have n11_ := nbg_ BK102 hg rfl
          have n12_ := nbl_ BK104 hg rfl
          have n13_ := nbg_ BK104 hg rfl
          have n14_ := nbl_ BK105 hg rfl
          have n15_ := nbg_ BK105 hg rfl
          have z_NB114_113 := fun (h0_ : up b 18 18 = true) (h1_ : up b 18 19 = true) => (show gb114 ≠ gb113 from ((by rw [hg]; exact Nat.ne_of_lt (by cases he_ : b 21 <;> first | exact blk_lt (Q_BK114 h1_ he_) | exact blk_lt (Q_BK114_e21 he_)) : gb114 ≠ gb113)))
          have z_NB113_114 := fun (h0_ : up b 18 18 = true) (h1_ : up b 18 19 = true) => (show gb113 ≠ gb114 from ((by rw [hg]; exact Nat.ne_of_gt (by cases he_ : b 21 <;> first | exact blk_lt (Q_BK114 h1_ he_) | exact blk_lt (Q_BK114_e21 he_)) : gb113 ≠ gb114)))
          have z_BK114 := fun (h0_ : b 19 = true) (h1_ : b 21 = false) => (show w89.heap[gb114]? = some (.cells #[.int .i64 0, .int .u64 0] 138 (0, 0)) from by first | exact (blk_below (g := gb114) (o := .cells #[.int .i64 0, .int .u64 0] 138 (0, 0)) (by (with_reducible repeat (first | refine blk_drewN ?_ _ | refine blk_drew ?_ | refine blk_alloc ?_ _)); exact (Q_BK114 h0_ h1_)) hb))
          clear BK101
          clear BK102
          clear BK104
          clear BK105
          clear HB
          have BK101 := n0_
          have BK102 := n1_
          have BK104 := n2_
          have BK105 := n3_
          have HB := n4_
          have BK113 := n5_
          have GW113 := n6_
          have GE113 := n7_
          have NB101_113 := n8_
          have NB113_101 := n9_
          have NB102_113 := n10_
          have NB113_102 := n11_
          have NB104_113 := n12_
          have NB113_104 := n13_
          have NB105_113 := n14_
          have NB113_105 := n15_
          clear n0_ n1_ n2_ n3_ n4_ n5_ n6_ n7_ n8_ n9_ n10_ n11_ n12_ n13_ n14_ n15_
          clear hb hbox hg
          refine hK.out _ _ ⟨gb113, gb114, (.pointer (some ⟨gb113, 0, none⟩)), m19_, (by rw [ha.out]; exact putSel_upk 18 hb_ rfl rfl rfl), BK101.out, BK102.out, BK104.out, BK105.out, (by repeat (first | (with_reducible first | exact HB.out | apply below_alloc | apply pw_below_drewN | apply below_drew1 | refine below_set ?_ GE101.out | refine below_set ?_ GE102.out | refine below_set ?_ GE104.out | refine below_set ?_ GE105.out | refine below_set ?_ GE113.out) | exact HB.out)), z_NB114_113, z_NB113_114, fun _ _ => BK113.out, fun _ => GW113.out, fun _ => GE113.out, fun _ => NB101_113.out, fun _ => NB113_101.out, fun _ => NB102_113.out, fun _ => NB113_102.out, fun _ => NB104_113.out, fun _ => NB113_104.out, fun _ => NB105_113.out, fun _ => NB113_105.out, z_BK114, Q_GW114, Q_GE114, Q_NB101_114, Q_NB114_101, Q_NB102_114, Q_NB114_102, Q_NB104_114, Q_NB114_104, Q_NB105_114, Q_NB114_105, fun h0_ => absurd ((hoff 20 (by kernel_rfl)).symm.trans h0_) (by decide), fun h0_ => absurd ((hoff 21 (by kernel_rfl)).symm.trans h0_) (by decide), fun _ => rfl, Q_X19_⟩
        refine steps_cons ?_ ?_
        · rintro b a w' ⟨gb113, gb114, m18_, m19_, ha, Q_BK101, Q_BK102, Q_BK104, Q_BK105, Q_HB, Q_NB114_113, Q_NB113_114, Q_BK113, Q_GW113, Q_GE113, Q_NB101_113, Q_NB113_101, Q_NB102_113, Q_NB113_102, Q_NB104_113, Q_NB113_104, Q_NB105_113, Q_NB113_105, Q_BK114, Q_GW114, Q_GE114, Q_NB101_114, Q_NB114_101, Q_NB102_114, Q_NB114_102, Q_NB104_114, Q_NB114_104, Q_NB105_114, Q_NB114_105, Q_BK113_e20, Q_BK114_e21, Q_X18_, Q_X19_⟩ hb_ hon hoff
          refine ⟨_, rfl, fun K hK => ?_⟩
          replace ha := Aside0.mk ha
          have BK101 := Aside0.mk Q_BK101
          have BK102 := Aside0.mk Q_BK102
          have BK104 := Aside0.mk Q_BK104
          have BK105 := Aside0.mk Q_BK105
          have HB := Aside0.mk Q_HB
          refine bsq_ 14 #[.int .i64 0, .int .u64 0] 138 ?_
          intro gb114 hg w89 hbox hb
          have n0_ := bkb_ BK101 hb rfl
          have n1_ := bkb_ BK102 hb rfl
          have n2_ := bkb_ BK104 hb rfl
          have n3_ := bkb_ BK105 hb rfl
          have n4_ := hbs_ HB hb rfl rfl rfl rfl
          have n5_ := Aside0.mk (hbox)
          have n6_ := Aside0.mk ((by rw [hg]; exact (below_size (by exact HB.out)) : w.heap.size ≤ gb114))
          have n7_ := n6_
          have n8_ := nbl_ BK101 hg rfl
          have n9_ := nbg_ BK101 hg rfl
          have n10_ := nbl_ BK102 hg rfl
          have n11_ := nbg_ BK102 hg rfl
          have n12_ := nbl_ BK104 hg rfl
          have n13_ := nbg_ BK104 hg rfl
          have n14_ := nbl_ BK105 hg rfl
          have n15_ := nbg_ BK105 hg rfl
          have z_NB114_113 := fun (h0_ : up b 19 18 = true) (h1_ : up b 19 19 = true) => (show gb114 ≠ gb113 from ((by rw [hg]; exact Nat.ne_of_gt (by cases he_ : b 20 <;> first | exact blk_lt (Q_BK113 h0_ he_) | exact blk_lt (Q_BK113_e20 he_)) : gb114 ≠ gb113)))
          have z_NB113_114 := fun (h0_ : up b 19 18 = true) (h1_ : up b 19 19 = true) => (show gb113 ≠ gb114 from ((by rw [hg]; exact Nat.ne_of_lt (by cases he_ : b 20 <;> first | exact blk_lt (Q_BK113 h0_ he_) | exact blk_lt (Q_BK113_e20 he_)) : gb113 ≠ gb114)))
          have z_BK113 := fun (h0_ : b 18 = true) (h1_ : b 20 = false) => (show w89.heap[gb113]? = some (.cells #[.int .i64 0, .int .u64 0] 138 (0, 0)) from by first | exact (blk_below (g := gb113) (o := .cells #[.int .i64 0, .int .u64 0] 138 (0, 0)) (by (with_reducible repeat (first | refine blk_drewN ?_ _ | refine blk_drew ?_ | refine blk_alloc ?_ _)); exact (Q_BK113 h0_ h1_)) hb))
          clear BK101
          clear BK102
          clear BK104
          clear BK105
          clear HB
          have BK101 := n0_
          have BK102 := n1_
          have BK104 := n2_
          have BK105 := n3_
          have HB := n4_
          have BK114 := n5_
          have GW114 := n6_
          have GE114 := n7_
          have NB101_114 := n8_
          have NB114_101 := n9_
          have NB102_114 := n10_
          have NB114_102 := n11_
          have NB104_114 := n12_
          have NB114_104 := n13_
          have NB105_114 := n14_
          have NB114_105 := n15_
          clear n0_ n1_ n2_ n3_ n4_ n5_ n6_ n7_ n8_ n9_ n10_ n11_ n12_ n13_ n14_ n15_
          clear hb hbox hg
          refine hK.out _ _ ⟨gb113, gb114, m18_, (.pointer (some ⟨gb114, 0, none⟩)), (by rw [ha.out]; exact putSel_upk 19 hb_ rfl rfl rfl), BK101.out, BK102.out, BK104.out, BK105.out, (by repeat (first | (with_reducible first | exact HB.out | apply below_alloc | apply pw_below_drewN | apply below_drew1 | refine below_set ?_ GE101.out | refine below_set ?_ GE102.out | refine below_set ?_ GE104.out | refine below_set ?_ GE105.out | refine below_set ?_ GE114.out) | exact HB.out)), z_NB114_113, z_NB113_114, z_BK113, Q_GW113, Q_GE113, Q_NB101_113, Q_NB113_101, Q_NB102_113, Q_NB113_102, Q_NB104_113, Q_NB113_104, Q_NB105_113, Q_NB113_105, fun _ _ => BK114.out, fun _ => GW114.out, fun _ => GE114.out, fun _ => NB101_114.out, fun _ => NB114_101.out, fun _ => NB102_114.out, fun _ => NB114_102.out, fun _ => NB104_114.out, fun _ => NB114_104.out, fun _ => NB105_114.out, fun _ => NB114_105.out, fun h0_ => absurd ((hoff 20 (by kernel_rfl)).symm.trans h0_) (by decide), fun h0_ => absurd ((hoff 21 (by kernel_rfl)).symm.trans h0_) (by decide), Q_X18_, fun _ => rfl⟩
        refine steps_cons ?_ ?_
        · rintro b a w' ⟨gb113, gb114, m18_, m19_, ha, Q_BK101, Q_BK102, Q_BK104, Q_BK105, Q_HB, Q_NB114_113, Q_NB113_114, Q_BK113, Q_GW113, Q_GE113, Q_NB101_113, Q_NB113_101, Q_NB102_113, Q_NB113_102, Q_NB104_113, Q_NB113_104, Q_NB105_113, Q_NB113_105, Q_BK114, Q_GW114, Q_GE114, Q_NB101_114, Q_NB114_101, Q_NB102_114, Q_NB114_102, Q_NB104_114, Q_NB114_104, Q_NB105_114, Q_NB114_105, Q_BK113_e20, Q_BK114_e21, Q_X18_, Q_X19_⟩ hb_ hon hoff
          refine ⟨_, rfl, fun K hK => ?_⟩
          have e13 : a.tmps[13]? = some (m18_) := by rw [ha]; exact putSel_on (e := (18, 13, m18_)) 18 rfl rfl (hon 18 (by kernel_rfl)) rfl
          rw [Q_X18_ (hon 18 (by kernel_rfl))] at e13
          have e113 : a.tmps[113]? = some (.agg #[.int .i64 t108, .int .u64 t109]) := by rw [ha]; exact putSel_on (e := (8, 113, .agg #[.int .i64 t108, .int .u64 t109])) 8 rfl rfl (hon 8 (by kernel_rfl)) rfl
          replace ha := Aside0.mk ha
          have BK101 := Aside0.mk Q_BK101
          have BK102 := Aside0.mk Q_BK102
          have BK104 := Aside0.mk Q_BK104
          have BK105 := Aside0.mk Q_BK105
          have HB := Aside0.mk Q_HB
          have NB114_113 := Aside0.mk (Q_NB114_113 (hon 18 (by kernel_rfl)) (hon 19 (by kernel_rfl)))
          have NB113_114 := Aside0.mk (Q_NB113_114 (hon 18 (by kernel_rfl)) (hon 19 (by kernel_rfl)))
          have BK113 := Aside0.mk (Q_BK113 (hon 18 (by kernel_rfl)) hb_)
          have GW113 := Aside0.mk (Q_GW113 (hon 18 (by kernel_rfl)))
          have GE113 := Aside0.mk (Q_GE113 (hon 18 (by kernel_rfl)))
          have NB101_113 := Aside0.mk (Q_NB101_113 (hon 18 (by kernel_rfl)))
          have NB113_101 := Aside0.mk (Q_NB113_101 (hon 18 (by kernel_rfl)))
          have NB102_113 := Aside0.mk (Q_NB102_113 (hon 18 (by kernel_rfl)))
          have NB113_102 := Aside0.mk (Q_NB113_102 (hon 18 (by kernel_rfl)))
          have NB104_113 := Aside0.mk (Q_NB104_113 (hon 18 (by kernel_rfl)))
          have NB113_104 := Aside0.mk (Q_NB113_104 (hon 18 (by kernel_rfl)))
          have NB105_113 := Aside0.mk (Q_NB105_113 (hon 18 (by kernel_rfl)))
          have NB113_105 := Aside0.mk (Q_NB113_105 (hon 18 (by kernel_rfl)))
          have BK114 := Aside0.mk (Q_BK114 (hon 19 (by kernel_rfl)) (hoff 21 (by kernel_rfl)))
          have GW114 := Aside0.mk (Q_GW114 (hon 19 (by kernel_rfl)))
          have GE114 := Aside0.mk (Q_GE114 (hon 19 (by kernel_rfl)))
          have NB101_114 := Aside0.mk (Q_NB101_114 (hon 19 (by kernel_rfl)))
          have NB114_101 := Aside0.mk (Q_NB114_101 (hon 19 (by kernel_rfl)))
          have NB102_114 := Aside0.mk (Q_NB102_114 (hon 19 (by kernel_rfl)))
          have NB114_102 := Aside0.mk (Q_NB114_102 (hon 19 (by kernel_rfl)))
          have NB104_114 := Aside0.mk (Q_NB104_114 (hon 19 (by kernel_rfl)))
          have NB114_104 := Aside0.mk (Q_NB114_104 (hon 19 (by kernel_rfl)))
          have NB105_114 := Aside0.mk (Q_NB105_114 (hon 19 (by kernel_rfl)))
          have NB114_105 := Aside0.mk (Q_NB114_105 (hon 19 (by kernel_rfl)))
          have hs96 : w'.cell? ⟨gb113, 0, none⟩ = some (.int .i64 0) := bc_ BK113 0 rfl
          have hfs96 := blk_frozen BK113.out 0
          have hns96_0 := NB101_113.out
          have hns96_1 := NB102_113.out
          have hns96_2 := NB104_113.out
          have hns96_3 := NB105_113.out
          have hns96_5 := NB114_113.out
          have hms96_0 := NB113_101.out
          have hms96_1 := NB113_102.out
          have hms96_2 := NB113_104.out
          have hms96_3 := NB113_105.out
          have hms96_5 := NB113_114.out
          have hs97 : w'.cell? ⟨gb113, 1, none⟩ = some (.int .u64 0) := bc_ BK113 1 rfl
          have hfs97 := blk_frozen BK113.out 1
          have hns97_0 := NB101_113.out
          have hns97_1 := NB102_113.out
          have hns97_2 := NB104_113.out
          have hns97_3 := NB105_113.out
          have hns97_5 := NB114_113.out
          have hms97_0 := NB113_101.out
          have hms97_1 := NB113_102.out
          have hms97_2 := NB113_104.out
          have hms97_3 := NB113_105.out
          have hms97_5 := NB113_114.out
          refine skip_ (w1 := ?_) (by rfl) rfl ?_ ?_
          rotate_left
          · go_simp
            rfl
          refine hK.out _ _ ⟨gb113, gb114, m18_, m19_, (by rw [ha.out]; exact putSel_none (v := undef) rfl), (by (with_reducible repeat (first | refine blk_drewN ?_ _ | refine blk_drew ?_ | refine blk_alloc ?_ _)); refine blk_far ?_ NB101_113.out _; (with_reducible repeat (first | refine blk_drewN ?_ _ | refine blk_drew ?_ | refine blk_alloc ?_ _)); refine blk_far ?_ NB101_113.out _; (with_reducible repeat (first | refine blk_drewN ?_ _ | refine blk_drew ?_ | refine blk_alloc ?_ _)); exact BK101.out), (by (with_reducible repeat (first | refine blk_drewN ?_ _ | refine blk_drew ?_ | refine blk_alloc ?_ _)); refine blk_far ?_ NB102_113.out _; (with_reducible repeat (first | refine blk_drewN ?_ _ | refine blk_drew ?_ | refine blk_alloc ?_ _)); refine blk_far ?_ NB102_113.out _; (with_reducible repeat (first | refine blk_drewN ?_ _ | refine blk_drew ?_ | refine blk_alloc ?_ _)); exact BK102.out), (by (with_reducible repeat (first | refine blk_drewN ?_ _ | refine blk_drew ?_ | refine blk_alloc ?_ _)); refine blk_far ?_ NB104_113.out _; (with_reducible repeat (first | refine blk_drewN ?_ _ | refine blk_drew ?_ | refine blk_alloc ?_ _)); refine blk_far ?_ NB104_113.out _; (with_reducible repeat (first | refine blk_drewN ?_ _ | refine blk_drew ?_ | refine blk_alloc ?_ _)); exact BK104.out), (by (with_reducible repeat (first | refine blk_drewN ?_ _ | refine blk_drew ?_ | refine blk_alloc ?_ _)); refine blk_far ?_ NB105_113.out _; (with_reducible repeat (first | refine blk_drewN ?_ _ | refine blk_drew ?_ | refine blk_alloc ?_ _)); refine blk_far ?_ NB105_113.out _; (with_reducible repeat (first | refine blk_drewN ?_ _ | refine blk_drew ?_ | refine blk_alloc ?_ _)); exact BK105.out), (by repeat (first | (with_reducible first | exact HB.out | apply below_alloc | apply pw_below_drewN | apply below_drew1 | refine below_set ?_ GE101.out | refine below_set ?_ GE102.out | refine below_set ?_ GE104.out | refine below_set ?_ GE105.out | refine below_set ?_ GE113.out | refine below_set ?_ GE114.out) | exact HB.out)), fun _ _ => NB114_113.out, fun _ _ => NB113_114.out, fun _ h1_ => absurd ((up_self b 20).symm.trans h1_) (by decide), fun _ => GW113.out, fun _ => GE113.out, fun _ => NB101_113.out, fun _ => NB113_101.out, fun _ => NB102_113.out, fun _ => NB113_102.out, fun _ => NB104_113.out, fun _ => NB113_104.out, fun _ => NB105_113.out, fun _ => NB113_105.out, fun _ _ => (by (with_reducible repeat (first | refine blk_drewN ?_ _ | refine blk_drew ?_ | refine blk_alloc ?_ _)); refine blk_far ?_ NB114_113.out _; (with_reducible repeat (first | refine blk_drewN ?_ _ | refine blk_drew ?_ | refine blk_alloc ?_ _)); refine blk_far ?_ NB114_113.out _; (with_reducible repeat (first | refine blk_drewN ?_ _ | refine blk_drew ?_ | refine blk_alloc ?_ _)); exact BK114.out), fun _ => GW114.out, fun _ => GE114.out, fun _ => NB101_114.out, fun _ => NB114_101.out, fun _ => NB102_114.out, fun _ => NB114_102.out, fun _ => NB104_114.out, fun _ => NB114_104.out, fun _ => NB105_114.out, fun _ => NB114_105.out, fun _ => (by (with_reducible repeat (first | refine blk_drewN ?_ _ | refine blk_drew ?_ | refine blk_alloc ?_ _)); refine blk_put (cs := #[.int .i64 t108, .int .u64 0]) ?_ 1 _ rfl; (with_reducible repeat (first | refine blk_drewN ?_ _ | refine blk_drew ?_ | refine blk_alloc ?_ _)); refine blk_put (cs := #[.int .i64 0, .int .u64 0]) ?_ 0 _ rfl; (with_reducible repeat (first | refine blk_drewN ?_ _ | refine blk_drew ?_ | refine blk_alloc ?_ _)); exact BK113.out), fun h0_ => absurd ((hoff 21 (by kernel_rfl)).symm.trans h0_) (by decide), Q_X18_, Q_X19_⟩
        refine steps_cons ?_ ?_
        · rintro b a w' ⟨gb113, gb114, m18_, m19_, ha, Q_BK101, Q_BK102, Q_BK104, Q_BK105, Q_HB, Q_NB114_113, Q_NB113_114, Q_BK113, Q_GW113, Q_GE113, Q_NB101_113, Q_NB113_101, Q_NB102_113, Q_NB113_102, Q_NB104_113, Q_NB113_104, Q_NB105_113, Q_NB113_105, Q_BK114, Q_GW114, Q_GE114, Q_NB101_114, Q_NB114_101, Q_NB102_114, Q_NB114_102, Q_NB104_114, Q_NB114_104, Q_NB105_114, Q_NB114_105, Q_BK113_e20, Q_BK114_e21, Q_X18_, Q_X19_⟩ hb_ hon hoff
          refine ⟨_, rfl, fun K hK => ?_⟩
          have e14 : a.tmps[14]? = some (m19_) := by rw [ha]; exact putSel_on (e := (19, 14, m19_)) 19 rfl rfl (hon 19 (by kernel_rfl)) rfl
          rw [Q_X19_ (hon 19 (by kernel_rfl))] at e14
          have e122 : a.tmps[122]? = some (.agg #[.int .i64 t111, .int .u64 t112]) := by rw [ha]; exact putSel_on (e := (17, 122, .agg #[.int .i64 t111, .int .u64 t112])) 17 rfl rfl (hon 17 (by kernel_rfl)) rfl
          replace ha := Aside0.mk ha
          have BK101 := Aside0.mk Q_BK101
          have BK102 := Aside0.mk Q_BK102
          have BK104 := Aside0.mk Q_BK104
          have BK105 := Aside0.mk Q_BK105
          have HB := Aside0.mk Q_HB
          have NB114_113 := Aside0.mk (Q_NB114_113 (hon 18 (by kernel_rfl)) (hon 19 (by kernel_rfl)))
          have NB113_114 := Aside0.mk (Q_NB113_114 (hon 18 (by kernel_rfl)) (hon 19 (by kernel_rfl)))
          have GW113 := Aside0.mk (Q_GW113 (hon 18 (by kernel_rfl)))
          have GE113 := Aside0.mk (Q_GE113 (hon 18 (by kernel_rfl)))
          have NB101_113 := Aside0.mk (Q_NB101_113 (hon 18 (by kernel_rfl)))
          have NB113_101 := Aside0.mk (Q_NB113_101 (hon 18 (by kernel_rfl)))
          have NB102_113 := Aside0.mk (Q_NB102_113 (hon 18 (by kernel_rfl)))
          have NB113_102 := Aside0.mk (Q_NB113_102 (hon 18 (by kernel_rfl)))
          have NB104_113 := Aside0.mk (Q_NB104_113 (hon 18 (by kernel_rfl)))
          have NB113_104 := Aside0.mk (Q_NB113_104 (hon 18 (by kernel_rfl)))
          have NB105_113 := Aside0.mk (Q_NB105_113 (hon 18 (by kernel_rfl)))
          have NB113_105 := Aside0.mk (Q_NB113_105 (hon 18 (by kernel_rfl)))
          have BK114 := Aside0.mk (Q_BK114 (hon 19 (by kernel_rfl)) hb_)
          have GW114 := Aside0.mk (Q_GW114 (hon 19 (by kernel_rfl)))
          have GE114 := Aside0.mk (Q_GE114 (hon 19 (by kernel_rfl)))
          have NB101_114 := Aside0.mk (Q_NB101_114 (hon 19 (by kernel_rfl)))
          have NB114_101 := Aside0.mk (Q_NB114_101 (hon 19 (by kernel_rfl)))
          have NB102_114 := Aside0.mk (Q_NB102_114 (hon 19 (by kernel_rfl)))
          have NB114_102 := Aside0.mk (Q_NB114_102 (hon 19 (by kernel_rfl)))
          have NB104_114 := Aside0.mk (Q_NB104_114 (hon 19 (by kernel_rfl)))
          have NB114_104 := Aside0.mk (Q_NB114_104 (hon 19 (by kernel_rfl)))
          have NB105_114 := Aside0.mk (Q_NB105_114 (hon 19 (by kernel_rfl)))
          have NB114_105 := Aside0.mk (Q_NB114_105 (hon 19 (by kernel_rfl)))
          have BK113 := Aside0.mk (Q_BK113_e20 (hon 20 (by kernel_rfl)))
          have hs98 : w'.cell? ⟨gb114, 0, none⟩ = some (.int .i64 0) := bc_ BK114 0 rfl
          have hfs98 := blk_frozen BK114.out 0
          have hns98_0 := NB101_114.out
          have hns98_1 := NB102_114.out
          have hns98_2 := NB104_114.out
          have hns98_3 := NB105_114.out
          have hns98_4 := NB113_114.out
          have hms98_0 := NB114_101.out
          have hms98_1 := NB114_102.out
          have hms98_2 := NB114_104.out
          have hms98_3 := NB114_105.out
          have hms98_4 := NB114_113.out
          have hs99 : w'.cell? ⟨gb114, 1, none⟩ = some (.int .u64 0) := bc_ BK114 1 rfl
          have hfs99 := blk_frozen BK114.out 1
          have hns99_0 := NB101_114.out
          have hns99_1 := NB102_114.out
          have hns99_2 := NB104_114.out
          have hns99_3 := NB105_114.out
          have hns99_4 := NB113_114.out
          have hms99_0 := NB114_101.out
          have hms99_1 := NB114_102.out
          have hms99_2 := NB114_104.out
          have hms99_3 := NB114_105.out
          have hms99_4 := NB114_113.out
          refine skip_ (w1 := ?_) (by rfl) rfl ?_ ?_
          rotate_left
          · go_simp
            rfl
          refine hK.out _ _ ⟨gb113, gb114, m18_, m19_, (by rw [ha.out]; exact putSel_none (v := undef) rfl), (by (with_reducible repeat (first | refine blk_drewN ?_ _ | refine blk_drew ?_ | refine blk_alloc ?_ _)); refine blk_far ?_ NB101_114.out _; (with_reducible repeat (first | refine blk_drewN ?_ _ | refine blk_drew ?_ | refine blk_alloc ?_ _)); refine blk_far ?_ NB101_114.out _; (with_reducible repeat (first | refine blk_drewN ?_ _ | refine blk_drew ?_ | refine blk_alloc ?_ _)); exact BK101.out), (by (with_reducible repeat (first | refine blk_drewN ?_ _ | refine blk_drew ?_ | refine blk_alloc ?_ _)); refine blk_far ?_ NB102_114.out _; (with_reducible repeat (first | refine blk_drewN ?_ _ | refine blk_drew ?_ | refine blk_alloc ?_ _)); refine blk_far ?_ NB102_114.out _; (with_reducible repeat (first | refine blk_drewN ?_ _ | refine blk_drew ?_ | refine blk_alloc ?_ _)); exact BK102.out), (by (with_reducible repeat (first | refine blk_drewN ?_ _ | refine blk_drew ?_ | refine blk_alloc ?_ _)); refine blk_far ?_ NB104_114.out _; (with_reducible repeat (first | refine blk_drewN ?_ _ | refine blk_drew ?_ | refine blk_alloc ?_ _)); refine blk_far ?_ NB104_114.out _; (with_reducible repeat (first | refine blk_drewN ?_ _ | refine blk_drew ?_ | refine blk_alloc ?_ _)); exact BK104.out), (by (with_reducible repeat (first | refine blk_drewN ?_ _ | refine blk_drew ?_ | refine blk_alloc ?_ _)); refine blk_far ?_ NB105_114.out _; (with_reducible repeat (first | refine blk_drewN ?_ _ | refine blk_drew ?_ | refine blk_alloc ?_ _)); refine blk_far ?_ NB105_114.out _; (with_reducible repeat (first | refine blk_drewN ?_ _ | refine blk_drew ?_ | refine blk_alloc ?_ _)); exact BK105.out), (by repeat (first | (with_reducible first | exact HB.out | apply below_alloc | apply pw_below_drewN | apply below_drew1 | refine below_set ?_ GE101.out | refine below_set ?_ GE102.out | refine below_set ?_ GE104.out | refine below_set ?_ GE105.out | refine below_set ?_ GE113.out | refine below_set ?_ GE114.out) | exact HB.out)), fun _ _ => NB114_113.out, fun _ _ => NB113_114.out, fun _ h1_ => absurd ((hon 20 (by kernel_rfl)).symm.trans h1_) (by decide), fun _ => GW113.out, fun _ => GE113.out, fun _ => NB101_113.out, fun _ => NB113_101.out, fun _ => NB102_113.out, fun _ => NB113_102.out, fun _ => NB104_113.out, fun _ => NB113_104.out, fun _ => NB105_113.out, fun _ => NB113_105.out, fun _ h1_ => absurd ((up_self b 21).symm.trans h1_) (by decide), fun _ => GW114.out, fun _ => GE114.out, fun _ => NB101_114.out, fun _ => NB114_101.out, fun _ => NB102_114.out, fun _ => NB114_102.out, fun _ => NB104_114.out, fun _ => NB114_104.out, fun _ => NB105_114.out, fun _ => NB114_105.out, fun _ => (by (with_reducible repeat (first | refine blk_drewN ?_ _ | refine blk_drew ?_ | refine blk_alloc ?_ _)); refine blk_far ?_ NB113_114.out _; (with_reducible repeat (first | refine blk_drewN ?_ _ | refine blk_drew ?_ | refine blk_alloc ?_ _)); refine blk_far ?_ NB113_114.out _; (with_reducible repeat (first | refine blk_drewN ?_ _ | refine blk_drew ?_ | refine blk_alloc ?_ _)); exact BK113.out), fun _ => (by (with_reducible repeat (first | refine blk_drewN ?_ _ | refine blk_drew ?_ | refine blk_alloc ?_ _)); refine blk_put (cs := #[.int .i64 t111, .int .u64 0]) ?_ 1 _ rfl; (with_reducible repeat (first | refine blk_drewN ?_ _ | refine blk_drew ?_ | refine blk_alloc ?_ _)); refine blk_put (cs := #[.int .i64 0, .int .u64 0]) ?_ 0 _ rfl; (with_reducible repeat (first | refine blk_drewN ?_ _ | refine blk_drew ?_ | refine blk_alloc ?_ _)); exact BK114.out), Q_X18_, Q_X19_⟩
        exact steps_nil
      rintro b a w99 hall ⟨gb113, gb114, m18_, m19_, ha, Q_BK101, Q_BK102, Q_BK104, Q_BK105, Q_HB, Q_NB114_113, Q_NB113_114, Q_BK113, Q_GW113, Q_GE113, Q_NB101_113, Q_NB113_101, Q_NB102_113, Q_NB113_102, Q_NB104_113, Q_NB113_104, Q_NB105_113, Q_NB113_105, Q_BK114, Q_GW114, Q_GE114, Q_NB101_114, Q_NB114_101, Q_NB102_114, Q_NB114_102, Q_NB104_114, Q_NB114_104, Q_NB105_114, Q_NB114_105, Q_BK113_e20, Q_BK114_e21, Q_X18_, Q_X19_⟩
      clear BK101 BK102 BK104 BK105 HB
      have hb0_ := hall 0 (by kernel_rfl)
      have hb1_ := hall 1 (by kernel_rfl)
      have hb2_ := hall 2 (by kernel_rfl)
      have hb3_ := hall 3 (by kernel_rfl)
      have hb4_ := hall 4 (by kernel_rfl)
      have hb5_ := hall 5 (by kernel_rfl)
      have hb6_ := hall 6 (by kernel_rfl)
      have hb7_ := hall 7 (by kernel_rfl)
      have hb8_ := hall 8 (by kernel_rfl)
      have hb9_ := hall 9 (by kernel_rfl)
      have hb10_ := hall 10 (by kernel_rfl)
      have hb11_ := hall 11 (by kernel_rfl)
      have hb12_ := hall 12 (by kernel_rfl)
      have hb13_ := hall 13 (by kernel_rfl)
      have hb14_ := hall 14 (by kernel_rfl)
      have hb15_ := hall 15 (by kernel_rfl)
      have hb16_ := hall 16 (by kernel_rfl)
      have hb17_ := hall 17 (by kernel_rfl)
      have hb18_ := hall 18 (by kernel_rfl)
      have hb19_ := hall 19 (by kernel_rfl)
      have hb20_ := hall 20 (by kernel_rfl)
      have hb21_ := hall 21 (by kernel_rfl)
      subst ha
      obtain rfl := Q_X18_ hb18_
      obtain rfl := Q_X19_ hb19_
      simp only [putSel, hb0_, hb1_, hb2_, hb3_, hb4_, hb5_, hb6_, hb7_, hb8_, hb9_, hb10_, hb11_, hb12_, hb13_, hb14_, hb15_, hb16_, hb17_, hb18_, hb19_, hb20_, hb21_, if_true, Act.put, List.setIfInBounds_toArray, List.set_cons_zero, List.set_cons_succ]
      have BK101 := Aside0.mk Q_BK101
      clear Q_BK101
      have BK102 := Aside0.mk Q_BK102
      clear Q_BK102
      have BK104 := Aside0.mk Q_BK104
      clear Q_BK104
      have BK105 := Aside0.mk Q_BK105
      clear Q_BK105
      have HB := Aside0.mk Q_HB
      clear Q_HB
      have NB114_113 := Aside0.mk (Q_NB114_113 hb18_ hb19_)
      clear Q_NB114_113
      have NB113_114 := Aside0.mk (Q_NB113_114 hb18_ hb19_)
      clear Q_NB113_114
      clear Q_BK113
      have GW113 := Aside0.mk (Q_GW113 hb18_)
      clear Q_GW113
      have GE113 := Aside0.mk (Q_GE113 hb18_)
      clear Q_GE113
      have NB101_113 := Aside0.mk (Q_NB101_113 hb18_)
      clear Q_NB101_113
      have NB113_101 := Aside0.mk (Q_NB113_101 hb18_)
      clear Q_NB113_101
      have NB102_113 := Aside0.mk (Q_NB102_113 hb18_)
      clear Q_NB102_113
      have NB113_102 := Aside0.mk (Q_NB113_102 hb18_)
      clear Q_NB113_102
      have NB104_113 := Aside0.mk (Q_NB104_113 hb18_)
      clear Q_NB104_113
      have NB113_104 := Aside0.mk (Q_NB113_104 hb18_)
      clear Q_NB113_104
      have NB105_113 := Aside0.mk (Q_NB105_113 hb18_)
      clear Q_NB105_113
      have NB113_105 := Aside0.mk (Q_NB113_105 hb18_)
      clear Q_NB113_105
      clear Q_BK114
      have GW114 := Aside0.mk (Q_GW114 hb19_)
      clear Q_GW114
      have GE114 := Aside0.mk (Q_GE114 hb19_)
      clear Q_GE114
      have NB101_114 := Aside0.mk (Q_NB101_114 hb19_)
      clear Q_NB101_114
      have NB114_101 := Aside0.mk (Q_NB114_101 hb19_)
      clear Q_NB114_101
      have NB102_114 := Aside0.mk (Q_NB102_114 hb19_)
      clear Q_NB102_114
      have NB114_102 := Aside0.mk (Q_NB114_102 hb19_)
      clear Q_NB114_102
      have NB104_114 := Aside0.mk (Q_NB104_114 hb19_)
      clear Q_NB104_114
      have NB114_104 := Aside0.mk (Q_NB114_104 hb19_)
      clear Q_NB114_104
      have NB105_114 := Aside0.mk (Q_NB105_114 hb19_)
      clear Q_NB105_114
      have NB114_105 := Aside0.mk (Q_NB114_105 hb19_)
      clear Q_NB114_105
      have BK113 := Aside0.mk (Q_BK113_e20 hb20_)
      clear Q_BK113_e20
      have BK114 := Aside0.mk (Q_BK114_e21 hb21_)
      clear Q_BK114_e21
      clear hall hb0_ hb1_ hb2_ hb3_ hb4_ hb5_ hb6_ hb7_ hb8_ hb9_ hb10_ hb11_ hb12_ hb13_ hb14_ hb15_ hb16_ hb17_ hb18_ hb19_ hb20_ hb21_
      have hnb100 := NB114_101.out
      have hnc100 := NB101_114.out
      have hnb101 := NB114_102.out
      have hnc101 := NB102_114.out
      have hnb102 := NB114_104.out
      have hnc102 := NB104_114.out
      have hnb103 := NB114_105.out
      have hnc103 := NB105_114.out
      have hnb104 := NB114_113.out
      have hnc104 := NB113_114.out
      have hcz105_0 := bc_ BK114 0 rfl
      have hcz105_1 := bc_ BK114 1 rfl
      have hfz105_0 := blk_frozen BK114.out 0
      have hfz105_1 := blk_frozen BK114.out 1
      have hnb106 := NB113_101.out
      have hnc106 := NB101_113.out
      have hnb107 := NB113_102.out
      have hnc107 := NB102_113.out
      have hnb108 := NB113_104.out
      have hnc108 := NB104_113.out
      have hnb109 := NB113_105.out
      have hnc109 := NB105_113.out
      have hcz110_0 := bc_ BK113 0 rfl
      have hcz110_1 := bc_ BK113 1 rfl
      have hfz110_0 := blk_frozen BK113.out 0
      have hfz110_1 := blk_frozen BK113.out 1
      try go_wp2_with (first | ((with_reducible refine gate_callee (f := 108) rfl ?_); refine glq_ (some 125) Try.func108 #[.agg #[.int .i64 t111, .int .u64 t112], .agg #[.int .i64 t108, .int .u64 t109]] ?_; (with_reducible refine (num_Wide_Cmp.calls k2 t111 t112 t108 t109 t115 _ A40.out).mono ?_); rintro e w111 ⟨rfl, hb⟩; refine ⟨_, rfl, ?_⟩; replace BK101 := bkb_ BK101 hb rfl; replace BK102 := bkb_ BK102 hb rfl; replace BK104 := bkb_ BK104 hb rfl; replace BK105 := bkb_ BK105 hb rfl; replace BK113 := bkb_ BK113 hb rfl; replace BK114 := bkb_ BK114 hb rfl; replace HB := hbs_ HB hb rfl rfl rfl rfl; (try clear hb); have hnb112 := NB104_101.out; have hnc112 := NB101_104.out; have hnb113 := NB104_102.out; have hnc113 := NB102_104.out; have hcz114_0 := bc_ BK104 0 rfl; have hcz114_1 := bc_ BK104 1 rfl; have hfz114_0 := blk_frozen BK104.out 0; have hfz114_1 := blk_frozen BK104.out 1; have hcz115_0 := bc_ BK105 0 rfl; have hcz115_1 := bc_ BK105 1 rfl; have hfz115_0 := blk_frozen BK105.out 0; have hfz115_1 := blk_frozen BK105.out 1; have hnb116 := NB102_101.out; have hnc116 := NB101_102.out; have hcz117_0 := bc_ BK102 0 rfl; have hcz117_1 := bc_ BK102 1 rfl; have hfz117_0 := blk_frozen BK102.out 0; have hfz117_1 := blk_frozen BK102.out 1))
      refine bodyPost_ret (results_ct rfl _ _ gb102 77 #[.int .i64 (wrap64 (x105000_2 + (wrap64 ((wrap64 (Int.tdiv (wrap64 (a1 - x106000_2)) x106001_2)) * x105001_2)))), .int .i64 (wrap64 (x106000_2 + (wrap64 ((wrap64 (Int.tdiv (wrap64 (a1 - x106000_2)) x106001_2)) * x106001_2))))] (0, 0) _ rfl (by (with_reducible repeat (first | refine blk_drewN ?_ _ | refine blk_drew ?_ | refine blk_alloc ?_ _)); refine blk_put (cs := #[.int .i64 (wrap64 (x105000_2 + (wrap64 ((wrap64 (Int.tdiv (wrap64 (a1 - x106000_2)) x106001_2)) * x105001_2)))), .int .i64 0]) ?_ 1 _ rfl; (with_reducible repeat (first | refine blk_drewN ?_ _ | refine blk_drew ?_ | refine blk_alloc ?_ _)); refine blk_put (cs := #[.int .i64 0, .int .i64 0]) ?_ 0 _ rfl; (with_reducible repeat (first | refine blk_drewN ?_ _ | refine blk_drew ?_ | refine blk_alloc ?_ _)); exact BK102.out) Try.underlying77 rfl (by kernel_rfl)) rfl ?_
      exact ⟨by first | rfl | (simp [errW_none, errW_some] <;> rfl) | (simp [*, errW_none, errW_some] <;> rfl), by repeat (first | (with_reducible first | exact HB.out | apply below_alloc | apply pw_below_drewN | apply below_drew1 | refine below_set ?_ GE101.out | refine below_set ?_ GE102.out | refine below_set ?_ GE104.out | refine below_set ?_ GE105.out | refine below_set ?_ GE113.out | refine below_set ?_ GE114.out) | exact HB.out)⟩

end Go.Proofs.Ytpophefonhpnmaa.Q
