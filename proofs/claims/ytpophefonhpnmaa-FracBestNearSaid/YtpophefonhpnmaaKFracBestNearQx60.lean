/- Contracts of Go functions of the seat, one by one: each call returns what the Lean function of the same name says, wherever that is 'some'; no other condition. Written by a program of this session. -/
import Derived.Test.YtpophefonhpnmaaKFracBestNearQx0
import Derived.Test.YtpophefonhpnmaaKFracBestNearQx7
import Derived.Test.YtpophefonhpnmaaKFracBestNearQx13
import Derived.Test.YtpophefonhpnmaaKFracBestNearQx55
import Derived.Test.YtpophefonhpnmaaKFracBestNearQx57
import Derived.Test.YtpophefonhpnmaaKFracBestNearQx58
import Derived.Test.YtpophefonhpnmaaKFracBestNearQx59
namespace Go.Proofs.Ytpophefonhpnmaa.Q
open Go.RowKit Go.Proofs.YtpophefonhpnmaaW.PrintWords Go.Proofs.YtpophefonhpnmaaW.PrintLast Go.Proofs.YtpophefonhpnmaaW.PrintMore
attribute [local go_sem] max2_int min2_int max_two min_two max_three min_three max_four min_four   -- for this text's walks alone
set_option linter.unusedVariables false
set_option linter.unusedSimpArgs false

/-! ### spykeep1_FracBestNear: function 8 -/
mutual
def spykeep1_FracBestNear.j0 : Nat → Int → Int → Int → Bool → Int → Int → Option (Bool)
 | 0, _, _, _, _, _, _ => none
 | k + 1, x2, x3, x4, x51, x105000, x105001 => if x51 = true then ((spykeep1_fracFact.f k).bind fun t106 => (some t106)) else ((spymake_Below.f x2 4096).bind fun t107 => ((frac_Best.f k x105000 x105001 (wrap64 (1 + t107))).bind fun bt108 => (if bt108.2.2 = 0 then (spykeep1_FracBestNear.j1 k x3 x4 (wrap64 (1 + t107)) (decide (bt108.2.1 > (wrap64 (1 + t107)))) x105000 x105001 bt108.1 bt108.2.1) else (none))))
def spykeep1_FracBestNear.j1 : Nat → Int → Int → Int → Bool → Int → Int → Int → Int → Option (Bool)
 | 0, _, _, _, _, _, _, _, _ => none
 | k + 1, x3, x4, x13, x69, x105000, x105001, x112000, x112001 => if x69 = true then (none) else ((spymake_Below.f x3 x13).bind fun t112 => ((num_MulDiv.f k x105000 (wrap64 (1 + t112)) x105001).bind fun bt113 => ((spymake_Below.f x4 2).bind fun t115 => ((frac_Make.f k (wrap64 (bt113.1 + t115)) (wrap64 (1 + t112))).bind fun bt116 => ((frac_Sub.f k x112000 x112001 x105000 x105001).bind fun bt120 => ((frac_Sub.f k bt116.1 bt116.2.1 x105000 x105001).bind fun bt124 => (if bt113.2 = 0 then (if bt116.2.2 = 0 then (if bt120.2.2 = 0 then (if bt124.2.2 = 0 then ((frac_Cmp.f k (mx bt120.1 (wrap64 (-bt120.1))) bt120.2.1 (mx bt124.1 (wrap64 (-bt124.1))) bt124.2.1).bind fun t128 => (some (decide (t128 ≤ 0)))) else (none)) else (none)) else (none)) else (none))))))))
end
def spykeep1_FracBestNear.f (k : Nat) (a0 : Int) (a1 : Int) (a2 : Int) (a3 : Int) (a4 : Int) : Option (Bool) := (frac_Make.f k a0 a1).bind fun bt101 => ((spykeep1_fracFact.f k).bind fun t105 => (if t105 = true then (if bt101.2.2 = 0 then (if bt101.1 < (-2147483648) then (spykeep1_FracBestNear.j0 k a2 a3 a4 true bt101.1 bt101.2.1) else (if bt101.1 > 2147483648 then (spykeep1_FracBestNear.j0 k a2 a3 a4 true bt101.1 bt101.2.1) else (spykeep1_FracBestNear.j0 k a2 a3 a4 (decide (bt101.2.1 > 2147483648)) bt101.1 bt101.2.1))) else (spykeep1_FracBestNear.j0 k a2 a3 a4 true bt101.1 bt101.2.1)) else (spykeep1_FracBestNear.j0 k a2 a3 a4 true bt101.1 bt101.2.1)))
theorem spykeep1_FracBestNear.mono_l : ∀ k, (∀ y0 y1 y2 y3 y4 y5, LeO (spykeep1_FracBestNear.j0 k y0 y1 y2 y3 y4 y5) (spykeep1_FracBestNear.j0 (k + 1) y0 y1 y2 y3 y4 y5)) ∧ (∀ y0 y1 y2 y3 y4 y5 y6 y7, LeO (spykeep1_FracBestNear.j1 k y0 y1 y2 y3 y4 y5 y6 y7) (spykeep1_FracBestNear.j1 (k + 1) y0 y1 y2 y3 y4 y5 y6 y7))
 | 0 => ⟨fun _ _ _ _ _ _ r h => by simp [spykeep1_FracBestNear.j0] at h, fun _ _ _ _ _ _ _ _ r h => by simp [spykeep1_FracBestNear.j1] at h⟩
 | k + 1 => by
  obtain ⟨ih0, ih1⟩ := spykeep1_FracBestNear.mono_l k
  refine ⟨?_, ?_⟩
  · intro y0 y1 y2 y3 y4 y5
    unfold spykeep1_FracBestNear.j0
    repeat' first
    | (with_reducible exact ih0 _ _ _ _ _ _)
    | (with_reducible exact ih1 _ _ _ _ _ _ _ _)
    | (with_reducible exact frac_Best.mono _ _ _ _)
    | (with_reducible exact frac_Cmp.mono _ _ _ _ _)
    | (with_reducible exact frac_Make.mono _ _ _)
    | (with_reducible exact frac_Sub.mono _ _ _ _ _)
    | (with_reducible exact num_MulDiv.mono _ _ _ _)
    | (with_reducible exact spykeep1_fracFact.mono _)
    | (with_reducible exact LeO.refl _)
    | (with_reducible exact LeO.none _)
    | (with_reducible refine LeO.ite ?_ ?_)
    | (with_reducible refine LeO.bind ?_ (fun _ => ?_))
    | exact ih0 _ _ _ _ _ _
    | exact ih1 _ _ _ _ _ _ _ _
    | exact frac_Best.mono _ _ _ _
    | exact frac_Cmp.mono _ _ _ _ _
    | exact frac_Make.mono _ _ _
    | exact frac_Sub.mono _ _ _ _ _
    | exact num_MulDiv.mono _ _ _ _
    | exact spykeep1_fracFact.mono _
    | exact LeO.none _
    | refine LeO.ite ?_ ?_
    | refine LeO.bind ?_ (fun _ => ?_)
  · intro y0 y1 y2 y3 y4 y5 y6 y7
    unfold spykeep1_FracBestNear.j1
    repeat' first
    | (with_reducible exact ih0 _ _ _ _ _ _)
    | (with_reducible exact ih1 _ _ _ _ _ _ _ _)
    | (with_reducible exact frac_Best.mono _ _ _ _)
    | (with_reducible exact frac_Cmp.mono _ _ _ _ _)
    | (with_reducible exact frac_Make.mono _ _ _)
    | (with_reducible exact frac_Sub.mono _ _ _ _ _)
    | (with_reducible exact num_MulDiv.mono _ _ _ _)
    | (with_reducible exact spykeep1_fracFact.mono _)
    | (with_reducible exact LeO.refl _)
    | (with_reducible exact LeO.none _)
    | (with_reducible refine LeO.ite ?_ ?_)
    | (with_reducible refine LeO.bind ?_ (fun _ => ?_))
    | exact ih0 _ _ _ _ _ _
    | exact ih1 _ _ _ _ _ _ _ _
    | exact frac_Best.mono _ _ _ _
    | exact frac_Cmp.mono _ _ _ _ _
    | exact frac_Make.mono _ _ _
    | exact frac_Sub.mono _ _ _ _ _
    | exact num_MulDiv.mono _ _ _ _
    | exact spykeep1_fracFact.mono _
    | exact LeO.none _
    | refine LeO.ite ?_ ?_
    | refine LeO.bind ?_ (fun _ => ?_)
theorem spykeep1_FracBestNear.mono : ∀ a0 a1 a2 a3 a4 k, LeO (spykeep1_FracBestNear.f k a0 a1 a2 a3 a4) (spykeep1_FracBestNear.f (k + 1) a0 a1 a2 a3 a4) := by
 intro a0 a1 a2 a3 a4 k
 obtain ⟨ih0, ih1⟩ := spykeep1_FracBestNear.mono_l k
 unfold spykeep1_FracBestNear.f
 repeat' first
  | (with_reducible exact ih0 _ _ _ _ _ _)
  | (with_reducible exact ih1 _ _ _ _ _ _ _ _)
  | (with_reducible exact frac_Best.mono _ _ _ _)
  | (with_reducible exact frac_Cmp.mono _ _ _ _ _)
  | (with_reducible exact frac_Make.mono _ _ _)
  | (with_reducible exact frac_Sub.mono _ _ _ _ _)
  | (with_reducible exact num_MulDiv.mono _ _ _ _)
  | (with_reducible exact spykeep1_fracFact.mono _)
  | (with_reducible exact LeO.refl _)
  | (with_reducible exact LeO.none _)
  | (with_reducible refine LeO.ite ?_ ?_)
  | (with_reducible refine LeO.bind ?_ (fun _ => ?_))
  | exact ih0 _ _ _ _ _ _
  | exact ih1 _ _ _ _ _ _ _ _
  | exact frac_Best.mono _ _ _ _
  | exact frac_Cmp.mono _ _ _ _ _
  | exact frac_Make.mono _ _ _
  | exact frac_Sub.mono _ _ _ _ _
  | exact num_MulDiv.mono _ _ _ _
  | exact spykeep1_fracFact.mono _
  | exact LeO.none _
  | refine LeO.ite ?_ ?_
  | refine LeO.bind ?_ (fun _ => ?_)
def spykeep1_FracBestNear.T15 : Bool × List (List Nat × List Nat) := (true, [([], []), ([0], [0]), ([], []), ([2], [2]), ([3], [3]), ([1, 4], [1, 4]), ([], []), ([6], [6]), ([], []), ([8], [8]), ([9], [9]), ([7, 10], [7, 10]), ([0, 1, 2, 3, 4, 5], []), ([12, 5, 0, 1, 2, 3, 4, 5], [5, 12]), ([0, 1, 2, 3, 4, 5, 6, 7, 8, 9, 10, 11, 12, 13], []), ([14, 11, 13, 0, 1, 2, 3, 4, 5, 6, 7, 8, 9, 10, 11, 12, 13], [11, 14])])
def spykeep1_FracBestNear.B15 : List Nat := [0, 1, 0, 4, 12, 31, 0, 64, 0, 256, 768, 1984, 63, 4159, 16383, 32767]
theorem spykeep1_FracBestNear.tab15 : rtab .any (opsOf Try.f8 15) = spykeep1_FracBestNear.T15 := by kernel_rfl
theorem spykeep1_FracBestNear.bits15 : waitsOk spykeep1_FracBestNear.T15.2 spykeep1_FracBestNear.B15 = true := by kernel_rfl
set_option maxHeartbeats 8000000 in
set_option maxRecDepth 100000 in
theorem spykeep1_FracBestNear.calls (k : Nat) (a0 : Int) (a1 : Int) (a2 : Int) (a3 : Int) (a4 : Int) (r : Bool) (w : World) (h : spykeep1_FracBestNear.f k a0 a1 a2 a3 a4 = some r) :
 Calls Try.prog 8 #[.int .i64 a0, .int .i64 a1, .int .i64 a2, .int .i64 a3, .int .i64 a4] w fun e w' => e = .returned (.bool r) ∧ Below w.heap.size w w' := by
  have hu77 := Try.underlying77
  have HB := Aside0.mk (Below.refl w.heap.size w)
  have H : ((frac_Make.f k a0 a1).bind fun bt101 => ((spykeep1_fracFact.f k).bind fun t105 => (if t105 = true then (if bt101.2.2 = 0 then (if bt101.1 < (-2147483648) then (spykeep1_FracBestNear.j0 k a2 a3 a4 true bt101.1 bt101.2.1) else (if bt101.1 > 2147483648 then (spykeep1_FracBestNear.j0 k a2 a3 a4 true bt101.1 bt101.2.1) else (spykeep1_FracBestNear.j0 k a2 a3 a4 (decide (bt101.2.1 > 2147483648)) bt101.1 bt101.2.1))) else (spykeep1_FracBestNear.j0 k a2 a3 a4 true bt101.1 bt101.2.1)) else (spykeep1_FracBestNear.j0 k a2 a3 a4 true bt101.1 bt101.2.1)))) = some r := h
  clear h
  replace H := Option.bind_eq_some_iff.mp H
  obtain ⟨⟨t101, t102, t103⟩, A60, H⟩ := H
  try dsimp -simprocs only at H
  have A6 := Aside0.mk A60
  clear A60
  have HC7 := Aside0.mk H
  clear H
  go_enter Try.func8, Try.ntmps8
  go_upto_region 2 with (first | ((with_reducible refine gate_callee (f := 50) rfl ?_); refine glq_ (some 28) Try.func50 #[.int .i64 a0, .int .i64 a1] ?_; (with_reducible refine (frac_Make.calls k a0 a1 t101 t102 t103 _ A6.out).mono ?_); rintro e w8 ⟨rfl, hb⟩; refine ⟨_, rfl, ?_⟩; replace HB := hbs_ HB hb rfl rfl rfl rfl; (try clear hb)) | ((with_reducible refine gate_dst (N := 11) rfl ?_); refine bxq_ 11 #[.int .i64 0, .int .i64 0] 77 ?_; intro gb104 hg w9 hbox hb; have BK104 := Aside0.mk (hbox); have GW104 := gwq_ HB hg rfl; have GE104 := GW104; replace HB := hbs_ HB hb rfl rfl rfl rfl; clear hb hbox hg; have hcz10_0 := bc_ BK104 0 rfl; have hcz10_1 := bc_ BK104 1 rfl; have hfz10_0 := blk_frozen BK104.out 0; have hfz10_1 := blk_frozen BK104.out 1))
  (try simp only [Act.put, List.setIfInBounds_toArray, List.set_cons_zero, List.set_cons_succ])
  go_cut [51] (fun v51 wc => ∃ (kq : Nat) (x51_6 : Bool), v51 = .bool x51_6 ∧ Aside0 (spykeep1_FracBestNear.j0 kq a2 a3 a4 x51_6 t101 t102 = some r) ∧ Aside0 (kq ≤ k) ∧ Aside0 (wc.heap[gb104]? = some (.cells #[.int .i64 t101, .int .i64 t102] 77 (0, 0))) ∧ Aside0 (Below w.heap.size w wc))
  case first =>
   have H := HC7.out
   clear HC7
   replace H := Option.bind_eq_some_iff.mp H
   obtain ⟨t105, A110, H⟩ := H
   try dsimp -simprocs only at H
   have A11 := Aside0.mk A110
   clear A110
   by_cases c12 : t105 = true
   rotate_left
   · replace c12 := Bool.eq_false_iff.mpr c12
     subst c12
     rw [if_neg (show ¬ (false = true) by decide)] at H
     have H' := Aside0.mk H
     clear H
     go_wp2_with (first | ((with_reducible refine gate_callee (f := 51) rfl ?_); refine glq_ (some 31) Try.func51 #[] ?_; (with_reducible refine (spykeep1_fracFact.calls k  false _ A11.out).mono ?_); rintro e w23 ⟨rfl, hb⟩; refine ⟨_, rfl, ?_⟩; replace BK104 := Aside0.mk (blk_below (g := gb104) (o := .cells #[.int .i64 t101, .int .i64 t102] 77 (0, 0)) (by (with_reducible repeat (first | refine blk_drewN ?_ _ | refine blk_drew ?_ | refine blk_alloc ?_ _)); refine blk_put (cs := #[.int .i64 t101, .int .i64 0]) ?_ 1 _ rfl; (with_reducible repeat (first | refine blk_drewN ?_ _ | refine blk_drew ?_ | refine blk_alloc ?_ _)); refine blk_put (cs := #[.int .i64 0, .int .i64 0]) ?_ 0 _ rfl; (with_reducible repeat (first | refine blk_drewN ?_ _ | refine blk_drew ?_ | refine blk_alloc ?_ _)); exact BK104.out) hb); replace HB := Aside0.mk (below_step (by repeat (first | (with_reducible first | exact HB.out | apply below_alloc | apply pw_below_drewN | apply below_drew1 | refine below_set ?_ GE104.out) | exact HB.out)) hb); (try clear hb)))
     go_meet
     case rel => exact ⟨_, (true), (by first | rfl | (simp; done) | (simp [*]; done)), H', ⟨by first | omega | exact Nat.le_refl _⟩, ⟨by (with_reducible repeat (first | refine blk_drewN ?_ _ | refine blk_drew ?_ | refine blk_alloc ?_ _)); exact BK104.out⟩, ⟨by repeat (first | (with_reducible first | exact HB.out | apply below_alloc | apply pw_below_drewN | apply below_drew1 | refine below_set ?_ GE104.out) | exact HB.out)⟩⟩
   subst c12
   rw [if_pos rfl] at H
   by_cases c13 : t103 = 0
   rotate_left
   · rw [if_neg c13] at H
     have c13b0 : (t103 == 0) = false := beq_eq_false_iff_ne.mpr c13
     have c13b1 : (t103 != 0) = true := bne_iff_ne.mpr c13
     (first | rw [c13b0] | (simp only [i64_w, i32_w]; rw [c13b0]) | skip)
     have H' := Aside0.mk H
     clear H
     go_wp2_with (first | ((with_reducible refine gate_callee (f := 51) rfl ?_); refine glq_ (some 31) Try.func51 #[] ?_; (with_reducible refine (spykeep1_fracFact.calls k  true _ A11.out).mono ?_); rintro e w22 ⟨rfl, hb⟩; refine ⟨_, rfl, ?_⟩; replace BK104 := Aside0.mk (blk_below (g := gb104) (o := .cells #[.int .i64 t101, .int .i64 t102] 77 (0, 0)) (by (with_reducible repeat (first | refine blk_drewN ?_ _ | refine blk_drew ?_ | refine blk_alloc ?_ _)); refine blk_put (cs := #[.int .i64 t101, .int .i64 0]) ?_ 1 _ rfl; (with_reducible repeat (first | refine blk_drewN ?_ _ | refine blk_drew ?_ | refine blk_alloc ?_ _)); refine blk_put (cs := #[.int .i64 0, .int .i64 0]) ?_ 0 _ rfl; (with_reducible repeat (first | refine blk_drewN ?_ _ | refine blk_drew ?_ | refine blk_alloc ?_ _)); exact BK104.out) hb); replace HB := Aside0.mk (below_step (by repeat (first | (with_reducible first | exact HB.out | apply below_alloc | apply pw_below_drewN | apply below_drew1 | refine below_set ?_ GE104.out) | exact HB.out)) hb); (try clear hb)))
     go_meet
     case rel => exact ⟨_, (true), (by first | rfl | (simp; done) | (simp [*]; done)), H', ⟨by first | omega | exact Nat.le_refl _⟩, ⟨by (with_reducible repeat (first | refine blk_drewN ?_ _ | refine blk_drew ?_ | refine blk_alloc ?_ _)); exact BK104.out⟩, ⟨by repeat (first | (with_reducible first | exact HB.out | apply below_alloc | apply pw_below_drewN | apply below_drew1 | refine below_set ?_ GE104.out) | exact HB.out)⟩⟩
   rw [if_pos c13] at H
   have c13b0 : (t103 == 0) = true := beq_iff_eq.mpr c13
   have c13b1 : (t103 != 0) = false := bne_eq_false_iff_eq.mpr c13
   clear c13
   (first | rw [c13b0] | (simp only [i64_w, i32_w]; rw [c13b0]) | skip)
   by_cases c14 : t101 < (-2147483648)
   · rw [if_pos c14] at H
     have c14b0 : decide (t101 < (-2147483648)) = true := decide_eq_true c14
     clear c14
     have H' := Aside0.mk H
     clear H
     go_wp2_with (first | ((with_reducible refine gate_callee (f := 51) rfl ?_); refine glq_ (some 31) Try.func51 #[] ?_; (with_reducible refine (spykeep1_fracFact.calls k  true _ A11.out).mono ?_); rintro e w15 ⟨rfl, hb⟩; refine ⟨_, rfl, ?_⟩; replace BK104 := Aside0.mk (blk_below (g := gb104) (o := .cells #[.int .i64 t101, .int .i64 t102] 77 (0, 0)) (by (with_reducible repeat (first | refine blk_drewN ?_ _ | refine blk_drew ?_ | refine blk_alloc ?_ _)); refine blk_put (cs := #[.int .i64 t101, .int .i64 0]) ?_ 1 _ rfl; (with_reducible repeat (first | refine blk_drewN ?_ _ | refine blk_drew ?_ | refine blk_alloc ?_ _)); refine blk_put (cs := #[.int .i64 0, .int .i64 0]) ?_ 0 _ rfl; (with_reducible repeat (first | refine blk_drewN ?_ _ | refine blk_drew ?_ | refine blk_alloc ?_ _)); exact BK104.out) hb); replace HB := Aside0.mk (below_step (by repeat (first | (with_reducible first | exact HB.out | apply below_alloc | apply pw_below_drewN | apply below_drew1 | refine below_set ?_ GE104.out) | exact HB.out)) hb); (try clear hb); have hcz16_0 := bc_ BK104 0 rfl; have hcz16_1 := bc_ BK104 1 rfl; have hfz16_0 := blk_frozen BK104.out 0; have hfz16_1 := blk_frozen BK104.out 1))
     go_meet
     case rel => exact ⟨_, (true), (by first | rfl | (simp; done) | (simp [*]; done)), H', ⟨by first | omega | exact Nat.le_refl _⟩, ⟨by (with_reducible repeat (first | refine blk_drewN ?_ _ | refine blk_drew ?_ | refine blk_alloc ?_ _)); exact BK104.out⟩, ⟨by repeat (first | (with_reducible first | exact HB.out | apply below_alloc | apply pw_below_drewN | apply below_drew1 | refine below_set ?_ GE104.out) | exact HB.out)⟩⟩
   rw [if_neg c14] at H
   have c14b0 : decide (t101 < (-2147483648)) = false := decide_eq_false c14
   clear c14
   by_cases c17 : t101 > 2147483648
   · rw [if_pos c17] at H
     have c17b0 : decide (2147483648 < t101) = true := decide_eq_true c17
     clear c17
     have H' := Aside0.mk H
     clear H
     go_wp2_with (first | ((with_reducible refine gate_callee (f := 51) rfl ?_); refine glq_ (some 31) Try.func51 #[] ?_; (with_reducible refine (spykeep1_fracFact.calls k  true _ A11.out).mono ?_); rintro e w18 ⟨rfl, hb⟩; refine ⟨_, rfl, ?_⟩; replace BK104 := Aside0.mk (blk_below (g := gb104) (o := .cells #[.int .i64 t101, .int .i64 t102] 77 (0, 0)) (by (with_reducible repeat (first | refine blk_drewN ?_ _ | refine blk_drew ?_ | refine blk_alloc ?_ _)); refine blk_put (cs := #[.int .i64 t101, .int .i64 0]) ?_ 1 _ rfl; (with_reducible repeat (first | refine blk_drewN ?_ _ | refine blk_drew ?_ | refine blk_alloc ?_ _)); refine blk_put (cs := #[.int .i64 0, .int .i64 0]) ?_ 0 _ rfl; (with_reducible repeat (first | refine blk_drewN ?_ _ | refine blk_drew ?_ | refine blk_alloc ?_ _)); exact BK104.out) hb); replace HB := Aside0.mk (below_step (by repeat (first | (with_reducible first | exact HB.out | apply below_alloc | apply pw_below_drewN | apply below_drew1 | refine below_set ?_ GE104.out) | exact HB.out)) hb); (try clear hb); have hcz19_0 := bc_ BK104 0 rfl; have hcz19_1 := bc_ BK104 1 rfl; have hfz19_0 := blk_frozen BK104.out 0; have hfz19_1 := blk_frozen BK104.out 1))
     go_meet
     case rel => exact ⟨_, (true), (by first | rfl | (simp; done) | (simp [*]; done)), H', ⟨by first | omega | exact Nat.le_refl _⟩, ⟨by (with_reducible repeat (first | refine blk_drewN ?_ _ | refine blk_drew ?_ | refine blk_alloc ?_ _)); exact BK104.out⟩, ⟨by repeat (first | (with_reducible first | exact HB.out | apply below_alloc | apply pw_below_drewN | apply below_drew1 | refine below_set ?_ GE104.out) | exact HB.out)⟩⟩
   rw [if_neg c17] at H
   have c17b0 : decide (2147483648 < t101) = false := decide_eq_false c17
   clear c17
   have H' := Aside0.mk H
   clear H
   go_wp2_with (first | ((with_reducible refine gate_callee (f := 51) rfl ?_); refine glq_ (some 31) Try.func51 #[] ?_; (with_reducible refine (spykeep1_fracFact.calls k  true _ A11.out).mono ?_); rintro e w20 ⟨rfl, hb⟩; refine ⟨_, rfl, ?_⟩; replace BK104 := Aside0.mk (blk_below (g := gb104) (o := .cells #[.int .i64 t101, .int .i64 t102] 77 (0, 0)) (by (with_reducible repeat (first | refine blk_drewN ?_ _ | refine blk_drew ?_ | refine blk_alloc ?_ _)); refine blk_put (cs := #[.int .i64 t101, .int .i64 0]) ?_ 1 _ rfl; (with_reducible repeat (first | refine blk_drewN ?_ _ | refine blk_drew ?_ | refine blk_alloc ?_ _)); refine blk_put (cs := #[.int .i64 0, .int .i64 0]) ?_ 0 _ rfl; (with_reducible repeat (first | refine blk_drewN ?_ _ | refine blk_drew ?_ | refine blk_alloc ?_ _)); exact BK104.out) hb); replace HB := Aside0.mk (below_step (by repeat (first | (with_reducible first | exact HB.out | apply below_alloc | apply pw_below_drewN | apply below_drew1 | refine below_set ?_ GE104.out) | exact HB.out)) hb); (try clear hb); have hcz21_0 := bc_ BK104 0 rfl; have hcz21_1 := bc_ BK104 1 rfl; have hfz21_0 := blk_frozen BK104.out 0; have hfz21_1 := blk_frozen BK104.out 1))
   go_meet
   case rel => exact ⟨_, (decide (t102 > 2147483648)), (by first | rfl | (simp; done) | (simp [*]; done)), H', ⟨by first | omega | exact Nat.le_refl _⟩, ⟨by (with_reducible repeat (first | refine blk_drewN ?_ _ | refine blk_drew ?_ | refine blk_alloc ?_ _)); exact BK104.out⟩, ⟨by repeat (first | (with_reducible first | exact HB.out | apply below_alloc | apply pw_below_drewN | apply below_drew1 | refine below_set ?_ GE104.out) | exact HB.out)⟩⟩
  case rest =>
   clear HC7
   obtain ⟨kq, x51_6, rfl, HA, HJ6, BK104, HB⟩ := hcut
   cases kq with
   | zero => exact absurd HA.out (by simp [spykeep1_FracBestNear.j0])
   | succ kj6 =>
    have H := HA.out
    clear HA
    simp only [spykeep1_FracBestNear.j0] at H
    by_cases c24 : x51_6 = true
    · subst c24
      rw [if_pos rfl] at H
      replace H := Option.bind_eq_some_iff.mp H
      obtain ⟨t106, A250, H⟩ := H
      try dsimp -simprocs only at H
      have A25 := Aside0.mk A250
      clear A250
      obtain rfl := Option.some.inj H
      go_wp2_with (first | ((with_reducible refine gate_callee (f := 51) rfl ?_); refine glq_ (some 52) Try.func51 #[] ?_; (with_reducible refine (spykeep1_fracFact.calls kj6  t106 _ A25.out).mono ?_); rintro e w26 ⟨rfl, hb⟩; refine ⟨_, rfl, ?_⟩; replace BK104 := bkb_ BK104 hb rfl; replace HB := hbs_ HB hb rfl rfl rfl rfl; (try clear hb)))
      go_ret
      exact ⟨by first | rfl | (simp [errW_none, errW_some] <;> rfl) | (simp [*, errW_none, errW_some] <;> rfl), by repeat (first | (with_reducible first | exact HB.out | apply below_alloc | apply pw_below_drewN | apply below_drew1 | refine below_set ?_ GE104.out) | exact HB.out)⟩
    replace c24 := Bool.eq_false_iff.mpr c24
    subst c24
    rw [if_neg (show ¬ (false = true) by decide)] at H
    replace H := Option.bind_eq_some_iff.mp H
    obtain ⟨t107, A270, H⟩ := H
    try dsimp -simprocs only at H
    have A27 := Aside0.mk A270
    clear A270
    replace H := Option.bind_eq_some_iff.mp H
    obtain ⟨⟨t108, t109, t110⟩, A280, H⟩ := H
    try dsimp -simprocs only at H
    have A28 := Aside0.mk A280
    clear A280
    have HC29 := Aside0.mk H
    clear H
    go_upto_region 6 with (first | ((with_reducible refine gate_callee (f := 21) rfl ?_); refine glq_ (some 54) Try.func21 #[.int .i64 a2, .int .i64 4096] ?_; (with_reducible refine (spymake_Below.calls a2 4096 t107 _ A27.out).mono ?_); rintro e w' ⟨rfl, ⟨nd, rfl⟩⟩; refine ⟨_, rfl, ?_⟩; (repeat (rw [drewN_self wc]; generalize hq_ : World.drewN wc _ = wc; have n0_ : Aside0 (wc.heap[gb104]? = some (.cells #[.int .i64 t101, .int .i64 t102] 77 (0, 0))) := ⟨by rw [← hq_]; exact BK104.out⟩; have n1_ : Aside0 (Below w.heap.size w wc) := ⟨by rw [← hq_]; exact (by repeat (first | (with_reducible first | exact HB.out | apply below_alloc | apply pw_below_drewN | apply below_drew1 | refine below_set ?_ GE104.out) | exact HB.out))⟩; clear BK104 HB hq_; have BK104 := n0_; have HB := n1_; clear n0_ n1_)); have hcz30_0 := bc_ BK104 0 rfl; have hcz30_1 := bc_ BK104 1 rfl; have hfz30_0 := blk_frozen BK104.out 0; have hfz30_1 := blk_frozen BK104.out 1) | ((with_reducible refine gate_callee (f := 52) rfl ?_); refine glq_ (some 59) Try.func52 #[.agg #[.int .i64 t101, .int .i64 t102], .int .i64 (wrap64 (1 + t107))] ?_; (with_reducible refine (frac_Best.calls kj6 t101 t102 (wrap64 (1 + t107)) t108 t109 t110 _ A28.out).mono ?_); rintro e w31 ⟨rfl, hb⟩; refine ⟨_, rfl, ?_⟩; replace BK104 := bkb_ BK104 hb rfl; replace HB := hbs_ HB hb rfl rfl rfl rfl; (try clear hb)) | ((with_reducible refine gate_dst (N := 14) rfl ?_); refine bxq_ 14 #[.int .i64 0, .int .i64 0] 77 ?_; intro gb111 hg w32 hbox hb; have BK111 := Aside0.mk (hbox); have GW111 := gwq_ HB hg rfl; have GE111 := GW111; have NB104_111 := nbl_ BK104 hg rfl; have NB111_104 := nbg_ BK104 hg rfl; replace BK104 := bkb_ BK104 hb rfl; replace HB := hbs_ HB hb rfl rfl rfl rfl; clear hb hbox hg; have hnb33 := NB111_104.out; have hnc33 := NB104_111.out; have hcz34_0 := bc_ BK111 0 rfl; have hcz34_1 := bc_ BK111 1 rfl; have hfz34_0 := blk_frozen BK111.out 0; have hfz34_1 := blk_frozen BK111.out 1))
    (try simp only [Act.put, List.setIfInBounds_toArray, List.set_cons_zero, List.set_cons_succ])
    go_cut [69] (fun v69 wc => ∃ (kq : Nat) (x69_28 : Bool), v69 = .bool x69_28 ∧ Aside0 (spykeep1_FracBestNear.j1 kq a3 a4 (wrap64 (1 + t107)) x69_28 t101 t102 t108 t109 = some r) ∧ Aside0 (kq ≤ kj6) ∧ Aside0 (wc.heap[gb104]? = some (.cells #[.int .i64 t101, .int .i64 t102] 77 (0, 0))) ∧ Aside0 (wc.heap[gb111]? = some (.cells #[.int .i64 t108, .int .i64 t109] 77 (0, 0))) ∧ Aside0 (Below w.heap.size w wc))
    case first =>
     have H := HC29.out
     clear HC29
     by_cases c35 : t110 = 0
     rotate_left
     · rw [if_neg c35] at H
       exact absurd H (by simp)
     rw [if_pos c35] at H
     have c35b0 : (t110 == 0) = true := beq_iff_eq.mpr c35
     have c35b1 : (t110 != 0) = false := bne_eq_false_iff_eq.mpr c35
     clear c35
     (first | rw [c35b0] | (simp only [i64_w, i32_w]; rw [c35b0]) | skip)
     have H' := Aside0.mk H
     clear H
     have hnb36 := NB111_104.out
     have hnc36 := NB104_111.out
     have hcz37_0 := bc_ BK111 0 rfl
     have hcz37_1 := bc_ BK111 1 rfl
     have hfz37_0 := blk_frozen BK111.out 0
     have hfz37_1 := blk_frozen BK111.out 1
     go_wp2
     go_meet
     case rel => exact ⟨_, (decide (t109 > (wrap64 (1 + t107)))), (by first | rfl | (simp; done) | (simp [*]; done)), H', ⟨by have := HJ6.out; first | omega | exact Nat.le_refl _⟩, ⟨by (with_reducible repeat (first | refine blk_drewN ?_ _ | refine blk_drew ?_ | refine blk_alloc ?_ _)); refine blk_far ?_ NB104_111.out _; (with_reducible repeat (first | refine blk_drewN ?_ _ | refine blk_drew ?_ | refine blk_alloc ?_ _)); refine blk_far ?_ NB104_111.out _; (with_reducible repeat (first | refine blk_drewN ?_ _ | refine blk_drew ?_ | refine blk_alloc ?_ _)); exact BK104.out⟩, ⟨by (with_reducible repeat (first | refine blk_drewN ?_ _ | refine blk_drew ?_ | refine blk_alloc ?_ _)); refine blk_put (cs := #[.int .i64 t108, .int .i64 0]) ?_ 1 _ rfl; (with_reducible repeat (first | refine blk_drewN ?_ _ | refine blk_drew ?_ | refine blk_alloc ?_ _)); refine blk_put (cs := #[.int .i64 0, .int .i64 0]) ?_ 0 _ rfl; (with_reducible repeat (first | refine blk_drewN ?_ _ | refine blk_drew ?_ | refine blk_alloc ?_ _)); exact BK111.out⟩, ⟨by repeat (first | (with_reducible first | exact HB.out | apply below_alloc | apply pw_below_drewN | apply below_drew1 | refine below_set ?_ GE104.out | refine below_set ?_ GE111.out) | exact HB.out)⟩⟩
    case rest =>
     clear HC29
     obtain ⟨kq, x69_28, rfl, HA, HJ28, BK104, BK111, HB⟩ := hcut
     cases kq with
     | zero => exact absurd HA.out (by simp [spykeep1_FracBestNear.j1])
     | succ kj28 =>
      have H := HA.out
      clear HA
      simp only [spykeep1_FracBestNear.j1] at H
      by_cases c38 : x69_28 = true
      · subst c38
        rw [if_pos rfl] at H
        exact absurd H (by simp)
      replace c38 := Bool.eq_false_iff.mpr c38
      subst c38
      rw [if_neg (show ¬ (false = true) by decide)] at H
      replace H := Option.bind_eq_some_iff.mp H
      obtain ⟨t112, A390, H⟩ := H
      try dsimp -simprocs only at H
      have A39 := Aside0.mk A390
      clear A390
      replace H := Option.bind_eq_some_iff.mp H
      obtain ⟨⟨t113, t114⟩, A400, H⟩ := H
      try dsimp -simprocs only at H
      have A40 := Aside0.mk A400
      clear A400
      replace H := Option.bind_eq_some_iff.mp H
      obtain ⟨t115, A410, H⟩ := H
      try dsimp -simprocs only at H
      have A41 := Aside0.mk A410
      clear A410
      replace H := Option.bind_eq_some_iff.mp H
      obtain ⟨⟨t116, t117, t118⟩, A420, H⟩ := H
      try dsimp -simprocs only at H
      have A42 := Aside0.mk A420
      clear A420
      replace H := Option.bind_eq_some_iff.mp H
      obtain ⟨⟨t120, t121, t122⟩, A430, H⟩ := H
      try dsimp -simprocs only at H
      have A43 := Aside0.mk A430
      clear A430
      replace H := Option.bind_eq_some_iff.mp H
      obtain ⟨⟨t124, t125, t126⟩, A440, H⟩ := H
      try dsimp -simprocs only at H
      have A44 := Aside0.mk A440
      clear A440
      by_cases c45 : t114 = 0
      rotate_left
      · rw [if_neg c45] at H
        exact absurd H (by simp)
      rw [if_pos c45] at H
      have c45b0 : (t114 == 0) = true := beq_iff_eq.mpr c45
      have c45b1 : (t114 != 0) = false := bne_eq_false_iff_eq.mpr c45
      clear c45
      by_cases c46 : t118 = 0
      rotate_left
      · rw [if_neg c46] at H
        exact absurd H (by simp)
      rw [if_pos c46] at H
      have c46b0 : (t118 == 0) = true := beq_iff_eq.mpr c46
      have c46b1 : (t118 != 0) = false := bne_eq_false_iff_eq.mpr c46
      clear c46
      by_cases c47 : t122 = 0
      rotate_left
      · rw [if_neg c47] at H
        exact absurd H (by simp)
      rw [if_pos c47] at H
      have c47b0 : (t122 == 0) = true := beq_iff_eq.mpr c47
      have c47b1 : (t122 != 0) = false := bne_eq_false_iff_eq.mpr c47
      clear c47
      by_cases c48 : t126 = 0
      rotate_left
      · rw [if_neg c48] at H
        exact absurd H (by simp)
      rw [if_pos c48] at H
      have c48b0 : (t126 == 0) = true := beq_iff_eq.mpr c48
      have c48b1 : (t126 != 0) = false := bne_eq_false_iff_eq.mpr c48
      clear c48
      obtain ⟨ji49, hji49⟩ : ∃ j_ : Int, (mx t120 (wrap64 (-t120))) = j_ := ⟨_, rfl⟩
      replace H : ((frac_Cmp.f kj28 (ji49) t121 (mx t124 (wrap64 (-t124))) t125).bind fun t128 => (some (decide (t128 ≤ 0)))) = some r := by first | (rw [hji49] at H; exact H) | (simp only [hji49] at H ⊢; exact H)
      (try rw [hji49] at A39)
      (try rw [hji49] at A40)
      (try rw [hji49] at A41)
      (try rw [hji49] at A42)
      (try rw [hji49] at A43)
      (try rw [hji49] at A44)
      have hji49_ : (if t120 < (wrap64 (-t120)) then (wrap64 (-t120)) else t120) = ji49 := hji49
      obtain ⟨ji50, hji50⟩ : ∃ j_ : Int, (mx t124 (wrap64 (-t124))) = j_ := ⟨_, rfl⟩
      replace H : ((frac_Cmp.f kj28 (ji49) t121 (ji50) t125).bind fun t128 => (some (decide (t128 ≤ 0)))) = some r := by first | (rw [hji50] at H; exact H) | (simp only [hji50] at H ⊢; exact H)
      (try rw [hji50] at A39)
      (try rw [hji50] at A40)
      (try rw [hji50] at A41)
      (try rw [hji50] at A42)
      (try rw [hji50] at A43)
      (try rw [hji50] at A44)
      have hji50_ : (if t124 < (wrap64 (-t124)) then (wrap64 (-t124)) else t124) = ji50 := hji50
      replace H := Option.bind_eq_some_iff.mp H
      obtain ⟨t128, A510, H⟩ := H
      try dsimp -simprocs only at H
      have A51 := Aside0.mk A510
      clear A510
      obtain rfl := Option.some.inj H
      try go_wp2_with (first | ((with_reducible refine gate_callee (f := 21) rfl ?_); refine glq_ (some 72) Try.func21 #[.int .i64 a3, .int .i64 (wrap64 (1 + t107))] ?_; (with_reducible refine (spymake_Below.calls a3 (wrap64 (1 + t107)) t112 _ A39.out).mono ?_); rintro e w' ⟨rfl, ⟨nd, rfl⟩⟩; refine ⟨_, rfl, ?_⟩; (repeat (rw [drewN_self wc]; generalize hq_ : World.drewN wc _ = wc; have n0_ : Aside0 (wc.heap[gb104]? = some (.cells #[.int .i64 t101, .int .i64 t102] 77 (0, 0))) := ⟨by rw [← hq_]; exact BK104.out⟩; have n1_ : Aside0 (wc.heap[gb111]? = some (.cells #[.int .i64 t108, .int .i64 t109] 77 (0, 0))) := ⟨by rw [← hq_]; exact BK111.out⟩; have n2_ : Aside0 (Below w.heap.size w wc) := ⟨by rw [← hq_]; exact (by repeat (first | (with_reducible first | exact HB.out | apply below_alloc | apply pw_below_drewN | apply below_drew1 | refine below_set ?_ GE104.out | refine below_set ?_ GE111.out) | exact HB.out))⟩; clear BK104 BK111 HB hq_; have BK104 := n0_; have BK111 := n1_; have HB := n2_; clear n0_ n1_ n2_)); have hnb52 := NB104_111.out; have hnc52 := NB111_104.out; have hcz53_0 := bc_ BK104 0 rfl; have hcz53_1 := bc_ BK104 1 rfl; have hfz53_0 := blk_frozen BK104.out 0; have hfz53_1 := blk_frozen BK104.out 1) | ((with_reducible refine gate_callee (f := 53) rfl ?_); refine glq_ (some 80) Try.func53 #[.int .i64 t101, .int .i64 (wrap64 (1 + t112)), .int .i64 t102] ?_; (with_reducible refine (num_MulDiv.calls kj28 t101 (wrap64 (1 + t112)) t102 t113 t114 _ A40.out).mono ?_); rintro e w54 ⟨rfl, hb⟩; refine ⟨_, rfl, ?_⟩; replace BK104 := bkb_ BK104 hb rfl; replace BK111 := bkb_ BK111 hb rfl; replace HB := hbs_ HB hb rfl rfl rfl rfl; (try clear hb)) | ((with_reducible refine gate_callee (f := 21) rfl ?_); refine glq_ (some 86) Try.func21 #[.int .i64 a4, .int .i64 2] ?_; (with_reducible refine (spymake_Below.calls a4 2 t115 _ A41.out).mono ?_); rintro e w' ⟨rfl, ⟨nd, rfl⟩⟩; refine ⟨_, rfl, ?_⟩; (repeat (rw [drewN_self w54]; generalize hq_ : World.drewN w54 _ = w54; have n0_ : Aside0 (w54.heap[gb104]? = some (.cells #[.int .i64 t101, .int .i64 t102] 77 (0, 0))) := ⟨by rw [← hq_]; exact BK104.out⟩; have n1_ : Aside0 (w54.heap[gb111]? = some (.cells #[.int .i64 t108, .int .i64 t109] 77 (0, 0))) := ⟨by rw [← hq_]; exact BK111.out⟩; have n2_ : Aside0 (Below w.heap.size w w54) := ⟨by rw [← hq_]; exact (by repeat (first | (with_reducible first | exact HB.out | apply below_alloc | apply pw_below_drewN | apply below_drew1 | refine below_set ?_ GE104.out | refine below_set ?_ GE111.out) | exact HB.out))⟩; clear BK104 BK111 HB hq_; have BK104 := n0_; have BK111 := n1_; have HB := n2_; clear n0_ n1_ n2_))) | ((with_reducible refine gate_callee (f := 50) rfl ?_); refine glq_ (some 89) Try.func50 #[.int .i64 (wrap64 (t113 + t115)), .int .i64 (wrap64 (1 + t112))] ?_; (with_reducible refine (frac_Make.calls kj28 (wrap64 (t113 + t115)) (wrap64 (1 + t112)) t116 t117 t118 _ A42.out).mono ?_); rintro e w55 ⟨rfl, hb⟩; refine ⟨_, rfl, ?_⟩; replace BK104 := bkb_ BK104 hb rfl; replace BK111 := bkb_ BK111 hb rfl; replace HB := hbs_ HB hb rfl rfl rfl rfl; (try clear hb)) | ((with_reducible refine gate_dst (N := 19) rfl ?_); refine bxq_ 19 #[.int .i64 0, .int .i64 0] 77 ?_; intro gb119 hg w56 hbox hb; have BK119 := Aside0.mk (hbox); have GW119 := gwq_ HB hg rfl; have GE119 := GW119; have NB104_119 := nbl_ BK104 hg rfl; have NB119_104 := nbg_ BK104 hg rfl; have NB111_119 := nbl_ BK111 hg rfl; have NB119_111 := nbg_ BK111 hg rfl; replace BK104 := bkb_ BK104 hb rfl; replace BK111 := bkb_ BK111 hb rfl; replace HB := hbs_ HB hb rfl rfl rfl rfl; clear hb hbox hg; have hnb57 := NB119_104.out; have hnc57 := NB104_119.out; have hnb58 := NB119_111.out; have hnc58 := NB111_119.out; have hcz59_0 := bc_ BK119 0 rfl; have hcz59_1 := bc_ BK119 1 rfl; have hfz59_0 := blk_frozen BK119.out 0; have hfz59_1 := blk_frozen BK119.out 1; have hcz60_0 := bc_ BK111 0 rfl; have hcz60_1 := bc_ BK111 1 rfl; have hfz60_0 := blk_frozen BK111.out 0; have hfz60_1 := blk_frozen BK111.out 1; have hcz61_0 := bc_ BK104 0 rfl; have hcz61_1 := bc_ BK104 1 rfl; have hfz61_0 := blk_frozen BK104.out 0; have hfz61_1 := blk_frozen BK104.out 1) | ((with_reducible refine gate_callee (f := 54) rfl ?_); refine glq_ (some 95) Try.func54 #[.agg #[.int .i64 t108, .int .i64 t109], .agg #[.int .i64 t101, .int .i64 t102]] ?_; (with_reducible refine (frac_Sub.calls kj28 t108 t109 t101 t102 t120 t121 t122 _ A43.out).mono ?_); rintro e w62 ⟨rfl, hb⟩; refine ⟨_, rfl, ?_⟩; replace BK104 := Aside0.mk (blk_below (g := gb104) (o := .cells #[.int .i64 t101, .int .i64 t102] 77 (0, 0)) (by (with_reducible repeat (first | refine blk_drewN ?_ _ | refine blk_drew ?_ | refine blk_alloc ?_ _)); refine blk_far ?_ NB104_119.out _; (with_reducible repeat (first | refine blk_drewN ?_ _ | refine blk_drew ?_ | refine blk_alloc ?_ _)); refine blk_far ?_ NB104_119.out _; (with_reducible repeat (first | refine blk_drewN ?_ _ | refine blk_drew ?_ | refine blk_alloc ?_ _)); exact BK104.out) hb); replace BK111 := Aside0.mk (blk_below (g := gb111) (o := .cells #[.int .i64 t108, .int .i64 t109] 77 (0, 0)) (by (with_reducible repeat (first | refine blk_drewN ?_ _ | refine blk_drew ?_ | refine blk_alloc ?_ _)); refine blk_far ?_ NB111_119.out _; (with_reducible repeat (first | refine blk_drewN ?_ _ | refine blk_drew ?_ | refine blk_alloc ?_ _)); refine blk_far ?_ NB111_119.out _; (with_reducible repeat (first | refine blk_drewN ?_ _ | refine blk_drew ?_ | refine blk_alloc ?_ _)); exact BK111.out) hb); replace BK119 := Aside0.mk (blk_below (g := gb119) (o := .cells #[.int .i64 t116, .int .i64 t117] 77 (0, 0)) (by (with_reducible repeat (first | refine blk_drewN ?_ _ | refine blk_drew ?_ | refine blk_alloc ?_ _)); refine blk_put (cs := #[.int .i64 t116, .int .i64 0]) ?_ 1 _ rfl; (with_reducible repeat (first | refine blk_drewN ?_ _ | refine blk_drew ?_ | refine blk_alloc ?_ _)); refine blk_put (cs := #[.int .i64 0, .int .i64 0]) ?_ 0 _ rfl; (with_reducible repeat (first | refine blk_drewN ?_ _ | refine blk_drew ?_ | refine blk_alloc ?_ _)); exact BK119.out) hb); replace HB := Aside0.mk (below_step (by repeat (first | (with_reducible first | exact HB.out | apply below_alloc | apply pw_below_drewN | apply below_drew1 | refine below_set ?_ GE104.out | refine below_set ?_ GE111.out | refine below_set ?_ GE119.out) | exact HB.out)) hb); (try clear hb)) | ((with_reducible refine gate_dst (N := 21) rfl ?_); refine bxq_ 21 #[.int .i64 0, .int .i64 0] 77 ?_; intro gb123 hg w63 hbox hb; have BK123 := Aside0.mk (hbox); have GW123 := gwq_ HB hg rfl; have GE123 := GW123; have NB104_123 := nbl_ BK104 hg rfl; have NB123_104 := nbg_ BK104 hg rfl; have NB111_123 := nbl_ BK111 hg rfl; have NB123_111 := nbg_ BK111 hg rfl; have NB119_123 := nbl_ BK119 hg rfl; have NB123_119 := nbg_ BK119 hg rfl; replace BK104 := bkb_ BK104 hb rfl; replace BK111 := bkb_ BK111 hb rfl; replace BK119 := bkb_ BK119 hb rfl; replace HB := hbs_ HB hb rfl rfl rfl rfl; clear hb hbox hg; have hnb64 := NB123_104.out; have hnc64 := NB104_123.out; have hnb65 := NB123_111.out; have hnc65 := NB111_123.out; have hnb66 := NB123_119.out; have hnc66 := NB119_123.out; have hcz67_0 := bc_ BK123 0 rfl; have hcz67_1 := bc_ BK123 1 rfl; have hfz67_0 := blk_frozen BK123.out 0; have hfz67_1 := blk_frozen BK123.out 1; have hcz68_0 := bc_ BK119 0 rfl; have hcz68_1 := bc_ BK119 1 rfl; have hfz68_0 := blk_frozen BK119.out 0; have hfz68_1 := blk_frozen BK119.out 1; have hcz69_0 := bc_ BK104 0 rfl; have hcz69_1 := bc_ BK104 1 rfl; have hfz69_0 := blk_frozen BK104.out 0; have hfz69_1 := blk_frozen BK104.out 1) | ((with_reducible refine gate_callee (f := 54) rfl ?_); refine glq_ (some 101) Try.func54 #[.agg #[.int .i64 t116, .int .i64 t117], .agg #[.int .i64 t101, .int .i64 t102]] ?_; (with_reducible refine (frac_Sub.calls kj28 t116 t117 t101 t102 t124 t125 t126 _ A44.out).mono ?_); rintro e w70 ⟨rfl, hb⟩; refine ⟨_, rfl, ?_⟩; replace BK104 := Aside0.mk (blk_below (g := gb104) (o := .cells #[.int .i64 t101, .int .i64 t102] 77 (0, 0)) (by (with_reducible repeat (first | refine blk_drewN ?_ _ | refine blk_drew ?_ | refine blk_alloc ?_ _)); refine blk_far ?_ NB104_123.out _; (with_reducible repeat (first | refine blk_drewN ?_ _ | refine blk_drew ?_ | refine blk_alloc ?_ _)); refine blk_far ?_ NB104_123.out _; (with_reducible repeat (first | refine blk_drewN ?_ _ | refine blk_drew ?_ | refine blk_alloc ?_ _)); exact BK104.out) hb); replace BK111 := Aside0.mk (blk_below (g := gb111) (o := .cells #[.int .i64 t108, .int .i64 t109] 77 (0, 0)) (by (with_reducible repeat (first | refine blk_drewN ?_ _ | refine blk_drew ?_ | refine blk_alloc ?_ _)); refine blk_far ?_ NB111_123.out _; (with_reducible repeat (first | refine blk_drewN ?_ _ | refine blk_drew ?_ | refine blk_alloc ?_ _)); refine blk_far ?_ NB111_123.out _; (with_reducible repeat (first | refine blk_drewN ?_ _ | refine blk_drew ?_ | refine blk_alloc ?_ _)); exact BK111.out) hb); replace BK119 := Aside0.mk (blk_below (g := gb119) (o := .cells #[.int .i64 t116, .int .i64 t117] 77 (0, 0)) (by (with_reducible repeat (first | refine blk_drewN ?_ _ | refine blk_drew ?_ | refine blk_alloc ?_ _)); refine blk_far ?_ NB119_123.out _; (with_reducible repeat (first | refine blk_drewN ?_ _ | refine blk_drew ?_ | refine blk_alloc ?_ _)); refine blk_far ?_ NB119_123.out _; (with_reducible repeat (first | refine blk_drewN ?_ _ | refine blk_drew ?_ | refine blk_alloc ?_ _)); exact BK119.out) hb); replace BK123 := Aside0.mk (blk_below (g := gb123) (o := .cells #[.int .i64 t120, .int .i64 t121] 77 (0, 0)) (by (with_reducible repeat (first | refine blk_drewN ?_ _ | refine blk_drew ?_ | refine blk_alloc ?_ _)); refine blk_put (cs := #[.int .i64 t120, .int .i64 0]) ?_ 1 _ rfl; (with_reducible repeat (first | refine blk_drewN ?_ _ | refine blk_drew ?_ | refine blk_alloc ?_ _)); refine blk_put (cs := #[.int .i64 0, .int .i64 0]) ?_ 0 _ rfl; (with_reducible repeat (first | refine blk_drewN ?_ _ | refine blk_drew ?_ | refine blk_alloc ?_ _)); exact BK123.out) hb); replace HB := Aside0.mk (below_step (by repeat (first | (with_reducible first | exact HB.out | apply below_alloc | apply pw_below_drewN | apply below_drew1 | refine below_set ?_ GE104.out | refine below_set ?_ GE111.out | refine below_set ?_ GE119.out | refine below_set ?_ GE123.out) | exact HB.out)) hb); (try clear hb)) | ((with_reducible refine gate_dst (N := 23) rfl ?_); refine bxq_ 23 #[.int .i64 0, .int .i64 0] 77 ?_; intro gb127 hg w71 hbox hb; have BK127 := Aside0.mk (hbox); have GW127 := gwq_ HB hg rfl; have GE127 := GW127; have NB104_127 := nbl_ BK104 hg rfl; have NB127_104 := nbg_ BK104 hg rfl; have NB111_127 := nbl_ BK111 hg rfl; have NB127_111 := nbg_ BK111 hg rfl; have NB119_127 := nbl_ BK119 hg rfl; have NB127_119 := nbg_ BK119 hg rfl; have NB123_127 := nbl_ BK123 hg rfl; have NB127_123 := nbg_ BK123 hg rfl; replace BK104 := bkb_ BK104 hb rfl; replace BK111 := bkb_ BK111 hb rfl; replace BK119 := bkb_ BK119 hb rfl; replace BK123 := bkb_ BK123 hb rfl; replace HB := hbs_ HB hb rfl rfl rfl rfl; clear hb hbox hg; have hnb72 := NB127_104.out; have hnc72 := NB104_127.out; have hnb73 := NB127_111.out; have hnc73 := NB111_127.out; have hnb74 := NB127_119.out; have hnc74 := NB119_127.out; have hnb75 := NB127_123.out; have hnc75 := NB123_127.out; have hcz76_0 := bc_ BK127 0 rfl; have hcz76_1 := bc_ BK127 1 rfl; have hfz76_0 := blk_frozen BK127.out 0; have hfz76_1 := blk_frozen BK127.out 1))
      have n0_ : Aside0 (((w71.setCell ⟨gb127, 0, none⟩ (.int .i64 t124)).setCell ⟨gb127, 1, none⟩ (.int .i64 t125)).heap[gb104]? = some (.cells #[.int .i64 t101, .int .i64 t102] 77 (0, 0))) := ⟨by (with_reducible repeat (first | refine blk_drewN ?_ _ | refine blk_drew ?_ | refine blk_alloc ?_ _)); refine blk_far ?_ NB104_127.out _; (with_reducible repeat (first | refine blk_drewN ?_ _ | refine blk_drew ?_ | refine blk_alloc ?_ _)); refine blk_far ?_ NB104_127.out _; (with_reducible repeat (first | refine blk_drewN ?_ _ | refine blk_drew ?_ | refine blk_alloc ?_ _)); exact BK104.out⟩
      have n1_ : Aside0 (((w71.setCell ⟨gb127, 0, none⟩ (.int .i64 t124)).setCell ⟨gb127, 1, none⟩ (.int .i64 t125)).heap[gb111]? = some (.cells #[.int .i64 t108, .int .i64 t109] 77 (0, 0))) := ⟨by (with_reducible repeat (first | refine blk_drewN ?_ _ | refine blk_drew ?_ | refine blk_alloc ?_ _)); refine blk_far ?_ NB111_127.out _; (with_reducible repeat (first | refine blk_drewN ?_ _ | refine blk_drew ?_ | refine blk_alloc ?_ _)); refine blk_far ?_ NB111_127.out _; (with_reducible repeat (first | refine blk_drewN ?_ _ | refine blk_drew ?_ | refine blk_alloc ?_ _)); exact BK111.out⟩
      have n2_ : Aside0 (((w71.setCell ⟨gb127, 0, none⟩ (.int .i64 t124)).setCell ⟨gb127, 1, none⟩ (.int .i64 t125)).heap[gb119]? = some (.cells #[.int .i64 t116, .int .i64 t117] 77 (0, 0))) := ⟨by (with_reducible repeat (first | refine blk_drewN ?_ _ | refine blk_drew ?_ | refine blk_alloc ?_ _)); refine blk_far ?_ NB119_127.out _; (with_reducible repeat (first | refine blk_drewN ?_ _ | refine blk_drew ?_ | refine blk_alloc ?_ _)); refine blk_far ?_ NB119_127.out _; (with_reducible repeat (first | refine blk_drewN ?_ _ | refine blk_drew ?_ | refine blk_alloc ?_ _)); exact BK119.out⟩
      have n3_ : Aside0 (((w71.setCell ⟨gb127, 0, none⟩ (.int .i64 t124)).setCell ⟨gb127, 1, none⟩ (.int .i64 t125)).heap[gb123]? = some (.cells #[.int .i64 t120, .int .i64 t121] 77 (0, 0))) := ⟨by (with_reducible repeat (first | refine blk_drewN ?_ _ | refine blk_drew ?_ | refine blk_alloc ?_ _)); refine blk_far ?_ NB123_127.out _; (with_reducible repeat (first | refine blk_drewN ?_ _ | refine blk_drew ?_ | refine blk_alloc ?_ _)); refine blk_far ?_ NB123_127.out _; (with_reducible repeat (first | refine blk_drewN ?_ _ | refine blk_drew ?_ | refine blk_alloc ?_ _)); exact BK123.out⟩
      have n4_ : Aside0 (((w71.setCell ⟨gb127, 0, none⟩ (.int .i64 t124)).setCell ⟨gb127, 1, none⟩ (.int .i64 t125)).heap[gb127]? = some (.cells #[.int .i64 t124, .int .i64 t125] 77 (0, 0))) := ⟨by (with_reducible repeat (first | refine blk_drewN ?_ _ | refine blk_drew ?_ | refine blk_alloc ?_ _)); refine blk_put (cs := #[.int .i64 t124, .int .i64 0]) ?_ 1 _ rfl; (with_reducible repeat (first | refine blk_drewN ?_ _ | refine blk_drew ?_ | refine blk_alloc ?_ _)); refine blk_put (cs := #[.int .i64 0, .int .i64 0]) ?_ 0 _ rfl; (with_reducible repeat (first | refine blk_drewN ?_ _ | refine blk_drew ?_ | refine blk_alloc ?_ _)); exact BK127.out⟩
      have n5_ : Aside0 (Below w.heap.size w ((w71.setCell ⟨gb127, 0, none⟩ (.int .i64 t124)).setCell ⟨gb127, 1, none⟩ (.int .i64 t125))) := ⟨by repeat (first | (with_reducible first | exact HB.out | apply below_alloc | apply pw_below_drewN | apply below_drew1 | refine below_set ?_ GE104.out | refine below_set ?_ GE111.out | refine below_set ?_ GE119.out | refine below_set ?_ GE123.out | refine below_set ?_ GE127.out) | exact HB.out)⟩
      (try clear BK104)
      (try clear BK111)
      (try clear BK119)
      (try clear BK123)
      (try clear BK127)
      (try clear HB)
      generalize ((w71.setCell ⟨gb127, 0, none⟩ (.int .i64 t124)).setCell ⟨gb127, 1, none⟩ (.int .i64 t125)) = w77 at n0_ n1_ n2_ n3_ n4_ n5_ ⊢
      have BK104 := n0_
      have BK111 := n1_
      have BK119 := n2_
      have BK123 := n3_
      have BK127 := n4_
      have HB := n5_
      clear n0_ n1_ n2_ n3_ n4_ n5_
      replace BK104 := Aside0.mk (blk_drew BK104.out)
      replace BK111 := Aside0.mk (blk_drew BK111.out)
      replace BK119 := Aside0.mk (blk_drew BK119.out)
      replace BK123 := Aside0.mk (blk_drew BK123.out)
      replace BK127 := Aside0.mk (blk_drew BK127.out)
      replace HB := Aside0.mk (below_drew1 HB.out)
      refine startR_ (n := 16) (fun w' => w'.cell? ⟨gb123, 0, none⟩ = some (.int .i64 t120)) [13, 15] (fun w' => w'.cell? ⟨gb123, 1, none⟩ = some (.int .i64 t121) ∧ w'.cell? ⟨gb127, 0, none⟩ = some (.int .i64 t124) ∧ w'.cell? ⟨gb127, 1, none⟩ = some (.int .i64 t125)) [15] (bm_ [0, 16]) (by kernel_rfl) rfl rfl (bc_ BK123 0 rfl) ⟨bc_ BK123 1 rfl, bc_ BK127 0 rfl, bc_ BK127 1 rfl⟩ (fun hHeld => ?_)
      generalize w77.drew = w78 at BK104 BK111 BK119 BK123 BK127 HB hHeld ⊢
      refine pureR_ (i := 0) (N := some 118) (v := ?_) (a' := ?_) (bm_ [1, 15]) rfl rfl (by kernel_rfl) (fun _ _ _ h => h) (Or.inl ⟨by rfl, ?_⟩) ?_ ?_
      rotate_left
      · intro w'
        go_simp
        with_reducible rfl
      rotate_left
      · simp only [Act.put, List.setIfInBounds_toArray, List.set_cons_zero, List.set_cons_succ, i64_w, i32_w]
        rfl
      refine pureR_ (i := 2) (N := some 120) (v := ?_) (a' := ?_) (bm_ [1, 1, 1, 13]) rfl rfl (by kernel_rfl) (fun _ _ _ h => h) (Or.inl ⟨by rfl, ?_⟩) ?_ ?_
      rotate_left
      · intro w'
        go_simp
        with_reducible rfl
      rotate_left
      · simp only [Act.put, List.setIfInBounds_toArray, List.set_cons_zero, List.set_cons_succ, i64_w, i32_w]
        rfl
      refine pureR_ (i := 6) (N := some 124) (v := ?_) (a' := ?_) (bm_ [1, 1, 1, 3, 1, 9]) rfl rfl (by kernel_rfl) (fun _ _ _ h => h) (Or.inl ⟨by rfl, ?_⟩) ?_ ?_
      rotate_left
      · intro w'
        go_simp
        with_reducible rfl
      rotate_left
      · simp only [Act.put, List.setIfInBounds_toArray, List.set_cons_zero, List.set_cons_succ, i64_w, i32_w]
        rfl
      refine pureR_ (i := 8) (N := some 126) (v := ?_) (a' := ?_) (bm_ [1, 1, 1, 3, 1, 1, 1, 7]) rfl rfl (by kernel_rfl) (fun _ _ _ h => h) (Or.inl ⟨by rfl, ?_⟩) ?_ ?_
      rotate_left
      · intro w'
        go_simp
        with_reducible rfl
      rotate_left
      · simp only [Act.put, List.setIfInBounds_toArray, List.set_cons_zero, List.set_cons_succ, i64_w, i32_w]
        rfl
      refine take1R_ (i := 1) (N := some 119) (v := ?_) (a' := ?_) (bm_ [3, 3, 1, 1, 1, 7]) rfl rfl (by kernel_rfl) (fun _ _ _ h => h) (Or.inl ⟨by rfl, ?_⟩) hHeld.1 ?_ ?_
      rotate_left
      · intro w' s0
        go_simp
        with_reducible rfl
      rotate_left
      · simp only [Act.put, List.setIfInBounds_toArray, List.set_cons_zero, List.set_cons_succ, i64_w, i32_w]
        rfl
      refine take1R_ (i := 3) (N := some 121) (v := ?_) (a' := ?_) (bm_ [4, 2, 1, 1, 1, 7]) rfl rfl (by kernel_rfl) (fun _ _ _ h => h) (Or.inl ⟨by rfl, ?_⟩) hHeld.1 ?_ ?_
      rotate_left
      · intro w' s0
        go_simp
        with_reducible rfl
      rotate_left
      · simp only [Act.put, List.setIfInBounds_toArray, List.set_cons_zero, List.set_cons_succ, i64_w, i32_w]
        rfl
      refine pureR_ (i := 4) (N := some 122) (v := ?_) (a' := ?_) (bm_ [5, 1, 1, 1, 1, 7]) rfl rfl (by kernel_rfl) (fun _ _ _ h => h) (Or.inl ⟨by rfl, ?_⟩) ?_ ?_
      rotate_left
      · intro w'
        go_simp
        with_reducible rfl
      rotate_left
      · simp only [Act.put, List.setIfInBounds_toArray, List.set_cons_zero, List.set_cons_succ, i64_w, i32_w]
        rfl
      refine pureR_ (i := 5) (N := some 123) (v := ?_) (a' := ?_) (bm_ [7, 1, 1, 7]) rfl rfl (by kernel_rfl) (fun _ _ _ h => h) (Or.inl ⟨by rfl, ?_⟩) ?_ ?_
      rotate_left
      · intro w'
        go_simp
        with_reducible rfl
      rotate_left
      · simp only [Act.put, List.setIfInBounds_toArray, List.set_cons_zero, List.set_cons_succ, i64_w, i32_w]
        rfl
      refine pureR_ (i := 12) (N := some 130) (v := ?_) (a' := ?_) (bm_ [7, 1, 1, 3, 1, 3]) rfl rfl (by kernel_rfl) (fun _ _ _ h => h) (Or.inl ⟨by rfl, ?_⟩) ?_ ?_
      rotate_left
      · intro w'
        go_simp
        with_reducible rfl
      rotate_left
      · simp only [Act.put, List.setIfInBounds_toArray, List.set_cons_zero, List.set_cons_succ, i64_w, i32_w]
        rfl
      refine take2R_ (i := 7) (N := some 125) (v := ?_) (a' := ?_) (bm_ [9, 3, 1, 3]) rfl rfl (by kernel_rfl) (fun _ _ _ h => h) (Or.inl ⟨by rfl, ?_⟩) hHeld.2 ?_ ?_
      rotate_left
      · rintro w' ⟨s0, s1, s2⟩
        go_simp
        with_reducible rfl
      rotate_left
      · simp only [Act.put, List.setIfInBounds_toArray, List.set_cons_zero, List.set_cons_succ, i64_w, i32_w]
        rfl
      refine take2R_ (i := 9) (N := some 127) (v := ?_) (a' := ?_) (bm_ [10, 2, 1, 3]) rfl rfl (by kernel_rfl) (fun _ _ _ h => h) (Or.inl ⟨by rfl, ?_⟩) hHeld.2 ?_ ?_
      rotate_left
      · rintro w' ⟨s0, s1, s2⟩
        go_simp
        with_reducible rfl
      rotate_left
      · simp only [Act.put, List.setIfInBounds_toArray, List.set_cons_zero, List.set_cons_succ, i64_w, i32_w]
        rfl
      refine pureR_ (i := 10) (N := some 128) (v := ?_) (a' := ?_) (bm_ [11, 1, 1, 3]) rfl rfl (by kernel_rfl) (fun _ _ _ h => h) (Or.inl ⟨by rfl, ?_⟩) ?_ ?_
      rotate_left
      · intro w'
        go_simp
        with_reducible rfl
      rotate_left
      · simp only [Act.put, List.setIfInBounds_toArray, List.set_cons_zero, List.set_cons_succ, i64_w, i32_w]
        rfl
      refine pureR_ (i := 11) (N := some 129) (v := ?_) (a' := ?_) (bm_ [13, 3]) rfl rfl (by kernel_rfl) (fun _ _ _ h => h) (Or.inl ⟨by rfl, ?_⟩) ?_ ?_
      rotate_left
      · intro w'
        go_simp
        with_reducible rfl
      rotate_left
      · simp only [Act.put, List.setIfInBounds_toArray, List.set_cons_zero, List.set_cons_succ, i64_w, i32_w]
        rfl
      refine oneR_ (i := 13) (N := none) (bm_ [14, 2]) rfl rfl (by kernel_rfl) (fun K hK => ?_)
      have hs79 : w78.cell? ⟨gb123, 0, none⟩ = some (.int .i64 t120) := bc_ BK123 0 rfl
      have hfs79 := blk_frozen BK123.out 0
      have hns79_0 := NB104_123.out
      have hns79_1 := NB111_123.out
      have hns79_2 := NB119_123.out
      have hns79_4 := NB127_123.out
      have hms79_0 := NB123_104.out
      have hms79_1 := NB123_111.out
      have hms79_2 := NB123_119.out
      have hms79_4 := NB123_127.out
      refine skip_ (w1 := ?_) (by rfl) rfl ?_ ?_
      rotate_left
      · go_simp
        rfl
      refine hK.out _ _ ⟨fun hn_ => absurd (by decide) hn_, fun _ hs_ => ⟨((cell_off_ (by decide)).trans hs_.1), ((cell_far (p := ⟨gb123, _, none⟩) NB127_123.out _).trans (hs_.2.1)), ((cell_far (p := ⟨gb123, _, none⟩) NB127_123.out _).trans (hs_.2.2))⟩⟩ ?_
      clear hK K
      refine pureR_ (i := 14) (N := some 131) (v := ?_) (a' := ?_) (bm_ [15, 1]) rfl rfl (by kernel_rfl) (fun _ _ _ h => h) (Or.inl ⟨by rfl, ?_⟩) ?_ ?_
      rotate_left
      · intro w'
        go_simp
        with_reducible rfl
      rotate_left
      · simp only [Act.put, List.setIfInBounds_toArray, List.set_cons_zero, List.set_cons_succ, i64_w, i32_w]
        rfl
      refine oneR_ (i := 15) (N := none) (bm_ [16]) rfl rfl (by kernel_rfl) (fun K hK => ?_)
      have hs80 : w78.cell? ⟨gb127, 0, none⟩ = some (.int .i64 t124) := bc_ BK127 0 rfl
      have hfs80 := blk_frozen BK127.out 0
      have hns80_0 := NB104_127.out
      have hns80_1 := NB111_127.out
      have hns80_2 := NB119_127.out
      have hns80_3 := NB123_127.out
      have hms80_0 := NB127_104.out
      have hms80_1 := NB127_111.out
      have hms80_2 := NB127_119.out
      have hms80_3 := NB127_123.out
      refine skip_ (w1 := ?_) (by rfl) rfl ?_ ?_
      rotate_left
      · go_simp
        rfl
      refine hK.out _ _ ⟨fun hn_ => absurd (by decide) hn_, fun hn_ => absurd (by decide) hn_⟩ ?_
      clear hK K
      refine doneR_ (by kernel_rfl) ?_
      have hcz81_0 := bc_ BK123 0 rfl
      have hcz81_1 := bc_ BK123 1 rfl
      have hfz81_0 := blk_frozen BK123.out 0
      have hfz81_1 := blk_frozen BK123.out 1
      have hcz82_0 := bc_ BK127 0 rfl
      have hcz82_1 := bc_ BK127 1 rfl
      have hfz82_0 := blk_frozen BK127.out 0
      have hfz82_1 := blk_frozen BK127.out 1
      try go_wp2_with (first | ((with_reducible refine gate_callee (f := 55) rfl ?_); refine goesL_ (some 134) rfl rfl Try.func55 (by kernel_rfl) rfl #[.agg #[.int .i64 ji49, .int .i64 t121], .agg #[.int .i64 ji50, .int .i64 t125]] rfl (by (try simp only [List.map_toArray, List.map_cons, List.map_nil]); first | done | (simp only [hji49, hji50]; rfl) | rfl | (simp only [List.length_drop, List.length_take]; rfl)) ?_; (with_reducible refine (frac_Cmp.calls kj28 ji49 t121 ji50 t125 t128 _ A51.out).mono ?_); rintro e w83 ⟨rfl, hb⟩; refine ⟨_, rfl, ?_⟩; replace BK104 := Aside0.mk (blk_below (g := gb104) (o := .cells #[.int .i64 t101, .int .i64 t102] 77 (0, 0)) (by (with_reducible repeat (first | refine blk_drewN ?_ _ | refine blk_drew ?_ | refine blk_alloc ?_ _)); refine blk_far ?_ NB104_127.out _; (with_reducible repeat (first | refine blk_drewN ?_ _ | refine blk_drew ?_ | refine blk_alloc ?_ _)); refine blk_far ?_ NB104_123.out _; (with_reducible repeat (first | refine blk_drewN ?_ _ | refine blk_drew ?_ | refine blk_alloc ?_ _)); exact BK104.out) hb); replace BK111 := Aside0.mk (blk_below (g := gb111) (o := .cells #[.int .i64 t108, .int .i64 t109] 77 (0, 0)) (by (with_reducible repeat (first | refine blk_drewN ?_ _ | refine blk_drew ?_ | refine blk_alloc ?_ _)); refine blk_far ?_ NB111_127.out _; (with_reducible repeat (first | refine blk_drewN ?_ _ | refine blk_drew ?_ | refine blk_alloc ?_ _)); refine blk_far ?_ NB111_123.out _; (with_reducible repeat (first | refine blk_drewN ?_ _ | refine blk_drew ?_ | refine blk_alloc ?_ _)); exact BK111.out) hb); replace BK119 := Aside0.mk (blk_below (g := gb119) (o := .cells #[.int .i64 t116, .int .i64 t117] 77 (0, 0)) (by (with_reducible repeat (first | refine blk_drewN ?_ _ | refine blk_drew ?_ | refine blk_alloc ?_ _)); refine blk_far ?_ NB119_127.out _; (with_reducible repeat (first | refine blk_drewN ?_ _ | refine blk_drew ?_ | refine blk_alloc ?_ _)); refine blk_far ?_ NB119_123.out _; (with_reducible repeat (first | refine blk_drewN ?_ _ | refine blk_drew ?_ | refine blk_alloc ?_ _)); exact BK119.out) hb); replace BK123 := Aside0.mk (blk_below (g := gb123) (o := .cells #[.int .i64 ji49, .int .i64 t121] 77 (0, 0)) (by (with_reducible repeat (first | refine blk_drewN ?_ _ | refine blk_drew ?_ | refine blk_alloc ?_ _)); refine blk_far ?_ NB123_127.out _; (with_reducible repeat (first | refine blk_drewN ?_ _ | refine blk_drew ?_ | refine blk_alloc ?_ _)); refine blk_put (cs := #[.int .i64 t120, .int .i64 t121]) ?_ 0 _ rfl; (with_reducible repeat (first | refine blk_drewN ?_ _ | refine blk_drew ?_ | refine blk_alloc ?_ _)); exact BK123.out) hb); replace BK127 := Aside0.mk (blk_below (g := gb127) (o := .cells #[.int .i64 ji50, .int .i64 t125] 77 (0, 0)) (by (with_reducible repeat (first | refine blk_drewN ?_ _ | refine blk_drew ?_ | refine blk_alloc ?_ _)); refine blk_put (cs := #[.int .i64 t124, .int .i64 t125]) ?_ 0 _ rfl; (with_reducible repeat (first | refine blk_drewN ?_ _ | refine blk_drew ?_ | refine blk_alloc ?_ _)); refine blk_far ?_ NB127_123.out _; (with_reducible repeat (first | refine blk_drewN ?_ _ | refine blk_drew ?_ | refine blk_alloc ?_ _)); exact BK127.out) hb); replace HB := Aside0.mk (below_step (by repeat (first | (with_reducible first | exact HB.out | apply below_alloc | apply pw_below_drewN | apply below_drew1 | refine below_set ?_ GE104.out | refine below_set ?_ GE111.out | refine below_set ?_ GE119.out | refine below_set ?_ GE123.out | refine below_set ?_ GE127.out) | exact HB.out)) hb); (try clear hb)))
      go_ret
      exact ⟨by first | rfl | (simp [errW_none, errW_some] <;> rfl) | (simp only [← hji49, ← hji50]; first | rfl | (simp [errW_none, errW_some] <;> rfl)) | (simp [*, errW_none, errW_some] <;> rfl), by repeat (first | (with_reducible first | exact HB.out | apply below_alloc | apply pw_below_drewN | apply below_drew1 | refine below_set ?_ GE104.out | refine below_set ?_ GE111.out | refine below_set ?_ GE119.out | refine below_set ?_ GE123.out | refine below_set ?_ GE127.out) | exact HB.out)⟩
/-- THE ONE PURE STATEMENT of spykeep1_FracBestNear: yours. -/
def spykeep1_FracBestNear.Pure : Prop := ∀ (a0 : Int) (a1 : Int) (a2 : Int) (a3 : Int) (a4 : Int), (Lit.int .i64 a0).wf = true → (Lit.int .i64 a1).wf = true → (Lit.int .i64 a2).wf = true → (Lit.int .i64 a3).wf = true → (Lit.int .i64 a4).wf = true → ∃ k, spykeep1_FracBestNear.f k a0 a1 a2 a3 a4 = some true
theorem spykeep1_FracBestNear.walk (P : spykeep1_FracBestNear.Pure) (a0 : Int) (a1 : Int) (a2 : Int) (a3 : Int) (a4 : Int) (w : World) (w0 : (Lit.int .i64 a0).wf = true) (w1 : (Lit.int .i64 a1).wf = true) (w2 : (Lit.int .i64 a2).wf = true) (w3 : (Lit.int .i64 a3).wf = true) (w4 : (Lit.int .i64 a4).wf = true) :
 Calls Try.prog 8 #[.int .i64 a0, .int .i64 a1, .int .i64 a2, .int .i64 a3, .int .i64 a4] w fun e w' => e = .returned (.bool true) ∧ Below w.heap.size w w' := by
 obtain ⟨k, h⟩ := P a0 a1 a2 a3 a4 w0 w1 w2 w3 w4
 refine (spykeep1_FracBestNear.calls k a0 a1 a2 a3 a4 true w h).mono ?_
 rintro e w' ⟨rfl, hd⟩
 exact ⟨rfl, hd⟩

end Go.Proofs.Ytpophefonhpnmaa.Q
