/- Contracts of Go functions of the seat, one by one: each call returns what the Lean function of the same name says, wherever that is 'some'; no other condition. Written by a program of this session. -/
import Derived.Test.YtbaedcjophgiiaaQx0
import Derived.Test.YtbaedcjophgiiaaQx4
import Derived.Test.YtbaedcjophgiiaaQx5
import Derived.Test.YtbaedcjophgiiaaQx6
namespace Go.Proofs.Ytbaedcjophgiiaa.Q
open Go.RowKit Go.Proofs.YtbaedcjophgiiaaW.PrintWords Go.Proofs.YtbaedcjophgiiaaW.PrintLast Go.Proofs.YtbaedcjophgiiaaW.PrintMore
attribute [local go_sem] max2_int min2_int max_two min_two max_three min_three max_four min_four   -- for this text's walks alone
set_option linter.unusedVariables false
set_option linter.unusedSimpArgs false

/-! ### scale_ToUniform: function 63 -/
def scale_ToUniform.j0 : Nat → Int → Int → Bool → Int → Int → Int → Int → Int → Int → Int → Option (Int × Int)
  | 0, _, _, _, _, _, _, _, _, _, _ => none
  | k + 1, x8, x9, x49, x118000, x118001, x118002, x118003, x118004, x118005, x118006 => if x49 = true then (some (0, 8)) else (if (wrap64 ((wrap64 ((wrap64 ((wrap64 (x8 * 86400000)) + (wrap64 ((wrap64 ((wrap64 (x118003 * 60)) + x118004)) * 60000)))) + (wrap64 ((wrap64 (x118005 + x9)) * 1000)))) + x118006)) < (-17592186044416) then (some (0, 2)) else (if (wrap64 ((wrap64 ((wrap64 ((wrap64 (x8 * 86400000)) + (wrap64 ((wrap64 ((wrap64 (x118003 * 60)) + x118004)) * 60000)))) + (wrap64 ((wrap64 (x118005 + x9)) * 1000)))) + x118006)) > 17592186044416 then (some (0, 2)) else (some (wrap64 ((wrap64 ((wrap64 ((wrap64 (x8 * 86400000)) + (wrap64 ((wrap64 ((wrap64 (x118003 * 60)) + x118004)) * 60000)))) + (wrap64 ((wrap64 (x118005 + x9)) * 1000)))) + x118006), 0))))
def scale_ToUniform.f (k : Nat) (a0_0 : Int) (a0_1 : Int) (a0_2 : Int) (a0_3 : Int) (a0_4 : Int) (a0_5 : Int) (a0_6 : Int) (l1 : List (S110)) : Option (Int × Int) := (scale_Check.f k a0_0 a0_1 a0_2 a0_3 a0_4 a0_5 a0_6).bind fun t118 => (if t118 = 0 then ((scale_CheckLeaps.f k l1).bind fun t119 => (if t119 = 0 then ((scale_days.f a0_0 a0_1 a0_2).bind fun t120 => ((scale_before.f k l1 t120).bind fun bt121 => (if a0_3 = 23 then (if a0_4 = 59 then (scale_ToUniform.j0 k t120 bt121.1 (decide (a0_5 > (wrap64 (59 + bt121.2)))) a0_0 a0_1 a0_2 a0_3 a0_4 a0_5 a0_6) else (scale_ToUniform.j0 k t120 bt121.1 false a0_0 a0_1 a0_2 a0_3 a0_4 a0_5 a0_6)) else (scale_ToUniform.j0 k t120 bt121.1 false a0_0 a0_1 a0_2 a0_3 a0_4 a0_5 a0_6)))) else (some (0, t119)))) else (some (0, t118)))
theorem scale_ToUniform.mono_l : ∀ k, (∀ y0 y1 y2 y3 y4 y5 y6 y7 y8 y9, LeO (scale_ToUniform.j0 k y0 y1 y2 y3 y4 y5 y6 y7 y8 y9) (scale_ToUniform.j0 (k + 1) y0 y1 y2 y3 y4 y5 y6 y7 y8 y9))
  | 0 => fun _ _ _ _ _ _ _ _ _ _ r h => by simp [scale_ToUniform.j0] at h
  | k + 1 => by
    have ih0 := scale_ToUniform.mono_l k
    · intro y0 y1 y2 y3 y4 y5 y6 y7 y8 y9
      unfold scale_ToUniform.j0
      repeat' first
      | (with_reducible exact ih0 _ _ _ _ _ _ _ _ _ _)
      | (with_reducible exact scale_Check.mono _ _ _ _ _ _ _ _)
      | (with_reducible exact scale_CheckLeaps.mono _ _)
      | (with_reducible exact scale_before.mono _ _ _)
      | (with_reducible exact LeO.refl _)
      | (with_reducible exact LeO.none _)
      | (with_reducible refine LeO.ite ?_ ?_)
      | (with_reducible refine LeO.bind ?_ (fun _ => ?_))
      | exact ih0 _ _ _ _ _ _ _ _ _ _
      | exact scale_Check.mono _ _ _ _ _ _ _ _
      | exact scale_CheckLeaps.mono _ _
      | exact scale_before.mono _ _ _
      | exact LeO.none _
      | refine LeO.ite ?_ ?_
      | refine LeO.bind ?_ (fun _ => ?_)
theorem scale_ToUniform.mono : ∀ a0 a1 a2 a3 a4 a5 a6 a7 k, LeO (scale_ToUniform.f k a0 a1 a2 a3 a4 a5 a6 a7) (scale_ToUniform.f (k + 1) a0 a1 a2 a3 a4 a5 a6 a7) := by
  intro a0 a1 a2 a3 a4 a5 a6 a7 k
  have ih0 := scale_ToUniform.mono_l k
  unfold scale_ToUniform.f
  repeat' first
      | (with_reducible exact ih0 _ _ _ _ _ _ _ _ _ _)
      | (with_reducible exact scale_Check.mono _ _ _ _ _ _ _ _)
      | (with_reducible exact scale_CheckLeaps.mono _ _)
      | (with_reducible exact scale_before.mono _ _ _)
      | (with_reducible exact LeO.refl _)
      | (with_reducible exact LeO.none _)
      | (with_reducible refine LeO.ite ?_ ?_)
      | (with_reducible refine LeO.bind ?_ (fun _ => ?_))
      | exact ih0 _ _ _ _ _ _ _ _ _ _
      | exact scale_Check.mono _ _ _ _ _ _ _ _
      | exact scale_CheckLeaps.mono _ _
      | exact scale_before.mono _ _ _
      | exact LeO.none _
      | refine LeO.ite ?_ ?_
      | refine LeO.bind ?_ (fun _ => ?_)
set_option maxHeartbeats 8000000 in
set_option maxRecDepth 100000 in
theorem scale_ToUniform.calls (k : Nat) (a0_0 : Int) (a0_1 : Int) (a0_2 : Int) (a0_3 : Int) (a0_4 : Int) (a0_5 : Int) (a0_6 : Int) (A1 : Option Addr) (c1 : Nat) (l1 : List (S110)) (r1 : Int) (r2 : Int) (w : World) (hr1 : Kd.C k110 w A1 l1.length l1) (hc1 : l1.length ≤ c1) (h : scale_ToUniform.f k a0_0 a0_1 a0_2 a0_3 a0_4 a0_5 a0_6 l1 = some (r1, r2)) :
    Calls Try.prog 63 #[.agg #[.int .i64 a0_0, .int .i64 a0_1, .int .i64 a0_2, .int .i64 a0_3, .int .i64 a0_4, .int .i64 a0_5, .int .i64 a0_6], .slice A1 l1.length c1] w fun e w' => e = .returned (.tuple #[.int .i64 r1, .int .i64 r2]) ∧ Below w.heap.size w w' := by
  have hu108 := Try.underlying108
  have HR1 := Aside0.mk hr1
  have HC1 := Aside0.mk hc1
  clear hr1 hc1
  have HB := Aside0.mk (Below.refl w.heap.size w)
  have H : ((scale_Check.f k a0_0 a0_1 a0_2 a0_3 a0_4 a0_5 a0_6).bind fun t118 => (if t118 = 0 then ((scale_CheckLeaps.f k l1).bind fun t119 => (if t119 = 0 then ((scale_days.f a0_0 a0_1 a0_2).bind fun t120 => ((scale_before.f k l1 t120).bind fun bt121 => (if a0_3 = 23 then (if a0_4 = 59 then (scale_ToUniform.j0 k t120 bt121.1 (decide (a0_5 > (wrap64 (59 + bt121.2)))) a0_0 a0_1 a0_2 a0_3 a0_4 a0_5 a0_6) else (scale_ToUniform.j0 k t120 bt121.1 false a0_0 a0_1 a0_2 a0_3 a0_4 a0_5 a0_6)) else (scale_ToUniform.j0 k t120 bt121.1 false a0_0 a0_1 a0_2 a0_3 a0_4 a0_5 a0_6)))) else (some (0, t119)))) else (some (0, t118)))) = some (r1, r2) := h
  clear h
  replace H := Option.bind_eq_some_iff.mp H
  obtain ⟨t118, A30, H⟩ := H
  replace H : (if t118 = 0 then ((scale_CheckLeaps.f k l1).bind fun t119 => (if t119 = 0 then ((scale_days.f a0_0 a0_1 a0_2).bind fun t120 => ((scale_before.f k l1 t120).bind fun bt121 => (if a0_3 = 23 then (if a0_4 = 59 then (scale_ToUniform.j0 k t120 bt121.1 (decide (a0_5 > (wrap64 (59 + bt121.2)))) a0_0 a0_1 a0_2 a0_3 a0_4 a0_5 a0_6) else (scale_ToUniform.j0 k t120 bt121.1 false a0_0 a0_1 a0_2 a0_3 a0_4 a0_5 a0_6)) else (scale_ToUniform.j0 k t120 bt121.1 false a0_0 a0_1 a0_2 a0_3 a0_4 a0_5 a0_6)))) else (some (0, t119)))) else (some (0, t118))) = some (r1, r2) := H
  have A3 := Aside0.mk A30
  clear A30
  by_cases c4 : t118 = 0
  · rw [if_pos c4] at H
    have c4b0 : (t118 == 0) = true := beq_iff_eq.mpr c4
    have c4b1 : (t118 != 0) = false := bne_eq_false_iff_eq.mpr c4
    clear c4
    replace H := Option.bind_eq_some_iff.mp H
    obtain ⟨t119, A50, H⟩ := H
    replace H : (if t119 = 0 then ((scale_days.f a0_0 a0_1 a0_2).bind fun t120 => ((scale_before.f k l1 t120).bind fun bt121 => (if a0_3 = 23 then (if a0_4 = 59 then (scale_ToUniform.j0 k t120 bt121.1 (decide (a0_5 > (wrap64 (59 + bt121.2)))) a0_0 a0_1 a0_2 a0_3 a0_4 a0_5 a0_6) else (scale_ToUniform.j0 k t120 bt121.1 false a0_0 a0_1 a0_2 a0_3 a0_4 a0_5 a0_6)) else (scale_ToUniform.j0 k t120 bt121.1 false a0_0 a0_1 a0_2 a0_3 a0_4 a0_5 a0_6)))) else (some (0, t119))) = some (r1, r2) := H
    have A5 := Aside0.mk A50
    clear A50
    by_cases c6 : t119 = 0
    · rw [if_pos c6] at H
      have c6b0 : (t119 == 0) = true := beq_iff_eq.mpr c6
      have c6b1 : (t119 != 0) = false := bne_eq_false_iff_eq.mpr c6
      clear c6
      replace H := Option.bind_eq_some_iff.mp H
      obtain ⟨t120, A70, H⟩ := H
      replace H : ((scale_before.f k l1 t120).bind fun bt121 => (if a0_3 = 23 then (if a0_4 = 59 then (scale_ToUniform.j0 k t120 bt121.1 (decide (a0_5 > (wrap64 (59 + bt121.2)))) a0_0 a0_1 a0_2 a0_3 a0_4 a0_5 a0_6) else (scale_ToUniform.j0 k t120 bt121.1 false a0_0 a0_1 a0_2 a0_3 a0_4 a0_5 a0_6)) else (scale_ToUniform.j0 k t120 bt121.1 false a0_0 a0_1 a0_2 a0_3 a0_4 a0_5 a0_6))) = some (r1, r2) := H
      have A7 := Aside0.mk A70
      clear A70
      replace H := Option.bind_eq_some_iff.mp H
      obtain ⟨⟨t121, t122⟩, A80, H⟩ := H
      replace H : (if a0_3 = 23 then (if a0_4 = 59 then (scale_ToUniform.j0 k t120 t121 (decide (a0_5 > (wrap64 (59 + t122)))) a0_0 a0_1 a0_2 a0_3 a0_4 a0_5 a0_6) else (scale_ToUniform.j0 k t120 t121 false a0_0 a0_1 a0_2 a0_3 a0_4 a0_5 a0_6)) else (scale_ToUniform.j0 k t120 t121 false a0_0 a0_1 a0_2 a0_3 a0_4 a0_5 a0_6)) = some (r1, r2) := H
      have A8 := Aside0.mk A80
      clear A80
      have HC9 := Aside0.mk H
      clear H
      go_enter Try.func63, Try.ntmps63
      go_upto_region 9 with (first | ((with_reducible refine gate_dst (N := 2) rfl ?_); refine box_event ?hg (N := 2) ?hd (cs := #[.int .i64 a0_0, .int .i64 a0_1, .int .i64 a0_2, .int .i64 a0_3, .int .i64 a0_4, .int .i64 a0_5, .int .i64 a0_6]) (t := 108) ?hr ?_; (case hd => rfl); (case hg => rfl); (case hr => first | (go_simp; done) | (go_simp; rfl)); intro gb117 hg w10 hbox hb; have n0_ := Aside0.mk (below_step (by repeat (first | (with_reducible first | exact HB.out | apply below_alloc | apply pw_below_drewN | apply below_drew1) | exact HB.out)) hb); have n1_ := Aside0.mk (hbox); have n2_ := Aside0.mk ((by rw [hg]; exact (below_size (by repeat (first | (with_reducible first | exact HB.out | apply below_alloc | apply pw_below_drewN | apply below_drew1) | exact HB.out))) : w.heap.size ≤ gb117)); have n3_ := Aside0.mk ((by rw [hg]; exact (below_size (by repeat (first | (with_reducible first | exact HB.out | apply below_alloc | apply pw_below_drewN | apply below_drew1) | exact HB.out))) : w.heap.size ≤ gb117)); clear HB; have HB := n0_; have BK117 := n1_; have GW117 := n2_; have GE117 := n3_; clear n0_ n1_ n2_ n3_; clear hb hbox hg; have hcz11_0 : w10.cell? ⟨gb117, 0, none⟩ = some (.int .i64 a0_0) := (blk_cell BK117.out 0).trans rfl; have hcz11_1 : w10.cell? ⟨gb117, 1, none⟩ = some (.int .i64 a0_1) := (blk_cell BK117.out 1).trans rfl; have hcz11_2 : w10.cell? ⟨gb117, 2, none⟩ = some (.int .i64 a0_2) := (blk_cell BK117.out 2).trans rfl; have hcz11_3 : w10.cell? ⟨gb117, 3, none⟩ = some (.int .i64 a0_3) := (blk_cell BK117.out 3).trans rfl; have hcz11_4 : w10.cell? ⟨gb117, 4, none⟩ = some (.int .i64 a0_4) := (blk_cell BK117.out 4).trans rfl; have hcz11_5 : w10.cell? ⟨gb117, 5, none⟩ = some (.int .i64 a0_5) := (blk_cell BK117.out 5).trans rfl; have hcz11_6 : w10.cell? ⟨gb117, 6, none⟩ = some (.int .i64 a0_6) := (blk_cell BK117.out 6).trans rfl; have hfz11_0 := blk_frozen BK117.out 0; have hfz11_1 := blk_frozen BK117.out 1; have hfz11_2 := blk_frozen BK117.out 2; have hfz11_3 := blk_frozen BK117.out 3; have hfz11_4 := blk_frozen BK117.out 4; have hfz11_5 := blk_frozen BK117.out 5; have hfz11_6 := blk_frozen BK117.out 6) | ((with_reducible refine gate_callee (f := 101) rfl ?_); refine goesL_ (some 13) rfl rfl Try.func101 (by kernel_rfl) rfl #[.agg #[.int .i64 a0_0, .int .i64 a0_1, .int .i64 a0_2, .int .i64 a0_3, .int .i64 a0_4, .int .i64 a0_5, .int .i64 a0_6]] rfl (by (try simp only [List.map_toArray, List.map_cons, List.map_nil]); first | done | rfl | (simp only [List.length_drop, List.length_take]; rfl)) ?_; (with_reducible refine (scale_Check.calls k a0_0 a0_1 a0_2 a0_3 a0_4 a0_5 a0_6 t118 _ A3.out).mono ?_); rintro e w12 ⟨rfl, hb⟩; refine ⟨_, rfl, ?_⟩; have n0_ := Aside0.mk (blk_below (g := gb117) (o := .cells #[.int .i64 a0_0, .int .i64 a0_1, .int .i64 a0_2, .int .i64 a0_3, .int .i64 a0_4, .int .i64 a0_5, .int .i64 a0_6] 108 (0, 0)) (by (with_reducible repeat (first | refine blk_drewN ?_ _ | refine blk_drew ?_ | refine blk_alloc ?_ _)); exact BK117.out) hb); have n1_ := Aside0.mk (below_step (by repeat (first | (with_reducible first | exact HB.out | apply below_alloc | apply pw_below_drewN | apply below_drew1 | refine below_set ?_ GE117.out) | exact HB.out)) hb); clear BK117; clear HB; have BK117 := n0_; have HB := n1_; clear n0_ n1_; (try clear hb); (try clear hb2); (try clear hk); (try clear hi)) | ((with_reducible refine gate_callee (f := 102) rfl ?_); refine goesL_ (some 18) rfl rfl Try.func102 (by kernel_rfl) rfl #[.slice A1 l1.length c1] rfl (by (try simp only [List.map_toArray, List.map_cons, List.map_nil]); first | done | rfl | (simp only [List.length_drop, List.length_take]; rfl)) ?_; (with_reducible refine (scale_CheckLeaps.calls k _ _ l1 t119 _ ?side1 ?side2 A5.out).mono ?_); (case side1 => repeat (first | exact (Kd.C_below HR1.out HB.out) | (with_reducible refine Kd.C_alloc ?_ _) | (with_reducible refine Kd.C_drewN ?_ _) | (with_reducible refine Kd.C_drew ?_))); (case side2 => exact HC1.out); rintro e w13 ⟨rfl, hb⟩; refine ⟨_, rfl, ?_⟩; have n0_ := Aside0.mk (blk_below (g := gb117) (o := .cells #[.int .i64 a0_0, .int .i64 a0_1, .int .i64 a0_2, .int .i64 a0_3, .int .i64 a0_4, .int .i64 a0_5, .int .i64 a0_6] 108 (0, 0)) (by (with_reducible repeat (first | refine blk_drewN ?_ _ | refine blk_drew ?_ | refine blk_alloc ?_ _)); exact BK117.out) hb); have n1_ := Aside0.mk (below_step (by repeat (first | (with_reducible first | exact HB.out | apply below_alloc | apply pw_below_drewN | apply below_drew1 | refine below_set ?_ GE117.out) | exact HB.out)) hb); clear BK117; clear HB; have BK117 := n0_; have HB := n1_; clear n0_ n1_; (try clear hb); (try clear hb2); (try clear hk); (try clear hi); have hcz14_0 : w13.cell? ⟨gb117, 0, none⟩ = some (.int .i64 a0_0) := (blk_cell BK117.out 0).trans rfl; have hcz14_1 : w13.cell? ⟨gb117, 1, none⟩ = some (.int .i64 a0_1) := (blk_cell BK117.out 1).trans rfl; have hcz14_2 : w13.cell? ⟨gb117, 2, none⟩ = some (.int .i64 a0_2) := (blk_cell BK117.out 2).trans rfl; have hcz14_3 : w13.cell? ⟨gb117, 3, none⟩ = some (.int .i64 a0_3) := (blk_cell BK117.out 3).trans rfl; have hcz14_4 : w13.cell? ⟨gb117, 4, none⟩ = some (.int .i64 a0_4) := (blk_cell BK117.out 4).trans rfl; have hcz14_5 : w13.cell? ⟨gb117, 5, none⟩ = some (.int .i64 a0_5) := (blk_cell BK117.out 5).trans rfl; have hcz14_6 : w13.cell? ⟨gb117, 6, none⟩ = some (.int .i64 a0_6) := (blk_cell BK117.out 6).trans rfl; have hfz14_0 := blk_frozen BK117.out 0; have hfz14_1 := blk_frozen BK117.out 1; have hfz14_2 := blk_frozen BK117.out 2; have hfz14_3 := blk_frozen BK117.out 3; have hfz14_4 := blk_frozen BK117.out 4; have hfz14_5 := blk_frozen BK117.out 5; have hfz14_6 := blk_frozen BK117.out 6) | ((with_reducible refine gate_callee (f := 62) rfl ?_); refine goesL_ (some 28) rfl rfl Try.func62 (by kernel_rfl) rfl #[.int .i64 a0_0, .int .i64 a0_1, .int .i64 a0_2] rfl (by (try simp only [List.map_toArray, List.map_cons, List.map_nil]); first | done | rfl | (simp only [List.length_drop, List.length_take]; rfl)) ?_; (with_reducible refine (scale_days.calls a0_0 a0_1 a0_2 t120 _ A7.out).mono ?_); rintro e w' ⟨rfl, ⟨nd, rfl⟩⟩; refine ⟨_, rfl, ?_⟩) | ((with_reducible refine gate_callee (f := 103) rfl ?_); refine goesL_ (some 32) rfl rfl Try.func103 (by kernel_rfl) rfl #[.slice A1 l1.length c1, .int .i64 t120] rfl (by (try simp only [List.map_toArray, List.map_cons, List.map_nil]); first | done | rfl | (simp only [List.length_drop, List.length_take]; rfl)) ?_; (with_reducible refine (scale_before.calls k _ _ l1 t120 t121 t122 _ ?side1 ?side2 A8.out).mono ?_); (case side1 => repeat (first | exact (Kd.C_below HR1.out (by repeat (first | (with_reducible first | exact HB.out | apply below_alloc | apply pw_below_drewN | apply below_drew1 | refine below_set ?_ GE117.out) | exact HB.out))) | (with_reducible refine Kd.C_alloc ?_ _) | (with_reducible refine Kd.C_drewN ?_ _) | (with_reducible refine Kd.C_drew ?_))); (case side2 => exact HC1.out); rintro e w15 ⟨rfl, hb⟩; refine ⟨_, rfl, ?_⟩; have n0_ := Aside0.mk (blk_below (g := gb117) (o := .cells #[.int .i64 a0_0, .int .i64 a0_1, .int .i64 a0_2, .int .i64 a0_3, .int .i64 a0_4, .int .i64 a0_5, .int .i64 a0_6] 108 (0, 0)) (by (with_reducible repeat (first | refine blk_drewN ?_ _ | refine blk_drew ?_ | refine blk_alloc ?_ _)); exact BK117.out) hb); have n1_ := Aside0.mk (below_step (by repeat (first | (with_reducible first | exact HB.out | apply below_alloc | apply pw_below_drewN | apply below_drew1 | refine below_set ?_ GE117.out) | exact HB.out)) hb); clear BK117; clear HB; have BK117 := n0_; have HB := n1_; clear n0_ n1_; (try clear hb); (try clear hb2); (try clear hk); (try clear hi)))
      (try simp only [Act.put, List.setIfInBounds_toArray, List.set_cons_zero, List.set_cons_succ])
      go_cut [49] (fun v49 wc => ∃ (kq : Nat) (x49_8 : Bool), v49 = .bool x49_8 ∧ Aside0 (scale_ToUniform.j0 kq t120 t121 x49_8 a0_0 a0_1 a0_2 a0_3 a0_4 a0_5 a0_6 = some (r1, r2)) ∧ Aside0 (kq ≤ k) ∧ Aside0 (wc.heap[gb117]? = some (.cells #[.int .i64 a0_0, .int .i64 a0_1, .int .i64 a0_2, .int .i64 a0_3, .int .i64 a0_4, .int .i64 a0_5, .int .i64 a0_6] 108 (0, 0))) ∧ Aside0 (Below w.heap.size w wc))
      case first =>
        have H := HC9.out
        clear HC9
        by_cases c16 : a0_3 = 23
        · rw [if_pos c16] at H
          have c16b0 : (a0_3 == 23) = true := beq_iff_eq.mpr c16
          have c16b1 : (a0_3 != 23) = false := bne_eq_false_iff_eq.mpr c16
          clear c16
          (first | rw [c16b0] | (simp only [i64_w, i32_w]; rw [c16b0]) | skip)
          by_cases c17 : a0_4 = 59
          · rw [if_pos c17] at H
            have c17b0 : (a0_4 == 59) = true := beq_iff_eq.mpr c17
            have c17b1 : (a0_4 != 59) = false := bne_eq_false_iff_eq.mpr c17
            clear c17
            have H' := Aside0.mk H
            clear H
            have hcz18_0 : w15.cell? ⟨gb117, 0, none⟩ = some (.int .i64 a0_0) := (blk_cell BK117.out 0).trans rfl
            have hcz18_1 : w15.cell? ⟨gb117, 1, none⟩ = some (.int .i64 a0_1) := (blk_cell BK117.out 1).trans rfl
            have hcz18_2 : w15.cell? ⟨gb117, 2, none⟩ = some (.int .i64 a0_2) := (blk_cell BK117.out 2).trans rfl
            have hcz18_3 : w15.cell? ⟨gb117, 3, none⟩ = some (.int .i64 a0_3) := (blk_cell BK117.out 3).trans rfl
            have hcz18_4 : w15.cell? ⟨gb117, 4, none⟩ = some (.int .i64 a0_4) := (blk_cell BK117.out 4).trans rfl
            have hcz18_5 : w15.cell? ⟨gb117, 5, none⟩ = some (.int .i64 a0_5) := (blk_cell BK117.out 5).trans rfl
            have hcz18_6 : w15.cell? ⟨gb117, 6, none⟩ = some (.int .i64 a0_6) := (blk_cell BK117.out 6).trans rfl
            have hfz18_0 := blk_frozen BK117.out 0
            have hfz18_1 := blk_frozen BK117.out 1
            have hfz18_2 := blk_frozen BK117.out 2
            have hfz18_3 := blk_frozen BK117.out 3
            have hfz18_4 := blk_frozen BK117.out 4
            have hfz18_5 := blk_frozen BK117.out 5
            have hfz18_6 := blk_frozen BK117.out 6
            go_wp2
            go_meet
            case rel => exact ⟨_, (decide (a0_5 > (wrap64 (59 + t122)))), (by first | rfl | (simp; done) | (simp [*]; done)), H', ⟨by first | omega | exact Nat.le_refl _⟩, ⟨by (with_reducible repeat (first | refine blk_drewN ?_ _ | refine blk_drew ?_ | refine blk_alloc ?_ _)); exact BK117.out⟩, ⟨by repeat (first | (with_reducible first | exact HB.out | apply below_alloc | apply pw_below_drewN | apply below_drew1 | refine below_set ?_ GE117.out) | exact HB.out)⟩⟩
          · rw [if_neg c17] at H
            have c17b0 : (a0_4 == 59) = false := beq_eq_false_iff_ne.mpr c17
            have c17b1 : (a0_4 != 59) = true := bne_iff_ne.mpr c17
            have H' := Aside0.mk H
            clear H
            have hcz19_0 : w15.cell? ⟨gb117, 0, none⟩ = some (.int .i64 a0_0) := (blk_cell BK117.out 0).trans rfl
            have hcz19_1 : w15.cell? ⟨gb117, 1, none⟩ = some (.int .i64 a0_1) := (blk_cell BK117.out 1).trans rfl
            have hcz19_2 : w15.cell? ⟨gb117, 2, none⟩ = some (.int .i64 a0_2) := (blk_cell BK117.out 2).trans rfl
            have hcz19_3 : w15.cell? ⟨gb117, 3, none⟩ = some (.int .i64 a0_3) := (blk_cell BK117.out 3).trans rfl
            have hcz19_4 : w15.cell? ⟨gb117, 4, none⟩ = some (.int .i64 a0_4) := (blk_cell BK117.out 4).trans rfl
            have hcz19_5 : w15.cell? ⟨gb117, 5, none⟩ = some (.int .i64 a0_5) := (blk_cell BK117.out 5).trans rfl
            have hcz19_6 : w15.cell? ⟨gb117, 6, none⟩ = some (.int .i64 a0_6) := (blk_cell BK117.out 6).trans rfl
            have hfz19_0 := blk_frozen BK117.out 0
            have hfz19_1 := blk_frozen BK117.out 1
            have hfz19_2 := blk_frozen BK117.out 2
            have hfz19_3 := blk_frozen BK117.out 3
            have hfz19_4 := blk_frozen BK117.out 4
            have hfz19_5 := blk_frozen BK117.out 5
            have hfz19_6 := blk_frozen BK117.out 6
            go_wp2
            go_meet
            case rel => exact ⟨_, (false), (by first | rfl | (simp; done) | (simp [*]; done)), H', ⟨by first | omega | exact Nat.le_refl _⟩, ⟨by (with_reducible repeat (first | refine blk_drewN ?_ _ | refine blk_drew ?_ | refine blk_alloc ?_ _)); exact BK117.out⟩, ⟨by repeat (first | (with_reducible first | exact HB.out | apply below_alloc | apply pw_below_drewN | apply below_drew1 | refine below_set ?_ GE117.out) | exact HB.out)⟩⟩
        · rw [if_neg c16] at H
          have c16b0 : (a0_3 == 23) = false := beq_eq_false_iff_ne.mpr c16
          have c16b1 : (a0_3 != 23) = true := bne_iff_ne.mpr c16
          (first | rw [c16b0] | (simp only [i64_w, i32_w]; rw [c16b0]) | skip)
          have H' := Aside0.mk H
          clear H
          have hcz20_0 : w15.cell? ⟨gb117, 0, none⟩ = some (.int .i64 a0_0) := (blk_cell BK117.out 0).trans rfl
          have hcz20_1 : w15.cell? ⟨gb117, 1, none⟩ = some (.int .i64 a0_1) := (blk_cell BK117.out 1).trans rfl
          have hcz20_2 : w15.cell? ⟨gb117, 2, none⟩ = some (.int .i64 a0_2) := (blk_cell BK117.out 2).trans rfl
          have hcz20_3 : w15.cell? ⟨gb117, 3, none⟩ = some (.int .i64 a0_3) := (blk_cell BK117.out 3).trans rfl
          have hcz20_4 : w15.cell? ⟨gb117, 4, none⟩ = some (.int .i64 a0_4) := (blk_cell BK117.out 4).trans rfl
          have hcz20_5 : w15.cell? ⟨gb117, 5, none⟩ = some (.int .i64 a0_5) := (blk_cell BK117.out 5).trans rfl
          have hcz20_6 : w15.cell? ⟨gb117, 6, none⟩ = some (.int .i64 a0_6) := (blk_cell BK117.out 6).trans rfl
          have hfz20_0 := blk_frozen BK117.out 0
          have hfz20_1 := blk_frozen BK117.out 1
          have hfz20_2 := blk_frozen BK117.out 2
          have hfz20_3 := blk_frozen BK117.out 3
          have hfz20_4 := blk_frozen BK117.out 4
          have hfz20_5 := blk_frozen BK117.out 5
          have hfz20_6 := blk_frozen BK117.out 6
          go_wp2
          go_meet
          case rel => exact ⟨_, (false), (by first | rfl | (simp; done) | (simp [*]; done)), H', ⟨by first | omega | exact Nat.le_refl _⟩, ⟨by (with_reducible repeat (first | refine blk_drewN ?_ _ | refine blk_drew ?_ | refine blk_alloc ?_ _)); exact BK117.out⟩, ⟨by repeat (first | (with_reducible first | exact HB.out | apply below_alloc | apply pw_below_drewN | apply below_drew1 | refine below_set ?_ GE117.out) | exact HB.out)⟩⟩
      case rest =>
        clear HC9
        try clear c1
        try clear p2
        try clear c4
        try clear c4b0
        try clear c4b1
        try clear c6
        try clear c6b0
        try clear c6b1
        try clear p6
        try clear c10
        try clear c16
        try clear c16b0
        try clear c16b1
        try clear c17
        try clear c17b0
        try clear c17b1
        try clear hcz11_0
        try clear hcz11_1
        try clear hcz11_2
        try clear hcz11_3
        try clear hcz11_4
        try clear hcz11_5
        try clear hcz11_6
        try clear hcz14_0
        try clear hcz14_1
        try clear hcz14_2
        try clear hcz14_3
        try clear hcz14_4
        try clear hcz14_5
        try clear hcz14_6
        try clear hcz18_0
        try clear hcz18_1
        try clear hcz18_2
        try clear hcz18_3
        try clear hcz18_4
        try clear hcz18_5
        try clear hcz18_6
        try clear hcz19_0
        try clear hcz19_1
        try clear hcz19_2
        try clear hcz19_3
        try clear hcz19_4
        try clear hcz19_5
        try clear hcz19_6
        try clear hcz20_0
        try clear hcz20_1
        try clear hcz20_2
        try clear hcz20_3
        try clear hcz20_4
        try clear hcz20_5
        try clear hcz20_6
        try clear hfz11_0
        try clear hfz11_1
        try clear hfz11_2
        try clear hfz11_3
        try clear hfz11_4
        try clear hfz11_5
        try clear hfz11_6
        try clear hfz14_0
        try clear hfz14_1
        try clear hfz14_2
        try clear hfz14_3
        try clear hfz14_4
        try clear hfz14_5
        try clear hfz14_6
        try clear hfz18_0
        try clear hfz18_1
        try clear hfz18_2
        try clear hfz18_3
        try clear hfz18_4
        try clear hfz18_5
        try clear hfz18_6
        try clear hfz19_0
        try clear hfz19_1
        try clear hfz19_2
        try clear hfz19_3
        try clear hfz19_4
        try clear hfz19_5
        try clear hfz19_6
        try clear hfz20_0
        try clear hfz20_1
        try clear hfz20_2
        try clear hfz20_3
        try clear hfz20_4
        try clear hfz20_5
        try clear hfz20_6
        obtain ⟨kq, x49_8, rfl, HA, HJ8, BK117, HB⟩ := hcut
        cases kq with
        | zero => exact absurd HA.out (by simp [scale_ToUniform.j0])
        | succ kj8 =>
          have H := HA.out
          clear HA
          simp only [scale_ToUniform.j0] at H
          by_cases c21 : x49_8 = true
          · subst c21
            have H1 : (some (0, 8)) = some (r1, r2) := by rw [if_pos rfl] at H; exact H
            clear H
            have H := H1
            clear H1
            simp only [Option.some.injEq, Prod.mk.injEq] at H
            obtain ⟨rfl, rfl⟩ := H
            go_wp2
            go_ret2
            exact ⟨by first | rfl | (simp [errW_none, errW_some] <;> rfl) | (simp [*, errW_none, errW_some] <;> rfl), by repeat (first | (with_reducible first | exact HB.out | apply below_alloc | apply pw_below_drewN | apply below_drew1 | refine below_set ?_ GE117.out) | exact HB.out)⟩
          · replace c21 := Bool.eq_false_iff.mpr c21
            subst c21
            have H1 : (if (wrap64 ((wrap64 ((wrap64 ((wrap64 (t120 * 86400000)) + (wrap64 ((wrap64 ((wrap64 (a0_3 * 60)) + a0_4)) * 60000)))) + (wrap64 ((wrap64 (a0_5 + t121)) * 1000)))) + a0_6)) < (-17592186044416) then (some (0, 2)) else (if (wrap64 ((wrap64 ((wrap64 ((wrap64 (t120 * 86400000)) + (wrap64 ((wrap64 ((wrap64 (a0_3 * 60)) + a0_4)) * 60000)))) + (wrap64 ((wrap64 (a0_5 + t121)) * 1000)))) + a0_6)) > 17592186044416 then (some (0, 2)) else (some (wrap64 ((wrap64 ((wrap64 ((wrap64 (t120 * 86400000)) + (wrap64 ((wrap64 ((wrap64 (a0_3 * 60)) + a0_4)) * 60000)))) + (wrap64 ((wrap64 (a0_5 + t121)) * 1000)))) + a0_6), 0)))) = some (r1, r2) := by rw [if_neg (show ¬ (false = true) by decide)] at H; exact H
            clear H
            have H := H1
            clear H1
            by_cases c22 : (wrap64 ((wrap64 ((wrap64 ((wrap64 (t120 * 86400000)) + (wrap64 ((wrap64 ((wrap64 (a0_3 * 60)) + a0_4)) * 60000)))) + (wrap64 ((wrap64 (a0_5 + t121)) * 1000)))) + a0_6)) < (-17592186044416)
            · rw [if_pos c22] at H
              have c22b0 : decide ((wrap64 ((wrap64 ((wrap64 ((wrap64 (t120 * 86400000)) + (wrap64 ((wrap64 ((wrap64 (a0_3 * 60)) + a0_4)) * 60000)))) + (wrap64 ((wrap64 (a0_5 + t121)) * 1000)))) + a0_6)) < (-17592186044416)) = true := decide_eq_true c22
              clear c22
              simp only [Option.some.injEq, Prod.mk.injEq] at H
              obtain ⟨rfl, rfl⟩ := H
              have hcz23_0 : wc.cell? ⟨gb117, 0, none⟩ = some (.int .i64 a0_0) := (blk_cell BK117.out 0).trans rfl
              have hcz23_1 : wc.cell? ⟨gb117, 1, none⟩ = some (.int .i64 a0_1) := (blk_cell BK117.out 1).trans rfl
              have hcz23_2 : wc.cell? ⟨gb117, 2, none⟩ = some (.int .i64 a0_2) := (blk_cell BK117.out 2).trans rfl
              have hcz23_3 : wc.cell? ⟨gb117, 3, none⟩ = some (.int .i64 a0_3) := (blk_cell BK117.out 3).trans rfl
              have hcz23_4 : wc.cell? ⟨gb117, 4, none⟩ = some (.int .i64 a0_4) := (blk_cell BK117.out 4).trans rfl
              have hcz23_5 : wc.cell? ⟨gb117, 5, none⟩ = some (.int .i64 a0_5) := (blk_cell BK117.out 5).trans rfl
              have hcz23_6 : wc.cell? ⟨gb117, 6, none⟩ = some (.int .i64 a0_6) := (blk_cell BK117.out 6).trans rfl
              have hfz23_0 := blk_frozen BK117.out 0
              have hfz23_1 := blk_frozen BK117.out 1
              have hfz23_2 := blk_frozen BK117.out 2
              have hfz23_3 := blk_frozen BK117.out 3
              have hfz23_4 := blk_frozen BK117.out 4
              have hfz23_5 := blk_frozen BK117.out 5
              have hfz23_6 := blk_frozen BK117.out 6
              go_wp2
              go_ret2
              exact ⟨by first | rfl | (simp [errW_none, errW_some] <;> rfl) | (simp [*, errW_none, errW_some] <;> rfl), by repeat (first | (with_reducible first | exact HB.out | apply below_alloc | apply pw_below_drewN | apply below_drew1 | refine below_set ?_ GE117.out) | exact HB.out)⟩
            · rw [if_neg c22] at H
              have c22b0 : decide ((wrap64 ((wrap64 ((wrap64 ((wrap64 (t120 * 86400000)) + (wrap64 ((wrap64 ((wrap64 (a0_3 * 60)) + a0_4)) * 60000)))) + (wrap64 ((wrap64 (a0_5 + t121)) * 1000)))) + a0_6)) < (-17592186044416)) = false := decide_eq_false c22
              clear c22
              by_cases c24 : (wrap64 ((wrap64 ((wrap64 ((wrap64 (t120 * 86400000)) + (wrap64 ((wrap64 ((wrap64 (a0_3 * 60)) + a0_4)) * 60000)))) + (wrap64 ((wrap64 (a0_5 + t121)) * 1000)))) + a0_6)) > 17592186044416
              · rw [if_pos c24] at H
                have c24b0 : decide (17592186044416 < (wrap64 ((wrap64 ((wrap64 ((wrap64 (t120 * 86400000)) + (wrap64 ((wrap64 ((wrap64 (a0_3 * 60)) + a0_4)) * 60000)))) + (wrap64 ((wrap64 (a0_5 + t121)) * 1000)))) + a0_6))) = true := decide_eq_true c24
                clear c24
                simp only [Option.some.injEq, Prod.mk.injEq] at H
                obtain ⟨rfl, rfl⟩ := H
                have hcz25_0 : wc.cell? ⟨gb117, 0, none⟩ = some (.int .i64 a0_0) := (blk_cell BK117.out 0).trans rfl
                have hcz25_1 : wc.cell? ⟨gb117, 1, none⟩ = some (.int .i64 a0_1) := (blk_cell BK117.out 1).trans rfl
                have hcz25_2 : wc.cell? ⟨gb117, 2, none⟩ = some (.int .i64 a0_2) := (blk_cell BK117.out 2).trans rfl
                have hcz25_3 : wc.cell? ⟨gb117, 3, none⟩ = some (.int .i64 a0_3) := (blk_cell BK117.out 3).trans rfl
                have hcz25_4 : wc.cell? ⟨gb117, 4, none⟩ = some (.int .i64 a0_4) := (blk_cell BK117.out 4).trans rfl
                have hcz25_5 : wc.cell? ⟨gb117, 5, none⟩ = some (.int .i64 a0_5) := (blk_cell BK117.out 5).trans rfl
                have hcz25_6 : wc.cell? ⟨gb117, 6, none⟩ = some (.int .i64 a0_6) := (blk_cell BK117.out 6).trans rfl
                have hfz25_0 := blk_frozen BK117.out 0
                have hfz25_1 := blk_frozen BK117.out 1
                have hfz25_2 := blk_frozen BK117.out 2
                have hfz25_3 := blk_frozen BK117.out 3
                have hfz25_4 := blk_frozen BK117.out 4
                have hfz25_5 := blk_frozen BK117.out 5
                have hfz25_6 := blk_frozen BK117.out 6
                go_wp2
                go_ret2
                exact ⟨by first | rfl | (simp [errW_none, errW_some] <;> rfl) | (simp [*, errW_none, errW_some] <;> rfl), by repeat (first | (with_reducible first | exact HB.out | apply below_alloc | apply pw_below_drewN | apply below_drew1 | refine below_set ?_ GE117.out) | exact HB.out)⟩
              · rw [if_neg c24] at H
                have c24b0 : decide (17592186044416 < (wrap64 ((wrap64 ((wrap64 ((wrap64 (t120 * 86400000)) + (wrap64 ((wrap64 ((wrap64 (a0_3 * 60)) + a0_4)) * 60000)))) + (wrap64 ((wrap64 (a0_5 + t121)) * 1000)))) + a0_6))) = false := decide_eq_false c24
                clear c24
                simp only [Option.some.injEq, Prod.mk.injEq] at H
                obtain ⟨rfl, rfl⟩ := H
                have hcz26_0 : wc.cell? ⟨gb117, 0, none⟩ = some (.int .i64 a0_0) := (blk_cell BK117.out 0).trans rfl
                have hcz26_1 : wc.cell? ⟨gb117, 1, none⟩ = some (.int .i64 a0_1) := (blk_cell BK117.out 1).trans rfl
                have hcz26_2 : wc.cell? ⟨gb117, 2, none⟩ = some (.int .i64 a0_2) := (blk_cell BK117.out 2).trans rfl
                have hcz26_3 : wc.cell? ⟨gb117, 3, none⟩ = some (.int .i64 a0_3) := (blk_cell BK117.out 3).trans rfl
                have hcz26_4 : wc.cell? ⟨gb117, 4, none⟩ = some (.int .i64 a0_4) := (blk_cell BK117.out 4).trans rfl
                have hcz26_5 : wc.cell? ⟨gb117, 5, none⟩ = some (.int .i64 a0_5) := (blk_cell BK117.out 5).trans rfl
                have hcz26_6 : wc.cell? ⟨gb117, 6, none⟩ = some (.int .i64 a0_6) := (blk_cell BK117.out 6).trans rfl
                have hfz26_0 := blk_frozen BK117.out 0
                have hfz26_1 := blk_frozen BK117.out 1
                have hfz26_2 := blk_frozen BK117.out 2
                have hfz26_3 := blk_frozen BK117.out 3
                have hfz26_4 := blk_frozen BK117.out 4
                have hfz26_5 := blk_frozen BK117.out 5
                have hfz26_6 := blk_frozen BK117.out 6
                go_wp2
                go_ret2
                exact ⟨by first | rfl | (simp [errW_none, errW_some] <;> rfl) | (simp [*, errW_none, errW_some] <;> rfl), by repeat (first | (with_reducible first | exact HB.out | apply below_alloc | apply pw_below_drewN | apply below_drew1 | refine below_set ?_ GE117.out) | exact HB.out)⟩
    · rw [if_neg c6] at H
      have c6b0 : (t119 == 0) = false := beq_eq_false_iff_ne.mpr c6
      have c6b1 : (t119 != 0) = true := bne_iff_ne.mpr c6
      simp only [Option.some.injEq, Prod.mk.injEq] at H
      obtain ⟨rfl, rfl⟩ := H
      go_enter Try.func63, Try.ntmps63
      go_wp2_with (first | ((with_reducible refine gate_dst (N := 2) rfl ?_); refine box_event ?hg (N := 2) ?hd (cs := #[.int .i64 a0_0, .int .i64 a0_1, .int .i64 a0_2, .int .i64 a0_3, .int .i64 a0_4, .int .i64 a0_5, .int .i64 a0_6]) (t := 108) ?hr ?_; (case hd => rfl); (case hg => rfl); (case hr => first | (go_simp; done) | (go_simp; rfl)); intro gb117 hg w27 hbox hb; have n0_ := Aside0.mk (below_step (by repeat (first | (with_reducible first | exact HB.out | apply below_alloc | apply pw_below_drewN | apply below_drew1) | exact HB.out)) hb); have n1_ := Aside0.mk (hbox); have n2_ := Aside0.mk ((by rw [hg]; exact (below_size (by repeat (first | (with_reducible first | exact HB.out | apply below_alloc | apply pw_below_drewN | apply below_drew1) | exact HB.out))) : w.heap.size ≤ gb117)); have n3_ := Aside0.mk ((by rw [hg]; exact (below_size (by repeat (first | (with_reducible first | exact HB.out | apply below_alloc | apply pw_below_drewN | apply below_drew1) | exact HB.out))) : w.heap.size ≤ gb117)); clear HB; have HB := n0_; have BK117 := n1_; have GW117 := n2_; have GE117 := n3_; clear n0_ n1_ n2_ n3_; clear hb hbox hg; have hcz28_0 : w27.cell? ⟨gb117, 0, none⟩ = some (.int .i64 a0_0) := (blk_cell BK117.out 0).trans rfl; have hcz28_1 : w27.cell? ⟨gb117, 1, none⟩ = some (.int .i64 a0_1) := (blk_cell BK117.out 1).trans rfl; have hcz28_2 : w27.cell? ⟨gb117, 2, none⟩ = some (.int .i64 a0_2) := (blk_cell BK117.out 2).trans rfl; have hcz28_3 : w27.cell? ⟨gb117, 3, none⟩ = some (.int .i64 a0_3) := (blk_cell BK117.out 3).trans rfl; have hcz28_4 : w27.cell? ⟨gb117, 4, none⟩ = some (.int .i64 a0_4) := (blk_cell BK117.out 4).trans rfl; have hcz28_5 : w27.cell? ⟨gb117, 5, none⟩ = some (.int .i64 a0_5) := (blk_cell BK117.out 5).trans rfl; have hcz28_6 : w27.cell? ⟨gb117, 6, none⟩ = some (.int .i64 a0_6) := (blk_cell BK117.out 6).trans rfl; have hfz28_0 := blk_frozen BK117.out 0; have hfz28_1 := blk_frozen BK117.out 1; have hfz28_2 := blk_frozen BK117.out 2; have hfz28_3 := blk_frozen BK117.out 3; have hfz28_4 := blk_frozen BK117.out 4; have hfz28_5 := blk_frozen BK117.out 5; have hfz28_6 := blk_frozen BK117.out 6) | ((with_reducible refine gate_callee (f := 101) rfl ?_); refine goesL_ (some 13) rfl rfl Try.func101 (by kernel_rfl) rfl #[.agg #[.int .i64 a0_0, .int .i64 a0_1, .int .i64 a0_2, .int .i64 a0_3, .int .i64 a0_4, .int .i64 a0_5, .int .i64 a0_6]] rfl (by (try simp only [List.map_toArray, List.map_cons, List.map_nil]); first | done | rfl | (simp only [List.length_drop, List.length_take]; rfl)) ?_; (with_reducible refine (scale_Check.calls k a0_0 a0_1 a0_2 a0_3 a0_4 a0_5 a0_6 t118 _ A3.out).mono ?_); rintro e w29 ⟨rfl, hb⟩; refine ⟨_, rfl, ?_⟩; have n0_ := Aside0.mk (blk_below (g := gb117) (o := .cells #[.int .i64 a0_0, .int .i64 a0_1, .int .i64 a0_2, .int .i64 a0_3, .int .i64 a0_4, .int .i64 a0_5, .int .i64 a0_6] 108 (0, 0)) (by (with_reducible repeat (first | refine blk_drewN ?_ _ | refine blk_drew ?_ | refine blk_alloc ?_ _)); exact BK117.out) hb); have n1_ := Aside0.mk (below_step (by repeat (first | (with_reducible first | exact HB.out | apply below_alloc | apply pw_below_drewN | apply below_drew1 | refine below_set ?_ GE117.out) | exact HB.out)) hb); clear BK117; clear HB; have BK117 := n0_; have HB := n1_; clear n0_ n1_; (try clear hb); (try clear hb2); (try clear hk); (try clear hi)) | ((with_reducible refine gate_callee (f := 102) rfl ?_); refine goesL_ (some 18) rfl rfl Try.func102 (by kernel_rfl) rfl #[.slice A1 l1.length c1] rfl (by (try simp only [List.map_toArray, List.map_cons, List.map_nil]); first | done | rfl | (simp only [List.length_drop, List.length_take]; rfl)) ?_; (with_reducible refine (scale_CheckLeaps.calls k _ _ l1 t119 _ ?side1 ?side2 A5.out).mono ?_); (case side1 => repeat (first | exact (Kd.C_below HR1.out HB.out) | (with_reducible refine Kd.C_alloc ?_ _) | (with_reducible refine Kd.C_drewN ?_ _) | (with_reducible refine Kd.C_drew ?_))); (case side2 => exact HC1.out); rintro e w30 ⟨rfl, hb⟩; refine ⟨_, rfl, ?_⟩; have n0_ := Aside0.mk (blk_below (g := gb117) (o := .cells #[.int .i64 a0_0, .int .i64 a0_1, .int .i64 a0_2, .int .i64 a0_3, .int .i64 a0_4, .int .i64 a0_5, .int .i64 a0_6] 108 (0, 0)) (by (with_reducible repeat (first | refine blk_drewN ?_ _ | refine blk_drew ?_ | refine blk_alloc ?_ _)); exact BK117.out) hb); have n1_ := Aside0.mk (below_step (by repeat (first | (with_reducible first | exact HB.out | apply below_alloc | apply pw_below_drewN | apply below_drew1 | refine below_set ?_ GE117.out) | exact HB.out)) hb); clear BK117; clear HB; have BK117 := n0_; have HB := n1_; clear n0_ n1_; (try clear hb); (try clear hb2); (try clear hk); (try clear hi)))
      go_ret2
      exact ⟨by first | rfl | (simp [errW_none, errW_some] <;> rfl) | (simp [*, errW_none, errW_some] <;> rfl), by repeat (first | (with_reducible first | exact HB.out | apply below_alloc | apply pw_below_drewN | apply below_drew1 | refine below_set ?_ GE117.out) | exact HB.out)⟩
  · rw [if_neg c4] at H
    have c4b0 : (t118 == 0) = false := beq_eq_false_iff_ne.mpr c4
    have c4b1 : (t118 != 0) = true := bne_iff_ne.mpr c4
    simp only [Option.some.injEq, Prod.mk.injEq] at H
    obtain ⟨rfl, rfl⟩ := H
    go_enter Try.func63, Try.ntmps63
    go_wp2_with (first | ((with_reducible refine gate_dst (N := 2) rfl ?_); refine box_event ?hg (N := 2) ?hd (cs := #[.int .i64 a0_0, .int .i64 a0_1, .int .i64 a0_2, .int .i64 a0_3, .int .i64 a0_4, .int .i64 a0_5, .int .i64 a0_6]) (t := 108) ?hr ?_; (case hd => rfl); (case hg => rfl); (case hr => first | (go_simp; done) | (go_simp; rfl)); intro gb117 hg w31 hbox hb; have n0_ := Aside0.mk (below_step (by repeat (first | (with_reducible first | exact HB.out | apply below_alloc | apply pw_below_drewN | apply below_drew1) | exact HB.out)) hb); have n1_ := Aside0.mk (hbox); have n2_ := Aside0.mk ((by rw [hg]; exact (below_size (by repeat (first | (with_reducible first | exact HB.out | apply below_alloc | apply pw_below_drewN | apply below_drew1) | exact HB.out))) : w.heap.size ≤ gb117)); have n3_ := Aside0.mk ((by rw [hg]; exact (below_size (by repeat (first | (with_reducible first | exact HB.out | apply below_alloc | apply pw_below_drewN | apply below_drew1) | exact HB.out))) : w.heap.size ≤ gb117)); clear HB; have HB := n0_; have BK117 := n1_; have GW117 := n2_; have GE117 := n3_; clear n0_ n1_ n2_ n3_; clear hb hbox hg; have hcz32_0 : w31.cell? ⟨gb117, 0, none⟩ = some (.int .i64 a0_0) := (blk_cell BK117.out 0).trans rfl; have hcz32_1 : w31.cell? ⟨gb117, 1, none⟩ = some (.int .i64 a0_1) := (blk_cell BK117.out 1).trans rfl; have hcz32_2 : w31.cell? ⟨gb117, 2, none⟩ = some (.int .i64 a0_2) := (blk_cell BK117.out 2).trans rfl; have hcz32_3 : w31.cell? ⟨gb117, 3, none⟩ = some (.int .i64 a0_3) := (blk_cell BK117.out 3).trans rfl; have hcz32_4 : w31.cell? ⟨gb117, 4, none⟩ = some (.int .i64 a0_4) := (blk_cell BK117.out 4).trans rfl; have hcz32_5 : w31.cell? ⟨gb117, 5, none⟩ = some (.int .i64 a0_5) := (blk_cell BK117.out 5).trans rfl; have hcz32_6 : w31.cell? ⟨gb117, 6, none⟩ = some (.int .i64 a0_6) := (blk_cell BK117.out 6).trans rfl; have hfz32_0 := blk_frozen BK117.out 0; have hfz32_1 := blk_frozen BK117.out 1; have hfz32_2 := blk_frozen BK117.out 2; have hfz32_3 := blk_frozen BK117.out 3; have hfz32_4 := blk_frozen BK117.out 4; have hfz32_5 := blk_frozen BK117.out 5; have hfz32_6 := blk_frozen BK117.out 6) | ((with_reducible refine gate_callee (f := 101) rfl ?_); refine goesL_ (some 13) rfl rfl Try.func101 (by kernel_rfl) rfl #[.agg #[.int .i64 a0_0, .int .i64 a0_1, .int .i64 a0_2, .int .i64 a0_3, .int .i64 a0_4, .int .i64 a0_5, .int .i64 a0_6]] rfl (by (try simp only [List.map_toArray, List.map_cons, List.map_nil]); first | done | rfl | (simp only [List.length_drop, List.length_take]; rfl)) ?_; (with_reducible refine (scale_Check.calls k a0_0 a0_1 a0_2 a0_3 a0_4 a0_5 a0_6 t118 _ A3.out).mono ?_); rintro e w33 ⟨rfl, hb⟩; refine ⟨_, rfl, ?_⟩; have n0_ := Aside0.mk (blk_below (g := gb117) (o := .cells #[.int .i64 a0_0, .int .i64 a0_1, .int .i64 a0_2, .int .i64 a0_3, .int .i64 a0_4, .int .i64 a0_5, .int .i64 a0_6] 108 (0, 0)) (by (with_reducible repeat (first | refine blk_drewN ?_ _ | refine blk_drew ?_ | refine blk_alloc ?_ _)); exact BK117.out) hb); have n1_ := Aside0.mk (below_step (by repeat (first | (with_reducible first | exact HB.out | apply below_alloc | apply pw_below_drewN | apply below_drew1 | refine below_set ?_ GE117.out) | exact HB.out)) hb); clear BK117; clear HB; have BK117 := n0_; have HB := n1_; clear n0_ n1_; (try clear hb); (try clear hb2); (try clear hk); (try clear hi)))
    go_ret2
    exact ⟨by first | rfl | (simp [errW_none, errW_some] <;> rfl) | (simp [*, errW_none, errW_some] <;> rfl), by repeat (first | (with_reducible first | exact HB.out | apply below_alloc | apply pw_below_drewN | apply below_drew1 | refine below_set ?_ GE117.out) | exact HB.out)⟩

/-! ### spykeep1_scaleFact: function 17 -/
def spykeep1_scaleFact.f (k : Nat)  : Option (Bool) := (scale_ToUniform.f k 2000 12 31 23 59 60 500 (([(⟨365, 1⟩ : S110)] : List (S110)))).bind fun bt126 => (if bt126.2 = 0 then (some (bt126.1 == 31622400500)) else (some false))
theorem spykeep1_scaleFact.mono : ∀ k, LeO (spykeep1_scaleFact.f k ) (spykeep1_scaleFact.f (k + 1) ) := by
  intro  k
  unfold spykeep1_scaleFact.f
  repeat' first
      | (with_reducible exact scale_ToUniform.mono _ _ _ _ _ _ _ _ _)
      | (with_reducible exact LeO.refl _)
      | (with_reducible exact LeO.none _)
      | (with_reducible refine LeO.ite ?_ ?_)
      | (with_reducible refine LeO.bind ?_ (fun _ => ?_))
      | exact scale_ToUniform.mono _ _ _ _ _ _ _ _ _
      | exact LeO.none _
      | refine LeO.ite ?_ ?_
      | refine LeO.bind ?_ (fun _ => ?_)
set_option maxHeartbeats 8000000 in
set_option maxRecDepth 100000 in
theorem spykeep1_scaleFact.calls (k : Nat)  (r : Bool) (w : World) (h : spykeep1_scaleFact.f k  = some r) :
    Calls Try.prog 17 #[] w fun e w' => e = .returned (.bool r) ∧ Below w.heap.size w w' := by
  have hu108 := Try.underlying108
  have hu110 := Try.underlying110
  have HB := Aside0.mk (Below.refl w.heap.size w)
  have H : ((scale_ToUniform.f k 2000 12 31 23 59 60 500 (([(⟨365, 1⟩ : S110)] : List (S110)))).bind fun bt126 => (if bt126.2 = 0 then (some (bt126.1 == 31622400500)) else (some false))) = some r := h
  clear h
  obtain ⟨y123, hy123⟩ : ∃ y_ : List (S110), y_ = (([(⟨365, 1⟩ : S110)] : List (S110))) := ⟨_, rfl⟩
  replace H : ((scale_ToUniform.f k 2000 12 31 23 59 60 500 y123).bind fun bt126 => (if bt126.2 = 0 then (some (bt126.1 == 31622400500)) else (some false))) = some r := by first | (rw [hy123]; with_reducible exact H) | (have H2_ := (Option.bind_some _ _).symm.trans H; rw [hy123]; with_reducible exact H2_) | (have H2_ := (Option.bind_some _ _).symm.trans H; with_reducible exact H2_) | with_reducible exact H | (rw [hy123]; exact H) | exact H
  have Ny123 := Aside0.mk hy123
  clear hy123
  replace H := Option.bind_eq_some_iff.mp H
  obtain ⟨⟨t126, t127⟩, A10, H⟩ := H
  replace H : (if t127 = 0 then (some (t126 == 31622400500)) else (some false)) = some r := H
  have A1 := Aside0.mk A10
  clear A10
  by_cases c2 : t127 = 0
  · rw [if_pos c2] at H
    have c2b0 : (t127 == 0) = true := beq_iff_eq.mpr c2
    have c2b1 : (t127 != 0) = false := bne_eq_false_iff_eq.mpr c2
    clear c2
    obtain rfl := Option.some.inj H
    go_enter Try.func17, Try.ntmps17
    go_wp2_with (first | ((with_reducible refine gate_dst (N := 6) rfl ?_); refine Kd.R_lit k110 _ 110 ?hg (N := 6) ?hd (xs := ([(⟨365, 1⟩ : S110)] : List (S110))) (inner := [.int .i64 365, .int .i64 1]) (ok := fun _ => True) (okp := fun _ => True) ?hr ?hp (fun _ hk => hk) trivial (Below.refl _ _) (Nat.le_refl _) (by simp) ?_; (case hd => rfl); (case hg => rfl); (case hr => first | (go_simp; done) | (go_simp; rfl)); (case hp => exact (Reps.c2 (show Kd.M k110 _ _ _ (⟨365, 1⟩ : S110) [.int .i64 365, .int .i64 1] from (k110_mkM _ _ _ (⟨365, 1⟩ : S110) )) (Reps.none _ _))); intro v124 w3 ho4 hb hg_ hnew_; clear hg_ hnew_; (first | rw [← Ny123.out] at ho4 | (simp only [Int.reduceToNat] at ho4; rw [← Ny123.out] at ho4)); have n0_ := Aside0.mk (Kd.R_lower ho4 (below_size (by repeat (first | (with_reducible first | exact HB.out | apply below_alloc | apply pw_below_drewN | apply below_drew1) | exact HB.out)))); have n1_ := Aside0.mk (below_step (by repeat (first | (with_reducible first | exact HB.out | apply below_alloc | apply pw_below_drewN | apply below_drew1) | exact HB.out)) hb); clear HB; have HO125 := n0_; have HB := n1_; clear n0_ n1_; clear hb ho4; obtain ⟨Ao5, co5, eo5⟩ := Kd.R_slice HO125.out; subst eo5) | ((with_reducible refine gate_callee (f := 63) rfl ?_); refine goesL_ (some 7) rfl rfl Try.func63 (by kernel_rfl) rfl #[.agg #[.int .i64 2000, .int .i64 12, .int .i64 31, .int .i64 23, .int .i64 59, .int .i64 60, .int .i64 500], .slice Ao5 y123.length co5] rfl (by (try simp only [List.map_toArray, List.map_cons, List.map_nil]); first | done | rfl | (simp only [List.length_drop, List.length_take]; rfl)) ?_; (with_reducible refine (scale_ToUniform.calls k 2000 12 31 23 59 60 500 _ _ y123 t126 t127 _ ?side1 ?side2 A1.out).mono ?_); (case side1 => repeat (first | exact (Kd.R_reads' HO125.out).2.2 | (with_reducible refine Kd.C_alloc ?_ _) | (with_reducible refine Kd.C_drewN ?_ _) | (with_reducible refine Kd.C_drew ?_))); (case side2 => exact (Kd.R_reads' HO125.out).2.1); rintro e w6 ⟨rfl, hb⟩; refine ⟨_, rfl, ?_⟩; have n0_ := Aside0.mk (Kd.R_below (by (with_reducible repeat (first | apply Kd.R_alloc | apply Kd.R_drewN | apply Kd.R_drew)); exact HO125.out) hb); have n1_ := Aside0.mk (below_step (by repeat (first | (with_reducible first | exact HB.out | apply below_alloc | apply pw_below_drewN | apply below_drew1) | exact HB.out)) hb); clear HO125; clear HB; have HO125 := n0_; have HB := n1_; clear n0_ n1_; (try clear hb); (try clear hb2); (try clear hk); (try clear hi)))
    go_ret
    exact ⟨by first | rfl | (simp [errW_none, errW_some] <;> rfl) | (simp [*, errW_none, errW_some] <;> rfl), by repeat (first | (with_reducible first | exact HB.out | apply below_alloc | apply pw_below_drewN | apply below_drew1) | exact HB.out)⟩
  · rw [if_neg c2] at H
    have c2b0 : (t127 == 0) = false := beq_eq_false_iff_ne.mpr c2
    have c2b1 : (t127 != 0) = true := bne_iff_ne.mpr c2
    obtain rfl := Option.some.inj H
    go_enter Try.func17, Try.ntmps17
    go_wp2_with (first | ((with_reducible refine gate_dst (N := 6) rfl ?_); refine Kd.R_lit k110 _ 110 ?hg (N := 6) ?hd (xs := ([(⟨365, 1⟩ : S110)] : List (S110))) (inner := [.int .i64 365, .int .i64 1]) (ok := fun _ => True) (okp := fun _ => True) ?hr ?hp (fun _ hk => hk) trivial (Below.refl _ _) (Nat.le_refl _) (by simp) ?_; (case hd => rfl); (case hg => rfl); (case hr => first | (go_simp; done) | (go_simp; rfl)); (case hp => exact (Reps.c2 (show Kd.M k110 _ _ _ (⟨365, 1⟩ : S110) [.int .i64 365, .int .i64 1] from (k110_mkM _ _ _ (⟨365, 1⟩ : S110) )) (Reps.none _ _))); intro v124 w7 ho8 hb hg_ hnew_; clear hg_ hnew_; (first | rw [← Ny123.out] at ho8 | (simp only [Int.reduceToNat] at ho8; rw [← Ny123.out] at ho8)); have n0_ := Aside0.mk (Kd.R_lower ho8 (below_size (by repeat (first | (with_reducible first | exact HB.out | apply below_alloc | apply pw_below_drewN | apply below_drew1) | exact HB.out)))); have n1_ := Aside0.mk (below_step (by repeat (first | (with_reducible first | exact HB.out | apply below_alloc | apply pw_below_drewN | apply below_drew1) | exact HB.out)) hb); clear HB; have HO125 := n0_; have HB := n1_; clear n0_ n1_; clear hb ho8; obtain ⟨Ao9, co9, eo9⟩ := Kd.R_slice HO125.out; subst eo9) | ((with_reducible refine gate_callee (f := 63) rfl ?_); refine goesL_ (some 7) rfl rfl Try.func63 (by kernel_rfl) rfl #[.agg #[.int .i64 2000, .int .i64 12, .int .i64 31, .int .i64 23, .int .i64 59, .int .i64 60, .int .i64 500], .slice Ao9 y123.length co9] rfl (by (try simp only [List.map_toArray, List.map_cons, List.map_nil]); first | done | rfl | (simp only [List.length_drop, List.length_take]; rfl)) ?_; (with_reducible refine (scale_ToUniform.calls k 2000 12 31 23 59 60 500 _ _ y123 t126 t127 _ ?side1 ?side2 A1.out).mono ?_); (case side1 => repeat (first | exact (Kd.R_reads' HO125.out).2.2 | (with_reducible refine Kd.C_alloc ?_ _) | (with_reducible refine Kd.C_drewN ?_ _) | (with_reducible refine Kd.C_drew ?_))); (case side2 => exact (Kd.R_reads' HO125.out).2.1); rintro e w10 ⟨rfl, hb⟩; refine ⟨_, rfl, ?_⟩; have n0_ := Aside0.mk (Kd.R_below (by (with_reducible repeat (first | apply Kd.R_alloc | apply Kd.R_drewN | apply Kd.R_drew)); exact HO125.out) hb); have n1_ := Aside0.mk (below_step (by repeat (first | (with_reducible first | exact HB.out | apply below_alloc | apply pw_below_drewN | apply below_drew1) | exact HB.out)) hb); clear HO125; clear HB; have HO125 := n0_; have HB := n1_; clear n0_ n1_; (try clear hb); (try clear hb2); (try clear hk); (try clear hi)))
    go_ret
    exact ⟨by first | rfl | (simp [errW_none, errW_some] <;> rfl) | (simp [*, errW_none, errW_some] <;> rfl), by repeat (first | (with_reducible first | exact HB.out | apply below_alloc | apply pw_below_drewN | apply below_drew1) | exact HB.out)⟩

/-! ### spykeep1_ScaleDays: function 3 -/
def spykeep1_ScaleDays.f (k : Nat) (a0 : Int) : Option (Bool) := (spymake_Below.f a0 3600000).bind fun t128 => ((scale_Date.f k (wrap64 (t128 - 700000))).bind fun bt129 => ((scale_Date.f k (wrap64 ((wrap64 (t128 - 700000)) + 1))).bind fun bt133 => ((spykeep1_scaleFact.f k).bind fun t137 => (if t137 = true then (if bt129.2.2.2 = 0 then (if bt133.2.2.2 = 0 then ((scale_Days.f k bt129.1 bt129.2.1 bt129.2.2.1).bind fun bt138 => (if bt133.1 = bt129.1 then (if bt133.2.1 = bt129.2.1 then (if bt133.2.2.1 = (wrap64 (bt129.2.2.1 + 1)) then (if bt138.2 = 0 then (if bt138.1 = (wrap64 (t128 - 700000)) then (some true) else (none)) else (none)) else (if bt133.2.2.1 = 1 then (if bt129.2.2.1 ≥ 28 then (if bt133.2.1 = (wrap64 (bt129.2.1 + 1)) then (if bt138.2 = 0 then (if bt138.1 = (wrap64 (t128 - 700000)) then (some true) else (none)) else (none)) else (if bt133.1 = (wrap64 (bt129.1 + 1)) then (if bt133.2.1 = 1 then (if bt129.2.1 = 12 then (if bt138.2 = 0 then (if bt138.1 = (wrap64 (t128 - 700000)) then (some (bt129.2.2.1 == 31)) else (none)) else (none)) else (none)) else (none)) else (none))) else (none)) else (none))) else (if bt133.2.2.1 = 1 then (if bt129.2.2.1 ≥ 28 then (if bt133.2.1 = (wrap64 (bt129.2.1 + 1)) then (if bt138.2 = 0 then (if bt138.1 = (wrap64 (t128 - 700000)) then (some true) else (none)) else (none)) else (if bt133.1 = (wrap64 (bt129.1 + 1)) then (if bt133.2.1 = 1 then (if bt129.2.1 = 12 then (if bt138.2 = 0 then (if bt138.1 = (wrap64 (t128 - 700000)) then (some (bt129.2.2.1 == 31)) else (none)) else (none)) else (none)) else (none)) else (none))) else (none)) else (none))) else (if bt133.2.2.1 = 1 then (if bt129.2.2.1 ≥ 28 then (if bt133.1 = (wrap64 (bt129.1 + 1)) then (if bt133.2.1 = 1 then (if bt129.2.1 = 12 then (if bt138.2 = 0 then (if bt138.1 = (wrap64 (t128 - 700000)) then (some (bt129.2.2.1 == 31)) else (none)) else (none)) else (none)) else (none)) else (none)) else (none)) else (none)))) else (if (wrap64 ((wrap64 (t128 - 700000)) + 1)) > 2900000 then (some (bt133.2.2.2 == 4)) else (none))) else (if (wrap64 ((wrap64 (t128 - 700000)) + 1)) > 2900000 then (some (bt133.2.2.2 == 4)) else (none))) else (none)))))
theorem spykeep1_ScaleDays.mono : ∀ a0 k, LeO (spykeep1_ScaleDays.f k a0) (spykeep1_ScaleDays.f (k + 1) a0) := by
  intro a0 k
  unfold spykeep1_ScaleDays.f
  repeat' first
      | (with_reducible exact scale_Date.mono _ _)
      | (with_reducible exact scale_Days.mono _ _ _ _)
      | (with_reducible exact spykeep1_scaleFact.mono _)
      | (with_reducible exact LeO.refl _)
      | (with_reducible exact LeO.none _)
      | (with_reducible refine LeO.ite ?_ ?_)
      | (with_reducible refine LeO.bind ?_ (fun _ => ?_))
      | exact scale_Date.mono _ _
      | exact scale_Days.mono _ _ _ _
      | exact spykeep1_scaleFact.mono _
      | exact LeO.none _
      | refine LeO.ite ?_ ?_
      | refine LeO.bind ?_ (fun _ => ?_)
set_option maxHeartbeats 8000000 in
set_option maxRecDepth 100000 in
theorem spykeep1_ScaleDays.calls (k : Nat) (a0 : Int) (r : Bool) (w : World) (h : spykeep1_ScaleDays.f k a0 = some r) :
    Calls Try.prog 3 #[.int .i64 a0] w fun e w' => e = .returned (.bool r) ∧ Below w.heap.size w w' := by
  have HB := Aside0.mk (Below.refl w.heap.size w)
  have H : ((spymake_Below.f a0 3600000).bind fun t128 => ((scale_Date.f k (wrap64 (t128 - 700000))).bind fun bt129 => ((scale_Date.f k (wrap64 ((wrap64 (t128 - 700000)) + 1))).bind fun bt133 => ((spykeep1_scaleFact.f k).bind fun t137 => (if t137 = true then (if bt129.2.2.2 = 0 then (if bt133.2.2.2 = 0 then ((scale_Days.f k bt129.1 bt129.2.1 bt129.2.2.1).bind fun bt138 => (if bt133.1 = bt129.1 then (if bt133.2.1 = bt129.2.1 then (if bt133.2.2.1 = (wrap64 (bt129.2.2.1 + 1)) then (if bt138.2 = 0 then (if bt138.1 = (wrap64 (t128 - 700000)) then (some true) else (none)) else (none)) else (if bt133.2.2.1 = 1 then (if bt129.2.2.1 ≥ 28 then (if bt133.2.1 = (wrap64 (bt129.2.1 + 1)) then (if bt138.2 = 0 then (if bt138.1 = (wrap64 (t128 - 700000)) then (some true) else (none)) else (none)) else (if bt133.1 = (wrap64 (bt129.1 + 1)) then (if bt133.2.1 = 1 then (if bt129.2.1 = 12 then (if bt138.2 = 0 then (if bt138.1 = (wrap64 (t128 - 700000)) then (some (bt129.2.2.1 == 31)) else (none)) else (none)) else (none)) else (none)) else (none))) else (none)) else (none))) else (if bt133.2.2.1 = 1 then (if bt129.2.2.1 ≥ 28 then (if bt133.2.1 = (wrap64 (bt129.2.1 + 1)) then (if bt138.2 = 0 then (if bt138.1 = (wrap64 (t128 - 700000)) then (some true) else (none)) else (none)) else (if bt133.1 = (wrap64 (bt129.1 + 1)) then (if bt133.2.1 = 1 then (if bt129.2.1 = 12 then (if bt138.2 = 0 then (if bt138.1 = (wrap64 (t128 - 700000)) then (some (bt129.2.2.1 == 31)) else (none)) else (none)) else (none)) else (none)) else (none))) else (none)) else (none))) else (if bt133.2.2.1 = 1 then (if bt129.2.2.1 ≥ 28 then (if bt133.1 = (wrap64 (bt129.1 + 1)) then (if bt133.2.1 = 1 then (if bt129.2.1 = 12 then (if bt138.2 = 0 then (if bt138.1 = (wrap64 (t128 - 700000)) then (some (bt129.2.2.1 == 31)) else (none)) else (none)) else (none)) else (none)) else (none)) else (none)) else (none)))) else (if (wrap64 ((wrap64 (t128 - 700000)) + 1)) > 2900000 then (some (bt133.2.2.2 == 4)) else (none))) else (if (wrap64 ((wrap64 (t128 - 700000)) + 1)) > 2900000 then (some (bt133.2.2.2 == 4)) else (none))) else (none)))))) = some r := h
  clear h
  replace H := Option.bind_eq_some_iff.mp H
  obtain ⟨t128, A20, H⟩ := H
  replace H : ((scale_Date.f k (wrap64 (t128 - 700000))).bind fun bt129 => ((scale_Date.f k (wrap64 ((wrap64 (t128 - 700000)) + 1))).bind fun bt133 => ((spykeep1_scaleFact.f k).bind fun t137 => (if t137 = true then (if bt129.2.2.2 = 0 then (if bt133.2.2.2 = 0 then ((scale_Days.f k bt129.1 bt129.2.1 bt129.2.2.1).bind fun bt138 => (if bt133.1 = bt129.1 then (if bt133.2.1 = bt129.2.1 then (if bt133.2.2.1 = (wrap64 (bt129.2.2.1 + 1)) then (if bt138.2 = 0 then (if bt138.1 = (wrap64 (t128 - 700000)) then (some true) else (none)) else (none)) else (if bt133.2.2.1 = 1 then (if bt129.2.2.1 ≥ 28 then (if bt133.2.1 = (wrap64 (bt129.2.1 + 1)) then (if bt138.2 = 0 then (if bt138.1 = (wrap64 (t128 - 700000)) then (some true) else (none)) else (none)) else (if bt133.1 = (wrap64 (bt129.1 + 1)) then (if bt133.2.1 = 1 then (if bt129.2.1 = 12 then (if bt138.2 = 0 then (if bt138.1 = (wrap64 (t128 - 700000)) then (some (bt129.2.2.1 == 31)) else (none)) else (none)) else (none)) else (none)) else (none))) else (none)) else (none))) else (if bt133.2.2.1 = 1 then (if bt129.2.2.1 ≥ 28 then (if bt133.2.1 = (wrap64 (bt129.2.1 + 1)) then (if bt138.2 = 0 then (if bt138.1 = (wrap64 (t128 - 700000)) then (some true) else (none)) else (none)) else (if bt133.1 = (wrap64 (bt129.1 + 1)) then (if bt133.2.1 = 1 then (if bt129.2.1 = 12 then (if bt138.2 = 0 then (if bt138.1 = (wrap64 (t128 - 700000)) then (some (bt129.2.2.1 == 31)) else (none)) else (none)) else (none)) else (none)) else (none))) else (none)) else (none))) else (if bt133.2.2.1 = 1 then (if bt129.2.2.1 ≥ 28 then (if bt133.1 = (wrap64 (bt129.1 + 1)) then (if bt133.2.1 = 1 then (if bt129.2.1 = 12 then (if bt138.2 = 0 then (if bt138.1 = (wrap64 (t128 - 700000)) then (some (bt129.2.2.1 == 31)) else (none)) else (none)) else (none)) else (none)) else (none)) else (none)) else (none)))) else (if (wrap64 ((wrap64 (t128 - 700000)) + 1)) > 2900000 then (some (bt133.2.2.2 == 4)) else (none))) else (if (wrap64 ((wrap64 (t128 - 700000)) + 1)) > 2900000 then (some (bt133.2.2.2 == 4)) else (none))) else (none))))) = some r := H
  have A2 := Aside0.mk A20
  clear A20
  replace H := Option.bind_eq_some_iff.mp H
  obtain ⟨⟨t129, t130, t131, t132⟩, A30, H⟩ := H
  replace H : ((scale_Date.f k (wrap64 ((wrap64 (t128 - 700000)) + 1))).bind fun bt133 => ((spykeep1_scaleFact.f k).bind fun t137 => (if t137 = true then (if t132 = 0 then (if bt133.2.2.2 = 0 then ((scale_Days.f k t129 t130 t131).bind fun bt138 => (if bt133.1 = t129 then (if bt133.2.1 = t130 then (if bt133.2.2.1 = (wrap64 (t131 + 1)) then (if bt138.2 = 0 then (if bt138.1 = (wrap64 (t128 - 700000)) then (some true) else (none)) else (none)) else (if bt133.2.2.1 = 1 then (if t131 ≥ 28 then (if bt133.2.1 = (wrap64 (t130 + 1)) then (if bt138.2 = 0 then (if bt138.1 = (wrap64 (t128 - 700000)) then (some true) else (none)) else (none)) else (if bt133.1 = (wrap64 (t129 + 1)) then (if bt133.2.1 = 1 then (if t130 = 12 then (if bt138.2 = 0 then (if bt138.1 = (wrap64 (t128 - 700000)) then (some (t131 == 31)) else (none)) else (none)) else (none)) else (none)) else (none))) else (none)) else (none))) else (if bt133.2.2.1 = 1 then (if t131 ≥ 28 then (if bt133.2.1 = (wrap64 (t130 + 1)) then (if bt138.2 = 0 then (if bt138.1 = (wrap64 (t128 - 700000)) then (some true) else (none)) else (none)) else (if bt133.1 = (wrap64 (t129 + 1)) then (if bt133.2.1 = 1 then (if t130 = 12 then (if bt138.2 = 0 then (if bt138.1 = (wrap64 (t128 - 700000)) then (some (t131 == 31)) else (none)) else (none)) else (none)) else (none)) else (none))) else (none)) else (none))) else (if bt133.2.2.1 = 1 then (if t131 ≥ 28 then (if bt133.1 = (wrap64 (t129 + 1)) then (if bt133.2.1 = 1 then (if t130 = 12 then (if bt138.2 = 0 then (if bt138.1 = (wrap64 (t128 - 700000)) then (some (t131 == 31)) else (none)) else (none)) else (none)) else (none)) else (none)) else (none)) else (none)))) else (if (wrap64 ((wrap64 (t128 - 700000)) + 1)) > 2900000 then (some (bt133.2.2.2 == 4)) else (none))) else (if (wrap64 ((wrap64 (t128 - 700000)) + 1)) > 2900000 then (some (bt133.2.2.2 == 4)) else (none))) else (none)))) = some r := H
  have A3 := Aside0.mk A30
  clear A30
  replace H := Option.bind_eq_some_iff.mp H
  obtain ⟨⟨t133, t134, t135, t136⟩, A40, H⟩ := H
  replace H : ((spykeep1_scaleFact.f k).bind fun t137 => (if t137 = true then (if t132 = 0 then (if t136 = 0 then ((scale_Days.f k t129 t130 t131).bind fun bt138 => (if t133 = t129 then (if t134 = t130 then (if t135 = (wrap64 (t131 + 1)) then (if bt138.2 = 0 then (if bt138.1 = (wrap64 (t128 - 700000)) then (some true) else (none)) else (none)) else (if t135 = 1 then (if t131 ≥ 28 then (if t134 = (wrap64 (t130 + 1)) then (if bt138.2 = 0 then (if bt138.1 = (wrap64 (t128 - 700000)) then (some true) else (none)) else (none)) else (if t133 = (wrap64 (t129 + 1)) then (if t134 = 1 then (if t130 = 12 then (if bt138.2 = 0 then (if bt138.1 = (wrap64 (t128 - 700000)) then (some (t131 == 31)) else (none)) else (none)) else (none)) else (none)) else (none))) else (none)) else (none))) else (if t135 = 1 then (if t131 ≥ 28 then (if t134 = (wrap64 (t130 + 1)) then (if bt138.2 = 0 then (if bt138.1 = (wrap64 (t128 - 700000)) then (some true) else (none)) else (none)) else (if t133 = (wrap64 (t129 + 1)) then (if t134 = 1 then (if t130 = 12 then (if bt138.2 = 0 then (if bt138.1 = (wrap64 (t128 - 700000)) then (some (t131 == 31)) else (none)) else (none)) else (none)) else (none)) else (none))) else (none)) else (none))) else (if t135 = 1 then (if t131 ≥ 28 then (if t133 = (wrap64 (t129 + 1)) then (if t134 = 1 then (if t130 = 12 then (if bt138.2 = 0 then (if bt138.1 = (wrap64 (t128 - 700000)) then (some (t131 == 31)) else (none)) else (none)) else (none)) else (none)) else (none)) else (none)) else (none)))) else (if (wrap64 ((wrap64 (t128 - 700000)) + 1)) > 2900000 then (some (t136 == 4)) else (none))) else (if (wrap64 ((wrap64 (t128 - 700000)) + 1)) > 2900000 then (some (t136 == 4)) else (none))) else (none))) = some r := H
  have A4 := Aside0.mk A40
  clear A40
  replace H := Option.bind_eq_some_iff.mp H
  obtain ⟨t137, A50, H⟩ := H
  replace H : (if t137 = true then (if t132 = 0 then (if t136 = 0 then ((scale_Days.f k t129 t130 t131).bind fun bt138 => (if t133 = t129 then (if t134 = t130 then (if t135 = (wrap64 (t131 + 1)) then (if bt138.2 = 0 then (if bt138.1 = (wrap64 (t128 - 700000)) then (some true) else (none)) else (none)) else (if t135 = 1 then (if t131 ≥ 28 then (if t134 = (wrap64 (t130 + 1)) then (if bt138.2 = 0 then (if bt138.1 = (wrap64 (t128 - 700000)) then (some true) else (none)) else (none)) else (if t133 = (wrap64 (t129 + 1)) then (if t134 = 1 then (if t130 = 12 then (if bt138.2 = 0 then (if bt138.1 = (wrap64 (t128 - 700000)) then (some (t131 == 31)) else (none)) else (none)) else (none)) else (none)) else (none))) else (none)) else (none))) else (if t135 = 1 then (if t131 ≥ 28 then (if t134 = (wrap64 (t130 + 1)) then (if bt138.2 = 0 then (if bt138.1 = (wrap64 (t128 - 700000)) then (some true) else (none)) else (none)) else (if t133 = (wrap64 (t129 + 1)) then (if t134 = 1 then (if t130 = 12 then (if bt138.2 = 0 then (if bt138.1 = (wrap64 (t128 - 700000)) then (some (t131 == 31)) else (none)) else (none)) else (none)) else (none)) else (none))) else (none)) else (none))) else (if t135 = 1 then (if t131 ≥ 28 then (if t133 = (wrap64 (t129 + 1)) then (if t134 = 1 then (if t130 = 12 then (if bt138.2 = 0 then (if bt138.1 = (wrap64 (t128 - 700000)) then (some (t131 == 31)) else (none)) else (none)) else (none)) else (none)) else (none)) else (none)) else (none)))) else (if (wrap64 ((wrap64 (t128 - 700000)) + 1)) > 2900000 then (some (t136 == 4)) else (none))) else (if (wrap64 ((wrap64 (t128 - 700000)) + 1)) > 2900000 then (some (t136 == 4)) else (none))) else (none)) = some r := H
  have A5 := Aside0.mk A50
  clear A50
  by_cases c6 : t137 = true
  · subst c6
    have H1 : (if t132 = 0 then (if t136 = 0 then ((scale_Days.f k t129 t130 t131).bind fun bt138 => (if t133 = t129 then (if t134 = t130 then (if t135 = (wrap64 (t131 + 1)) then (if bt138.2 = 0 then (if bt138.1 = (wrap64 (t128 - 700000)) then (some true) else (none)) else (none)) else (if t135 = 1 then (if t131 ≥ 28 then (if t134 = (wrap64 (t130 + 1)) then (if bt138.2 = 0 then (if bt138.1 = (wrap64 (t128 - 700000)) then (some true) else (none)) else (none)) else (if t133 = (wrap64 (t129 + 1)) then (if t134 = 1 then (if t130 = 12 then (if bt138.2 = 0 then (if bt138.1 = (wrap64 (t128 - 700000)) then (some (t131 == 31)) else (none)) else (none)) else (none)) else (none)) else (none))) else (none)) else (none))) else (if t135 = 1 then (if t131 ≥ 28 then (if t134 = (wrap64 (t130 + 1)) then (if bt138.2 = 0 then (if bt138.1 = (wrap64 (t128 - 700000)) then (some true) else (none)) else (none)) else (if t133 = (wrap64 (t129 + 1)) then (if t134 = 1 then (if t130 = 12 then (if bt138.2 = 0 then (if bt138.1 = (wrap64 (t128 - 700000)) then (some (t131 == 31)) else (none)) else (none)) else (none)) else (none)) else (none))) else (none)) else (none))) else (if t135 = 1 then (if t131 ≥ 28 then (if t133 = (wrap64 (t129 + 1)) then (if t134 = 1 then (if t130 = 12 then (if bt138.2 = 0 then (if bt138.1 = (wrap64 (t128 - 700000)) then (some (t131 == 31)) else (none)) else (none)) else (none)) else (none)) else (none)) else (none)) else (none)))) else (if (wrap64 ((wrap64 (t128 - 700000)) + 1)) > 2900000 then (some (t136 == 4)) else (none))) else (if (wrap64 ((wrap64 (t128 - 700000)) + 1)) > 2900000 then (some (t136 == 4)) else (none))) = some r := by rw [if_pos rfl] at H; exact H
    clear H
    have H := H1
    clear H1
    by_cases c7 : t132 = 0
    · rw [if_pos c7] at H
      have c7b0 : (t132 == 0) = true := beq_iff_eq.mpr c7
      have c7b1 : (t132 != 0) = false := bne_eq_false_iff_eq.mpr c7
      clear c7
      by_cases c8 : t136 = 0
      · rw [if_pos c8] at H
        have c8b0 : (t136 == 0) = true := beq_iff_eq.mpr c8
        have c8b1 : (t136 != 0) = false := bne_eq_false_iff_eq.mpr c8
        clear c8
        replace H := Option.bind_eq_some_iff.mp H
        obtain ⟨⟨t138, t139⟩, A90, H⟩ := H
        replace H : (if t133 = t129 then (if t134 = t130 then (if t135 = (wrap64 (t131 + 1)) then (if t139 = 0 then (if t138 = (wrap64 (t128 - 700000)) then (some true) else (none)) else (none)) else (if t135 = 1 then (if t131 ≥ 28 then (if t134 = (wrap64 (t130 + 1)) then (if t139 = 0 then (if t138 = (wrap64 (t128 - 700000)) then (some true) else (none)) else (none)) else (if t133 = (wrap64 (t129 + 1)) then (if t134 = 1 then (if t130 = 12 then (if t139 = 0 then (if t138 = (wrap64 (t128 - 700000)) then (some (t131 == 31)) else (none)) else (none)) else (none)) else (none)) else (none))) else (none)) else (none))) else (if t135 = 1 then (if t131 ≥ 28 then (if t134 = (wrap64 (t130 + 1)) then (if t139 = 0 then (if t138 = (wrap64 (t128 - 700000)) then (some true) else (none)) else (none)) else (if t133 = (wrap64 (t129 + 1)) then (if t134 = 1 then (if t130 = 12 then (if t139 = 0 then (if t138 = (wrap64 (t128 - 700000)) then (some (t131 == 31)) else (none)) else (none)) else (none)) else (none)) else (none))) else (none)) else (none))) else (if t135 = 1 then (if t131 ≥ 28 then (if t133 = (wrap64 (t129 + 1)) then (if t134 = 1 then (if t130 = 12 then (if t139 = 0 then (if t138 = (wrap64 (t128 - 700000)) then (some (t131 == 31)) else (none)) else (none)) else (none)) else (none)) else (none)) else (none)) else (none))) = some r := H
        have A9 := Aside0.mk A90
        clear A90
        by_cases c10 : t133 = t129
        · rw [if_pos c10] at H
          have c10b0 : (t133 == t129) = true := beq_iff_eq.mpr c10
          have c10b1 : (t133 != t129) = false := bne_eq_false_iff_eq.mpr c10
          clear c10
          by_cases c11 : t134 = t130
          · rw [if_pos c11] at H
            have c11b0 : (t134 == t130) = true := beq_iff_eq.mpr c11
            have c11b1 : (t134 != t130) = false := bne_eq_false_iff_eq.mpr c11
            clear c11
            by_cases c12 : t135 = (wrap64 (t131 + 1))
            · rw [if_pos c12] at H
              have c12b0 : (t135 == (wrap64 (t131 + 1))) = true := beq_iff_eq.mpr c12
              have c12b1 : (t135 != (wrap64 (t131 + 1))) = false := bne_eq_false_iff_eq.mpr c12
              clear c12
              by_cases c13 : t139 = 0
              · rw [if_pos c13] at H
                have c13b0 : (t139 == 0) = true := beq_iff_eq.mpr c13
                have c13b1 : (t139 != 0) = false := bne_eq_false_iff_eq.mpr c13
                clear c13
                by_cases c14 : t138 = (wrap64 (t128 - 700000))
                · rw [if_pos c14] at H
                  have c14b0 : (t138 == (wrap64 (t128 - 700000))) = true := beq_iff_eq.mpr c14
                  have c14b1 : (t138 != (wrap64 (t128 - 700000))) = false := bne_eq_false_iff_eq.mpr c14
                  clear c14
                  obtain rfl := Option.some.inj H
                  go_enter Try.func3, Try.ntmps3
                  go_wp2_with (first | ((with_reducible refine gate_callee (f := 15) rfl ?_); refine goesL_ (some 15) rfl rfl Try.func15 (by kernel_rfl) rfl #[.int .i64 a0, .int .i64 3600000] rfl (by (try simp only [List.map_toArray, List.map_cons, List.map_nil]); first | done | rfl | (simp only [List.length_drop, List.length_take]; rfl)) ?_; (with_reducible refine (spymake_Below.calls a0 3600000 t128 _ A2.out).mono ?_); rintro e w' ⟨rfl, ⟨nd, rfl⟩⟩; refine ⟨_, rfl, ?_⟩) | ((with_reducible refine gate_callee (f := 16) rfl ?_); refine goesL_ (some 19) rfl rfl Try.func16 (by kernel_rfl) rfl #[.int .i64 (wrap64 (t128 - 700000))] rfl (by (try simp only [List.map_toArray, List.map_cons, List.map_nil]); first | done | rfl | (simp only [List.length_drop, List.length_take]; rfl)) ?_; (with_reducible refine (scale_Date.calls k (wrap64 (t128 - 700000)) t129 t130 t131 t132 _ A3.out).mono ?_); rintro e w15 ⟨rfl, hb⟩; refine ⟨_, rfl, ?_⟩; have n0_ := Aside0.mk (below_step (by repeat (first | (with_reducible first | exact HB.out | apply below_alloc | apply pw_below_drewN | apply below_drew1) | exact HB.out)) hb); clear HB; have HB := n0_; clear n0_; (try clear hb); (try clear hb2); (try clear hk); (try clear hi)) | ((with_reducible refine gate_callee (f := 16) rfl ?_); refine goesL_ (some 27) rfl rfl Try.func16 (by kernel_rfl) rfl #[.int .i64 (wrap64 ((wrap64 (t128 - 700000)) + 1))] rfl (by (try simp only [List.map_toArray, List.map_cons, List.map_nil]); first | done | rfl | (simp only [List.length_drop, List.length_take]; rfl)) ?_; (with_reducible refine (scale_Date.calls k (wrap64 ((wrap64 (t128 - 700000)) + 1)) t133 t134 t135 t136 _ A4.out).mono ?_); rintro e w16 ⟨rfl, hb⟩; refine ⟨_, rfl, ?_⟩; have n0_ := Aside0.mk (below_step (by repeat (first | (with_reducible first | exact HB.out | apply below_alloc | apply pw_below_drewN | apply below_drew1) | exact HB.out)) hb); clear HB; have HB := n0_; clear n0_; (try clear hb); (try clear hb2); (try clear hk); (try clear hi)) | ((with_reducible refine gate_callee (f := 17) rfl ?_); refine goesL_ (some 32) rfl rfl Try.func17 (by kernel_rfl) rfl #[] rfl (by (try simp only [List.map_toArray, List.map_cons, List.map_nil]); first | done | rfl | (simp only [List.length_drop, List.length_take]; rfl)) ?_; (with_reducible refine (spykeep1_scaleFact.calls k  true _ A5.out).mono ?_); rintro e w17 ⟨rfl, hb⟩; refine ⟨_, rfl, ?_⟩; have n0_ := Aside0.mk (below_step (by repeat (first | (with_reducible first | exact HB.out | apply below_alloc | apply pw_below_drewN | apply below_drew1) | exact HB.out)) hb); clear HB; have HB := n0_; clear n0_; (try clear hb); (try clear hb2); (try clear hk); (try clear hi)) | ((with_reducible refine gate_callee (f := 18) rfl ?_); refine goesL_ (some 51) rfl rfl Try.func18 (by kernel_rfl) rfl #[.int .i64 t129, .int .i64 t130, .int .i64 t131] rfl (by (try simp only [List.map_toArray, List.map_cons, List.map_nil]); first | done | rfl | (simp only [List.length_drop, List.length_take]; rfl)) ?_; (with_reducible refine (scale_Days.calls k t129 t130 t131 t138 t139 _ A9.out).mono ?_); rintro e w' ⟨rfl, ⟨nd, rfl⟩⟩; refine ⟨_, rfl, ?_⟩))
                  go_ret
                  exact ⟨by first | rfl | (simp [errW_none, errW_some] <;> rfl) | (simp [*, errW_none, errW_some] <;> rfl), by repeat (first | (with_reducible first | exact HB.out | apply below_alloc | apply pw_below_drewN | apply below_drew1) | exact HB.out)⟩
                · rw [if_neg c14] at H
                  exact absurd H (by simp)
              · rw [if_neg c13] at H
                exact absurd H (by simp)
            · rw [if_neg c12] at H
              have c12b0 : (t135 == (wrap64 (t131 + 1))) = false := beq_eq_false_iff_ne.mpr c12
              have c12b1 : (t135 != (wrap64 (t131 + 1))) = true := bne_iff_ne.mpr c12
              by_cases c18 : t135 = 1
              · rw [if_pos c18] at H
                have c18b0 : (t135 == 1) = true := beq_iff_eq.mpr c18
                have c18b1 : (t135 != 1) = false := bne_eq_false_iff_eq.mpr c18
                clear c18
                by_cases c19 : t131 ≥ 28
                · rw [if_pos c19] at H
                  have c19b0 : decide (28 ≤ t131) = true := decide_eq_true c19
                  clear c19
                  by_cases c20 : t134 = (wrap64 (t130 + 1))
                  · rw [if_pos c20] at H
                    have c20b0 : (t134 == (wrap64 (t130 + 1))) = true := beq_iff_eq.mpr c20
                    have c20b1 : (t134 != (wrap64 (t130 + 1))) = false := bne_eq_false_iff_eq.mpr c20
                    clear c20
                    by_cases c21 : t139 = 0
                    · rw [if_pos c21] at H
                      have c21b0 : (t139 == 0) = true := beq_iff_eq.mpr c21
                      have c21b1 : (t139 != 0) = false := bne_eq_false_iff_eq.mpr c21
                      clear c21
                      by_cases c22 : t138 = (wrap64 (t128 - 700000))
                      · rw [if_pos c22] at H
                        have c22b0 : (t138 == (wrap64 (t128 - 700000))) = true := beq_iff_eq.mpr c22
                        have c22b1 : (t138 != (wrap64 (t128 - 700000))) = false := bne_eq_false_iff_eq.mpr c22
                        clear c22
                        obtain rfl := Option.some.inj H
                        go_enter Try.func3, Try.ntmps3
                        go_wp2_with (first | ((with_reducible refine gate_callee (f := 15) rfl ?_); refine goesL_ (some 15) rfl rfl Try.func15 (by kernel_rfl) rfl #[.int .i64 a0, .int .i64 3600000] rfl (by (try simp only [List.map_toArray, List.map_cons, List.map_nil]); first | done | rfl | (simp only [List.length_drop, List.length_take]; rfl)) ?_; (with_reducible refine (spymake_Below.calls a0 3600000 t128 _ A2.out).mono ?_); rintro e w' ⟨rfl, ⟨nd, rfl⟩⟩; refine ⟨_, rfl, ?_⟩) | ((with_reducible refine gate_callee (f := 16) rfl ?_); refine goesL_ (some 19) rfl rfl Try.func16 (by kernel_rfl) rfl #[.int .i64 (wrap64 (t128 - 700000))] rfl (by (try simp only [List.map_toArray, List.map_cons, List.map_nil]); first | done | rfl | (simp only [List.length_drop, List.length_take]; rfl)) ?_; (with_reducible refine (scale_Date.calls k (wrap64 (t128 - 700000)) t129 t130 t131 t132 _ A3.out).mono ?_); rintro e w23 ⟨rfl, hb⟩; refine ⟨_, rfl, ?_⟩; have n0_ := Aside0.mk (below_step (by repeat (first | (with_reducible first | exact HB.out | apply below_alloc | apply pw_below_drewN | apply below_drew1) | exact HB.out)) hb); clear HB; have HB := n0_; clear n0_; (try clear hb); (try clear hb2); (try clear hk); (try clear hi)) | ((with_reducible refine gate_callee (f := 16) rfl ?_); refine goesL_ (some 27) rfl rfl Try.func16 (by kernel_rfl) rfl #[.int .i64 (wrap64 ((wrap64 (t128 - 700000)) + 1))] rfl (by (try simp only [List.map_toArray, List.map_cons, List.map_nil]); first | done | rfl | (simp only [List.length_drop, List.length_take]; rfl)) ?_; (with_reducible refine (scale_Date.calls k (wrap64 ((wrap64 (t128 - 700000)) + 1)) t133 t134 t135 t136 _ A4.out).mono ?_); rintro e w24 ⟨rfl, hb⟩; refine ⟨_, rfl, ?_⟩; have n0_ := Aside0.mk (below_step (by repeat (first | (with_reducible first | exact HB.out | apply below_alloc | apply pw_below_drewN | apply below_drew1) | exact HB.out)) hb); clear HB; have HB := n0_; clear n0_; (try clear hb); (try clear hb2); (try clear hk); (try clear hi)) | ((with_reducible refine gate_callee (f := 17) rfl ?_); refine goesL_ (some 32) rfl rfl Try.func17 (by kernel_rfl) rfl #[] rfl (by (try simp only [List.map_toArray, List.map_cons, List.map_nil]); first | done | rfl | (simp only [List.length_drop, List.length_take]; rfl)) ?_; (with_reducible refine (spykeep1_scaleFact.calls k  true _ A5.out).mono ?_); rintro e w25 ⟨rfl, hb⟩; refine ⟨_, rfl, ?_⟩; have n0_ := Aside0.mk (below_step (by repeat (first | (with_reducible first | exact HB.out | apply below_alloc | apply pw_below_drewN | apply below_drew1) | exact HB.out)) hb); clear HB; have HB := n0_; clear n0_; (try clear hb); (try clear hb2); (try clear hk); (try clear hi)) | ((with_reducible refine gate_callee (f := 18) rfl ?_); refine goesL_ (some 51) rfl rfl Try.func18 (by kernel_rfl) rfl #[.int .i64 t129, .int .i64 t130, .int .i64 t131] rfl (by (try simp only [List.map_toArray, List.map_cons, List.map_nil]); first | done | rfl | (simp only [List.length_drop, List.length_take]; rfl)) ?_; (with_reducible refine (scale_Days.calls k t129 t130 t131 t138 t139 _ A9.out).mono ?_); rintro e w' ⟨rfl, ⟨nd, rfl⟩⟩; refine ⟨_, rfl, ?_⟩))
                        go_ret
                        exact ⟨by first | rfl | (simp [errW_none, errW_some] <;> rfl) | (simp [*, errW_none, errW_some] <;> rfl), by repeat (first | (with_reducible first | exact HB.out | apply below_alloc | apply pw_below_drewN | apply below_drew1) | exact HB.out)⟩
                      · rw [if_neg c22] at H
                        exact absurd H (by simp)
                    · rw [if_neg c21] at H
                      exact absurd H (by simp)
                  · rw [if_neg c20] at H
                    have c20b0 : (t134 == (wrap64 (t130 + 1))) = false := beq_eq_false_iff_ne.mpr c20
                    have c20b1 : (t134 != (wrap64 (t130 + 1))) = true := bne_iff_ne.mpr c20
                    by_cases c26 : t133 = (wrap64 (t129 + 1))
                    · rw [if_pos c26] at H
                      have c26b0 : (t133 == (wrap64 (t129 + 1))) = true := beq_iff_eq.mpr c26
                      have c26b1 : (t133 != (wrap64 (t129 + 1))) = false := bne_eq_false_iff_eq.mpr c26
                      clear c26
                      by_cases c27 : t134 = 1
                      · rw [if_pos c27] at H
                        have c27b0 : (t134 == 1) = true := beq_iff_eq.mpr c27
                        have c27b1 : (t134 != 1) = false := bne_eq_false_iff_eq.mpr c27
                        clear c27
                        by_cases c28 : t130 = 12
                        · rw [if_pos c28] at H
                          have c28b0 : (t130 == 12) = true := beq_iff_eq.mpr c28
                          have c28b1 : (t130 != 12) = false := bne_eq_false_iff_eq.mpr c28
                          clear c28
                          by_cases c29 : t139 = 0
                          · rw [if_pos c29] at H
                            have c29b0 : (t139 == 0) = true := beq_iff_eq.mpr c29
                            have c29b1 : (t139 != 0) = false := bne_eq_false_iff_eq.mpr c29
                            clear c29
                            by_cases c30 : t138 = (wrap64 (t128 - 700000))
                            · rw [if_pos c30] at H
                              have c30b0 : (t138 == (wrap64 (t128 - 700000))) = true := beq_iff_eq.mpr c30
                              have c30b1 : (t138 != (wrap64 (t128 - 700000))) = false := bne_eq_false_iff_eq.mpr c30
                              clear c30
                              obtain rfl := Option.some.inj H
                              go_enter Try.func3, Try.ntmps3
                              go_wp2_with (first | ((with_reducible refine gate_callee (f := 15) rfl ?_); refine goesL_ (some 15) rfl rfl Try.func15 (by kernel_rfl) rfl #[.int .i64 a0, .int .i64 3600000] rfl (by (try simp only [List.map_toArray, List.map_cons, List.map_nil]); first | done | rfl | (simp only [List.length_drop, List.length_take]; rfl)) ?_; (with_reducible refine (spymake_Below.calls a0 3600000 t128 _ A2.out).mono ?_); rintro e w' ⟨rfl, ⟨nd, rfl⟩⟩; refine ⟨_, rfl, ?_⟩) | ((with_reducible refine gate_callee (f := 16) rfl ?_); refine goesL_ (some 19) rfl rfl Try.func16 (by kernel_rfl) rfl #[.int .i64 (wrap64 (t128 - 700000))] rfl (by (try simp only [List.map_toArray, List.map_cons, List.map_nil]); first | done | rfl | (simp only [List.length_drop, List.length_take]; rfl)) ?_; (with_reducible refine (scale_Date.calls k (wrap64 (t128 - 700000)) t129 t130 t131 t132 _ A3.out).mono ?_); rintro e w31 ⟨rfl, hb⟩; refine ⟨_, rfl, ?_⟩; have n0_ := Aside0.mk (below_step (by repeat (first | (with_reducible first | exact HB.out | apply below_alloc | apply pw_below_drewN | apply below_drew1) | exact HB.out)) hb); clear HB; have HB := n0_; clear n0_; (try clear hb); (try clear hb2); (try clear hk); (try clear hi)) | ((with_reducible refine gate_callee (f := 16) rfl ?_); refine goesL_ (some 27) rfl rfl Try.func16 (by kernel_rfl) rfl #[.int .i64 (wrap64 ((wrap64 (t128 - 700000)) + 1))] rfl (by (try simp only [List.map_toArray, List.map_cons, List.map_nil]); first | done | rfl | (simp only [List.length_drop, List.length_take]; rfl)) ?_; (with_reducible refine (scale_Date.calls k (wrap64 ((wrap64 (t128 - 700000)) + 1)) t133 t134 t135 t136 _ A4.out).mono ?_); rintro e w32 ⟨rfl, hb⟩; refine ⟨_, rfl, ?_⟩; have n0_ := Aside0.mk (below_step (by repeat (first | (with_reducible first | exact HB.out | apply below_alloc | apply pw_below_drewN | apply below_drew1) | exact HB.out)) hb); clear HB; have HB := n0_; clear n0_; (try clear hb); (try clear hb2); (try clear hk); (try clear hi)) | ((with_reducible refine gate_callee (f := 17) rfl ?_); refine goesL_ (some 32) rfl rfl Try.func17 (by kernel_rfl) rfl #[] rfl (by (try simp only [List.map_toArray, List.map_cons, List.map_nil]); first | done | rfl | (simp only [List.length_drop, List.length_take]; rfl)) ?_; (with_reducible refine (spykeep1_scaleFact.calls k  true _ A5.out).mono ?_); rintro e w33 ⟨rfl, hb⟩; refine ⟨_, rfl, ?_⟩; have n0_ := Aside0.mk (below_step (by repeat (first | (with_reducible first | exact HB.out | apply below_alloc | apply pw_below_drewN | apply below_drew1) | exact HB.out)) hb); clear HB; have HB := n0_; clear n0_; (try clear hb); (try clear hb2); (try clear hk); (try clear hi)) | ((with_reducible refine gate_callee (f := 18) rfl ?_); refine goesL_ (some 51) rfl rfl Try.func18 (by kernel_rfl) rfl #[.int .i64 t129, .int .i64 t130, .int .i64 t131] rfl (by (try simp only [List.map_toArray, List.map_cons, List.map_nil]); first | done | rfl | (simp only [List.length_drop, List.length_take]; rfl)) ?_; (with_reducible refine (scale_Days.calls k t129 t130 t131 t138 t139 _ A9.out).mono ?_); rintro e w' ⟨rfl, ⟨nd, rfl⟩⟩; refine ⟨_, rfl, ?_⟩))
                              go_ret
                              exact ⟨by first | rfl | (simp [errW_none, errW_some] <;> rfl) | (simp [*, errW_none, errW_some] <;> rfl), by repeat (first | (with_reducible first | exact HB.out | apply below_alloc | apply pw_below_drewN | apply below_drew1) | exact HB.out)⟩
                            · rw [if_neg c30] at H
                              exact absurd H (by simp)
                          · rw [if_neg c29] at H
                            exact absurd H (by simp)
                        · rw [if_neg c28] at H
                          exact absurd H (by simp)
                      · rw [if_neg c27] at H
                        exact absurd H (by simp)
                    · rw [if_neg c26] at H
                      exact absurd H (by simp)
                · rw [if_neg c19] at H
                  exact absurd H (by simp)
              · rw [if_neg c18] at H
                exact absurd H (by simp)
          · rw [if_neg c11] at H
            have c11b0 : (t134 == t130) = false := beq_eq_false_iff_ne.mpr c11
            have c11b1 : (t134 != t130) = true := bne_iff_ne.mpr c11
            by_cases c34 : t135 = 1
            · rw [if_pos c34] at H
              have c34b0 : (t135 == 1) = true := beq_iff_eq.mpr c34
              have c34b1 : (t135 != 1) = false := bne_eq_false_iff_eq.mpr c34
              clear c34
              by_cases c35 : t131 ≥ 28
              · rw [if_pos c35] at H
                have c35b0 : decide (28 ≤ t131) = true := decide_eq_true c35
                clear c35
                by_cases c36 : t134 = (wrap64 (t130 + 1))
                · rw [if_pos c36] at H
                  have c36b0 : (t134 == (wrap64 (t130 + 1))) = true := beq_iff_eq.mpr c36
                  have c36b1 : (t134 != (wrap64 (t130 + 1))) = false := bne_eq_false_iff_eq.mpr c36
                  clear c36
                  by_cases c37 : t139 = 0
                  · rw [if_pos c37] at H
                    have c37b0 : (t139 == 0) = true := beq_iff_eq.mpr c37
                    have c37b1 : (t139 != 0) = false := bne_eq_false_iff_eq.mpr c37
                    clear c37
                    by_cases c38 : t138 = (wrap64 (t128 - 700000))
                    · rw [if_pos c38] at H
                      have c38b0 : (t138 == (wrap64 (t128 - 700000))) = true := beq_iff_eq.mpr c38
                      have c38b1 : (t138 != (wrap64 (t128 - 700000))) = false := bne_eq_false_iff_eq.mpr c38
                      clear c38
                      obtain rfl := Option.some.inj H
                      go_enter Try.func3, Try.ntmps3
                      go_wp2_with (first | ((with_reducible refine gate_callee (f := 15) rfl ?_); refine goesL_ (some 15) rfl rfl Try.func15 (by kernel_rfl) rfl #[.int .i64 a0, .int .i64 3600000] rfl (by (try simp only [List.map_toArray, List.map_cons, List.map_nil]); first | done | rfl | (simp only [List.length_drop, List.length_take]; rfl)) ?_; (with_reducible refine (spymake_Below.calls a0 3600000 t128 _ A2.out).mono ?_); rintro e w' ⟨rfl, ⟨nd, rfl⟩⟩; refine ⟨_, rfl, ?_⟩) | ((with_reducible refine gate_callee (f := 16) rfl ?_); refine goesL_ (some 19) rfl rfl Try.func16 (by kernel_rfl) rfl #[.int .i64 (wrap64 (t128 - 700000))] rfl (by (try simp only [List.map_toArray, List.map_cons, List.map_nil]); first | done | rfl | (simp only [List.length_drop, List.length_take]; rfl)) ?_; (with_reducible refine (scale_Date.calls k (wrap64 (t128 - 700000)) t129 t130 t131 t132 _ A3.out).mono ?_); rintro e w39 ⟨rfl, hb⟩; refine ⟨_, rfl, ?_⟩; have n0_ := Aside0.mk (below_step (by repeat (first | (with_reducible first | exact HB.out | apply below_alloc | apply pw_below_drewN | apply below_drew1) | exact HB.out)) hb); clear HB; have HB := n0_; clear n0_; (try clear hb); (try clear hb2); (try clear hk); (try clear hi)) | ((with_reducible refine gate_callee (f := 16) rfl ?_); refine goesL_ (some 27) rfl rfl Try.func16 (by kernel_rfl) rfl #[.int .i64 (wrap64 ((wrap64 (t128 - 700000)) + 1))] rfl (by (try simp only [List.map_toArray, List.map_cons, List.map_nil]); first | done | rfl | (simp only [List.length_drop, List.length_take]; rfl)) ?_; (with_reducible refine (scale_Date.calls k (wrap64 ((wrap64 (t128 - 700000)) + 1)) t133 t134 t135 t136 _ A4.out).mono ?_); rintro e w40 ⟨rfl, hb⟩; refine ⟨_, rfl, ?_⟩; have n0_ := Aside0.mk (below_step (by repeat (first | (with_reducible first | exact HB.out | apply below_alloc | apply pw_below_drewN | apply below_drew1) | exact HB.out)) hb); clear HB; have HB := n0_; clear n0_; (try clear hb); (try clear hb2); (try clear hk); (try clear hi)) | ((with_reducible refine gate_callee (f := 17) rfl ?_); refine goesL_ (some 32) rfl rfl Try.func17 (by kernel_rfl) rfl #[] rfl (by (try simp only [List.map_toArray, List.map_cons, List.map_nil]); first | done | rfl | (simp only [List.length_drop, List.length_take]; rfl)) ?_; (with_reducible refine (spykeep1_scaleFact.calls k  true _ A5.out).mono ?_); rintro e w41 ⟨rfl, hb⟩; refine ⟨_, rfl, ?_⟩; have n0_ := Aside0.mk (below_step (by repeat (first | (with_reducible first | exact HB.out | apply below_alloc | apply pw_below_drewN | apply below_drew1) | exact HB.out)) hb); clear HB; have HB := n0_; clear n0_; (try clear hb); (try clear hb2); (try clear hk); (try clear hi)) | ((with_reducible refine gate_callee (f := 18) rfl ?_); refine goesL_ (some 51) rfl rfl Try.func18 (by kernel_rfl) rfl #[.int .i64 t129, .int .i64 t130, .int .i64 t131] rfl (by (try simp only [List.map_toArray, List.map_cons, List.map_nil]); first | done | rfl | (simp only [List.length_drop, List.length_take]; rfl)) ?_; (with_reducible refine (scale_Days.calls k t129 t130 t131 t138 t139 _ A9.out).mono ?_); rintro e w' ⟨rfl, ⟨nd, rfl⟩⟩; refine ⟨_, rfl, ?_⟩))
                      go_ret
                      exact ⟨by first | rfl | (simp [errW_none, errW_some] <;> rfl) | (simp [*, errW_none, errW_some] <;> rfl), by repeat (first | (with_reducible first | exact HB.out | apply below_alloc | apply pw_below_drewN | apply below_drew1) | exact HB.out)⟩
                    · rw [if_neg c38] at H
                      exact absurd H (by simp)
                  · rw [if_neg c37] at H
                    exact absurd H (by simp)
                · rw [if_neg c36] at H
                  have c36b0 : (t134 == (wrap64 (t130 + 1))) = false := beq_eq_false_iff_ne.mpr c36
                  have c36b1 : (t134 != (wrap64 (t130 + 1))) = true := bne_iff_ne.mpr c36
                  by_cases c42 : t133 = (wrap64 (t129 + 1))
                  · rw [if_pos c42] at H
                    have c42b0 : (t133 == (wrap64 (t129 + 1))) = true := beq_iff_eq.mpr c42
                    have c42b1 : (t133 != (wrap64 (t129 + 1))) = false := bne_eq_false_iff_eq.mpr c42
                    clear c42
                    by_cases c43 : t134 = 1
                    · rw [if_pos c43] at H
                      have c43b0 : (t134 == 1) = true := beq_iff_eq.mpr c43
                      have c43b1 : (t134 != 1) = false := bne_eq_false_iff_eq.mpr c43
                      clear c43
                      by_cases c44 : t130 = 12
                      · rw [if_pos c44] at H
                        have c44b0 : (t130 == 12) = true := beq_iff_eq.mpr c44
                        have c44b1 : (t130 != 12) = false := bne_eq_false_iff_eq.mpr c44
                        clear c44
                        by_cases c45 : t139 = 0
                        · rw [if_pos c45] at H
                          have c45b0 : (t139 == 0) = true := beq_iff_eq.mpr c45
                          have c45b1 : (t139 != 0) = false := bne_eq_false_iff_eq.mpr c45
                          clear c45
                          by_cases c46 : t138 = (wrap64 (t128 - 700000))
                          · rw [if_pos c46] at H
                            have c46b0 : (t138 == (wrap64 (t128 - 700000))) = true := beq_iff_eq.mpr c46
                            have c46b1 : (t138 != (wrap64 (t128 - 700000))) = false := bne_eq_false_iff_eq.mpr c46
                            clear c46
                            obtain rfl := Option.some.inj H
                            go_enter Try.func3, Try.ntmps3
                            go_wp2_with (first | ((with_reducible refine gate_callee (f := 15) rfl ?_); refine goesL_ (some 15) rfl rfl Try.func15 (by kernel_rfl) rfl #[.int .i64 a0, .int .i64 3600000] rfl (by (try simp only [List.map_toArray, List.map_cons, List.map_nil]); first | done | rfl | (simp only [List.length_drop, List.length_take]; rfl)) ?_; (with_reducible refine (spymake_Below.calls a0 3600000 t128 _ A2.out).mono ?_); rintro e w' ⟨rfl, ⟨nd, rfl⟩⟩; refine ⟨_, rfl, ?_⟩) | ((with_reducible refine gate_callee (f := 16) rfl ?_); refine goesL_ (some 19) rfl rfl Try.func16 (by kernel_rfl) rfl #[.int .i64 (wrap64 (t128 - 700000))] rfl (by (try simp only [List.map_toArray, List.map_cons, List.map_nil]); first | done | rfl | (simp only [List.length_drop, List.length_take]; rfl)) ?_; (with_reducible refine (scale_Date.calls k (wrap64 (t128 - 700000)) t129 t130 t131 t132 _ A3.out).mono ?_); rintro e w47 ⟨rfl, hb⟩; refine ⟨_, rfl, ?_⟩; have n0_ := Aside0.mk (below_step (by repeat (first | (with_reducible first | exact HB.out | apply below_alloc | apply pw_below_drewN | apply below_drew1) | exact HB.out)) hb); clear HB; have HB := n0_; clear n0_; (try clear hb); (try clear hb2); (try clear hk); (try clear hi)) | ((with_reducible refine gate_callee (f := 16) rfl ?_); refine goesL_ (some 27) rfl rfl Try.func16 (by kernel_rfl) rfl #[.int .i64 (wrap64 ((wrap64 (t128 - 700000)) + 1))] rfl (by (try simp only [List.map_toArray, List.map_cons, List.map_nil]); first | done | rfl | (simp only [List.length_drop, List.length_take]; rfl)) ?_; (with_reducible refine (scale_Date.calls k (wrap64 ((wrap64 (t128 - 700000)) + 1)) t133 t134 t135 t136 _ A4.out).mono ?_); rintro e w48 ⟨rfl, hb⟩; refine ⟨_, rfl, ?_⟩; have n0_ := Aside0.mk (below_step (by repeat (first | (with_reducible first | exact HB.out | apply below_alloc | apply pw_below_drewN | apply below_drew1) | exact HB.out)) hb); clear HB; have HB := n0_; clear n0_; (try clear hb); (try clear hb2); (try clear hk); (try clear hi)) | ((with_reducible refine gate_callee (f := 17) rfl ?_); refine goesL_ (some 32) rfl rfl Try.func17 (by kernel_rfl) rfl #[] rfl (by (try simp only [List.map_toArray, List.map_cons, List.map_nil]); first | done | rfl | (simp only [List.length_drop, List.length_take]; rfl)) ?_; (with_reducible refine (spykeep1_scaleFact.calls k  true _ A5.out).mono ?_); rintro e w49 ⟨rfl, hb⟩; refine ⟨_, rfl, ?_⟩; have n0_ := Aside0.mk (below_step (by repeat (first | (with_reducible first | exact HB.out | apply below_alloc | apply pw_below_drewN | apply below_drew1) | exact HB.out)) hb); clear HB; have HB := n0_; clear n0_; (try clear hb); (try clear hb2); (try clear hk); (try clear hi)) | ((with_reducible refine gate_callee (f := 18) rfl ?_); refine goesL_ (some 51) rfl rfl Try.func18 (by kernel_rfl) rfl #[.int .i64 t129, .int .i64 t130, .int .i64 t131] rfl (by (try simp only [List.map_toArray, List.map_cons, List.map_nil]); first | done | rfl | (simp only [List.length_drop, List.length_take]; rfl)) ?_; (with_reducible refine (scale_Days.calls k t129 t130 t131 t138 t139 _ A9.out).mono ?_); rintro e w' ⟨rfl, ⟨nd, rfl⟩⟩; refine ⟨_, rfl, ?_⟩))
                            go_ret
                            exact ⟨by first | rfl | (simp [errW_none, errW_some] <;> rfl) | (simp [*, errW_none, errW_some] <;> rfl), by repeat (first | (with_reducible first | exact HB.out | apply below_alloc | apply pw_below_drewN | apply below_drew1) | exact HB.out)⟩
                          · rw [if_neg c46] at H
                            exact absurd H (by simp)
                        · rw [if_neg c45] at H
                          exact absurd H (by simp)
                      · rw [if_neg c44] at H
                        exact absurd H (by simp)
                    · rw [if_neg c43] at H
                      exact absurd H (by simp)
                  · rw [if_neg c42] at H
                    exact absurd H (by simp)
              · rw [if_neg c35] at H
                exact absurd H (by simp)
            · rw [if_neg c34] at H
              exact absurd H (by simp)
        · rw [if_neg c10] at H
          have c10b0 : (t133 == t129) = false := beq_eq_false_iff_ne.mpr c10
          have c10b1 : (t133 != t129) = true := bne_iff_ne.mpr c10
          by_cases c50 : t135 = 1
          · rw [if_pos c50] at H
            have c50b0 : (t135 == 1) = true := beq_iff_eq.mpr c50
            have c50b1 : (t135 != 1) = false := bne_eq_false_iff_eq.mpr c50
            clear c50
            by_cases c51 : t131 ≥ 28
            · rw [if_pos c51] at H
              have c51b0 : decide (28 ≤ t131) = true := decide_eq_true c51
              clear c51
              by_cases c52 : t133 = (wrap64 (t129 + 1))
              · rw [if_pos c52] at H
                have c52b0 : (t133 == (wrap64 (t129 + 1))) = true := beq_iff_eq.mpr c52
                have c52b1 : (t133 != (wrap64 (t129 + 1))) = false := bne_eq_false_iff_eq.mpr c52
                clear c52
                by_cases c53 : t134 = 1
                · rw [if_pos c53] at H
                  have c53b0 : (t134 == 1) = true := beq_iff_eq.mpr c53
                  have c53b1 : (t134 != 1) = false := bne_eq_false_iff_eq.mpr c53
                  clear c53
                  by_cases c54 : t130 = 12
                  · rw [if_pos c54] at H
                    have c54b0 : (t130 == 12) = true := beq_iff_eq.mpr c54
                    have c54b1 : (t130 != 12) = false := bne_eq_false_iff_eq.mpr c54
                    clear c54
                    by_cases c55 : t139 = 0
                    · rw [if_pos c55] at H
                      have c55b0 : (t139 == 0) = true := beq_iff_eq.mpr c55
                      have c55b1 : (t139 != 0) = false := bne_eq_false_iff_eq.mpr c55
                      clear c55
                      by_cases c56 : t138 = (wrap64 (t128 - 700000))
                      · rw [if_pos c56] at H
                        have c56b0 : (t138 == (wrap64 (t128 - 700000))) = true := beq_iff_eq.mpr c56
                        have c56b1 : (t138 != (wrap64 (t128 - 700000))) = false := bne_eq_false_iff_eq.mpr c56
                        clear c56
                        obtain rfl := Option.some.inj H
                        go_enter Try.func3, Try.ntmps3
                        go_wp2_with (first | ((with_reducible refine gate_callee (f := 15) rfl ?_); refine goesL_ (some 15) rfl rfl Try.func15 (by kernel_rfl) rfl #[.int .i64 a0, .int .i64 3600000] rfl (by (try simp only [List.map_toArray, List.map_cons, List.map_nil]); first | done | rfl | (simp only [List.length_drop, List.length_take]; rfl)) ?_; (with_reducible refine (spymake_Below.calls a0 3600000 t128 _ A2.out).mono ?_); rintro e w' ⟨rfl, ⟨nd, rfl⟩⟩; refine ⟨_, rfl, ?_⟩) | ((with_reducible refine gate_callee (f := 16) rfl ?_); refine goesL_ (some 19) rfl rfl Try.func16 (by kernel_rfl) rfl #[.int .i64 (wrap64 (t128 - 700000))] rfl (by (try simp only [List.map_toArray, List.map_cons, List.map_nil]); first | done | rfl | (simp only [List.length_drop, List.length_take]; rfl)) ?_; (with_reducible refine (scale_Date.calls k (wrap64 (t128 - 700000)) t129 t130 t131 t132 _ A3.out).mono ?_); rintro e w57 ⟨rfl, hb⟩; refine ⟨_, rfl, ?_⟩; have n0_ := Aside0.mk (below_step (by repeat (first | (with_reducible first | exact HB.out | apply below_alloc | apply pw_below_drewN | apply below_drew1) | exact HB.out)) hb); clear HB; have HB := n0_; clear n0_; (try clear hb); (try clear hb2); (try clear hk); (try clear hi)) | ((with_reducible refine gate_callee (f := 16) rfl ?_); refine goesL_ (some 27) rfl rfl Try.func16 (by kernel_rfl) rfl #[.int .i64 (wrap64 ((wrap64 (t128 - 700000)) + 1))] rfl (by (try simp only [List.map_toArray, List.map_cons, List.map_nil]); first | done | rfl | (simp only [List.length_drop, List.length_take]; rfl)) ?_; (with_reducible refine (scale_Date.calls k (wrap64 ((wrap64 (t128 - 700000)) + 1)) t133 t134 t135 t136 _ A4.out).mono ?_); rintro e w58 ⟨rfl, hb⟩; refine ⟨_, rfl, ?_⟩; have n0_ := Aside0.mk (below_step (by repeat (first | (with_reducible first | exact HB.out | apply below_alloc | apply pw_below_drewN | apply below_drew1) | exact HB.out)) hb); clear HB; have HB := n0_; clear n0_; (try clear hb); (try clear hb2); (try clear hk); (try clear hi)) | ((with_reducible refine gate_callee (f := 17) rfl ?_); refine goesL_ (some 32) rfl rfl Try.func17 (by kernel_rfl) rfl #[] rfl (by (try simp only [List.map_toArray, List.map_cons, List.map_nil]); first | done | rfl | (simp only [List.length_drop, List.length_take]; rfl)) ?_; (with_reducible refine (spykeep1_scaleFact.calls k  true _ A5.out).mono ?_); rintro e w59 ⟨rfl, hb⟩; refine ⟨_, rfl, ?_⟩; have n0_ := Aside0.mk (below_step (by repeat (first | (with_reducible first | exact HB.out | apply below_alloc | apply pw_below_drewN | apply below_drew1) | exact HB.out)) hb); clear HB; have HB := n0_; clear n0_; (try clear hb); (try clear hb2); (try clear hk); (try clear hi)) | ((with_reducible refine gate_callee (f := 18) rfl ?_); refine goesL_ (some 51) rfl rfl Try.func18 (by kernel_rfl) rfl #[.int .i64 t129, .int .i64 t130, .int .i64 t131] rfl (by (try simp only [List.map_toArray, List.map_cons, List.map_nil]); first | done | rfl | (simp only [List.length_drop, List.length_take]; rfl)) ?_; (with_reducible refine (scale_Days.calls k t129 t130 t131 t138 t139 _ A9.out).mono ?_); rintro e w' ⟨rfl, ⟨nd, rfl⟩⟩; refine ⟨_, rfl, ?_⟩))
                        go_ret
                        exact ⟨by first | rfl | (simp [errW_none, errW_some] <;> rfl) | (simp [*, errW_none, errW_some] <;> rfl), by repeat (first | (with_reducible first | exact HB.out | apply below_alloc | apply pw_below_drewN | apply below_drew1) | exact HB.out)⟩
                      · rw [if_neg c56] at H
                        exact absurd H (by simp)
                    · rw [if_neg c55] at H
                      exact absurd H (by simp)
                  · rw [if_neg c54] at H
                    exact absurd H (by simp)
                · rw [if_neg c53] at H
                  exact absurd H (by simp)
              · rw [if_neg c52] at H
                exact absurd H (by simp)
            · rw [if_neg c51] at H
              exact absurd H (by simp)
          · rw [if_neg c50] at H
            exact absurd H (by simp)
      · rw [if_neg c8] at H
        have c8b0 : (t136 == 0) = false := beq_eq_false_iff_ne.mpr c8
        have c8b1 : (t136 != 0) = true := bne_iff_ne.mpr c8
        by_cases c60 : (wrap64 ((wrap64 (t128 - 700000)) + 1)) > 2900000
        · rw [if_pos c60] at H
          have c60b0 : decide (2900000 < (wrap64 ((wrap64 (t128 - 700000)) + 1))) = true := decide_eq_true c60
          clear c60
          obtain rfl := Option.some.inj H
          go_enter Try.func3, Try.ntmps3
          go_wp2_with (first | ((with_reducible refine gate_callee (f := 15) rfl ?_); refine goesL_ (some 15) rfl rfl Try.func15 (by kernel_rfl) rfl #[.int .i64 a0, .int .i64 3600000] rfl (by (try simp only [List.map_toArray, List.map_cons, List.map_nil]); first | done | rfl | (simp only [List.length_drop, List.length_take]; rfl)) ?_; (with_reducible refine (spymake_Below.calls a0 3600000 t128 _ A2.out).mono ?_); rintro e w' ⟨rfl, ⟨nd, rfl⟩⟩; refine ⟨_, rfl, ?_⟩) | ((with_reducible refine gate_callee (f := 16) rfl ?_); refine goesL_ (some 19) rfl rfl Try.func16 (by kernel_rfl) rfl #[.int .i64 (wrap64 (t128 - 700000))] rfl (by (try simp only [List.map_toArray, List.map_cons, List.map_nil]); first | done | rfl | (simp only [List.length_drop, List.length_take]; rfl)) ?_; (with_reducible refine (scale_Date.calls k (wrap64 (t128 - 700000)) t129 t130 t131 t132 _ A3.out).mono ?_); rintro e w61 ⟨rfl, hb⟩; refine ⟨_, rfl, ?_⟩; have n0_ := Aside0.mk (below_step (by repeat (first | (with_reducible first | exact HB.out | apply below_alloc | apply pw_below_drewN | apply below_drew1) | exact HB.out)) hb); clear HB; have HB := n0_; clear n0_; (try clear hb); (try clear hb2); (try clear hk); (try clear hi)) | ((with_reducible refine gate_callee (f := 16) rfl ?_); refine goesL_ (some 27) rfl rfl Try.func16 (by kernel_rfl) rfl #[.int .i64 (wrap64 ((wrap64 (t128 - 700000)) + 1))] rfl (by (try simp only [List.map_toArray, List.map_cons, List.map_nil]); first | done | rfl | (simp only [List.length_drop, List.length_take]; rfl)) ?_; (with_reducible refine (scale_Date.calls k (wrap64 ((wrap64 (t128 - 700000)) + 1)) t133 t134 t135 t136 _ A4.out).mono ?_); rintro e w62 ⟨rfl, hb⟩; refine ⟨_, rfl, ?_⟩; have n0_ := Aside0.mk (below_step (by repeat (first | (with_reducible first | exact HB.out | apply below_alloc | apply pw_below_drewN | apply below_drew1) | exact HB.out)) hb); clear HB; have HB := n0_; clear n0_; (try clear hb); (try clear hb2); (try clear hk); (try clear hi)) | ((with_reducible refine gate_callee (f := 17) rfl ?_); refine goesL_ (some 32) rfl rfl Try.func17 (by kernel_rfl) rfl #[] rfl (by (try simp only [List.map_toArray, List.map_cons, List.map_nil]); first | done | rfl | (simp only [List.length_drop, List.length_take]; rfl)) ?_; (with_reducible refine (spykeep1_scaleFact.calls k  true _ A5.out).mono ?_); rintro e w63 ⟨rfl, hb⟩; refine ⟨_, rfl, ?_⟩; have n0_ := Aside0.mk (below_step (by repeat (first | (with_reducible first | exact HB.out | apply below_alloc | apply pw_below_drewN | apply below_drew1) | exact HB.out)) hb); clear HB; have HB := n0_; clear n0_; (try clear hb); (try clear hb2); (try clear hk); (try clear hi)))
          go_ret
          exact ⟨by first | rfl | (simp [errW_none, errW_some] <;> rfl) | (simp [*, errW_none, errW_some] <;> rfl), by repeat (first | (with_reducible first | exact HB.out | apply below_alloc | apply pw_below_drewN | apply below_drew1) | exact HB.out)⟩
        · rw [if_neg c60] at H
          exact absurd H (by simp)
    · rw [if_neg c7] at H
      have c7b0 : (t132 == 0) = false := beq_eq_false_iff_ne.mpr c7
      have c7b1 : (t132 != 0) = true := bne_iff_ne.mpr c7
      by_cases c64 : (wrap64 ((wrap64 (t128 - 700000)) + 1)) > 2900000
      · rw [if_pos c64] at H
        have c64b0 : decide (2900000 < (wrap64 ((wrap64 (t128 - 700000)) + 1))) = true := decide_eq_true c64
        clear c64
        obtain rfl := Option.some.inj H
        go_enter Try.func3, Try.ntmps3
        go_wp2_with (first | ((with_reducible refine gate_callee (f := 15) rfl ?_); refine goesL_ (some 15) rfl rfl Try.func15 (by kernel_rfl) rfl #[.int .i64 a0, .int .i64 3600000] rfl (by (try simp only [List.map_toArray, List.map_cons, List.map_nil]); first | done | rfl | (simp only [List.length_drop, List.length_take]; rfl)) ?_; (with_reducible refine (spymake_Below.calls a0 3600000 t128 _ A2.out).mono ?_); rintro e w' ⟨rfl, ⟨nd, rfl⟩⟩; refine ⟨_, rfl, ?_⟩) | ((with_reducible refine gate_callee (f := 16) rfl ?_); refine goesL_ (some 19) rfl rfl Try.func16 (by kernel_rfl) rfl #[.int .i64 (wrap64 (t128 - 700000))] rfl (by (try simp only [List.map_toArray, List.map_cons, List.map_nil]); first | done | rfl | (simp only [List.length_drop, List.length_take]; rfl)) ?_; (with_reducible refine (scale_Date.calls k (wrap64 (t128 - 700000)) t129 t130 t131 t132 _ A3.out).mono ?_); rintro e w65 ⟨rfl, hb⟩; refine ⟨_, rfl, ?_⟩; have n0_ := Aside0.mk (below_step (by repeat (first | (with_reducible first | exact HB.out | apply below_alloc | apply pw_below_drewN | apply below_drew1) | exact HB.out)) hb); clear HB; have HB := n0_; clear n0_; (try clear hb); (try clear hb2); (try clear hk); (try clear hi)) | ((with_reducible refine gate_callee (f := 16) rfl ?_); refine goesL_ (some 27) rfl rfl Try.func16 (by kernel_rfl) rfl #[.int .i64 (wrap64 ((wrap64 (t128 - 700000)) + 1))] rfl (by (try simp only [List.map_toArray, List.map_cons, List.map_nil]); first | done | rfl | (simp only [List.length_drop, List.length_take]; rfl)) ?_; (with_reducible refine (scale_Date.calls k (wrap64 ((wrap64 (t128 - 700000)) + 1)) t133 t134 t135 t136 _ A4.out).mono ?_); rintro e w66 ⟨rfl, hb⟩; refine ⟨_, rfl, ?_⟩; have n0_ := Aside0.mk (below_step (by repeat (first | (with_reducible first | exact HB.out | apply below_alloc | apply pw_below_drewN | apply below_drew1) | exact HB.out)) hb); clear HB; have HB := n0_; clear n0_; (try clear hb); (try clear hb2); (try clear hk); (try clear hi)) | ((with_reducible refine gate_callee (f := 17) rfl ?_); refine goesL_ (some 32) rfl rfl Try.func17 (by kernel_rfl) rfl #[] rfl (by (try simp only [List.map_toArray, List.map_cons, List.map_nil]); first | done | rfl | (simp only [List.length_drop, List.length_take]; rfl)) ?_; (with_reducible refine (spykeep1_scaleFact.calls k  true _ A5.out).mono ?_); rintro e w67 ⟨rfl, hb⟩; refine ⟨_, rfl, ?_⟩; have n0_ := Aside0.mk (below_step (by repeat (first | (with_reducible first | exact HB.out | apply below_alloc | apply pw_below_drewN | apply below_drew1) | exact HB.out)) hb); clear HB; have HB := n0_; clear n0_; (try clear hb); (try clear hb2); (try clear hk); (try clear hi)))
        go_ret
        exact ⟨by first | rfl | (simp [errW_none, errW_some] <;> rfl) | (simp [*, errW_none, errW_some] <;> rfl), by repeat (first | (with_reducible first | exact HB.out | apply below_alloc | apply pw_below_drewN | apply below_drew1) | exact HB.out)⟩
      · rw [if_neg c64] at H
        exact absurd H (by simp)
  · replace c6 := Bool.eq_false_iff.mpr c6
    subst c6
    have H1 : (none) = some r := by rw [if_neg (show ¬ (false = true) by decide)] at H; exact H
    clear H
    have H := H1
    clear H1
    exact absurd H (by simp)

/-- THE ONE PURE STATEMENT of spykeep1_ScaleDays: yours. -/
def spykeep1_ScaleDays.Pure : Prop := ∀ (a0 : Int), (Lit.int .i64 a0).wf = true → ∃ k, spykeep1_ScaleDays.f k a0 = some true
theorem spykeep1_ScaleDays.walk (P : spykeep1_ScaleDays.Pure) (a0 : Int) (w : World) (w0 : (Lit.int .i64 a0).wf = true) :
    Calls Try.prog 3 #[.int .i64 a0] w fun e w' => e = .returned (.bool true) ∧ Below w.heap.size w w' := by
  obtain ⟨k, h⟩ := P a0 w0
  refine (spykeep1_ScaleDays.calls k a0 true w h).mono ?_
  rintro e w' ⟨rfl, hd⟩
  exact ⟨rfl, hd⟩

/-! ### bits_Add64: function 65: the model's own entry -/
theorem bits_Add64.run (x y c : Int) (hx : 0 ≤ x) (hy : 0 ≤ y) (hc0 : 0 ≤ c) (hc : c ≤ 1) (w : World) :
    (callFunc 65 #[.int .u64 x, .int .u64 y, .int .u64 c]).run Try.prog w = .ok (.value (.tuple #[.int .u64 ((x + y + c) % 18446744073709551616), .int .u64 ((x + y + c) / 18446744073709551616)])) w := by
  rw [run_callFunc_extern Try.func65 (by kernel_rfl) (by kernel_rfl) (by kernel_rfl) (e := add64Entry) (by kernel_rfl), run_add64 x y c hx hy hc0 hc]
  rfl
theorem u64_wrap_eq (x : Int) : IntKind.u64.wrap x = x % 18446744073709551616 := by simp [IntKind.wrap, IntKind.signed, IntKind.bits]
theorem u64_wrap_bd (x : Int) : 0 ≤ IntKind.u64.wrap x ∧ IntKind.u64.wrap x < 18446744073709551616 := by
  have := u64_wrap_eq x
  omega
theorem u64_not (x : Int) (h0 : 0 ≤ x) (h1 : x < 18446744073709551616) : Go.bits .xor .u64 IntKind.u64.max x = 18446744073709551615 - x := by
  rw [show IntKind.u64.max = 18446744073709551615 by decide, Go.u64_xor _ _ (by decide) (by decide) h0 h1]
  obtain ⟨n, rfl⟩ := Int.eq_ofNat_of_zero_le h0
  have hn : n < 2 ^ 64 := by omega
  have h2 : (18446744073709551615 : Nat) ^^^ n = 18446744073709551615 - n := by
    have a := congrArg BitVec.toNat (BitVec.not_def (x := BitVec.ofNat 64 n))
    rw [BitVec.toNat_not, BitVec.toNat_xor, BitVec.toNat_allOnes, BitVec.toNat_ofNat, Nat.mod_eq_of_lt hn] at a
    have b : (2 : Nat) ^ 64 - 1 = 18446744073709551615 := by decide
    rw [b] at a
    rw [← a]
  simp only [Int.toNat_natCast]
  rw [show Int.toNat 18446744073709551615 = 18446744073709551615 from rfl, h2]
  omega

/-! ### num_Wide_Neg: function 21 -/
def num_Wide_Neg.f (a0_0 a0_1 : Int) : Option (Int × Int) := if 0 ≤ a0_1 then (if a0_1 < 18446744073709551616 then some (wrap64 (-a0_0 - 1 + (18446744073709551616 - a0_1) / 18446744073709551616), (18446744073709551616 - a0_1) % 18446744073709551616) else none) else none
set_option maxRecDepth 100000 in
set_option maxHeartbeats 8000000 in
theorem num_Wide_Neg.calls (a0_0 a0_1 r1 r2 : Int) (w : World) (h : num_Wide_Neg.f a0_0 a0_1 = some (r1, r2)) :
    Calls Try.prog 21 #[.agg #[.int .i64 a0_0, .int .u64 a0_1]] w fun e w' => e = .returned (.agg #[.int .i64 r1, .int .u64 r2]) ∧ Below w.heap.size w w' := by
  unfold num_Wide_Neg.f at h
  split at h
  case isFalse => cases h
  split at h
  case isFalse => cases h
  rename_i h0 h1
  simp only [Option.some.injEq, Prod.mk.injEq] at h
  obtain ⟨rfl, rfl⟩ := h
  have n1 := u64_not a0_1 h0 h1
  have n2 := u64_not (IntKind.u64.wrap a0_0) (u64_wrap_bd _).1 (u64_wrap_bd _).2
  have e1 : wrap64 ((18446744073709551615 - IntKind.u64.wrap a0_0 + (18446744073709551615 - a0_1 + 1) / 18446744073709551616) % 18446744073709551616) = wrap64 (-a0_0 - 1 + (18446744073709551616 - a0_1) / 18446744073709551616) := by
    rw [u64_wrap_eq]; unfold wrap64; omega
  have E1 := Aside0.mk e1
  clear e1
  have e2 : (18446744073709551615 - a0_1 + 1) % 18446744073709551616 = (18446744073709551616 - a0_1) % 18446744073709551616 := by omega
  have E2 := Aside0.mk e2
  clear e2
  have b1 := u64_wrap_bd a0_0
  have ha := fun (w : World) => bits_Add64.run (Go.bits .xor .u64 IntKind.u64.max a0_1) 1 0 (by rw [n1]; omega) (by omega) (by omega) (by omega) w
  have ha2 := fun (w : World) => bits_Add64.run (Go.bits .xor .u64 IntKind.u64.max (IntKind.u64.wrap a0_0)) 0 ((Go.bits .xor .u64 IntKind.u64.max a0_1 + 1) / 18446744073709551616) (by rw [n2]; omega) (by omega) (by rw [n1]; omega) (by rw [n1]; omega) w
  have N1 := Aside0.mk n1
  have N2 := Aside0.mk n2
  clear n1 n2
  have hu := Try.underlying32
  go_enter Try.func21, Try.ntmps21
  go_wp2
  exact bodyPost_ret (v := .agg #[.int .i64 (wrap64 (-a0_0 - 1 + (18446744073709551616 - a0_1) / 18446744073709551616)), .int .u64 ((18446744073709551616 - a0_1) % 18446744073709551616)]) (by simp [results, Try.results21, go_sem, N1.out, N2.out, E1.out, E2.out]) rfl ⟨rfl, by repeat (first | exact Below.refl _ _ | refine Below.alloc ?_ (by first | exact Nat.le_refl _ | (simp; omega) | simp) _ | refine Below.setCell ?_ (by first | (simp; omega) | simp) _)⟩

end Go.Proofs.Ytbaedcjophgiiaa.Q
