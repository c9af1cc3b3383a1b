/- Contracts of Go functions of the seat, one by one: each call returns what the Lean function of the same name says, wherever that is 'some'; no other condition. Written by a program of this session. -/
import Derived.Test.YtpophefonhpnmaaKClockSyncTruthQx0
import Derived.Test.YtpophefonhpnmaaKClockSyncTruthQx17
import Derived.Test.YtpophefonhpnmaaKClockSyncTruthQx24
import Derived.Test.YtpophefonhpnmaaKClockSyncTruthQx26
import Derived.Test.YtpophefonhpnmaaKClockSyncTruthQx27
import Derived.Test.YtpophefonhpnmaaKClockSyncTruthQx33
namespace Go.Proofs.Ytpophefonhpnmaa.Q
open Go.RowKit Go.Proofs.YtpophefonhpnmaaW.PrintWords Go.Proofs.YtpophefonhpnmaaW.PrintLast Go.Proofs.YtpophefonhpnmaaW.PrintMore
attribute [local go_sem] max2_int min2_int max_two min_two max_three min_three max_four min_four   -- for this text's walks alone
set_option linter.unusedVariables false
set_option linter.unusedSimpArgs false

/-! ### clock_Sync: function 17 -/
def clock_Sync.j0 : Nat → Int → Int → Bool → Int → Int → Int → Bool → Int → Int → Int → Bool → Option (Int × Int × Int × Bool × Int × Int)
 | 0, _, _, _, _, _, _, _, _, _, _, _ => none
 | k + 1, x1, x2, x24, x102000, x102001, x102002, x102003, x102004, x103000, x103001, x103002 => if x24 = true then (some (0, 0, 0, false, 0, 4)) else (if x1 < x102000 then (some (0, 0, 0, false, 0, 11)) else (if x2 < x1 then (some (0, 0, 0, false, 0, 11)) else ((num_MulDivUp.f k (wrap64 ((wrap64 (x2 - x1)) + 1)) 1000000 (wrap64 (1000000 - x102004))).bind fun bt107 => ((bound_Of_api_Tick.f k 0 bt107.1).bind fun bt109 => ((bound_Add_api_Tick.f k x103000 x103001 x103002 bt109.1 bt109.2.1 bt109.2.2).bind fun bt112 => ((clock_Uniform.f k x102000 x102001 x102002 x102003 x102004 x2).bind fun bt116 => ((bound_Meet_api_Tick.f k bt112.1 bt112.2.1 bt112.2.2 bt116.1 bt116.2.1 bt116.2.2).bind fun bt119 => (if bt119.2.2.2 = true then ((clock_Check.f k x2 bt119.1 bt119.2.1 bt119.2.2.1 x102004).bind fun t125 => (if t125 = 0 then (some (x2, bt119.1, bt119.2.1, bt119.2.2.1, x102004, 0)) else (some (0, 0, 0, false, 0, t125)))) else (some (0, 0, 0, false, 0, 15))))))))))
def clock_Sync.f (k : Nat) (a0_0 : Int) (a0_1 : Int) (a0_2 : Int) (a0_3 : Bool) (a0_4 : Int) (a1 : Int) (a2 : Int) (a3_0 : Int) (a3_1 : Int) (a3_2 : Bool) : Option (Int × Int × Int × Bool × Int × Int) := (clock_Check.f k a0_0 a0_1 a0_2 a0_3 a0_4).bind fun t104 => (if t104 = 0 then ((clock_inTime.f a1).bind fun t105 => (if t105 = true then ((clock_inTime.f a2).bind fun t106 => (clock_Sync.j0 k a1 a2 (!t106) a0_0 a0_1 a0_2 a0_3 a0_4 a3_0 a3_1 a3_2)) else (clock_Sync.j0 k a1 a2 true a0_0 a0_1 a0_2 a0_3 a0_4 a3_0 a3_1 a3_2))) else (some (0, 0, 0, false, 0, t104)))
theorem clock_Sync.mono_l : ∀ k, (∀ y0 y1 y2 y3 y4 y5 y6 y7 y8 y9 y10, LeO (clock_Sync.j0 k y0 y1 y2 y3 y4 y5 y6 y7 y8 y9 y10) (clock_Sync.j0 (k + 1) y0 y1 y2 y3 y4 y5 y6 y7 y8 y9 y10))
 | 0 => fun _ _ _ _ _ _ _ _ _ _ _ r h => by simp [clock_Sync.j0] at h
 | k + 1 => by
  have ih0 := clock_Sync.mono_l k
  · intro y0 y1 y2 y3 y4 y5 y6 y7 y8 y9 y10
    unfold clock_Sync.j0
    repeat' first
    | (with_reducible exact ih0 _ _ _ _ _ _ _ _ _ _ _)
    | (with_reducible exact bound_Add_api_Tick.mono _ _ _ _ _ _ _)
    | (with_reducible exact bound_Meet_api_Tick.mono _ _ _ _ _ _ _)
    | (with_reducible exact bound_Of_api_Tick.mono _ _ _)
    | (with_reducible exact clock_Check.mono _ _ _ _ _ _)
    | (with_reducible exact clock_Uniform.mono _ _ _ _ _ _ _)
    | (with_reducible exact num_MulDivUp.mono _ _ _ _)
    | (with_reducible exact LeO.refl _)
    | (with_reducible exact LeO.none _)
    | (with_reducible refine LeO.ite ?_ ?_)
    | (with_reducible refine LeO.bind ?_ (fun _ => ?_))
    | exact ih0 _ _ _ _ _ _ _ _ _ _ _
    | exact bound_Add_api_Tick.mono _ _ _ _ _ _ _
    | exact bound_Meet_api_Tick.mono _ _ _ _ _ _ _
    | exact bound_Of_api_Tick.mono _ _ _
    | exact clock_Check.mono _ _ _ _ _ _
    | exact clock_Uniform.mono _ _ _ _ _ _ _
    | exact num_MulDivUp.mono _ _ _ _
    | exact LeO.none _
    | refine LeO.ite ?_ ?_
    | refine LeO.bind ?_ (fun _ => ?_)
theorem clock_Sync.mono : ∀ a0 a1 a2 a3 a4 a5 a6 a7 a8 a9 k, LeO (clock_Sync.f k a0 a1 a2 a3 a4 a5 a6 a7 a8 a9) (clock_Sync.f (k + 1) a0 a1 a2 a3 a4 a5 a6 a7 a8 a9) := by
 intro a0 a1 a2 a3 a4 a5 a6 a7 a8 a9 k
 have ih0 := clock_Sync.mono_l k
 unfold clock_Sync.f
 repeat' first
  | (with_reducible exact ih0 _ _ _ _ _ _ _ _ _ _ _)
  | (with_reducible exact bound_Add_api_Tick.mono _ _ _ _ _ _ _)
  | (with_reducible exact bound_Meet_api_Tick.mono _ _ _ _ _ _ _)
  | (with_reducible exact bound_Of_api_Tick.mono _ _ _)
  | (with_reducible exact clock_Check.mono _ _ _ _ _ _)
  | (with_reducible exact clock_Uniform.mono _ _ _ _ _ _ _)
  | (with_reducible exact num_MulDivUp.mono _ _ _ _)
  | (with_reducible exact LeO.refl _)
  | (with_reducible exact LeO.none _)
  | (with_reducible refine LeO.ite ?_ ?_)
  | (with_reducible refine LeO.bind ?_ (fun _ => ?_))
  | exact ih0 _ _ _ _ _ _ _ _ _ _ _
  | exact bound_Add_api_Tick.mono _ _ _ _ _ _ _
  | exact bound_Meet_api_Tick.mono _ _ _ _ _ _ _
  | exact bound_Of_api_Tick.mono _ _ _
  | exact clock_Check.mono _ _ _ _ _ _
  | exact clock_Uniform.mono _ _ _ _ _ _ _
  | exact num_MulDivUp.mono _ _ _ _
  | exact LeO.none _
  | refine LeO.ite ?_ ?_
  | refine LeO.bind ?_ (fun _ => ?_)
def clock_Sync.T10 : Bool × List (List Nat × List Nat) := (true, [([], []), ([], []), ([], []), ([1, 2], [1, 2]), ([0, 3, 3], [0, 3]), ([4], [4]), ([5], [5]), ([5], [5]), ([], []), ([8, 6, 4, 0, 1, 2, 3, 4, 5, 6, 8], [6, 8]), ([7, 9, 0, 1, 2, 3, 4, 5, 6, 7, 8, 9], [7])])
def clock_Sync.B10 : List Nat := [0, 0, 0, 6, 15, 31, 63, 63, 0, 383, 1023]
theorem clock_Sync.tab10 : rtab .any (opsOf Try.f17 10) = clock_Sync.T10 := by kernel_rfl
theorem clock_Sync.bits10 : waitsOk clock_Sync.T10.2 clock_Sync.B10 = true := by kernel_rfl
set_option maxHeartbeats 8000000 in
set_option maxRecDepth 100000 in
theorem clock_Sync.calls (k : Nat) (a0_0 : Int) (a0_1 : Int) (a0_2 : Int) (a0_3 : Bool) (a0_4 : Int) (a1 : Int) (a2 : Int) (a3_0 : Int) (a3_1 : Int) (a3_2 : Bool) (r1 : Int) (r2 : Int) (r3 : Int) (r4 : Bool) (r5 : Int) (r6 : Int) (w : World) (h : clock_Sync.f k a0_0 a0_1 a0_2 a0_3 a0_4 a1 a2 a3_0 a3_1 a3_2 = some (r1, r2, r3, r4, r5, r6)) :
 Calls Try.prog 17 #[.agg #[.int .i64 a0_0, .int .i64 a0_1, .int .i64 a0_2, .bool a0_3, .int .i64 a0_4], .int .i64 a1, .int .i64 a2, .agg #[.int .i64 a3_0, .int .i64 a3_1, .bool a3_2]] w fun e w' => e = .returned (.tuple #[.agg #[.int .i64 r1, .int .i64 r2, .int .i64 r3, .bool r4, .int .i64 r5], .int .i64 r6]) ∧ Below w.heap.size w w' := by
 have hu33 := Try.underlying33
 have hu31 := Try.underlying31
 have HB := Aside0.mk (Below.refl w.heap.size w)
 have H : ((clock_Check.f k a0_0 a0_1 a0_2 a0_3 a0_4).bind fun t104 => (if t104 = 0 then ((clock_inTime.f a1).bind fun t105 => (if t105 = true then ((clock_inTime.f a2).bind fun t106 => (clock_Sync.j0 k a1 a2 (!t106) a0_0 a0_1 a0_2 a0_3 a0_4 a3_0 a3_1 a3_2)) else (clock_Sync.j0 k a1 a2 true a0_0 a0_1 a0_2 a0_3 a0_4 a3_0 a3_1 a3_2))) else (some (0, 0, 0, false, 0, t104)))) = some (r1, r2, r3, r4, r5, r6) := h
 clear h
 replace H := Option.bind_eq_some_iff.mp H
 obtain ⟨t104, A50, H⟩ := H
 replace H : (if t104 = 0 then ((clock_inTime.f a1).bind fun t105 => (if t105 = true then ((clock_inTime.f a2).bind fun t106 => (clock_Sync.j0 k a1 a2 (!t106) a0_0 a0_1 a0_2 a0_3 a0_4 a3_0 a3_1 a3_2)) else (clock_Sync.j0 k a1 a2 true a0_0 a0_1 a0_2 a0_3 a0_4 a3_0 a3_1 a3_2))) else (some (0, 0, 0, false, 0, t104))) = some (r1, r2, r3, r4, r5, r6) := H
 have A5 := Aside0.mk A50
 clear A50
 by_cases c6 : t104 = 0
 · rw [if_pos c6] at H
   have c6b0 : (t104 == 0) = true := beq_iff_eq.mpr c6
   have c6b1 : (t104 != 0) = false := bne_eq_false_iff_eq.mpr c6
   clear c6
   have HC7 := Aside0.mk H
   clear H
   go_enter Try.func17, Try.ntmps17
   go_upto_region 4 with (first | ((with_reducible refine gate_dst (N := 4) rfl ?_); refine box_event ?hg (N := 4) ?hd (cs := #[.int .i64 a0_0, .int .i64 a0_1, .int .i64 a0_2, .bool a0_3, .int .i64 a0_4]) (t := 33) ?hr ?_; (case hd => rfl); (case hg => rfl); (case hr => first | (go_simp; done) | (go_simp; rfl)); intro gb101 hg w8 hbox hb; have n0_ := Aside0.mk (below_step (by repeat (first | (with_reducible first | exact HB.out | apply below_alloc | apply pw_below_drewN | apply below_drew1) | exact HB.out)) hb); have n1_ := Aside0.mk (hbox); have n2_ := Aside0.mk ((by rw [hg]; exact (below_size (by repeat (first | (with_reducible first | exact HB.out | apply below_alloc | apply pw_below_drewN | apply below_drew1) | exact HB.out))) : w.heap.size ≤ gb101)); have n3_ := n2_; clear HB; have HB := n0_; have BK101 := n1_; have GW101 := n2_; have GE101 := n3_; clear n0_ n1_ n2_ n3_; clear hb hbox hg) | ((with_reducible refine gate_dst (N := 7) rfl ?_); refine box_event ?hg (N := 7) ?hd (cs := #[.int .i64 a3_0, .int .i64 a3_1, .bool a3_2]) (t := 31) ?hr ?_; (case hd => rfl); (case hg => rfl); (case hr => first | (go_simp; done) | (go_simp; rfl)); intro gb102 hg w9 hbox hb; have n0_ := bkb_ BK101 hb rfl; have n1_ := hbs_ HB hb rfl rfl rfl rfl; have n2_ := Aside0.mk (hbox); have n3_ := Aside0.mk ((by rw [hg]; exact (below_size (by repeat (first | (with_reducible first | exact HB.out | apply below_alloc | apply pw_below_drewN | apply below_drew1 | refine below_set ?_ GE101.out) | exact HB.out))) : w.heap.size ≤ gb102)); have n4_ := n3_; have n5_ := nbl_ BK101 hg rfl; have n6_ := nbg_ BK101 hg rfl; clear BK101; clear HB; have BK101 := n0_; have HB := n1_; have BK102 := n2_; have GW102 := n3_; have GE102 := n4_; have NB101_102 := n5_; have NB102_101 := n6_; clear n0_ n1_ n2_ n3_ n4_ n5_ n6_; clear hb hbox hg) | ((with_reducible refine gate_dst (N := 8) rfl ?_); refine box_event ?hg (N := 8) ?hd (cs := #[.int .i64 0, .int .i64 0, .int .i64 0, .bool false, .int .i64 0]) (t := 33) ?hr ?_; (case hd => rfl); (case hg => rfl); (case hr => first | (go_simp; done) | (go_simp; rfl)); intro gb103 hg w10 hbox hb; have n0_ := bkb_ BK101 hb rfl; have n1_ := bkb_ BK102 hb rfl; have n2_ := hbs_ HB hb rfl rfl rfl rfl; have n3_ := Aside0.mk (hbox); have n4_ := Aside0.mk ((by rw [hg]; exact (below_size (by repeat (first | (with_reducible first | exact HB.out | apply below_alloc | apply pw_below_drewN | apply below_drew1 | refine below_set ?_ GE101.out | refine below_set ?_ GE102.out) | exact HB.out))) : w.heap.size ≤ gb103)); have n5_ := n4_; have n6_ := nbl_ BK101 hg rfl; have n7_ := nbg_ BK101 hg rfl; have n8_ := nbl_ BK102 hg rfl; have n9_ := nbg_ BK102 hg rfl; clear BK101; clear BK102; clear HB; have BK101 := n0_; have BK102 := n1_; have HB := n2_; have BK103 := n3_; have GW103 := n4_; have GE103 := n5_; have NB101_103 := n6_; have NB103_101 := n7_; have NB102_103 := n8_; have NB103_102 := n9_; clear n0_ n1_ n2_ n3_ n4_ n5_ n6_ n7_ n8_ n9_; clear hb hbox hg; have hnb11 := NB101_102.out; have hnc11 := NB102_101.out; have hnb12 := NB101_103.out; have hnc12 := NB103_101.out; have hcz13_0 : w10.cell? ⟨gb101, 0, none⟩ = some (.int .i64 a0_0) := (blk_cell BK101.out 0).trans rfl; have hcz13_1 : w10.cell? ⟨gb101, 1, none⟩ = some (.int .i64 a0_1) := (blk_cell BK101.out 1).trans rfl; have hcz13_2 : w10.cell? ⟨gb101, 2, none⟩ = some (.int .i64 a0_2) := (blk_cell BK101.out 2).trans rfl; have hcz13_3 : w10.cell? ⟨gb101, 3, none⟩ = some (.bool a0_3) := (blk_cell BK101.out 3).trans rfl; have hcz13_4 : w10.cell? ⟨gb101, 4, none⟩ = some (.int .i64 a0_4) := (blk_cell BK101.out 4).trans rfl; have hfz13_0 := blk_frozen BK101.out 0; have hfz13_1 := blk_frozen BK101.out 1; have hfz13_2 := blk_frozen BK101.out 2; have hfz13_3 := blk_frozen BK101.out 3; have hfz13_4 := blk_frozen BK101.out 4) | ((with_reducible refine gate_callee (f := 83) rfl ?_); refine goesL_ (some 19) rfl rfl Try.func83 (by kernel_rfl) rfl #[.agg #[.int .i64 a0_0, .int .i64 a0_1, .int .i64 a0_2, .bool a0_3, .int .i64 a0_4]] rfl (by (try simp only [List.map_toArray, List.map_cons, List.map_nil]); first | done | rfl | (simp only [List.length_drop, List.length_take]; rfl)) ?_; (with_reducible refine (clock_Check.calls k a0_0 a0_1 a0_2 a0_3 a0_4 t104 _ A5.out).mono ?_); rintro e w14 ⟨rfl, hb⟩; refine ⟨_, rfl, ?_⟩; have n0_ := bkb_ BK101 hb rfl; have n1_ := bkb_ BK102 hb rfl; have n2_ := bkb_ BK103 hb rfl; have n3_ := hbs_ HB hb rfl rfl rfl rfl; clear BK101; clear BK102; clear BK103; clear HB; have BK101 := n0_; have BK102 := n1_; have BK103 := n2_; have HB := n3_; clear n0_ n1_ n2_ n3_; (try clear hb); (try clear hb2); (try clear hk); (try clear hi)))
   (try simp only [Act.put, List.setIfInBounds_toArray, List.set_cons_zero, List.set_cons_succ])
   go_cut [24] (fun v24 wc => ∃ (kq : Nat) (x24_6 : Bool), v24 = .bool x24_6 ∧ Aside0 (clock_Sync.j0 kq a1 a2 x24_6 a0_0 a0_1 a0_2 a0_3 a0_4 a3_0 a3_1 a3_2 = some (r1, r2, r3, r4, r5, r6)) ∧ Aside0 (kq ≤ k) ∧ Aside0 (wc.heap[gb101]? = some (.cells #[.int .i64 a0_0, .int .i64 a0_1, .int .i64 a0_2, .bool a0_3, .int .i64 a0_4] 33 (0, 0))) ∧ Aside0 (wc.heap[gb102]? = some (.cells #[.int .i64 a3_0, .int .i64 a3_1, .bool a3_2] 31 (0, 0))) ∧ Aside0 (wc.heap[gb103]? = some (.cells #[.int .i64 0, .int .i64 0, .int .i64 0, .bool false, .int .i64 0] 33 (0, 0))) ∧ Aside0 (Below w.heap.size w wc))
   case first =>
    have H := HC7.out
    clear HC7
    replace H := Option.bind_eq_some_iff.mp H
    obtain ⟨t105, A150, H⟩ := H
    replace H : (if t105 = true then ((clock_inTime.f a2).bind fun t106 => (clock_Sync.j0 k a1 a2 (!t106) a0_0 a0_1 a0_2 a0_3 a0_4 a3_0 a3_1 a3_2)) else (clock_Sync.j0 k a1 a2 true a0_0 a0_1 a0_2 a0_3 a0_4 a3_0 a3_1 a3_2)) = some (r1, r2, r3, r4, r5, r6) := H
    have A15 := Aside0.mk A150
    clear A150
    by_cases c16 : t105 = true
    · subst c16
      have H1 : ((clock_inTime.f a2).bind fun t106 => (clock_Sync.j0 k a1 a2 (!t106) a0_0 a0_1 a0_2 a0_3 a0_4 a3_0 a3_1 a3_2)) = some (r1, r2, r3, r4, r5, r6) := by rw [if_pos rfl] at H; exact H
      clear H
      have H := H1
      clear H1
      replace H := Option.bind_eq_some_iff.mp H
      obtain ⟨t106, A170, H⟩ := H
      replace H : (clock_Sync.j0 k a1 a2 (!t106) a0_0 a0_1 a0_2 a0_3 a0_4 a3_0 a3_1 a3_2) = some (r1, r2, r3, r4, r5, r6) := H
      have A17 := Aside0.mk A170
      clear A170
      have H' := Aside0.mk H
      clear H
      go_wp2_with (first | ((with_reducible refine gate_callee (f := 82) rfl ?_); refine goesL_ (some 26) rfl rfl Try.func82 (by kernel_rfl) rfl #[.int .i64 a1] rfl (by (try simp only [List.map_toArray, List.map_cons, List.map_nil]); first | done | rfl | (simp only [List.length_drop, List.length_take]; rfl)) ?_; (with_reducible refine (clock_inTime.calls a1 true _ A15.out).mono ?_); rintro e w' ⟨rfl, ⟨nd, rfl⟩⟩; refine ⟨_, rfl, ?_⟩) | (go_at_call 82; (with_reducible refine (clock_inTime.calls a2 t106 _ A17.out).mono ?_); rintro e w' ⟨rfl, ⟨nd, rfl⟩⟩))
      go_meet
      case rel => exact ⟨_, (!t106), (by first | rfl | (simp; done) | (simp [*]; done)), H', ⟨by first | omega | exact Nat.le_refl _⟩, ⟨by (with_reducible repeat apply blk_drewN); exact BK101.out⟩, ⟨by (with_reducible repeat apply blk_drewN); exact BK102.out⟩, ⟨by (with_reducible repeat apply blk_drewN); exact BK103.out⟩, ⟨by repeat (first | (with_reducible first | exact HB.out | apply below_alloc | apply pw_below_drewN | apply below_drew1 | refine below_set ?_ GE101.out | refine below_set ?_ GE102.out | refine below_set ?_ GE103.out) | exact HB.out)⟩⟩
    · replace c16 := Bool.eq_false_iff.mpr c16
      subst c16
      have H1 : (clock_Sync.j0 k a1 a2 true a0_0 a0_1 a0_2 a0_3 a0_4 a3_0 a3_1 a3_2) = some (r1, r2, r3, r4, r5, r6) := by rw [if_neg (show ¬ (false = true) by decide)] at H; exact H
      clear H
      have H := H1
      clear H1
      have H' := Aside0.mk H
      clear H
      go_wp2_with (first | ((with_reducible refine gate_callee (f := 82) rfl ?_); refine goesL_ (some 26) rfl rfl Try.func82 (by kernel_rfl) rfl #[.int .i64 a1] rfl (by (try simp only [List.map_toArray, List.map_cons, List.map_nil]); first | done | rfl | (simp only [List.length_drop, List.length_take]; rfl)) ?_; (with_reducible refine (clock_inTime.calls a1 false _ A15.out).mono ?_); rintro e w' ⟨rfl, ⟨nd, rfl⟩⟩; refine ⟨_, rfl, ?_⟩))
      go_meet
      case rel => exact ⟨_, (true), (by first | rfl | (simp; done) | (simp [*]; done)), H', ⟨by first | omega | exact Nat.le_refl _⟩, ⟨by (with_reducible repeat apply blk_drewN); exact BK101.out⟩, ⟨by (with_reducible repeat apply blk_drewN); exact BK102.out⟩, ⟨by (with_reducible repeat apply blk_drewN); exact BK103.out⟩, ⟨by repeat (first | (with_reducible first | exact HB.out | apply below_alloc | apply pw_below_drewN | apply below_drew1 | refine below_set ?_ GE101.out | refine below_set ?_ GE102.out | refine below_set ?_ GE103.out) | exact HB.out)⟩⟩
   case rest =>
    clear HC7
    obtain ⟨kq, x24_6, rfl, HA, HJ6, BK101, BK102, BK103, HB⟩ := hcut
    cases kq with
    | zero => exact absurd HA.out (by simp [clock_Sync.j0])
    | succ kj6 =>
     have H := HA.out
     clear HA
     simp only [clock_Sync.j0] at H
     by_cases c18 : x24_6 = true
     · subst c18
       have H1 : (some (0, 0, 0, false, 0, 4)) = some (r1, r2, r3, r4, r5, r6) := by rw [if_pos rfl] at H; exact H
       clear H
       have H := H1
       clear H1
       simp only [Option.some.injEq, Prod.mk.injEq] at H
       obtain ⟨rfl, rfl, rfl, rfl, rfl, rfl⟩ := H
       have hnb19 := NB103_101.out
       have hnc19 := NB101_103.out
       have hnb20 := NB103_102.out
       have hnc20 := NB102_103.out
       have hcz21_0 : wc.cell? ⟨gb103, 0, none⟩ = some (.int .i64 0) := (blk_cell BK103.out 0).trans rfl
       have hcz21_1 : wc.cell? ⟨gb103, 1, none⟩ = some (.int .i64 0) := (blk_cell BK103.out 1).trans rfl
       have hcz21_2 : wc.cell? ⟨gb103, 2, none⟩ = some (.int .i64 0) := (blk_cell BK103.out 2).trans rfl
       have hcz21_3 : wc.cell? ⟨gb103, 3, none⟩ = some (.bool false) := (blk_cell BK103.out 3).trans rfl
       have hcz21_4 : wc.cell? ⟨gb103, 4, none⟩ = some (.int .i64 0) := (blk_cell BK103.out 4).trans rfl
       have hfz21_0 := blk_frozen BK103.out 0
       have hfz21_1 := blk_frozen BK103.out 1
       have hfz21_2 := blk_frozen BK103.out 2
       have hfz21_3 := blk_frozen BK103.out 3
       have hfz21_4 := blk_frozen BK103.out 4
       go_wp2
       refine bodyPost_ret (results_ct rfl _ _ gb103 33 #[.int .i64 0, .int .i64 0, .int .i64 0, .bool false, .int .i64 0] (0, 0) _ rfl (by (with_reducible repeat apply blk_drewN); refine blk_put (cs := #[.int .i64 0, .int .i64 0, .int .i64 0, .bool false, .int .i64 0]) ?_ 4 _ rfl; (with_reducible repeat apply blk_drewN); refine blk_put (cs := #[.int .i64 0, .int .i64 0, .int .i64 0, .bool false, .int .i64 0]) ?_ 3 _ rfl; (with_reducible repeat apply blk_drewN); refine blk_put (cs := #[.int .i64 0, .int .i64 0, .int .i64 0, .bool false, .int .i64 0]) ?_ 2 _ rfl; (with_reducible repeat apply blk_drewN); refine blk_put (cs := #[.int .i64 0, .int .i64 0, .int .i64 0, .bool false, .int .i64 0]) ?_ 1 _ rfl; (with_reducible repeat apply blk_drewN); refine blk_put (cs := #[.int .i64 0, .int .i64 0, .int .i64 0, .bool false, .int .i64 0]) ?_ 0 _ rfl; (with_reducible repeat apply blk_drewN); exact BK103.out) Try.underlying33 rfl (by kernel_rfl)) rfl ?_
       exact ⟨by first | rfl | (simp [errW_none, errW_some] <;> rfl) | (simp [*, errW_none, errW_some] <;> rfl), by repeat (first | (with_reducible first | exact HB.out | apply below_alloc | apply pw_below_drewN | apply below_drew1 | refine below_set ?_ GE101.out | refine below_set ?_ GE102.out | refine below_set ?_ GE103.out) | exact HB.out)⟩
     · replace c18 := Bool.eq_false_iff.mpr c18
       subst c18
       have H1 : (if a1 < a0_0 then (some (0, 0, 0, false, 0, 11)) else (if a2 < a1 then (some (0, 0, 0, false, 0, 11)) else ((num_MulDivUp.f kj6 (wrap64 ((wrap64 (a2 - a1)) + 1)) 1000000 (wrap64 (1000000 - a0_4))).bind fun bt107 => ((bound_Of_api_Tick.f kj6 0 bt107.1).bind fun bt109 => ((bound_Add_api_Tick.f kj6 a3_0 a3_1 a3_2 bt109.1 bt109.2.1 bt109.2.2).bind fun bt112 => ((clock_Uniform.f kj6 a0_0 a0_1 a0_2 a0_3 a0_4 a2).bind fun bt116 => ((bound_Meet_api_Tick.f kj6 bt112.1 bt112.2.1 bt112.2.2 bt116.1 bt116.2.1 bt116.2.2).bind fun bt119 => (if bt119.2.2.2 = true then ((clock_Check.f kj6 a2 bt119.1 bt119.2.1 bt119.2.2.1 a0_4).bind fun t125 => (if t125 = 0 then (some (a2, bt119.1, bt119.2.1, bt119.2.2.1, a0_4, 0)) else (some (0, 0, 0, false, 0, t125)))) else (some (0, 0, 0, false, 0, 15)))))))))) = some (r1, r2, r3, r4, r5, r6) := by rw [if_neg (show ¬ (false = true) by decide)] at H; exact H
       clear H
       have H := H1
       clear H1
       by_cases c22 : a1 < a0_0
       · rw [if_pos c22] at H
         have c22b0 : decide (a1 < a0_0) = true := decide_eq_true c22
         clear c22
         simp only [Option.some.injEq, Prod.mk.injEq] at H
         obtain ⟨rfl, rfl, rfl, rfl, rfl, rfl⟩ := H
         have hnb23 := NB101_102.out
         have hnc23 := NB102_101.out
         have hnb24 := NB101_103.out
         have hnc24 := NB103_101.out
         have hcz25_0 : wc.cell? ⟨gb101, 0, none⟩ = some (.int .i64 a0_0) := (blk_cell BK101.out 0).trans rfl
         have hcz25_1 : wc.cell? ⟨gb101, 1, none⟩ = some (.int .i64 a0_1) := (blk_cell BK101.out 1).trans rfl
         have hcz25_2 : wc.cell? ⟨gb101, 2, none⟩ = some (.int .i64 a0_2) := (blk_cell BK101.out 2).trans rfl
         have hcz25_3 : wc.cell? ⟨gb101, 3, none⟩ = some (.bool a0_3) := (blk_cell BK101.out 3).trans rfl
         have hcz25_4 : wc.cell? ⟨gb101, 4, none⟩ = some (.int .i64 a0_4) := (blk_cell BK101.out 4).trans rfl
         have hfz25_0 := blk_frozen BK101.out 0
         have hfz25_1 := blk_frozen BK101.out 1
         have hfz25_2 := blk_frozen BK101.out 2
         have hfz25_3 := blk_frozen BK101.out 3
         have hfz25_4 := blk_frozen BK101.out 4
         have hnb26 := NB103_102.out
         have hnc26 := NB102_103.out
         have hcz27_0 : wc.cell? ⟨gb103, 0, none⟩ = some (.int .i64 0) := (blk_cell BK103.out 0).trans rfl
         have hcz27_1 : wc.cell? ⟨gb103, 1, none⟩ = some (.int .i64 0) := (blk_cell BK103.out 1).trans rfl
         have hcz27_2 : wc.cell? ⟨gb103, 2, none⟩ = some (.int .i64 0) := (blk_cell BK103.out 2).trans rfl
         have hcz27_3 : wc.cell? ⟨gb103, 3, none⟩ = some (.bool false) := (blk_cell BK103.out 3).trans rfl
         have hcz27_4 : wc.cell? ⟨gb103, 4, none⟩ = some (.int .i64 0) := (blk_cell BK103.out 4).trans rfl
         have hfz27_0 := blk_frozen BK103.out 0
         have hfz27_1 := blk_frozen BK103.out 1
         have hfz27_2 := blk_frozen BK103.out 2
         have hfz27_3 := blk_frozen BK103.out 3
         have hfz27_4 := blk_frozen BK103.out 4
         go_wp2
         refine bodyPost_ret (results_ct rfl _ _ gb103 33 #[.int .i64 0, .int .i64 0, .int .i64 0, .bool false, .int .i64 0] (0, 0) _ rfl (by (with_reducible repeat apply blk_drewN); refine blk_put (cs := #[.int .i64 0, .int .i64 0, .int .i64 0, .bool false, .int .i64 0]) ?_ 4 _ rfl; (with_reducible repeat apply blk_drewN); refine blk_put (cs := #[.int .i64 0, .int .i64 0, .int .i64 0, .bool false, .int .i64 0]) ?_ 3 _ rfl; (with_reducible repeat apply blk_drewN); refine blk_put (cs := #[.int .i64 0, .int .i64 0, .int .i64 0, .bool false, .int .i64 0]) ?_ 2 _ rfl; (with_reducible repeat apply blk_drewN); refine blk_put (cs := #[.int .i64 0, .int .i64 0, .int .i64 0, .bool false, .int .i64 0]) ?_ 1 _ rfl; (with_reducible repeat apply blk_drewN); refine blk_put (cs := #[.int .i64 0, .int .i64 0, .int .i64 0, .bool false, .int .i64 0]) ?_ 0 _ rfl; (with_reducible repeat apply blk_drewN); exact BK103.out) Try.underlying33 rfl (by kernel_rfl)) rfl ?_
         exact ⟨by first | rfl | (simp [errW_none, errW_some] <;> rfl) | (simp [*, errW_none, errW_some] <;> rfl), by repeat (first | (with_reducible first | exact HB.out | apply below_alloc | apply pw_below_drewN | apply below_drew1 | refine below_set ?_ GE101.out | refine below_set ?_ GE102.out | refine below_set ?_ GE103.out) | exact HB.out)⟩
       · rw [if_neg c22] at H
         have c22b0 : decide (a1 < a0_0) = false := decide_eq_false c22
         clear c22
         by_cases c28 : a2 < a1
         · rw [if_pos c28] at H
           have c28b0 : decide (a2 < a1) = true := decide_eq_true c28
           clear c28
           simp only [Option.some.injEq, Prod.mk.injEq] at H
           obtain ⟨rfl, rfl, rfl, rfl, rfl, rfl⟩ := H
           have hnb29 := NB101_102.out
           have hnc29 := NB102_101.out
           have hnb30 := NB101_103.out
           have hnc30 := NB103_101.out
           have hcz31_0 : wc.cell? ⟨gb101, 0, none⟩ = some (.int .i64 a0_0) := (blk_cell BK101.out 0).trans rfl
           have hcz31_1 : wc.cell? ⟨gb101, 1, none⟩ = some (.int .i64 a0_1) := (blk_cell BK101.out 1).trans rfl
           have hcz31_2 : wc.cell? ⟨gb101, 2, none⟩ = some (.int .i64 a0_2) := (blk_cell BK101.out 2).trans rfl
           have hcz31_3 : wc.cell? ⟨gb101, 3, none⟩ = some (.bool a0_3) := (blk_cell BK101.out 3).trans rfl
           have hcz31_4 : wc.cell? ⟨gb101, 4, none⟩ = some (.int .i64 a0_4) := (blk_cell BK101.out 4).trans rfl
           have hfz31_0 := blk_frozen BK101.out 0
           have hfz31_1 := blk_frozen BK101.out 1
           have hfz31_2 := blk_frozen BK101.out 2
           have hfz31_3 := blk_frozen BK101.out 3
           have hfz31_4 := blk_frozen BK101.out 4
           have hnb32 := NB103_102.out
           have hnc32 := NB102_103.out
           have hcz33_0 : wc.cell? ⟨gb103, 0, none⟩ = some (.int .i64 0) := (blk_cell BK103.out 0).trans rfl
           have hcz33_1 : wc.cell? ⟨gb103, 1, none⟩ = some (.int .i64 0) := (blk_cell BK103.out 1).trans rfl
           have hcz33_2 : wc.cell? ⟨gb103, 2, none⟩ = some (.int .i64 0) := (blk_cell BK103.out 2).trans rfl
           have hcz33_3 : wc.cell? ⟨gb103, 3, none⟩ = some (.bool false) := (blk_cell BK103.out 3).trans rfl
           have hcz33_4 : wc.cell? ⟨gb103, 4, none⟩ = some (.int .i64 0) := (blk_cell BK103.out 4).trans rfl
           have hfz33_0 := blk_frozen BK103.out 0
           have hfz33_1 := blk_frozen BK103.out 1
           have hfz33_2 := blk_frozen BK103.out 2
           have hfz33_3 := blk_frozen BK103.out 3
           have hfz33_4 := blk_frozen BK103.out 4
           go_wp2
           refine bodyPost_ret (results_ct rfl _ _ gb103 33 #[.int .i64 0, .int .i64 0, .int .i64 0, .bool false, .int .i64 0] (0, 0) _ rfl (by (with_reducible repeat apply blk_drewN); refine blk_put (cs := #[.int .i64 0, .int .i64 0, .int .i64 0, .bool false, .int .i64 0]) ?_ 4 _ rfl; (with_reducible repeat apply blk_drewN); refine blk_put (cs := #[.int .i64 0, .int .i64 0, .int .i64 0, .bool false, .int .i64 0]) ?_ 3 _ rfl; (with_reducible repeat apply blk_drewN); refine blk_put (cs := #[.int .i64 0, .int .i64 0, .int .i64 0, .bool false, .int .i64 0]) ?_ 2 _ rfl; (with_reducible repeat apply blk_drewN); refine blk_put (cs := #[.int .i64 0, .int .i64 0, .int .i64 0, .bool false, .int .i64 0]) ?_ 1 _ rfl; (with_reducible repeat apply blk_drewN); refine blk_put (cs := #[.int .i64 0, .int .i64 0, .int .i64 0, .bool false, .int .i64 0]) ?_ 0 _ rfl; (with_reducible repeat apply blk_drewN); exact BK103.out) Try.underlying33 rfl (by kernel_rfl)) rfl ?_
           exact ⟨by first | rfl | (simp [errW_none, errW_some] <;> rfl) | (simp [*, errW_none, errW_some] <;> rfl), by repeat (first | (with_reducible first | exact HB.out | apply below_alloc | apply pw_below_drewN | apply below_drew1 | refine below_set ?_ GE101.out | refine below_set ?_ GE102.out | refine below_set ?_ GE103.out) | exact HB.out)⟩
         · rw [if_neg c28] at H
           have c28b0 : decide (a2 < a1) = false := decide_eq_false c28
           clear c28
           replace H := Option.bind_eq_some_iff.mp H
           obtain ⟨⟨t107, t108⟩, A340, H⟩ := H
           replace H : ((bound_Of_api_Tick.f kj6 0 t107).bind fun bt109 => ((bound_Add_api_Tick.f kj6 a3_0 a3_1 a3_2 bt109.1 bt109.2.1 bt109.2.2).bind fun bt112 => ((clock_Uniform.f kj6 a0_0 a0_1 a0_2 a0_3 a0_4 a2).bind fun bt116 => ((bound_Meet_api_Tick.f kj6 bt112.1 bt112.2.1 bt112.2.2 bt116.1 bt116.2.1 bt116.2.2).bind fun bt119 => (if bt119.2.2.2 = true then ((clock_Check.f kj6 a2 bt119.1 bt119.2.1 bt119.2.2.1 a0_4).bind fun t125 => (if t125 = 0 then (some (a2, bt119.1, bt119.2.1, bt119.2.2.1, a0_4, 0)) else (some (0, 0, 0, false, 0, t125)))) else (some (0, 0, 0, false, 0, 15))))))) = some (r1, r2, r3, r4, r5, r6) := H
           have A34 := Aside0.mk A340
           clear A340
           replace H := Option.bind_eq_some_iff.mp H
           obtain ⟨⟨t109, t110, t111⟩, A350, H⟩ := H
           replace H : ((bound_Add_api_Tick.f kj6 a3_0 a3_1 a3_2 t109 t110 t111).bind fun bt112 => ((clock_Uniform.f kj6 a0_0 a0_1 a0_2 a0_3 a0_4 a2).bind fun bt116 => ((bound_Meet_api_Tick.f kj6 bt112.1 bt112.2.1 bt112.2.2 bt116.1 bt116.2.1 bt116.2.2).bind fun bt119 => (if bt119.2.2.2 = true then ((clock_Check.f kj6 a2 bt119.1 bt119.2.1 bt119.2.2.1 a0_4).bind fun t125 => (if t125 = 0 then (some (a2, bt119.1, bt119.2.1, bt119.2.2.1, a0_4, 0)) else (some (0, 0, 0, false, 0, t125)))) else (some (0, 0, 0, false, 0, 15)))))) = some (r1, r2, r3, r4, r5, r6) := H
           have A35 := Aside0.mk A350
           clear A350
           replace H := Option.bind_eq_some_iff.mp H
           obtain ⟨⟨t112, t113, t114⟩, A360, H⟩ := H
           replace H : ((clock_Uniform.f kj6 a0_0 a0_1 a0_2 a0_3 a0_4 a2).bind fun bt116 => ((bound_Meet_api_Tick.f kj6 t112 t113 t114 bt116.1 bt116.2.1 bt116.2.2).bind fun bt119 => (if bt119.2.2.2 = true then ((clock_Check.f kj6 a2 bt119.1 bt119.2.1 bt119.2.2.1 a0_4).bind fun t125 => (if t125 = 0 then (some (a2, bt119.1, bt119.2.1, bt119.2.2.1, a0_4, 0)) else (some (0, 0, 0, false, 0, t125)))) else (some (0, 0, 0, false, 0, 15))))) = some (r1, r2, r3, r4, r5, r6) := H
           have A36 := Aside0.mk A360
           clear A360
           replace H := Option.bind_eq_some_iff.mp H
           obtain ⟨⟨t116, t117, t118⟩, A370, H⟩ := H
           replace H : ((bound_Meet_api_Tick.f kj6 t112 t113 t114 t116 t117 t118).bind fun bt119 => (if bt119.2.2.2 = true then ((clock_Check.f kj6 a2 bt119.1 bt119.2.1 bt119.2.2.1 a0_4).bind fun t125 => (if t125 = 0 then (some (a2, bt119.1, bt119.2.1, bt119.2.2.1, a0_4, 0)) else (some (0, 0, 0, false, 0, t125)))) else (some (0, 0, 0, false, 0, 15)))) = some (r1, r2, r3, r4, r5, r6) := H
           have A37 := Aside0.mk A370
           clear A370
           replace H := Option.bind_eq_some_iff.mp H
           obtain ⟨⟨t119, t120, t121, t122⟩, A380, H⟩ := H
           replace H : (if t122 = true then ((clock_Check.f kj6 a2 t119 t120 t121 a0_4).bind fun t125 => (if t125 = 0 then (some (a2, t119, t120, t121, a0_4, 0)) else (some (0, 0, 0, false, 0, t125)))) else (some (0, 0, 0, false, 0, 15))) = some (r1, r2, r3, r4, r5, r6) := H
           have A38 := Aside0.mk A380
           clear A380
           by_cases c39 : t122 = true
           · subst c39
             have H1 : ((clock_Check.f kj6 a2 t119 t120 t121 a0_4).bind fun t125 => (if t125 = 0 then (some (a2, t119, t120, t121, a0_4, 0)) else (some (0, 0, 0, false, 0, t125)))) = some (r1, r2, r3, r4, r5, r6) := by rw [if_pos rfl] at H; exact H
             clear H
             have H := H1
             clear H1
             replace H := Option.bind_eq_some_iff.mp H
             obtain ⟨t125, A400, H⟩ := H
             replace H : (if t125 = 0 then (some (a2, t119, t120, t121, a0_4, 0)) else (some (0, 0, 0, false, 0, t125))) = some (r1, r2, r3, r4, r5, r6) := H
             have A40 := Aside0.mk A400
             clear A400
             by_cases c41 : t125 = 0
             · rw [if_pos c41] at H
               have c41b0 : (t125 == 0) = true := beq_iff_eq.mpr c41
               have c41b1 : (t125 != 0) = false := bne_eq_false_iff_eq.mpr c41
               clear c41
               simp only [Option.some.injEq, Prod.mk.injEq] at H
               obtain ⟨rfl, rfl, rfl, rfl, rfl, rfl⟩ := H
               have hnb42 := NB101_102.out
               have hnc42 := NB102_101.out
               have hnb43 := NB101_103.out
               have hnc43 := NB103_101.out
               have hcz44_0 : wc.cell? ⟨gb101, 0, none⟩ = some (.int .i64 a0_0) := (blk_cell BK101.out 0).trans rfl
               have hcz44_1 : wc.cell? ⟨gb101, 1, none⟩ = some (.int .i64 a0_1) := (blk_cell BK101.out 1).trans rfl
               have hcz44_2 : wc.cell? ⟨gb101, 2, none⟩ = some (.int .i64 a0_2) := (blk_cell BK101.out 2).trans rfl
               have hcz44_3 : wc.cell? ⟨gb101, 3, none⟩ = some (.bool a0_3) := (blk_cell BK101.out 3).trans rfl
               have hcz44_4 : wc.cell? ⟨gb101, 4, none⟩ = some (.int .i64 a0_4) := (blk_cell BK101.out 4).trans rfl
               have hfz44_0 := blk_frozen BK101.out 0
               have hfz44_1 := blk_frozen BK101.out 1
               have hfz44_2 := blk_frozen BK101.out 2
               have hfz44_3 := blk_frozen BK101.out 3
               have hfz44_4 := blk_frozen BK101.out 4
               try go_wp2_with (first | ((with_reducible refine gate_callee (f := 84) rfl ?_); refine goesL_ (some 53) rfl rfl Try.func84 (by kernel_rfl) rfl #[.int .i64 (wrap64 ((wrap64 (a2 - a1)) + 1)), .int .i64 1000000, .int .i64 (wrap64 (1000000 - a0_4))] rfl (by (try simp only [List.map_toArray, List.map_cons, List.map_nil]); first | done | rfl | (simp only [List.length_drop, List.length_take]; rfl)) ?_; (with_reducible refine (num_MulDivUp.calls kj6 (wrap64 ((wrap64 (a2 - a1)) + 1)) 1000000 (wrap64 (1000000 - a0_4)) t107 t108 _ A34.out).mono ?_); rintro e w45 ⟨rfl, hb⟩; refine ⟨_, rfl, ?_⟩; have n0_ := bkb_ BK101 hb rfl; have n1_ := bkb_ BK102 hb rfl; have n2_ := bkb_ BK103 hb rfl; have n3_ := hbs_ HB hb rfl rfl rfl rfl; clear BK101; clear BK102; clear BK103; clear HB; have BK101 := n0_; have BK102 := n1_; have BK103 := n2_; have HB := n3_; clear n0_ n1_ n2_ n3_; (try clear hb); (try clear hb2); (try clear hk); (try clear hi)))
               have n0_ := Aside0.mk (blk_drew BK101.out)
               have n1_ := Aside0.mk (blk_drew BK102.out)
               have n2_ := Aside0.mk (blk_drew BK103.out)
               have n3_ := Aside0.mk (below_drew1 HB.out)
               clear BK101
               clear BK102
               clear BK103
               clear HB
               have BK101 := n0_
               have BK102 := n1_
               have BK103 := n2_
               have HB := n3_
               clear n0_ n1_ n2_ n3_
               refine start_ (n := 6) (S := fun w' => w'.cell? ⟨gb102, 0, none⟩ = some (.int .i64 a3_0) ∧ w'.cell? ⟨gb102, 1, none⟩ = some (.int .i64 a3_1) ∧ w'.cell? ⟨gb102, 2, none⟩ = some (.bool a3_2)) (ds := []) #[false, false, false, false, false, false] (by kernel_rfl) rfl rfl ⟨(blk_cell BK102.out 0).trans rfl, (blk_cell BK102.out 1).trans rfl, (blk_cell BK102.out 2).trans rfl⟩ (fun hHeld => ?_)
               generalize w45.drew = w46 at BK101 BK102 BK103 HB hHeld ⊢
               refine pure_ (i := 1) (N := some 57) (v := ?_) (a' := ?_) #[false, true, false, false, false, false] rfl rfl (by kernel_rfl) (fun _ _ _ h => h) (Or.inl ⟨by rfl, ?_⟩) ?_ ?_
               rotate_left
               · intro w'
                 go_simp
                 with_reducible rfl
               rotate_left
               · simp only [Act.put, List.setIfInBounds_toArray, List.set_cons_zero, List.set_cons_succ, i64_w, i32_w]
                 rfl
               refine take_ (i := 0) (N := some 56) (v := ?_) (a' := ?_) #[true, true, false, false, false, false] rfl rfl (by kernel_rfl) (fun _ _ _ h => h) (Or.inl ⟨by rfl, ?_⟩) hHeld ?_ ?_
               rotate_left
               · rintro w' ⟨s0, s1, s2⟩
                 go_simp
                 with_reducible rfl
               rotate_left
               · simp only [Act.put, List.setIfInBounds_toArray, List.set_cons_zero, List.set_cons_succ, i64_w, i32_w]
                 rfl
               refine join_ (σ := Nat) 1 #[true, true, true, true, true, false] (fun s_ => [(58, .agg #[.int .i64 t109, .int .i64 t110, .bool t111]), (59, .agg #[.int .i64 t112, .int .i64 t113, .bool t114]), (13, .pointer (some ⟨s_, 0, none⟩))]) (fun s_ w' => (w'.cell? ⟨gb102, 0, none⟩ = some (.int .i64 a3_0) ∧ w'.cell? ⟨gb102, 1, none⟩ = some (.int .i64 a3_1) ∧ w'.cell? ⟨gb102, 2, none⟩ = some (.bool a3_2)) ∧ (w'.heap[gb101]? = some (.cells #[.int .i64 a0_0, .int .i64 a0_1, .int .i64 a0_2, .bool a0_3, .int .i64 a0_4] 33 (0, 0))) ∧ (w'.heap[gb102]? = some (.cells #[.int .i64 a3_0, .int .i64 a3_1, .bool a3_2] 31 (0, 0))) ∧ (w'.heap[gb103]? = some (.cells #[.int .i64 0, .int .i64 0, .int .i64 0, .bool false, .int .i64 0] 33 (0, 0))) ∧ (w'.heap[s_]? = some (.cells #[.int .i64 0, .int .i64 0, .bool false] 31 (0, 0))) ∧ (w.heap.size ≤ s_) ∧ (w.heap.size ≤ s_) ∧ (gb101 ≠ s_) ∧ (s_ ≠ gb101) ∧ (gb102 ≠ s_) ∧ (s_ ≠ gb102) ∧ (gb103 ≠ s_) ∧ (s_ ≠ gb103) ∧ (Below w.heap.size w w')) ?_ ?_
               rotate_left
               · intro hCont
                 refine two_ (i := 2) (j := 4) (Ni := some 58) (Nj := some 13) #[true, true, true, false, false, false] #[true, true, false, false, true, false] rfl rfl rfl rfl (by kernel_rfl) (by decide) (by decide) (fun K hK => ?_) (fun K hK => ?_)
                 · skip
                   refine goes_ Try.func86 (by kernel_rfl) rfl #[.int .i64 0, .int .i64 t107] (by rfl) rfl rfl (by (try simp only [List.map_toArray, List.map_cons, List.map_nil]); first | done | rfl | (simp only [List.length_drop, List.length_take]; rfl)) ?_
                   with_reducible refine (bound_Of_api_Tick.calls kj6 0 t107 t109 t110 t111 _ A35.out).mono ?_
                   rintro e w47 ⟨rfl, hb⟩
                   refine ⟨_, rfl, ?_⟩
                   have n0_ := bkb_ BK101 hb rfl
                   have n1_ := bkb_ BK102 hb rfl
                   have n2_ := bkb_ BK103 hb rfl
                   have n3_ := hbs_ HB hb rfl rfl rfl rfl
                   clear BK101
                   clear BK102
                   clear BK103
                   clear HB
                   have BK101 := n0_
                   have BK102 := n1_
                   have BK103 := n2_
                   have HB := n3_
                   clear n0_ n1_ n2_ n3_
                   (try clear hb)
                   (try clear hb2)
                   (try clear hk)
                   (try clear hi)
                   refine hK.out _ _ ⟨(blk_cell BK102.out 0).trans rfl, (blk_cell BK102.out 1).trans rfl, (blk_cell BK102.out 2).trans rfl⟩ (fun hHeld => ?_)
                   clear hK K
                   refine norm_ (a' := ?_) ?_ ?_
                   rotate_left
                   · show Act.put _ (some 58) _ = _
                     simp only [Act.put, List.setIfInBounds_toArray, List.set_cons_zero, List.set_cons_succ, i64_w, i32_w]
                     rfl
                   refine two_ (i := 3) (j := 4) (Ni := some 59) (Nj := some 13) #[true, true, true, true, false, false] #[true, true, true, false, true, false] rfl rfl rfl rfl (by kernel_rfl) (by decide) (by decide) (fun K hK => ?_) (fun K hK => ?_)
                   · skip
                     refine goes_ Try.func85 (by kernel_rfl) rfl #[.agg #[.int .i64 a3_0, .int .i64 a3_1, .bool a3_2], .agg #[.int .i64 t109, .int .i64 t110, .bool t111]] (by rfl) rfl rfl (by (try simp only [List.map_toArray, List.map_cons, List.map_nil]); first | done | rfl | (simp only [List.length_drop, List.length_take]; rfl)) ?_
                     with_reducible refine (bound_Add_api_Tick.calls kj6 a3_0 a3_1 a3_2 t109 t110 t111 t112 t113 t114 _ A36.out).mono ?_
                     rintro e w48 ⟨rfl, hb⟩
                     refine ⟨_, rfl, ?_⟩
                     have n0_ := bkb_ BK101 hb rfl
                     have n1_ := bkb_ BK102 hb rfl
                     have n2_ := bkb_ BK103 hb rfl
                     have n3_ := hbs_ HB hb rfl rfl rfl rfl
                     clear BK101
                     clear BK102
                     clear BK103
                     clear HB
                     have BK101 := n0_
                     have BK102 := n1_
                     have BK103 := n2_
                     have HB := n3_
                     clear n0_ n1_ n2_ n3_
                     (try clear hb)
                     (try clear hb2)
                     (try clear hk)
                     (try clear hi)
                     refine hK.out _ _ ⟨(blk_cell BK102.out 0).trans rfl, (blk_cell BK102.out 1).trans rfl, (blk_cell BK102.out 2).trans rfl⟩ (fun hHeld => ?_)
                     clear hK K
                     refine norm_ (a' := ?_) ?_ ?_
                     rotate_left
                     · show Act.put _ (some 59) _ = _
                       simp only [Act.put, List.setIfInBounds_toArray, List.set_cons_zero, List.set_cons_succ, i64_w, i32_w]
                       rfl
                     refine one_ (i := 4) (N := some 13) #[true, true, true, true, true, false] rfl rfl (by kernel_rfl) (by decide) (fun K hK => ?_)
                     refine box_step ?hg (N := 13) ?hd (cs := #[.int .i64 0, .int .i64 0, .bool false]) (t := 31) ?hr ?_; (case hd => rfl); (case hg => rfl); (case hr => first | (go_simp; done) | (go_simp; rfl))
                     intro gb115 hg w49 hbox hb
                     have n0_ := bkb_ BK101 hb rfl
                     have n1_ := bkb_ BK102 hb rfl
                     have n2_ := bkb_ BK103 hb rfl
                     have n3_ := hbs_ HB hb rfl rfl rfl rfl
                     have n4_ := Aside0.mk (hbox)
                     have n5_ := Aside0.mk ((by rw [hg]; exact (below_size (by repeat (first | (with_reducible first | exact HB.out | apply below_alloc | apply pw_below_drewN | apply below_drew1 | refine below_set ?_ GE101.out | refine below_set ?_ GE102.out | refine below_set ?_ GE103.out) | exact HB.out))) : w.heap.size ≤ gb115))
                     have n6_ := n5_
                     have n7_ := nbl_ BK101 hg rfl
                     have n8_ := nbg_ BK101 hg rfl
                     have n9_ := nbl_ BK102 hg rfl
                     have n10_ := nbg_ BK102 hg rfl
                     have n11_ := nbl_ BK103 hg rfl
                     have n12_ := nbg_ BK103 hg rfl
                     clear BK101
                     clear BK102
                     clear BK103
                     clear HB
                     have BK101 := n0_
                     have BK102 := n1_
                     have BK103 := n2_
                     have HB := n3_
                     have BK115 := n4_
                     have GW115 := n5_
                     have GE115 := n6_
                     have NB101_115 := n7_
                     have NB115_101 := n8_
                     have NB102_115 := n9_
                     have NB115_102 := n10_
                     have NB103_115 := n11_
                     have NB115_103 := n12_
                     clear n0_ n1_ n2_ n3_ n4_ n5_ n6_ n7_ n8_ n9_ n10_ n11_ n12_
                     clear hb hbox hg
                     refine hK.out _ _ ⟨(blk_cell BK102.out 0).trans rfl, (blk_cell BK102.out 1).trans rfl, (blk_cell BK102.out 2).trans rfl⟩ (fun hHeld => ?_)
                     clear hK K
                     refine norm_ (a' := ?_) ?_ ?_
                     rotate_left
                     · show Act.put _ (some 13) _ = _
                       simp only [Act.put, List.setIfInBounds_toArray, List.set_cons_zero, List.set_cons_succ, i64_w, i32_w]
                       rfl
                     exact norm_ (by simp only [putAll, Act.put, List.setIfInBounds_toArray, List.set_cons_zero, List.set_cons_succ]) (hCont (gb115) _ ⟨hHeld, BK101.out, BK102.out, BK103.out, BK115.out, GW115.out, GE115.out, NB101_115.out, NB115_101.out, NB102_115.out, NB115_102.out, NB103_115.out, NB115_103.out, (by repeat (first | (with_reducible first | exact HB.out | apply below_alloc | apply pw_below_drewN | apply below_drew1 | refine below_set ?_ GE101.out | refine below_set ?_ GE102.out | refine below_set ?_ GE103.out | refine below_set ?_ GE115.out) | exact HB.out))⟩)
                   · skip
                     refine box_step ?hg (N := 13) ?hd (cs := #[.int .i64 0, .int .i64 0, .bool false]) (t := 31) ?hr ?_; (case hd => rfl); (case hg => rfl); (case hr => first | (go_simp; done) | (go_simp; rfl))
                     intro gb115 hg w48 hbox hb
                     have n0_ := bkb_ BK101 hb rfl
                     have n1_ := bkb_ BK102 hb rfl
                     have n2_ := bkb_ BK103 hb rfl
                     have n3_ := hbs_ HB hb rfl rfl rfl rfl
                     have n4_ := Aside0.mk (hbox)
                     have n5_ := Aside0.mk ((by rw [hg]; exact (below_size (by repeat (first | (with_reducible first | exact HB.out | apply below_alloc | apply pw_below_drewN | apply below_drew1 | refine below_set ?_ GE101.out | refine below_set ?_ GE102.out | refine below_set ?_ GE103.out) | exact HB.out))) : w.heap.size ≤ gb115))
                     have n6_ := n5_
                     have n7_ := nbl_ BK101 hg rfl
                     have n8_ := nbg_ BK101 hg rfl
                     have n9_ := nbl_ BK102 hg rfl
                     have n10_ := nbg_ BK102 hg rfl
                     have n11_ := nbl_ BK103 hg rfl
                     have n12_ := nbg_ BK103 hg rfl
                     clear BK101
                     clear BK102
                     clear BK103
                     clear HB
                     have BK101 := n0_
                     have BK102 := n1_
                     have BK103 := n2_
                     have HB := n3_
                     have BK115 := n4_
                     have GW115 := n5_
                     have GE115 := n6_
                     have NB101_115 := n7_
                     have NB115_101 := n8_
                     have NB102_115 := n9_
                     have NB115_102 := n10_
                     have NB103_115 := n11_
                     have NB115_103 := n12_
                     clear n0_ n1_ n2_ n3_ n4_ n5_ n6_ n7_ n8_ n9_ n10_ n11_ n12_
                     clear hb hbox hg
                     refine hK.out _ _ ⟨(blk_cell BK102.out 0).trans rfl, (blk_cell BK102.out 1).trans rfl, (blk_cell BK102.out 2).trans rfl⟩ (fun hHeld => ?_)
                     clear hK K
                     refine norm_ (a' := ?_) ?_ ?_
                     rotate_left
                     · show Act.put _ (some 13) _ = _
                       simp only [Act.put, List.setIfInBounds_toArray, List.set_cons_zero, List.set_cons_succ, i64_w, i32_w]
                       rfl
                     refine one_ (i := 3) (N := some 59) #[true, true, true, true, true, false] rfl rfl (by kernel_rfl) (by decide) (fun K hK => ?_)
                     refine goes_ Try.func85 (by kernel_rfl) rfl #[.agg #[.int .i64 a3_0, .int .i64 a3_1, .bool a3_2], .agg #[.int .i64 t109, .int .i64 t110, .bool t111]] (by rfl) rfl rfl (by (try simp only [List.map_toArray, List.map_cons, List.map_nil]); first | done | rfl | (simp only [List.length_drop, List.length_take]; rfl)) ?_
                     with_reducible refine (bound_Add_api_Tick.calls kj6 a3_0 a3_1 a3_2 t109 t110 t111 t112 t113 t114 _ A36.out).mono ?_
                     rintro e w49 ⟨rfl, hb⟩
                     refine ⟨_, rfl, ?_⟩
                     have n0_ := bkb_ BK101 hb rfl
                     have n1_ := bkb_ BK102 hb rfl
                     have n2_ := bkb_ BK103 hb rfl
                     have n3_ := bkb_ BK115 hb rfl
                     have n4_ := hbs_ HB hb rfl rfl rfl rfl
                     clear BK101
                     clear BK102
                     clear BK103
                     clear BK115
                     clear HB
                     have BK101 := n0_
                     have BK102 := n1_
                     have BK103 := n2_
                     have BK115 := n3_
                     have HB := n4_
                     clear n0_ n1_ n2_ n3_ n4_
                     (try clear hb)
                     (try clear hb2)
                     (try clear hk)
                     (try clear hi)
                     refine hK.out _ _ ⟨(blk_cell BK102.out 0).trans rfl, (blk_cell BK102.out 1).trans rfl, (blk_cell BK102.out 2).trans rfl⟩ (fun hHeld => ?_)
                     clear hK K
                     refine norm_ (a' := ?_) ?_ ?_
                     rotate_left
                     · show Act.put _ (some 59) _ = _
                       simp only [Act.put, List.setIfInBounds_toArray, List.set_cons_zero, List.set_cons_succ, i64_w, i32_w]
                       rfl
                     exact norm_ (by simp only [putAll, Act.put, List.setIfInBounds_toArray, List.set_cons_zero, List.set_cons_succ]) (hCont (gb115) _ ⟨hHeld, BK101.out, BK102.out, BK103.out, BK115.out, GW115.out, GE115.out, NB101_115.out, NB115_101.out, NB102_115.out, NB115_102.out, NB103_115.out, NB115_103.out, (by repeat (first | (with_reducible first | exact HB.out | apply below_alloc | apply pw_below_drewN | apply below_drew1 | refine below_set ?_ GE101.out | refine below_set ?_ GE102.out | refine below_set ?_ GE103.out | refine below_set ?_ GE115.out) | exact HB.out))⟩)
                 · skip
                   refine box_step ?hg (N := 13) ?hd (cs := #[.int .i64 0, .int .i64 0, .bool false]) (t := 31) ?hr ?_; (case hd => rfl); (case hg => rfl); (case hr => first | (go_simp; done) | (go_simp; rfl))
                   intro gb115 hg w47 hbox hb
                   have n0_ := bkb_ BK101 hb rfl
                   have n1_ := bkb_ BK102 hb rfl
                   have n2_ := bkb_ BK103 hb rfl
                   have n3_ := hbs_ HB hb rfl rfl rfl rfl
                   have n4_ := Aside0.mk (hbox)
                   have n5_ := Aside0.mk ((by rw [hg]; exact (below_size (by repeat (first | (with_reducible first | exact HB.out | apply below_alloc | apply pw_below_drewN | apply below_drew1 | refine below_set ?_ GE101.out | refine below_set ?_ GE102.out | refine below_set ?_ GE103.out) | exact HB.out))) : w.heap.size ≤ gb115))
                   have n6_ := n5_
                   have n7_ := nbl_ BK101 hg rfl
                   have n8_ := nbg_ BK101 hg rfl
                   have n9_ := nbl_ BK102 hg rfl
                   have n10_ := nbg_ BK102 hg rfl
                   have n11_ := nbl_ BK103 hg rfl
                   have n12_ := nbg_ BK103 hg rfl
                   clear BK101
                   clear BK102
                   clear BK103
                   clear HB
                   have BK101 := n0_
                   have BK102 := n1_
                   have BK103 := n2_
                   have HB := n3_
                   have BK115 := n4_
                   have GW115 := n5_
                   have GE115 := n6_
                   have NB101_115 := n7_
                   have NB115_101 := n8_
                   have NB102_115 := n9_
                   have NB115_102 := n10_
                   have NB103_115 := n11_
                   have NB115_103 := n12_
                   clear n0_ n1_ n2_ n3_ n4_ n5_ n6_ n7_ n8_ n9_ n10_ n11_ n12_
                   clear hb hbox hg
                   refine hK.out _ _ ⟨(blk_cell BK102.out 0).trans rfl, (blk_cell BK102.out 1).trans rfl, (blk_cell BK102.out 2).trans rfl⟩ (fun hHeld => ?_)
                   clear hK K
                   refine norm_ (a' := ?_) ?_ ?_
                   rotate_left
                   · show Act.put _ (some 13) _ = _
                     simp only [Act.put, List.setIfInBounds_toArray, List.set_cons_zero, List.set_cons_succ, i64_w, i32_w]
                     rfl
                   refine one_ (i := 2) (N := some 58) #[true, true, true, false, true, false] rfl rfl (by kernel_rfl) (by decide) (fun K hK => ?_)
                   refine goes_ Try.func86 (by kernel_rfl) rfl #[.int .i64 0, .int .i64 t107] (by rfl) rfl rfl (by (try simp only [List.map_toArray, List.map_cons, List.map_nil]); first | done | rfl | (simp only [List.length_drop, List.length_take]; rfl)) ?_
                   with_reducible refine (bound_Of_api_Tick.calls kj6 0 t107 t109 t110 t111 _ A35.out).mono ?_
                   rintro e w48 ⟨rfl, hb⟩
                   refine ⟨_, rfl, ?_⟩
                   have n0_ := bkb_ BK101 hb rfl
                   have n1_ := bkb_ BK102 hb rfl
                   have n2_ := bkb_ BK103 hb rfl
                   have n3_ := bkb_ BK115 hb rfl
                   have n4_ := hbs_ HB hb rfl rfl rfl rfl
                   clear BK101
                   clear BK102
                   clear BK103
                   clear BK115
                   clear HB
                   have BK101 := n0_
                   have BK102 := n1_
                   have BK103 := n2_
                   have BK115 := n3_
                   have HB := n4_
                   clear n0_ n1_ n2_ n3_ n4_
                   (try clear hb)
                   (try clear hb2)
                   (try clear hk)
                   (try clear hi)
                   refine hK.out _ _ ⟨(blk_cell BK102.out 0).trans rfl, (blk_cell BK102.out 1).trans rfl, (blk_cell BK102.out 2).trans rfl⟩ (fun hHeld => ?_)
                   clear hK K
                   refine norm_ (a' := ?_) ?_ ?_
                   rotate_left
                   · show Act.put _ (some 58) _ = _
                     simp only [Act.put, List.setIfInBounds_toArray, List.set_cons_zero, List.set_cons_succ, i64_w, i32_w]
                     rfl
                   refine one_ (i := 3) (N := some 59) #[true, true, true, true, true, false] rfl rfl (by kernel_rfl) (by decide) (fun K hK => ?_)
                   refine goes_ Try.func85 (by kernel_rfl) rfl #[.agg #[.int .i64 a3_0, .int .i64 a3_1, .bool a3_2], .agg #[.int .i64 t109, .int .i64 t110, .bool t111]] (by rfl) rfl rfl (by (try simp only [List.map_toArray, List.map_cons, List.map_nil]); first | done | rfl | (simp only [List.length_drop, List.length_take]; rfl)) ?_
                   with_reducible refine (bound_Add_api_Tick.calls kj6 a3_0 a3_1 a3_2 t109 t110 t111 t112 t113 t114 _ A36.out).mono ?_
                   rintro e w49 ⟨rfl, hb⟩
                   refine ⟨_, rfl, ?_⟩
                   have n0_ := bkb_ BK101 hb rfl
                   have n1_ := bkb_ BK102 hb rfl
                   have n2_ := bkb_ BK103 hb rfl
                   have n3_ := bkb_ BK115 hb rfl
                   have n4_ := hbs_ HB hb rfl rfl rfl rfl
                   clear BK101
                   clear BK102
                   clear BK103
                   clear BK115
                   clear HB
                   have BK101 := n0_
                   have BK102 := n1_
                   have BK103 := n2_
                   have BK115 := n3_
                   have HB := n4_
                   clear n0_ n1_ n2_ n3_ n4_
                   (try clear hb)
                   (try clear hb2)
                   (try clear hk)
                   (try clear hi)
                   refine hK.out _ _ ⟨(blk_cell BK102.out 0).trans rfl, (blk_cell BK102.out 1).trans rfl, (blk_cell BK102.out 2).trans rfl⟩ (fun hHeld => ?_)
                   clear hK K
                   refine norm_ (a' := ?_) ?_ ?_
                   rotate_left
                   · show Act.put _ (some 59) _ = _
                     simp only [Act.put, List.setIfInBounds_toArray, List.set_cons_zero, List.set_cons_succ, i64_w, i32_w]
                     rfl
                   exact norm_ (by simp only [putAll, Act.put, List.setIfInBounds_toArray, List.set_cons_zero, List.set_cons_succ]) (hCont (gb115) _ ⟨hHeld, BK101.out, BK102.out, BK103.out, BK115.out, GW115.out, GE115.out, NB101_115.out, NB115_101.out, NB102_115.out, NB115_102.out, NB103_115.out, NB115_103.out, (by repeat (first | (with_reducible first | exact HB.out | apply below_alloc | apply pw_below_drewN | apply below_drew1 | refine below_set ?_ GE101.out | refine below_set ?_ GE102.out | refine below_set ?_ GE103.out | refine below_set ?_ GE115.out) | exact HB.out))⟩)
               rintro gb115 w50 ⟨hS_, h0_, h1_, h2_, h3_, h4_, h5_, h6_, h7_, h8_, h9_, h10_, h11_, h12_⟩
               have n0_ : Aside0 (w50.heap[gb101]? = some (.cells #[.int .i64 a0_0, .int .i64 a0_1, .int .i64 a0_2, .bool a0_3, .int .i64 a0_4] 33 (0, 0))) := ⟨h0_⟩
               have n1_ : Aside0 (w50.heap[gb102]? = some (.cells #[.int .i64 a3_0, .int .i64 a3_1, .bool a3_2] 31 (0, 0))) := ⟨h1_⟩
               have n2_ : Aside0 (w50.heap[gb103]? = some (.cells #[.int .i64 0, .int .i64 0, .int .i64 0, .bool false, .int .i64 0] 33 (0, 0))) := ⟨h2_⟩
               have n3_ : Aside0 (w50.heap[gb115]? = some (.cells #[.int .i64 0, .int .i64 0, .bool false] 31 (0, 0))) := ⟨h3_⟩
               have n4_ : Aside0 (w.heap.size ≤ gb115) := ⟨h4_⟩
               have n5_ : Aside0 (w.heap.size ≤ gb115) := ⟨h5_⟩
               have n6_ : Aside0 (gb101 ≠ gb115) := ⟨h6_⟩
               have n7_ : Aside0 (gb115 ≠ gb101) := ⟨h7_⟩
               have n8_ : Aside0 (gb102 ≠ gb115) := ⟨h8_⟩
               have n9_ : Aside0 (gb115 ≠ gb102) := ⟨h9_⟩
               have n10_ : Aside0 (gb103 ≠ gb115) := ⟨h10_⟩
               have n11_ : Aside0 (gb115 ≠ gb103) := ⟨h11_⟩
               have n12_ : Aside0 (Below w.heap.size w w50) := ⟨h12_⟩
               clear BK101
               clear BK102
               clear BK103
               clear HB
               clear h0_ h1_ h2_ h3_ h4_ h5_ h6_ h7_ h8_ h9_ h10_ h11_ h12_
               have BK101 := n0_
               have BK102 := n1_
               have BK103 := n2_
               have BK115 := n3_
               have GW115 := n4_
               have GE115 := n5_
               have NB101_115 := n6_
               have NB115_101 := n7_
               have NB102_115 := n8_
               have NB115_102 := n9_
               have NB103_115 := n10_
               have NB115_103 := n11_
               have HB := n12_
               clear n0_ n1_ n2_ n3_ n4_ n5_ n6_ n7_ n8_ n9_ n10_ n11_ n12_
               have hHeld : w50.cell? ⟨gb102, 0, none⟩ = some (.int .i64 a3_0) ∧ w50.cell? ⟨gb102, 1, none⟩ = some (.int .i64 a3_1) ∧ w50.cell? ⟨gb102, 2, none⟩ = some (.bool a3_2) := hS_
               refine norm_ (a' := ?_) ?_ ?_
               rotate_left
               · simp only [putAll, Act.put, List.setIfInBounds_toArray, List.set_cons_zero, List.set_cons_succ]
                 rfl
               refine one_ (i := 5) (N := none) #[true, true, true, true, true, true] rfl rfl (by kernel_rfl) (by decide) (fun K hK => ?_)
               have hs51 : w50.cell? ⟨gb115, 0, none⟩ = some (.int .i64 0) := (blk_cell BK115.out 0).trans rfl
               have hfs51 := blk_frozen BK115.out 0
               have hns51_0 := NB101_115.out
               have hns51_1 := NB102_115.out
               have hns51_2 := NB103_115.out
               have hms51_0 := NB115_101.out
               have hms51_1 := NB115_102.out
               have hms51_2 := NB115_103.out
               have hs52 : w50.cell? ⟨gb115, 1, none⟩ = some (.int .i64 0) := (blk_cell BK115.out 1).trans rfl
               have hfs52 := blk_frozen BK115.out 1
               have hns52_0 := NB101_115.out
               have hns52_1 := NB102_115.out
               have hns52_2 := NB103_115.out
               have hms52_0 := NB115_101.out
               have hms52_1 := NB115_102.out
               have hms52_2 := NB115_103.out
               have hs53 : w50.cell? ⟨gb115, 2, none⟩ = some (.bool false) := (blk_cell BK115.out 2).trans rfl
               have hfs53 := blk_frozen BK115.out 2
               have hns53_0 := NB101_115.out
               have hns53_1 := NB102_115.out
               have hns53_2 := NB103_115.out
               have hms53_0 := NB115_101.out
               have hms53_1 := NB115_102.out
               have hms53_2 := NB115_103.out
               refine skip_ (w1 := ?_) (by rfl) rfl ?_ ?_
               rotate_left
               · go_simp
                 rfl
               refine hK.out _ _ ⟨((cell_far (p := ⟨gb115, _, none⟩) NB102_115.out _).trans (((cell_far (p := ⟨gb115, _, none⟩) NB102_115.out _).trans (((cell_far (p := ⟨gb115, _, none⟩) NB102_115.out _).trans (hHeld.1)))))), ((cell_far (p := ⟨gb115, _, none⟩) NB102_115.out _).trans (((cell_far (p := ⟨gb115, _, none⟩) NB102_115.out _).trans (((cell_far (p := ⟨gb115, _, none⟩) NB102_115.out _).trans (hHeld.2.1)))))), ((cell_far (p := ⟨gb115, _, none⟩) NB102_115.out _).trans (((cell_far (p := ⟨gb115, _, none⟩) NB102_115.out _).trans (((cell_far (p := ⟨gb115, _, none⟩) NB102_115.out _).trans (hHeld.2.2))))))⟩ (fun hHeld => ?_)
               clear hK K
               refine done_ (by kernel_rfl) ?_
               try go_wp2
               have n0_ : Aside0 ((((w50.setCell ⟨gb115, 0, none⟩ (.int .i64 t112)).setCell ⟨gb115, 1, none⟩ (.int .i64 t113)).setCell ⟨gb115, 2, none⟩ (.bool t114)).heap[gb101]? = some (.cells #[.int .i64 a0_0, .int .i64 a0_1, .int .i64 a0_2, .bool a0_3, .int .i64 a0_4] 33 (0, 0))) := ⟨by (with_reducible repeat apply blk_drewN); refine blk_far ?_ NB101_115.out _; (with_reducible repeat apply blk_drewN); refine blk_far ?_ NB101_115.out _; (with_reducible repeat apply blk_drewN); refine blk_far ?_ NB101_115.out _; (with_reducible repeat apply blk_drewN); exact BK101.out⟩
               have n1_ : Aside0 ((((w50.setCell ⟨gb115, 0, none⟩ (.int .i64 t112)).setCell ⟨gb115, 1, none⟩ (.int .i64 t113)).setCell ⟨gb115, 2, none⟩ (.bool t114)).heap[gb102]? = some (.cells #[.int .i64 a3_0, .int .i64 a3_1, .bool a3_2] 31 (0, 0))) := ⟨by (with_reducible repeat apply blk_drewN); refine blk_far ?_ NB102_115.out _; (with_reducible repeat apply blk_drewN); refine blk_far ?_ NB102_115.out _; (with_reducible repeat apply blk_drewN); refine blk_far ?_ NB102_115.out _; (with_reducible repeat apply blk_drewN); exact BK102.out⟩
               have n2_ : Aside0 ((((w50.setCell ⟨gb115, 0, none⟩ (.int .i64 t112)).setCell ⟨gb115, 1, none⟩ (.int .i64 t113)).setCell ⟨gb115, 2, none⟩ (.bool t114)).heap[gb103]? = some (.cells #[.int .i64 0, .int .i64 0, .int .i64 0, .bool false, .int .i64 0] 33 (0, 0))) := ⟨by (with_reducible repeat apply blk_drewN); refine blk_far ?_ NB103_115.out _; (with_reducible repeat apply blk_drewN); refine blk_far ?_ NB103_115.out _; (with_reducible repeat apply blk_drewN); refine blk_far ?_ NB103_115.out _; (with_reducible repeat apply blk_drewN); exact BK103.out⟩
               have n3_ : Aside0 ((((w50.setCell ⟨gb115, 0, none⟩ (.int .i64 t112)).setCell ⟨gb115, 1, none⟩ (.int .i64 t113)).setCell ⟨gb115, 2, none⟩ (.bool t114)).heap[gb115]? = some (.cells #[.int .i64 t112, .int .i64 t113, .bool t114] 31 (0, 0))) := ⟨by (with_reducible repeat apply blk_drewN); refine blk_put (cs := #[.int .i64 t112, .int .i64 t113, .bool false]) ?_ 2 _ rfl; (with_reducible repeat apply blk_drewN); refine blk_put (cs := #[.int .i64 t112, .int .i64 0, .bool false]) ?_ 1 _ rfl; (with_reducible repeat apply blk_drewN); refine blk_put (cs := #[.int .i64 0, .int .i64 0, .bool false]) ?_ 0 _ rfl; (with_reducible repeat apply blk_drewN); exact BK115.out⟩
               have n4_ : Aside0 (Below w.heap.size w (((w50.setCell ⟨gb115, 0, none⟩ (.int .i64 t112)).setCell ⟨gb115, 1, none⟩ (.int .i64 t113)).setCell ⟨gb115, 2, none⟩ (.bool t114))) := ⟨by repeat (first | (with_reducible first | exact HB.out | apply below_alloc | apply pw_below_drewN | apply below_drew1 | refine below_set ?_ GE101.out | refine below_set ?_ GE102.out | refine below_set ?_ GE103.out | refine below_set ?_ GE115.out) | exact HB.out)⟩
               (try clear BK101)
               (try clear BK102)
               (try clear BK103)
               (try clear BK115)
               (try clear HB)
               generalize (((w50.setCell ⟨gb115, 0, none⟩ (.int .i64 t112)).setCell ⟨gb115, 1, none⟩ (.int .i64 t113)).setCell ⟨gb115, 2, none⟩ (.bool t114)) = w54 at n0_ n1_ n2_ n3_ n4_ ⊢
               have BK101 := n0_
               have BK102 := n1_
               have BK103 := n2_
               have BK115 := n3_
               have HB := n4_
               clear n0_ n1_ n2_ n3_ n4_
               have n0_ := Aside0.mk (blk_drew BK101.out)
               have n1_ := Aside0.mk (blk_drew BK102.out)
               have n2_ := Aside0.mk (blk_drew BK103.out)
               have n3_ := Aside0.mk (blk_drew BK115.out)
               have n4_ := Aside0.mk (below_drew1 HB.out)
               clear BK101
               clear BK102
               clear BK103
               clear BK115
               clear HB
               have BK101 := n0_
               have BK102 := n1_
               have BK103 := n2_
               have BK115 := n3_
               have HB := n4_
               clear n0_ n1_ n2_ n3_ n4_
               refine start_ (n := 11) (S := fun w' => w'.cell? ⟨gb115, 0, none⟩ = some (.int .i64 t112) ∧ w'.cell? ⟨gb115, 1, none⟩ = some (.int .i64 t113) ∧ w'.cell? ⟨gb115, 2, none⟩ = some (.bool t114) ∧ w'.cell? ⟨gb101, 0, none⟩ = some (.int .i64 a0_0) ∧ w'.cell? ⟨gb101, 1, none⟩ = some (.int .i64 a0_1) ∧ w'.cell? ⟨gb101, 2, none⟩ = some (.int .i64 a0_2) ∧ w'.cell? ⟨gb101, 3, none⟩ = some (.bool a0_3) ∧ w'.cell? ⟨gb101, 4, none⟩ = some (.int .i64 a0_4)) (ds := []) #[false, false, false, false, false, false, false, false, false, false, false] (by kernel_rfl) rfl rfl ⟨(blk_cell BK115.out 0).trans rfl, (blk_cell BK115.out 1).trans rfl, (blk_cell BK115.out 2).trans rfl, (blk_cell BK101.out 0).trans rfl, (blk_cell BK101.out 1).trans rfl, (blk_cell BK101.out 2).trans rfl, (blk_cell BK101.out 3).trans rfl, (blk_cell BK101.out 4).trans rfl⟩ (fun hHeld => ?_); refine with_tabW clock_Sync.tab10 clock_Sync.bits10 (fun HT_ HW_ => ?_)
               generalize w54.drew = w55 at BK101 BK102 BK103 BK115 HB hHeld ⊢
               refine pure_ (i := 2) (N := some 63) (v := ?_) (a' := ?_) #[false, false, true, false, false, false, false, false, false, false, false] rfl rfl (any_of HT_.out (by kernel_rfl)) (fun _ _ _ h => h) (Or.inl ⟨by rfl, ?_⟩) ?_ ?_
               rotate_left
               · intro w'
                 go_simp
                 with_reducible rfl
               rotate_left
               · simp only [Act.put, List.setIfInBounds_toArray, List.set_cons_zero, List.set_cons_succ, i64_w, i32_w]
                 rfl
               refine take_ (i := 0) (N := some 61) (v := ?_) (a' := ?_) #[true, false, true, false, false, false, false, false, false, false, false] rfl rfl (take_ofW HT_.out HW_.out (by kernel_rfl)) (fun _ _ _ h => h) (Or.inl ⟨by rfl, ?_⟩) hHeld ?_ ?_
               rotate_left
               · rintro w' ⟨s0, s1, s2, s3, s4, s5, s6, s7⟩
                 go_simp
                 with_reducible rfl
               rotate_left
               · simp only [Act.put, List.setIfInBounds_toArray, List.set_cons_zero, List.set_cons_succ, i64_w, i32_w]
                 rfl
               refine take_ (i := 1) (N := some 62) (v := ?_) (a' := ?_) #[true, true, true, false, false, false, false, false, false, false, false] rfl rfl (take_ofW HT_.out HW_.out (by kernel_rfl)) (fun _ _ _ h => h) (Or.inl ⟨by rfl, ?_⟩) hHeld ?_ ?_
               rotate_left
               · rintro w' ⟨s0, s1, s2, s3, s4, s5, s6, s7⟩
                 go_simp
                 with_reducible rfl
               rotate_left
               · simp only [Act.put, List.setIfInBounds_toArray, List.set_cons_zero, List.set_cons_succ, i64_w, i32_w]
                 rfl
               refine join_ (σ := Nat) 2 #[true, true, true, true, true, true, true, true, true, false, false] (fun s_ => [(64, .agg #[.int .i64 t116, .int .i64 t117, .bool t118]), (65, .tuple #[.agg #[.int .i64 t119, .int .i64 t120, .bool t121], .bool true]), (14, .pointer (some ⟨s_, 0, none⟩)), (60, .tuple #[.agg #[.int .i64 t119, .int .i64 t120, .bool t121], .bool true]), (66, .agg #[.int .i64 t119, .int .i64 t120, .bool t121]), (67, .bool true)]) (fun s_ w' => (w'.cell? ⟨gb115, 0, none⟩ = some (.int .i64 t112) ∧ w'.cell? ⟨gb115, 1, none⟩ = some (.int .i64 t113) ∧ w'.cell? ⟨gb115, 2, none⟩ = some (.bool t114) ∧ w'.cell? ⟨gb101, 0, none⟩ = some (.int .i64 a0_0) ∧ w'.cell? ⟨gb101, 1, none⟩ = some (.int .i64 a0_1) ∧ w'.cell? ⟨gb101, 2, none⟩ = some (.int .i64 a0_2) ∧ w'.cell? ⟨gb101, 3, none⟩ = some (.bool a0_3) ∧ w'.cell? ⟨gb101, 4, none⟩ = some (.int .i64 a0_4)) ∧ (w'.heap[gb101]? = some (.cells #[.int .i64 a0_0, .int .i64 a0_1, .int .i64 a0_2, .bool a0_3, .int .i64 a0_4] 33 (0, 0))) ∧ (w'.heap[gb102]? = some (.cells #[.int .i64 a3_0, .int .i64 a3_1, .bool a3_2] 31 (0, 0))) ∧ (w'.heap[gb103]? = some (.cells #[.int .i64 0, .int .i64 0, .int .i64 0, .bool false, .int .i64 0] 33 (0, 0))) ∧ (w'.heap[gb115]? = some (.cells #[.int .i64 t112, .int .i64 t113, .bool t114] 31 (0, 0))) ∧ (w'.heap[s_]? = some (.cells #[.int .i64 0, .int .i64 0, .bool false] 31 (0, 0))) ∧ (w.heap.size ≤ s_) ∧ (w.heap.size ≤ s_) ∧ (gb101 ≠ s_) ∧ (s_ ≠ gb101) ∧ (gb102 ≠ s_) ∧ (s_ ≠ gb102) ∧ (gb103 ≠ s_) ∧ (s_ ≠ gb103) ∧ (gb115 ≠ s_) ∧ (s_ ≠ gb115) ∧ (Below w.heap.size w w')) ?_ ?_
               rotate_left
               · intro hCont
                 refine two_ (i := 3) (j := 8) (Ni := some 64) (Nj := some 14) #[true, true, true, true, false, false, false, false, false, false, false] #[true, true, true, false, false, false, false, false, true, false, false] rfl rfl rfl rfl (two_of HT_.out (by kernel_rfl)) (by decide) (by decide) (fun K hK => ?_) (fun K hK => ?_)
                 · skip
                   refine goes_ Try.func20 (by kernel_rfl) rfl #[.agg #[.int .i64 a0_0, .int .i64 a0_1, .int .i64 a0_2, .bool a0_3, .int .i64 a0_4], .int .i64 a2] (by rfl) rfl rfl (by (try simp only [List.map_toArray, List.map_cons, List.map_nil]); first | done | rfl | (simp only [List.length_drop, List.length_take]; rfl)) ?_
                   with_reducible refine (clock_Uniform.calls kj6 a0_0 a0_1 a0_2 a0_3 a0_4 a2 t116 t117 t118 _ A37.out).mono ?_
                   rintro e w56 ⟨rfl, hb⟩
                   refine ⟨_, rfl, ?_⟩
                   have n0_ := bkb_ BK101 hb rfl
                   have n1_ := bkb_ BK102 hb rfl
                   have n2_ := bkb_ BK103 hb rfl
                   have n3_ := bkb_ BK115 hb rfl
                   have n4_ := hbs_ HB hb rfl rfl rfl rfl
                   clear BK101
                   clear BK102
                   clear BK103
                   clear BK115
                   clear HB
                   have BK101 := n0_
                   have BK102 := n1_
                   have BK103 := n2_
                   have BK115 := n3_
                   have HB := n4_
                   clear n0_ n1_ n2_ n3_ n4_
                   (try clear hb)
                   (try clear hb2)
                   (try clear hk)
                   (try clear hi)
                   refine hK.out _ _ ⟨(blk_cell BK115.out 0).trans rfl, (blk_cell BK115.out 1).trans rfl, (blk_cell BK115.out 2).trans rfl, (blk_cell BK101.out 0).trans rfl, (blk_cell BK101.out 1).trans rfl, (blk_cell BK101.out 2).trans rfl, (blk_cell BK101.out 3).trans rfl, (blk_cell BK101.out 4).trans rfl⟩ (fun hHeld => ?_)
                   clear hK K
                   refine norm_ (a' := ?_) ?_ ?_
                   rotate_left
                   · show Act.put _ (some 64) _ = _
                     simp only [Act.put, List.setIfInBounds_toArray, List.set_cons_zero, List.set_cons_succ, i64_w, i32_w]
                     rfl
                   refine two_ (i := 4) (j := 8) (Ni := some 65) (Nj := some 14) #[true, true, true, true, true, false, false, false, false, false, false] #[true, true, true, true, false, false, false, false, true, false, false] rfl rfl rfl rfl (two_of HT_.out (by kernel_rfl)) (by decide) (by decide) (fun K hK => ?_) (fun K hK => ?_)
                   · skip
                     refine goes_ Try.func87 (by kernel_rfl) rfl #[.agg #[.int .i64 t112, .int .i64 t113, .bool t114], .agg #[.int .i64 t116, .int .i64 t117, .bool t118]] (by rfl) rfl rfl (by (try simp only [List.map_toArray, List.map_cons, List.map_nil]); first | done | rfl | (simp only [List.length_drop, List.length_take]; rfl)) ?_
                     with_reducible refine (bound_Meet_api_Tick.calls kj6 t112 t113 t114 t116 t117 t118 t119 t120 t121 true _ A38.out).mono ?_
                     rintro e w57 ⟨rfl, hb⟩
                     refine ⟨_, rfl, ?_⟩
                     have n0_ := bkb_ BK101 hb rfl
                     have n1_ := bkb_ BK102 hb rfl
                     have n2_ := bkb_ BK103 hb rfl
                     have n3_ := bkb_ BK115 hb rfl
                     have n4_ := hbs_ HB hb rfl rfl rfl rfl
                     clear BK101
                     clear BK102
                     clear BK103
                     clear BK115
                     clear HB
                     have BK101 := n0_
                     have BK102 := n1_
                     have BK103 := n2_
                     have BK115 := n3_
                     have HB := n4_
                     clear n0_ n1_ n2_ n3_ n4_
                     (try clear hb)
                     (try clear hb2)
                     (try clear hk)
                     (try clear hi)
                     refine hK.out _ _ ⟨(blk_cell BK115.out 0).trans rfl, (blk_cell BK115.out 1).trans rfl, (blk_cell BK115.out 2).trans rfl, (blk_cell BK101.out 0).trans rfl, (blk_cell BK101.out 1).trans rfl, (blk_cell BK101.out 2).trans rfl, (blk_cell BK101.out 3).trans rfl, (blk_cell BK101.out 4).trans rfl⟩ (fun hHeld => ?_)
                     clear hK K
                     refine norm_ (a' := ?_) ?_ ?_
                     rotate_left
                     · show Act.put _ (some 65) _ = _
                       simp only [Act.put, List.setIfInBounds_toArray, List.set_cons_zero, List.set_cons_succ, i64_w, i32_w]
                       rfl
                     refine pure_ (i := 5) (N := some 60) (v := ?_) (a' := ?_) #[true, true, true, true, true, true, false, false, false, false, false] rfl rfl (any_of HT_.out (by kernel_rfl)) (fun _ _ _ h => h) (Or.inl ⟨by rfl, ?_⟩) ?_ ?_
                     rotate_left
                     · intro w'
                       go_simp
                       with_reducible rfl
                     rotate_left
                     · simp only [Act.put, List.setIfInBounds_toArray, List.set_cons_zero, List.set_cons_succ, i64_w, i32_w]
                       rfl
                     refine pure_ (i := 6) (N := some 66) (v := ?_) (a' := ?_) #[true, true, true, true, true, true, true, false, false, false, false] rfl rfl (any_of HT_.out (by kernel_rfl)) (fun _ _ _ h => h) (Or.inl ⟨by rfl, ?_⟩) ?_ ?_
                     rotate_left
                     · intro w'
                       go_simp
                       with_reducible rfl
                     rotate_left
                     · simp only [Act.put, List.setIfInBounds_toArray, List.set_cons_zero, List.set_cons_succ, i64_w, i32_w]
                       rfl
                     refine pure_ (i := 7) (N := some 67) (v := ?_) (a' := ?_) #[true, true, true, true, true, true, true, true, false, false, false] rfl rfl (any_of HT_.out (by kernel_rfl)) (fun _ _ _ h => h) (Or.inl ⟨by rfl, ?_⟩) ?_ ?_
                     rotate_left
                     · intro w'
                       go_simp
                       with_reducible rfl
                     rotate_left
                     · simp only [Act.put, List.setIfInBounds_toArray, List.set_cons_zero, List.set_cons_succ, i64_w, i32_w]
                       rfl
                     refine one_ (i := 8) (N := some 14) #[true, true, true, true, true, true, true, true, true, false, false] rfl rfl (one_of HT_.out (by kernel_rfl)) (by decide) (fun K hK => ?_)
                     refine box_step ?hg (N := 14) ?hd (cs := #[.int .i64 0, .int .i64 0, .bool false]) (t := 31) ?hr ?_; (case hd => rfl); (case hg => rfl); (case hr => first | (go_simp; done) | (go_simp; rfl))
                     intro gb123 hg w58 hbox hb
                     have n0_ := bkb_ BK101 hb rfl
                     have n1_ := bkb_ BK102 hb rfl
                     have n2_ := bkb_ BK103 hb rfl
                     have n3_ := bkb_ BK115 hb rfl
                     have n4_ := hbs_ HB hb rfl rfl rfl rfl
                     have n5_ := Aside0.mk (hbox)
                     have n6_ := Aside0.mk ((by rw [hg]; exact (below_size (by repeat (first | (with_reducible first | exact HB.out | apply below_alloc | apply pw_below_drewN | apply below_drew1 | refine below_set ?_ GE101.out | refine below_set ?_ GE102.out | refine below_set ?_ GE103.out | refine below_set ?_ GE115.out) | exact HB.out))) : w.heap.size ≤ gb123))
                     have n7_ := n6_
                     have n8_ := nbl_ BK101 hg rfl
                     have n9_ := nbg_ BK101 hg rfl
                     have n10_ := nbl_ BK102 hg rfl
                     have n11_ := nbg_ BK102 hg rfl
                     have n12_ := nbl_ BK103 hg rfl
                     have n13_ := nbg_ BK103 hg rfl
                     have n14_ := nbl_ BK115 hg rfl
                     have n15_ := nbg_ BK115 hg rfl
                     clear BK101
                     clear BK102
                     clear BK103
                     clear BK115
                     clear HB
                     have BK101 := n0_
                     have BK102 := n1_
                     have BK103 := n2_
                     have BK115 := n3_
                     have HB := n4_
                     have BK123 := n5_
                     have GW123 := n6_
                     have GE123 := n7_
                     have NB101_123 := n8_
                     have NB123_101 := n9_
                     have NB102_123 := n10_
                     have NB123_102 := n11_
                     have NB103_123 := n12_
                     have NB123_103 := n13_
                     have NB115_123 := n14_
                     have NB123_115 := n15_
                     clear n0_ n1_ n2_ n3_ n4_ n5_ n6_ n7_ n8_ n9_ n10_ n11_ n12_ n13_ n14_ n15_
                     clear hb hbox hg
                     refine hK.out _ _ ⟨(blk_cell BK115.out 0).trans rfl, (blk_cell BK115.out 1).trans rfl, (blk_cell BK115.out 2).trans rfl, (blk_cell BK101.out 0).trans rfl, (blk_cell BK101.out 1).trans rfl, (blk_cell BK101.out 2).trans rfl, (blk_cell BK101.out 3).trans rfl, (blk_cell BK101.out 4).trans rfl⟩ (fun hHeld => ?_)
                     clear hK K
                     refine norm_ (a' := ?_) ?_ ?_
                     rotate_left
                     · show Act.put _ (some 14) _ = _
                       simp only [Act.put, List.setIfInBounds_toArray, List.set_cons_zero, List.set_cons_succ, i64_w, i32_w]
                       rfl
                     exact norm_ (by simp only [putAll, Act.put, List.setIfInBounds_toArray, List.set_cons_zero, List.set_cons_succ]) (hCont (gb123) _ ⟨hHeld, BK101.out, BK102.out, BK103.out, BK115.out, BK123.out, GW123.out, GE123.out, NB101_123.out, NB123_101.out, NB102_123.out, NB123_102.out, NB103_123.out, NB123_103.out, NB115_123.out, NB123_115.out, (by repeat (first | (with_reducible first | exact HB.out | apply below_alloc | apply pw_below_drewN | apply below_drew1 | refine below_set ?_ GE101.out | refine below_set ?_ GE102.out | refine below_set ?_ GE103.out | refine below_set ?_ GE115.out | refine below_set ?_ GE123.out) | exact HB.out))⟩)
                   · skip
                     refine box_step ?hg (N := 14) ?hd (cs := #[.int .i64 0, .int .i64 0, .bool false]) (t := 31) ?hr ?_; (case hd => rfl); (case hg => rfl); (case hr => first | (go_simp; done) | (go_simp; rfl))
                     intro gb123 hg w57 hbox hb
                     have n0_ := bkb_ BK101 hb rfl
                     have n1_ := bkb_ BK102 hb rfl
                     have n2_ := bkb_ BK103 hb rfl
                     have n3_ := bkb_ BK115 hb rfl
                     have n4_ := hbs_ HB hb rfl rfl rfl rfl
                     have n5_ := Aside0.mk (hbox)
                     have n6_ := Aside0.mk ((by rw [hg]; exact (below_size (by repeat (first | (with_reducible first | exact HB.out | apply below_alloc | apply pw_below_drewN | apply below_drew1 | refine below_set ?_ GE101.out | refine below_set ?_ GE102.out | refine below_set ?_ GE103.out | refine below_set ?_ GE115.out) | exact HB.out))) : w.heap.size ≤ gb123))
                     have n7_ := n6_
                     have n8_ := nbl_ BK101 hg rfl
                     have n9_ := nbg_ BK101 hg rfl
                     have n10_ := nbl_ BK102 hg rfl
                     have n11_ := nbg_ BK102 hg rfl
                     have n12_ := nbl_ BK103 hg rfl
                     have n13_ := nbg_ BK103 hg rfl
                     have n14_ := nbl_ BK115 hg rfl
                     have n15_ := nbg_ BK115 hg rfl
                     clear BK101
                     clear BK102
                     clear BK103
                     clear BK115
                     clear HB
                     have BK101 := n0_
                     have BK102 := n1_
                     have BK103 := n2_
                     have BK115 := n3_
                     have HB := n4_
                     have BK123 := n5_
                     have GW123 := n6_
                     have GE123 := n7_
                     have NB101_123 := n8_
                     have NB123_101 := n9_
                     have NB102_123 := n10_
                     have NB123_102 := n11_
                     have NB103_123 := n12_
                     have NB123_103 := n13_
                     have NB115_123 := n14_
                     have NB123_115 := n15_
                     clear n0_ n1_ n2_ n3_ n4_ n5_ n6_ n7_ n8_ n9_ n10_ n11_ n12_ n13_ n14_ n15_
                     clear hb hbox hg
                     refine hK.out _ _ ⟨(blk_cell BK115.out 0).trans rfl, (blk_cell BK115.out 1).trans rfl, (blk_cell BK115.out 2).trans rfl, (blk_cell BK101.out 0).trans rfl, (blk_cell BK101.out 1).trans rfl, (blk_cell BK101.out 2).trans rfl, (blk_cell BK101.out 3).trans rfl, (blk_cell BK101.out 4).trans rfl⟩ (fun hHeld => ?_)
                     clear hK K
                     refine norm_ (a' := ?_) ?_ ?_
                     rotate_left
                     · show Act.put _ (some 14) _ = _
                       simp only [Act.put, List.setIfInBounds_toArray, List.set_cons_zero, List.set_cons_succ, i64_w, i32_w]
                       rfl
                     refine one_ (i := 4) (N := some 65) #[true, true, true, true, true, false, false, false, true, false, false] rfl rfl (one_of HT_.out (by kernel_rfl)) (by decide) (fun K hK => ?_)
                     refine goes_ Try.func87 (by kernel_rfl) rfl #[.agg #[.int .i64 t112, .int .i64 t113, .bool t114], .agg #[.int .i64 t116, .int .i64 t117, .bool t118]] (by rfl) rfl rfl (by (try simp only [List.map_toArray, List.map_cons, List.map_nil]); first | done | rfl | (simp only [List.length_drop, List.length_take]; rfl)) ?_
                     with_reducible refine (bound_Meet_api_Tick.calls kj6 t112 t113 t114 t116 t117 t118 t119 t120 t121 true _ A38.out).mono ?_
                     rintro e w58 ⟨rfl, hb⟩
                     refine ⟨_, rfl, ?_⟩
                     have n0_ := bkb_ BK101 hb rfl
                     have n1_ := bkb_ BK102 hb rfl
                     have n2_ := bkb_ BK103 hb rfl
                     have n3_ := bkb_ BK115 hb rfl
                     have n4_ := bkb_ BK123 hb rfl
                     have n5_ := hbs_ HB hb rfl rfl rfl rfl
                     clear BK101
                     clear BK102
                     clear BK103
                     clear BK115
                     clear BK123
                     clear HB
                     have BK101 := n0_
                     have BK102 := n1_
                     have BK103 := n2_
                     have BK115 := n3_
                     have BK123 := n4_
                     have HB := n5_
                     clear n0_ n1_ n2_ n3_ n4_ n5_
                     (try clear hb)
                     (try clear hb2)
                     (try clear hk)
                     (try clear hi)
                     refine hK.out _ _ ⟨(blk_cell BK115.out 0).trans rfl, (blk_cell BK115.out 1).trans rfl, (blk_cell BK115.out 2).trans rfl, (blk_cell BK101.out 0).trans rfl, (blk_cell BK101.out 1).trans rfl, (blk_cell BK101.out 2).trans rfl, (blk_cell BK101.out 3).trans rfl, (blk_cell BK101.out 4).trans rfl⟩ (fun hHeld => ?_)
                     clear hK K
                     refine norm_ (a' := ?_) ?_ ?_
                     rotate_left
                     · show Act.put _ (some 65) _ = _
                       simp only [Act.put, List.setIfInBounds_toArray, List.set_cons_zero, List.set_cons_succ, i64_w, i32_w]
                       rfl
                     refine pure_ (i := 5) (N := some 60) (v := ?_) (a' := ?_) #[true, true, true, true, true, true, false, false, true, false, false] rfl rfl (any_of HT_.out (by kernel_rfl)) (fun _ _ _ h => h) (Or.inl ⟨by rfl, ?_⟩) ?_ ?_
                     rotate_left
                     · intro w'
                       go_simp
                       with_reducible rfl
                     rotate_left
                     · simp only [Act.put, List.setIfInBounds_toArray, List.set_cons_zero, List.set_cons_succ, i64_w, i32_w]
                       rfl
                     refine pure_ (i := 6) (N := some 66) (v := ?_) (a' := ?_) #[true, true, true, true, true, true, true, false, true, false, false] rfl rfl (any_of HT_.out (by kernel_rfl)) (fun _ _ _ h => h) (Or.inl ⟨by rfl, ?_⟩) ?_ ?_
                     rotate_left
                     · intro w'
                       go_simp
                       with_reducible rfl
                     rotate_left
                     · simp only [Act.put, List.setIfInBounds_toArray, List.set_cons_zero, List.set_cons_succ, i64_w, i32_w]
                       rfl
                     refine pure_ (i := 7) (N := some 67) (v := ?_) (a' := ?_) #[true, true, true, true, true, true, true, true, true, false, false] rfl rfl (any_of HT_.out (by kernel_rfl)) (fun _ _ _ h => h) (Or.inl ⟨by rfl, ?_⟩) ?_ ?_
                     rotate_left
                     · intro w'
                       go_simp
                       with_reducible rfl
                     rotate_left
                     · simp only [Act.put, List.setIfInBounds_toArray, List.set_cons_zero, List.set_cons_succ, i64_w, i32_w]
                       rfl
                     exact norm_ (by simp only [putAll, Act.put, List.setIfInBounds_toArray, List.set_cons_zero, List.set_cons_succ]) (hCont (gb123) _ ⟨hHeld, BK101.out, BK102.out, BK103.out, BK115.out, BK123.out, GW123.out, GE123.out, NB101_123.out, NB123_101.out, NB102_123.out, NB123_102.out, NB103_123.out, NB123_103.out, NB115_123.out, NB123_115.out, (by repeat (first | (with_reducible first | exact HB.out | apply below_alloc | apply pw_below_drewN | apply below_drew1 | refine below_set ?_ GE101.out | refine below_set ?_ GE102.out | refine below_set ?_ GE103.out | refine below_set ?_ GE115.out | refine below_set ?_ GE123.out) | exact HB.out))⟩)
                 · skip
                   refine box_step ?hg (N := 14) ?hd (cs := #[.int .i64 0, .int .i64 0, .bool false]) (t := 31) ?hr ?_; (case hd => rfl); (case hg => rfl); (case hr => first | (go_simp; done) | (go_simp; rfl))
                   intro gb123 hg w56 hbox hb
                   have n0_ := bkb_ BK101 hb rfl
                   have n1_ := bkb_ BK102 hb rfl
                   have n2_ := bkb_ BK103 hb rfl
                   have n3_ := bkb_ BK115 hb rfl
                   have n4_ := hbs_ HB hb rfl rfl rfl rfl
                   have n5_ := Aside0.mk (hbox)
                   have n6_ := Aside0.mk ((by rw [hg]; exact (below_size (by repeat (first | (with_reducible first | exact HB.out | apply below_alloc | apply pw_below_drewN | apply below_drew1 | refine below_set ?_ GE101.out | refine below_set ?_ GE102.out | refine below_set ?_ GE103.out | refine below_set ?_ GE115.out) | exact HB.out))) : w.heap.size ≤ gb123))
                   have n7_ := n6_
                   have n8_ := nbl_ BK101 hg rfl
                   have n9_ := nbg_ BK101 hg rfl
                   have n10_ := nbl_ BK102 hg rfl
                   have n11_ := nbg_ BK102 hg rfl
                   have n12_ := nbl_ BK103 hg rfl
                   have n13_ := nbg_ BK103 hg rfl
                   have n14_ := nbl_ BK115 hg rfl
                   have n15_ := nbg_ BK115 hg rfl
                   clear BK101
                   clear BK102
                   clear BK103
                   clear BK115
                   clear HB
                   have BK101 := n0_
                   have BK102 := n1_
                   have BK103 := n2_
                   have BK115 := n3_
                   have HB := n4_
                   have BK123 := n5_
                   have GW123 := n6_
                   have GE123 := n7_
                   have NB101_123 := n8_
                   have NB123_101 := n9_
                   have NB102_123 := n10_
                   have NB123_102 := n11_
                   have NB103_123 := n12_
                   have NB123_103 := n13_
                   have NB115_123 := n14_
                   have NB123_115 := n15_
                   clear n0_ n1_ n2_ n3_ n4_ n5_ n6_ n7_ n8_ n9_ n10_ n11_ n12_ n13_ n14_ n15_
                   clear hb hbox hg
                   refine hK.out _ _ ⟨(blk_cell BK115.out 0).trans rfl, (blk_cell BK115.out 1).trans rfl, (blk_cell BK115.out 2).trans rfl, (blk_cell BK101.out 0).trans rfl, (blk_cell BK101.out 1).trans rfl, (blk_cell BK101.out 2).trans rfl, (blk_cell BK101.out 3).trans rfl, (blk_cell BK101.out 4).trans rfl⟩ (fun hHeld => ?_)
                   clear hK K
                   refine norm_ (a' := ?_) ?_ ?_
                   rotate_left
                   · show Act.put _ (some 14) _ = _
                     simp only [Act.put, List.setIfInBounds_toArray, List.set_cons_zero, List.set_cons_succ, i64_w, i32_w]
                     rfl
                   refine one_ (i := 3) (N := some 64) #[true, true, true, true, false, false, false, false, true, false, false] rfl rfl (one_of HT_.out (by kernel_rfl)) (by decide) (fun K hK => ?_)
                   refine goes_ Try.func20 (by kernel_rfl) rfl #[.agg #[.int .i64 a0_0, .int .i64 a0_1, .int .i64 a0_2, .bool a0_3, .int .i64 a0_4], .int .i64 a2] (by rfl) rfl rfl (by (try simp only [List.map_toArray, List.map_cons, List.map_nil]); first | done | rfl | (simp only [List.length_drop, List.length_take]; rfl)) ?_
                   with_reducible refine (clock_Uniform.calls kj6 a0_0 a0_1 a0_2 a0_3 a0_4 a2 t116 t117 t118 _ A37.out).mono ?_
                   rintro e w57 ⟨rfl, hb⟩
                   refine ⟨_, rfl, ?_⟩
                   have n0_ := bkb_ BK101 hb rfl
                   have n1_ := bkb_ BK102 hb rfl
                   have n2_ := bkb_ BK103 hb rfl
                   have n3_ := bkb_ BK115 hb rfl
                   have n4_ := bkb_ BK123 hb rfl
                   have n5_ := hbs_ HB hb rfl rfl rfl rfl
                   clear BK101
                   clear BK102
                   clear BK103
                   clear BK115
                   clear BK123
                   clear HB
                   have BK101 := n0_
                   have BK102 := n1_
                   have BK103 := n2_
                   have BK115 := n3_
                   have BK123 := n4_
                   have HB := n5_
                   clear n0_ n1_ n2_ n3_ n4_ n5_
                   (try clear hb)
                   (try clear hb2)
                   (try clear hk)
                   (try clear hi)
                   refine hK.out _ _ ⟨(blk_cell BK115.out 0).trans rfl, (blk_cell BK115.out 1).trans rfl, (blk_cell BK115.out 2).trans rfl, (blk_cell BK101.out 0).trans rfl, (blk_cell BK101.out 1).trans rfl, (blk_cell BK101.out 2).trans rfl, (blk_cell BK101.out 3).trans rfl, (blk_cell BK101.out 4).trans rfl⟩ (fun hHeld => ?_)
                   clear hK K
                   refine norm_ (a' := ?_) ?_ ?_
                   rotate_left
                   · show Act.put _ (some 64) _ = _
                     simp only [Act.put, List.setIfInBounds_toArray, List.set_cons_zero, List.set_cons_succ, i64_w, i32_w]
                     rfl
                   refine one_ (i := 4) (N := some 65) #[true, true, true, true, true, false, false, false, true, false, false] rfl rfl (one_of HT_.out (by kernel_rfl)) (by decide) (fun K hK => ?_)
                   refine goes_ Try.func87 (by kernel_rfl) rfl #[.agg #[.int .i64 t112, .int .i64 t113, .bool t114], .agg #[.int .i64 t116, .int .i64 t117, .bool t118]] (by rfl) rfl rfl (by (try simp only [List.map_toArray, List.map_cons, List.map_nil]); first | done | rfl | (simp only [List.length_drop, List.length_take]; rfl)) ?_
                   with_reducible refine (bound_Meet_api_Tick.calls kj6 t112 t113 t114 t116 t117 t118 t119 t120 t121 true _ A38.out).mono ?_
                   rintro e w58 ⟨rfl, hb⟩
                   refine ⟨_, rfl, ?_⟩
                   have n0_ := bkb_ BK101 hb rfl
                   have n1_ := bkb_ BK102 hb rfl
                   have n2_ := bkb_ BK103 hb rfl
                   have n3_ := bkb_ BK115 hb rfl
                   have n4_ := bkb_ BK123 hb rfl
                   have n5_ := hbs_ HB hb rfl rfl rfl rfl
                   clear BK101
                   clear BK102
                   clear BK103
                   clear BK115
                   clear BK123
                   clear HB
                   have BK101 := n0_
                   have BK102 := n1_
                   have BK103 := n2_
                   have BK115 := n3_
                   have BK123 := n4_
                   have HB := n5_
                   clear n0_ n1_ n2_ n3_ n4_ n5_
                   (try clear hb)
                   (try clear hb2)
                   (try clear hk)
                   (try clear hi)
                   refine hK.out _ _ ⟨(blk_cell BK115.out 0).trans rfl, (blk_cell BK115.out 1).trans rfl, (blk_cell BK115.out 2).trans rfl, (blk_cell BK101.out 0).trans rfl, (blk_cell BK101.out 1).trans rfl, (blk_cell BK101.out 2).trans rfl, (blk_cell BK101.out 3).trans rfl, (blk_cell BK101.out 4).trans rfl⟩ (fun hHeld => ?_)
                   clear hK K
                   refine norm_ (a' := ?_) ?_ ?_
                   rotate_left
                   · show Act.put _ (some 65) _ = _
                     simp only [Act.put, List.setIfInBounds_toArray, List.set_cons_zero, List.set_cons_succ, i64_w, i32_w]
                     rfl
                   refine pure_ (i := 5) (N := some 60) (v := ?_) (a' := ?_) #[true, true, true, true, true, true, false, false, true, false, false] rfl rfl (any_of HT_.out (by kernel_rfl)) (fun _ _ _ h => h) (Or.inl ⟨by rfl, ?_⟩) ?_ ?_
                   rotate_left
                   · intro w'
                     go_simp
                     with_reducible rfl
                   rotate_left
                   · simp only [Act.put, List.setIfInBounds_toArray, List.set_cons_zero, List.set_cons_succ, i64_w, i32_w]
                     rfl
                   refine pure_ (i := 6) (N := some 66) (v := ?_) (a' := ?_) #[true, true, true, true, true, true, true, false, true, false, false] rfl rfl (any_of HT_.out (by kernel_rfl)) (fun _ _ _ h => h) (Or.inl ⟨by rfl, ?_⟩) ?_ ?_
                   rotate_left
                   · intro w'
                     go_simp
                     with_reducible rfl
                   rotate_left
                   · simp only [Act.put, List.setIfInBounds_toArray, List.set_cons_zero, List.set_cons_succ, i64_w, i32_w]
                     rfl
                   refine pure_ (i := 7) (N := some 67) (v := ?_) (a' := ?_) #[true, true, true, true, true, true, true, true, true, false, false] rfl rfl (any_of HT_.out (by kernel_rfl)) (fun _ _ _ h => h) (Or.inl ⟨by rfl, ?_⟩) ?_ ?_
                   rotate_left
                   · intro w'
                     go_simp
                     with_reducible rfl
                   rotate_left
                   · simp only [Act.put, List.setIfInBounds_toArray, List.set_cons_zero, List.set_cons_succ, i64_w, i32_w]
                     rfl
                   exact norm_ (by simp only [putAll, Act.put, List.setIfInBounds_toArray, List.set_cons_zero, List.set_cons_succ]) (hCont (gb123) _ ⟨hHeld, BK101.out, BK102.out, BK103.out, BK115.out, BK123.out, GW123.out, GE123.out, NB101_123.out, NB123_101.out, NB102_123.out, NB123_102.out, NB103_123.out, NB123_103.out, NB115_123.out, NB123_115.out, (by repeat (first | (with_reducible first | exact HB.out | apply below_alloc | apply pw_below_drewN | apply below_drew1 | refine below_set ?_ GE101.out | refine below_set ?_ GE102.out | refine below_set ?_ GE103.out | refine below_set ?_ GE115.out | refine below_set ?_ GE123.out) | exact HB.out))⟩)
               rintro gb123 w59 ⟨hS_, h0_, h1_, h2_, h3_, h4_, h5_, h6_, h7_, h8_, h9_, h10_, h11_, h12_, h13_, h14_, h15_⟩
               have n0_ : Aside0 (w59.heap[gb101]? = some (.cells #[.int .i64 a0_0, .int .i64 a0_1, .int .i64 a0_2, .bool a0_3, .int .i64 a0_4] 33 (0, 0))) := ⟨h0_⟩
               have n1_ : Aside0 (w59.heap[gb102]? = some (.cells #[.int .i64 a3_0, .int .i64 a3_1, .bool a3_2] 31 (0, 0))) := ⟨h1_⟩
               have n2_ : Aside0 (w59.heap[gb103]? = some (.cells #[.int .i64 0, .int .i64 0, .int .i64 0, .bool false, .int .i64 0] 33 (0, 0))) := ⟨h2_⟩
               have n3_ : Aside0 (w59.heap[gb115]? = some (.cells #[.int .i64 t112, .int .i64 t113, .bool t114] 31 (0, 0))) := ⟨h3_⟩
               have n4_ : Aside0 (w59.heap[gb123]? = some (.cells #[.int .i64 0, .int .i64 0, .bool false] 31 (0, 0))) := ⟨h4_⟩
               have n5_ : Aside0 (w.heap.size ≤ gb123) := ⟨h5_⟩
               have n6_ : Aside0 (w.heap.size ≤ gb123) := ⟨h6_⟩
               have n7_ : Aside0 (gb101 ≠ gb123) := ⟨h7_⟩
               have n8_ : Aside0 (gb123 ≠ gb101) := ⟨h8_⟩
               have n9_ : Aside0 (gb102 ≠ gb123) := ⟨h9_⟩
               have n10_ : Aside0 (gb123 ≠ gb102) := ⟨h10_⟩
               have n11_ : Aside0 (gb103 ≠ gb123) := ⟨h11_⟩
               have n12_ : Aside0 (gb123 ≠ gb103) := ⟨h12_⟩
               have n13_ : Aside0 (gb115 ≠ gb123) := ⟨h13_⟩
               have n14_ : Aside0 (gb123 ≠ gb115) := ⟨h14_⟩
               have n15_ : Aside0 (Below w.heap.size w w59) := ⟨h15_⟩
               clear BK101
               clear BK102
               clear BK103
               clear BK115
               clear HB
               clear h0_ h1_ h2_ h3_ h4_ h5_ h6_ h7_ h8_ h9_ h10_ h11_ h12_ h13_ h14_ h15_
               have BK101 := n0_
               have BK102 := n1_
               have BK103 := n2_
               have BK115 := n3_
               have BK123 := n4_
               have GW123 := n5_
               have GE123 := n6_
               have NB101_123 := n7_
               have NB123_101 := n8_
               have NB102_123 := n9_
               have NB123_102 := n10_
               have NB103_123 := n11_
               have NB123_103 := n12_
               have NB115_123 := n13_
               have NB123_115 := n14_
               have HB := n15_
               clear n0_ n1_ n2_ n3_ n4_ n5_ n6_ n7_ n8_ n9_ n10_ n11_ n12_ n13_ n14_ n15_
               have hHeld : w59.cell? ⟨gb115, 0, none⟩ = some (.int .i64 t112) ∧ w59.cell? ⟨gb115, 1, none⟩ = some (.int .i64 t113) ∧ w59.cell? ⟨gb115, 2, none⟩ = some (.bool t114) ∧ w59.cell? ⟨gb101, 0, none⟩ = some (.int .i64 a0_0) ∧ w59.cell? ⟨gb101, 1, none⟩ = some (.int .i64 a0_1) ∧ w59.cell? ⟨gb101, 2, none⟩ = some (.int .i64 a0_2) ∧ w59.cell? ⟨gb101, 3, none⟩ = some (.bool a0_3) ∧ w59.cell? ⟨gb101, 4, none⟩ = some (.int .i64 a0_4) := hS_
               refine norm_ (a' := ?_) ?_ ?_
               rotate_left
               · simp only [putAll, Act.put, List.setIfInBounds_toArray, List.set_cons_zero, List.set_cons_succ]
                 rfl
               refine one_ (i := 9) (N := none) #[true, true, true, true, true, true, true, true, true, true, false] rfl rfl (one_of HT_.out (by kernel_rfl)) (by decide) (fun K hK => ?_)
               have hs60 : w59.cell? ⟨gb123, 0, none⟩ = some (.int .i64 0) := (blk_cell BK123.out 0).trans rfl
               have hfs60 := blk_frozen BK123.out 0
               have hns60_0 := NB101_123.out
               have hns60_1 := NB102_123.out
               have hns60_2 := NB103_123.out
               have hns60_3 := NB115_123.out
               have hms60_0 := NB123_101.out
               have hms60_1 := NB123_102.out
               have hms60_2 := NB123_103.out
               have hms60_3 := NB123_115.out
               have hs61 : w59.cell? ⟨gb123, 1, none⟩ = some (.int .i64 0) := (blk_cell BK123.out 1).trans rfl
               have hfs61 := blk_frozen BK123.out 1
               have hns61_0 := NB101_123.out
               have hns61_1 := NB102_123.out
               have hns61_2 := NB103_123.out
               have hns61_3 := NB115_123.out
               have hms61_0 := NB123_101.out
               have hms61_1 := NB123_102.out
               have hms61_2 := NB123_103.out
               have hms61_3 := NB123_115.out
               have hs62 : w59.cell? ⟨gb123, 2, none⟩ = some (.bool false) := (blk_cell BK123.out 2).trans rfl
               have hfs62 := blk_frozen BK123.out 2
               have hns62_0 := NB101_123.out
               have hns62_1 := NB102_123.out
               have hns62_2 := NB103_123.out
               have hns62_3 := NB115_123.out
               have hms62_0 := NB123_101.out
               have hms62_1 := NB123_102.out
               have hms62_2 := NB123_103.out
               have hms62_3 := NB123_115.out
               refine skip_ (w1 := ?_) (by rfl) rfl ?_ ?_
               rotate_left
               · go_simp
                 rfl
               refine hK.out _ _ ⟨((cell_far (p := ⟨gb123, _, none⟩) NB115_123.out _).trans (((cell_far (p := ⟨gb123, _, none⟩) NB115_123.out _).trans (((cell_far (p := ⟨gb123, _, none⟩) NB115_123.out _).trans (hHeld.1)))))), ((cell_far (p := ⟨gb123, _, none⟩) NB115_123.out _).trans (((cell_far (p := ⟨gb123, _, none⟩) NB115_123.out _).trans (((cell_far (p := ⟨gb123, _, none⟩) NB115_123.out _).trans (hHeld.2.1)))))), ((cell_far (p := ⟨gb123, _, none⟩) NB115_123.out _).trans (((cell_far (p := ⟨gb123, _, none⟩) NB115_123.out _).trans (((cell_far (p := ⟨gb123, _, none⟩) NB115_123.out _).trans (hHeld.2.2.1)))))), ((cell_far (p := ⟨gb123, _, none⟩) NB101_123.out _).trans (((cell_far (p := ⟨gb123, _, none⟩) NB101_123.out _).trans (((cell_far (p := ⟨gb123, _, none⟩) NB101_123.out _).trans (hHeld.2.2.2.1)))))), ((cell_far (p := ⟨gb123, _, none⟩) NB101_123.out _).trans (((cell_far (p := ⟨gb123, _, none⟩) NB101_123.out _).trans (((cell_far (p := ⟨gb123, _, none⟩) NB101_123.out _).trans (hHeld.2.2.2.2.1)))))), ((cell_far (p := ⟨gb123, _, none⟩) NB101_123.out _).trans (((cell_far (p := ⟨gb123, _, none⟩) NB101_123.out _).trans (((cell_far (p := ⟨gb123, _, none⟩) NB101_123.out _).trans (hHeld.2.2.2.2.2.1)))))), ((cell_far (p := ⟨gb123, _, none⟩) NB101_123.out _).trans (((cell_far (p := ⟨gb123, _, none⟩) NB101_123.out _).trans (((cell_far (p := ⟨gb123, _, none⟩) NB101_123.out _).trans (hHeld.2.2.2.2.2.2.1)))))), ((cell_far (p := ⟨gb123, _, none⟩) NB101_123.out _).trans (((cell_far (p := ⟨gb123, _, none⟩) NB101_123.out _).trans (((cell_far (p := ⟨gb123, _, none⟩) NB101_123.out _).trans (hHeld.2.2.2.2.2.2.2))))))⟩ (fun hHeld => ?_)
               clear hK K
               refine pure_ (i := 10) (N := some 15) (v := ?_) (a' := ?_) #[true, true, true, true, true, true, true, true, true, true, true] rfl rfl (any_of HT_.out (by kernel_rfl)) (fun _ _ _ h => h) (Or.inl ⟨by rfl, ?_⟩) ?_ ?_
               rotate_left
               · intro w'
                 go_simp
                 with_reducible rfl
               rotate_left
               · simp only [Act.put, List.setIfInBounds_toArray, List.set_cons_zero, List.set_cons_succ, i64_w, i32_w]
                 rfl
               refine done_ (done_of HT_.out (by kernel_rfl)) ?_
               have hnb63 := NB123_101.out
               have hnc63 := NB101_123.out
               have hnb64 := NB123_102.out
               have hnc64 := NB102_123.out
               have hnb65 := NB123_103.out
               have hnc65 := NB103_123.out
               have hnb66 := NB123_115.out
               have hnc66 := NB115_123.out
               have hcz67_0 : w59.cell? ⟨gb123, 0, none⟩ = some (.int .i64 0) := (blk_cell BK123.out 0).trans rfl
               have hcz67_1 : w59.cell? ⟨gb123, 1, none⟩ = some (.int .i64 0) := (blk_cell BK123.out 1).trans rfl
               have hcz67_2 : w59.cell? ⟨gb123, 2, none⟩ = some (.bool false) := (blk_cell BK123.out 2).trans rfl
               have hfz67_0 := blk_frozen BK123.out 0
               have hfz67_1 := blk_frozen BK123.out 1
               have hfz67_2 := blk_frozen BK123.out 2
               have hnb68 := NB101_115.out
               have hnc68 := NB115_101.out
               have hcz69_0 : w59.cell? ⟨gb101, 0, none⟩ = some (.int .i64 a0_0) := (blk_cell BK101.out 0).trans rfl
               have hcz69_1 : w59.cell? ⟨gb101, 1, none⟩ = some (.int .i64 a0_1) := (blk_cell BK101.out 1).trans rfl
               have hcz69_2 : w59.cell? ⟨gb101, 2, none⟩ = some (.int .i64 a0_2) := (blk_cell BK101.out 2).trans rfl
               have hcz69_3 : w59.cell? ⟨gb101, 3, none⟩ = some (.bool a0_3) := (blk_cell BK101.out 3).trans rfl
               have hcz69_4 : w59.cell? ⟨gb101, 4, none⟩ = some (.int .i64 a0_4) := (blk_cell BK101.out 4).trans rfl
               have hfz69_0 := blk_frozen BK101.out 0
               have hfz69_1 := blk_frozen BK101.out 1
               have hfz69_2 := blk_frozen BK101.out 2
               have hfz69_3 := blk_frozen BK101.out 3
               have hfz69_4 := blk_frozen BK101.out 4
               try go_wp2_with (first | ((with_reducible refine gate_dst (N := 16) rfl ?_); refine box_event ?hg (N := 16) ?hd (cs := #[.int .i64 0, .int .i64 0, .int .i64 0, .bool false, .int .i64 0]) (t := 33) ?hr ?_; (case hd => rfl); (case hg => rfl); (case hr => first | (go_simp; done) | (go_simp; rfl)); intro gb124 hg w70 hbox hb; have n0_ := Aside0.mk (blk_below (g := gb101) (o := .cells #[.int .i64 a0_0, .int .i64 a0_1, .int .i64 a0_2, .bool a0_3, .int .i64 a0_4] 33 (0, 0)) (by (with_reducible repeat apply blk_drewN); refine blk_far ?_ NB101_123.out _; (with_reducible repeat apply blk_drewN); refine blk_far ?_ NB101_123.out _; (with_reducible repeat apply blk_drewN); refine blk_far ?_ NB101_123.out _; (with_reducible repeat apply blk_drewN); exact BK101.out) hb); have n1_ := Aside0.mk (blk_below (g := gb102) (o := .cells #[.int .i64 a3_0, .int .i64 a3_1, .bool a3_2] 31 (0, 0)) (by (with_reducible repeat apply blk_drewN); refine blk_far ?_ NB102_123.out _; (with_reducible repeat apply blk_drewN); refine blk_far ?_ NB102_123.out _; (with_reducible repeat apply blk_drewN); refine blk_far ?_ NB102_123.out _; (with_reducible repeat apply blk_drewN); exact BK102.out) hb); have n2_ := Aside0.mk (blk_below (g := gb103) (o := .cells #[.int .i64 0, .int .i64 0, .int .i64 0, .bool false, .int .i64 0] 33 (0, 0)) (by (with_reducible repeat apply blk_drewN); refine blk_far ?_ NB103_123.out _; (with_reducible repeat apply blk_drewN); refine blk_far ?_ NB103_123.out _; (with_reducible repeat apply blk_drewN); refine blk_far ?_ NB103_123.out _; (with_reducible repeat apply blk_drewN); exact BK103.out) hb); have n3_ := Aside0.mk (blk_below (g := gb115) (o := .cells #[.int .i64 t112, .int .i64 t113, .bool t114] 31 (0, 0)) (by (with_reducible repeat apply blk_drewN); refine blk_far ?_ NB115_123.out _; (with_reducible repeat apply blk_drewN); refine blk_far ?_ NB115_123.out _; (with_reducible repeat apply blk_drewN); refine blk_far ?_ NB115_123.out _; (with_reducible repeat apply blk_drewN); exact BK115.out) hb); have n4_ := Aside0.mk (blk_below (g := gb123) (o := .cells #[.int .i64 t119, .int .i64 t120, .bool t121] 31 (0, 0)) (by (with_reducible repeat apply blk_drewN); refine blk_put (cs := #[.int .i64 t119, .int .i64 t120, .bool false]) ?_ 2 _ rfl; (with_reducible repeat apply blk_drewN); refine blk_put (cs := #[.int .i64 t119, .int .i64 0, .bool false]) ?_ 1 _ rfl; (with_reducible repeat apply blk_drewN); refine blk_put (cs := #[.int .i64 0, .int .i64 0, .bool false]) ?_ 0 _ rfl; (with_reducible repeat apply blk_drewN); exact BK123.out) hb); have n5_ := Aside0.mk (below_step (by repeat (first | (with_reducible first | exact HB.out | apply below_alloc | apply pw_below_drewN | apply below_drew1 | refine below_set ?_ GE101.out | refine below_set ?_ GE102.out | refine below_set ?_ GE103.out | refine below_set ?_ GE115.out | refine below_set ?_ GE123.out) | exact HB.out)) hb); have n6_ := Aside0.mk (hbox); have n7_ := Aside0.mk ((by rw [hg]; exact (below_size (by repeat (first | (with_reducible first | exact HB.out | apply below_alloc | apply pw_below_drewN | apply below_drew1 | refine below_set ?_ GE101.out | refine below_set ?_ GE102.out | refine below_set ?_ GE103.out | refine below_set ?_ GE115.out | refine below_set ?_ GE123.out) | exact HB.out))) : w.heap.size ≤ gb124)); have n8_ := n7_; have n9_ := Aside0.mk ((by rw [hg]; exact Nat.ne_of_lt (blk_lt (g := gb101) (o := .cells #[.int .i64 a0_0, .int .i64 a0_1, .int .i64 a0_2, .bool a0_3, .int .i64 a0_4] 33 (0, 0)) (by (with_reducible repeat apply blk_drewN); refine blk_far ?_ NB101_123.out _; (with_reducible repeat apply blk_drewN); refine blk_far ?_ NB101_123.out _; (with_reducible repeat apply blk_drewN); refine blk_far ?_ NB101_123.out _; (with_reducible repeat apply blk_drewN); exact BK101.out)) : gb101 ≠ gb124)); have n10_ := Aside0.mk ((by rw [hg]; exact Nat.ne_of_gt (blk_lt (g := gb101) (o := .cells #[.int .i64 a0_0, .int .i64 a0_1, .int .i64 a0_2, .bool a0_3, .int .i64 a0_4] 33 (0, 0)) (by (with_reducible repeat apply blk_drewN); refine blk_far ?_ NB101_123.out _; (with_reducible repeat apply blk_drewN); refine blk_far ?_ NB101_123.out _; (with_reducible repeat apply blk_drewN); refine blk_far ?_ NB101_123.out _; (with_reducible repeat apply blk_drewN); exact BK101.out)) : gb124 ≠ gb101)); have n11_ := Aside0.mk ((by rw [hg]; exact Nat.ne_of_lt (blk_lt (g := gb102) (o := .cells #[.int .i64 a3_0, .int .i64 a3_1, .bool a3_2] 31 (0, 0)) (by (with_reducible repeat apply blk_drewN); refine blk_far ?_ NB102_123.out _; (with_reducible repeat apply blk_drewN); refine blk_far ?_ NB102_123.out _; (with_reducible repeat apply blk_drewN); refine blk_far ?_ NB102_123.out _; (with_reducible repeat apply blk_drewN); exact BK102.out)) : gb102 ≠ gb124)); have n12_ := Aside0.mk ((by rw [hg]; exact Nat.ne_of_gt (blk_lt (g := gb102) (o := .cells #[.int .i64 a3_0, .int .i64 a3_1, .bool a3_2] 31 (0, 0)) (by (with_reducible repeat apply blk_drewN); refine blk_far ?_ NB102_123.out _; (with_reducible repeat apply blk_drewN); refine blk_far ?_ NB102_123.out _; (with_reducible repeat apply blk_drewN); refine blk_far ?_ NB102_123.out _; (with_reducible repeat apply blk_drewN); exact BK102.out)) : gb124 ≠ gb102)); have n13_ := Aside0.mk ((by rw [hg]; exact Nat.ne_of_lt (blk_lt (g := gb103) (o := .cells #[.int .i64 0, .int .i64 0, .int .i64 0, .bool false, .int .i64 0] 33 (0, 0)) (by (with_reducible repeat apply blk_drewN); refine blk_far ?_ NB103_123.out _; (with_reducible repeat apply blk_drewN); refine blk_far ?_ NB103_123.out _; (with_reducible repeat apply blk_drewN); refine blk_far ?_ NB103_123.out _; (with_reducible repeat apply blk_drewN); exact BK103.out)) : gb103 ≠ gb124)); have n14_ := Aside0.mk ((by rw [hg]; exact Nat.ne_of_gt (blk_lt (g := gb103) (o := .cells #[.int .i64 0, .int .i64 0, .int .i64 0, .bool false, .int .i64 0] 33 (0, 0)) (by (with_reducible repeat apply blk_drewN); refine blk_far ?_ NB103_123.out _; (with_reducible repeat apply blk_drewN); refine blk_far ?_ NB103_123.out _; (with_reducible repeat apply blk_drewN); refine blk_far ?_ NB103_123.out _; (with_reducible repeat apply blk_drewN); exact BK103.out)) : gb124 ≠ gb103)); have n15_ := Aside0.mk ((by rw [hg]; exact Nat.ne_of_lt (blk_lt (g := gb115) (o := .cells #[.int .i64 t112, .int .i64 t113, .bool t114] 31 (0, 0)) (by (with_reducible repeat apply blk_drewN); refine blk_far ?_ NB115_123.out _; (with_reducible repeat apply blk_drewN); refine blk_far ?_ NB115_123.out _; (with_reducible repeat apply blk_drewN); refine blk_far ?_ NB115_123.out _; (with_reducible repeat apply blk_drewN); exact BK115.out)) : gb115 ≠ gb124)); have n16_ := Aside0.mk ((by rw [hg]; exact Nat.ne_of_gt (blk_lt (g := gb115) (o := .cells #[.int .i64 t112, .int .i64 t113, .bool t114] 31 (0, 0)) (by (with_reducible repeat apply blk_drewN); refine blk_far ?_ NB115_123.out _; (with_reducible repeat apply blk_drewN); refine blk_far ?_ NB115_123.out _; (with_reducible repeat apply blk_drewN); refine blk_far ?_ NB115_123.out _; (with_reducible repeat apply blk_drewN); exact BK115.out)) : gb124 ≠ gb115)); have n17_ := Aside0.mk ((by rw [hg]; exact Nat.ne_of_lt (blk_lt (g := gb123) (o := .cells #[.int .i64 t119, .int .i64 t120, .bool t121] 31 (0, 0)) (by (with_reducible repeat apply blk_drewN); refine blk_put (cs := #[.int .i64 t119, .int .i64 t120, .bool false]) ?_ 2 _ rfl; (with_reducible repeat apply blk_drewN); refine blk_put (cs := #[.int .i64 t119, .int .i64 0, .bool false]) ?_ 1 _ rfl; (with_reducible repeat apply blk_drewN); refine blk_put (cs := #[.int .i64 0, .int .i64 0, .bool false]) ?_ 0 _ rfl; (with_reducible repeat apply blk_drewN); exact BK123.out)) : gb123 ≠ gb124)); have n18_ := Aside0.mk ((by rw [hg]; exact Nat.ne_of_gt (blk_lt (g := gb123) (o := .cells #[.int .i64 t119, .int .i64 t120, .bool t121] 31 (0, 0)) (by (with_reducible repeat apply blk_drewN); refine blk_put (cs := #[.int .i64 t119, .int .i64 t120, .bool false]) ?_ 2 _ rfl; (with_reducible repeat apply blk_drewN); refine blk_put (cs := #[.int .i64 t119, .int .i64 0, .bool false]) ?_ 1 _ rfl; (with_reducible repeat apply blk_drewN); refine blk_put (cs := #[.int .i64 0, .int .i64 0, .bool false]) ?_ 0 _ rfl; (with_reducible repeat apply blk_drewN); exact BK123.out)) : gb124 ≠ gb123)); clear BK101; clear BK102; clear BK103; clear BK115; clear BK123; clear HB; have BK101 := n0_; have BK102 := n1_; have BK103 := n2_; have BK115 := n3_; have BK123 := n4_; have HB := n5_; have BK124 := n6_; have GW124 := n7_; have GE124 := n8_; have NB101_124 := n9_; have NB124_101 := n10_; have NB102_124 := n11_; have NB124_102 := n12_; have NB103_124 := n13_; have NB124_103 := n14_; have NB115_124 := n15_; have NB124_115 := n16_; have NB123_124 := n17_; have NB124_123 := n18_; clear n0_ n1_ n2_ n3_ n4_ n5_ n6_ n7_ n8_ n9_ n10_ n11_ n12_ n13_ n14_ n15_ n16_ n17_ n18_; clear hb hbox hg; have hnb71 := NB124_101.out; have hnc71 := NB101_124.out; have hnb72 := NB124_102.out; have hnc72 := NB102_124.out; have hnb73 := NB124_103.out; have hnc73 := NB103_124.out; have hnb74 := NB124_115.out; have hnc74 := NB115_124.out; have hnb75 := NB124_123.out; have hnc75 := NB123_124.out; have hcz76_0 : w70.cell? ⟨gb124, 0, none⟩ = some (.int .i64 0) := (blk_cell BK124.out 0).trans rfl; have hcz76_1 : w70.cell? ⟨gb124, 1, none⟩ = some (.int .i64 0) := (blk_cell BK124.out 1).trans rfl; have hcz76_2 : w70.cell? ⟨gb124, 2, none⟩ = some (.int .i64 0) := (blk_cell BK124.out 2).trans rfl; have hcz76_3 : w70.cell? ⟨gb124, 3, none⟩ = some (.bool false) := (blk_cell BK124.out 3).trans rfl; have hcz76_4 : w70.cell? ⟨gb124, 4, none⟩ = some (.int .i64 0) := (blk_cell BK124.out 4).trans rfl; have hfz76_0 := blk_frozen BK124.out 0; have hfz76_1 := blk_frozen BK124.out 1; have hfz76_2 := blk_frozen BK124.out 2; have hfz76_3 := blk_frozen BK124.out 3; have hfz76_4 := blk_frozen BK124.out 4) | ((with_reducible refine gate_callee (f := 83) rfl ?_); refine goesL_ (some 77) rfl rfl Try.func83 (by kernel_rfl) rfl #[.agg #[.int .i64 a2, .int .i64 t119, .int .i64 t120, .bool t121, .int .i64 a0_4]] rfl (by (try simp only [List.map_toArray, List.map_cons, List.map_nil]); first | done | rfl | (simp only [List.length_drop, List.length_take]; rfl)) ?_; (with_reducible refine (clock_Check.calls kj6 a2 t119 t120 t121 a0_4 t125 _ A40.out).mono ?_); rintro e w77 ⟨rfl, hb⟩; refine ⟨_, rfl, ?_⟩; have n0_ := Aside0.mk (blk_below (g := gb101) (o := .cells #[.int .i64 a0_0, .int .i64 a0_1, .int .i64 a0_2, .bool a0_3, .int .i64 a0_4] 33 (0, 0)) (by (with_reducible repeat apply blk_drewN); refine blk_far ?_ NB101_124.out _; (with_reducible repeat apply blk_drewN); refine blk_far ?_ NB101_124.out _; (with_reducible repeat apply blk_drewN); refine blk_far ?_ NB101_124.out _; (with_reducible repeat apply blk_drewN); refine blk_far ?_ NB101_124.out _; (with_reducible repeat apply blk_drewN); refine blk_far ?_ NB101_124.out _; (with_reducible repeat apply blk_drewN); exact BK101.out) hb); have n1_ := Aside0.mk (blk_below (g := gb102) (o := .cells #[.int .i64 a3_0, .int .i64 a3_1, .bool a3_2] 31 (0, 0)) (by (with_reducible repeat apply blk_drewN); refine blk_far ?_ NB102_124.out _; (with_reducible repeat apply blk_drewN); refine blk_far ?_ NB102_124.out _; (with_reducible repeat apply blk_drewN); refine blk_far ?_ NB102_124.out _; (with_reducible repeat apply blk_drewN); refine blk_far ?_ NB102_124.out _; (with_reducible repeat apply blk_drewN); refine blk_far ?_ NB102_124.out _; (with_reducible repeat apply blk_drewN); exact BK102.out) hb); have n2_ := Aside0.mk (blk_below (g := gb103) (o := .cells #[.int .i64 0, .int .i64 0, .int .i64 0, .bool false, .int .i64 0] 33 (0, 0)) (by (with_reducible repeat apply blk_drewN); refine blk_far ?_ NB103_124.out _; (with_reducible repeat apply blk_drewN); refine blk_far ?_ NB103_124.out _; (with_reducible repeat apply blk_drewN); refine blk_far ?_ NB103_124.out _; (with_reducible repeat apply blk_drewN); refine blk_far ?_ NB103_124.out _; (with_reducible repeat apply blk_drewN); refine blk_far ?_ NB103_124.out _; (with_reducible repeat apply blk_drewN); exact BK103.out) hb); have n3_ := Aside0.mk (blk_below (g := gb115) (o := .cells #[.int .i64 t112, .int .i64 t113, .bool t114] 31 (0, 0)) (by (with_reducible repeat apply blk_drewN); refine blk_far ?_ NB115_124.out _; (with_reducible repeat apply blk_drewN); refine blk_far ?_ NB115_124.out _; (with_reducible repeat apply blk_drewN); refine blk_far ?_ NB115_124.out _; (with_reducible repeat apply blk_drewN); refine blk_far ?_ NB115_124.out _; (with_reducible repeat apply blk_drewN); refine blk_far ?_ NB115_124.out _; (with_reducible repeat apply blk_drewN); exact BK115.out) hb); have n4_ := Aside0.mk (blk_below (g := gb123) (o := .cells #[.int .i64 t119, .int .i64 t120, .bool t121] 31 (0, 0)) (by (with_reducible repeat apply blk_drewN); refine blk_far ?_ NB123_124.out _; (with_reducible repeat apply blk_drewN); refine blk_far ?_ NB123_124.out _; (with_reducible repeat apply blk_drewN); refine blk_far ?_ NB123_124.out _; (with_reducible repeat apply blk_drewN); refine blk_far ?_ NB123_124.out _; (with_reducible repeat apply blk_drewN); refine blk_far ?_ NB123_124.out _; (with_reducible repeat apply blk_drewN); exact BK123.out) hb); have n5_ := Aside0.mk (blk_below (g := gb124) (o := .cells #[.int .i64 a2, .int .i64 t119, .int .i64 t120, .bool t121, .int .i64 a0_4] 33 (0, 0)) (by (with_reducible repeat apply blk_drewN); refine blk_put (cs := #[.int .i64 a2, .int .i64 t119, .int .i64 t120, .bool t121, .int .i64 0]) ?_ 4 _ rfl; (with_reducible repeat apply blk_drewN); refine blk_put (cs := #[.int .i64 a2, .int .i64 t119, .int .i64 t120, .bool false, .int .i64 0]) ?_ 3 _ rfl; (with_reducible repeat apply blk_drewN); refine blk_put (cs := #[.int .i64 a2, .int .i64 t119, .int .i64 0, .bool false, .int .i64 0]) ?_ 2 _ rfl; (with_reducible repeat apply blk_drewN); refine blk_put (cs := #[.int .i64 a2, .int .i64 0, .int .i64 0, .bool false, .int .i64 0]) ?_ 1 _ rfl; (with_reducible repeat apply blk_drewN); refine blk_put (cs := #[.int .i64 0, .int .i64 0, .int .i64 0, .bool false, .int .i64 0]) ?_ 0 _ rfl; (with_reducible repeat apply blk_drewN); exact BK124.out) hb); have n6_ := Aside0.mk (below_step (by repeat (first | (with_reducible first | exact HB.out | apply below_alloc | apply pw_below_drewN | apply below_drew1 | refine below_set ?_ GE101.out | refine below_set ?_ GE102.out | refine below_set ?_ GE103.out | refine below_set ?_ GE115.out | refine below_set ?_ GE123.out | refine below_set ?_ GE124.out) | exact HB.out)) hb); clear BK101; clear BK102; clear BK103; clear BK115; clear BK123; clear BK124; clear HB; have BK101 := n0_; have BK102 := n1_; have BK103 := n2_; have BK115 := n3_; have BK123 := n4_; have BK124 := n5_; have HB := n6_; clear n0_ n1_ n2_ n3_ n4_ n5_ n6_; (try clear hb); (try clear hb2); (try clear hk); (try clear hi); have hcz78_0 : w77.cell? ⟨gb124, 0, none⟩ = some (.int .i64 a2) := (blk_cell BK124.out 0).trans rfl; have hcz78_1 : w77.cell? ⟨gb124, 1, none⟩ = some (.int .i64 t119) := (blk_cell BK124.out 1).trans rfl; have hcz78_2 : w77.cell? ⟨gb124, 2, none⟩ = some (.int .i64 t120) := (blk_cell BK124.out 2).trans rfl; have hcz78_3 : w77.cell? ⟨gb124, 3, none⟩ = some (.bool t121) := (blk_cell BK124.out 3).trans rfl; have hcz78_4 : w77.cell? ⟨gb124, 4, none⟩ = some (.int .i64 a0_4) := (blk_cell BK124.out 4).trans rfl; have hfz78_0 := blk_frozen BK124.out 0; have hfz78_1 := blk_frozen BK124.out 1; have hfz78_2 := blk_frozen BK124.out 2; have hfz78_3 := blk_frozen BK124.out 3; have hfz78_4 := blk_frozen BK124.out 4; have hnb79 := NB103_102.out; have hnc79 := NB102_103.out; have hnb80 := NB103_115.out; have hnc80 := NB115_103.out; have hcz81_0 : w77.cell? ⟨gb103, 0, none⟩ = some (.int .i64 0) := (blk_cell BK103.out 0).trans rfl; have hcz81_1 : w77.cell? ⟨gb103, 1, none⟩ = some (.int .i64 0) := (blk_cell BK103.out 1).trans rfl; have hcz81_2 : w77.cell? ⟨gb103, 2, none⟩ = some (.int .i64 0) := (blk_cell BK103.out 2).trans rfl; have hcz81_3 : w77.cell? ⟨gb103, 3, none⟩ = some (.bool false) := (blk_cell BK103.out 3).trans rfl; have hcz81_4 : w77.cell? ⟨gb103, 4, none⟩ = some (.int .i64 0) := (blk_cell BK103.out 4).trans rfl; have hfz81_0 := blk_frozen BK103.out 0; have hfz81_1 := blk_frozen BK103.out 1; have hfz81_2 := blk_frozen BK103.out 2; have hfz81_3 := blk_frozen BK103.out 3; have hfz81_4 := blk_frozen BK103.out 4))
               refine bodyPost_ret (results_ct rfl _ _ gb103 33 #[.int .i64 a2, .int .i64 t119, .int .i64 t120, .bool t121, .int .i64 a0_4] (0, 0) _ rfl (by (with_reducible repeat apply blk_drewN); refine blk_put (cs := #[.int .i64 a2, .int .i64 t119, .int .i64 t120, .bool t121, .int .i64 0]) ?_ 4 _ rfl; (with_reducible repeat apply blk_drewN); refine blk_put (cs := #[.int .i64 a2, .int .i64 t119, .int .i64 t120, .bool false, .int .i64 0]) ?_ 3 _ rfl; (with_reducible repeat apply blk_drewN); refine blk_put (cs := #[.int .i64 a2, .int .i64 t119, .int .i64 0, .bool false, .int .i64 0]) ?_ 2 _ rfl; (with_reducible repeat apply blk_drewN); refine blk_put (cs := #[.int .i64 a2, .int .i64 0, .int .i64 0, .bool false, .int .i64 0]) ?_ 1 _ rfl; (with_reducible repeat apply blk_drewN); refine blk_put (cs := #[.int .i64 0, .int .i64 0, .int .i64 0, .bool false, .int .i64 0]) ?_ 0 _ rfl; (with_reducible repeat apply blk_drewN); exact BK103.out) Try.underlying33 rfl (by kernel_rfl)) rfl ?_
               exact ⟨by first | rfl | (simp [errW_none, errW_some] <;> rfl) | (simp [*, errW_none, errW_some] <;> rfl), by repeat (first | (with_reducible first | exact HB.out | apply below_alloc | apply pw_below_drewN | apply below_drew1 | refine below_set ?_ GE101.out | refine below_set ?_ GE102.out | refine below_set ?_ GE103.out | refine below_set ?_ GE115.out | refine below_set ?_ GE123.out | refine below_set ?_ GE124.out) | exact HB.out)⟩
             · rw [if_neg c41] at H
               have c41b0 : (t125 == 0) = false := beq_eq_false_iff_ne.mpr c41
               have c41b1 : (t125 != 0) = true := bne_iff_ne.mpr c41
               simp only [Option.some.injEq, Prod.mk.injEq] at H
               obtain ⟨rfl, rfl, rfl, rfl, rfl, rfl⟩ := H
               have hnb82 := NB101_102.out
               have hnc82 := NB102_101.out
               have hnb83 := NB101_103.out
               have hnc83 := NB103_101.out
               have hcz84_0 : wc.cell? ⟨gb101, 0, none⟩ = some (.int .i64 a0_0) := (blk_cell BK101.out 0).trans rfl
               have hcz84_1 : wc.cell? ⟨gb101, 1, none⟩ = some (.int .i64 a0_1) := (blk_cell BK101.out 1).trans rfl
               have hcz84_2 : wc.cell? ⟨gb101, 2, none⟩ = some (.int .i64 a0_2) := (blk_cell BK101.out 2).trans rfl
               have hcz84_3 : wc.cell? ⟨gb101, 3, none⟩ = some (.bool a0_3) := (blk_cell BK101.out 3).trans rfl
               have hcz84_4 : wc.cell? ⟨gb101, 4, none⟩ = some (.int .i64 a0_4) := (blk_cell BK101.out 4).trans rfl
               have hfz84_0 := blk_frozen BK101.out 0
               have hfz84_1 := blk_frozen BK101.out 1
               have hfz84_2 := blk_frozen BK101.out 2
               have hfz84_3 := blk_frozen BK101.out 3
               have hfz84_4 := blk_frozen BK101.out 4
               try go_wp2_with (first | ((with_reducible refine gate_callee (f := 84) rfl ?_); refine goesL_ (some 53) rfl rfl Try.func84 (by kernel_rfl) rfl #[.int .i64 (wrap64 ((wrap64 (a2 - a1)) + 1)), .int .i64 1000000, .int .i64 (wrap64 (1000000 - a0_4))] rfl (by (try simp only [List.map_toArray, List.map_cons, List.map_nil]); first | done | rfl | (simp only [List.length_drop, List.length_take]; rfl)) ?_; (with_reducible refine (num_MulDivUp.calls kj6 (wrap64 ((wrap64 (a2 - a1)) + 1)) 1000000 (wrap64 (1000000 - a0_4)) t107 t108 _ A34.out).mono ?_); rintro e w85 ⟨rfl, hb⟩; refine ⟨_, rfl, ?_⟩; have n0_ := bkb_ BK101 hb rfl; have n1_ := bkb_ BK102 hb rfl; have n2_ := bkb_ BK103 hb rfl; have n3_ := hbs_ HB hb rfl rfl rfl rfl; clear BK101; clear BK102; clear BK103; clear HB; have BK101 := n0_; have BK102 := n1_; have BK103 := n2_; have HB := n3_; clear n0_ n1_ n2_ n3_; (try clear hb); (try clear hb2); (try clear hk); (try clear hi)))
               have n0_ := Aside0.mk (blk_drew BK101.out)
               have n1_ := Aside0.mk (blk_drew BK102.out)
               have n2_ := Aside0.mk (blk_drew BK103.out)
               have n3_ := Aside0.mk (below_drew1 HB.out)
               clear BK101
               clear BK102
               clear BK103
               clear HB
               have BK101 := n0_
               have BK102 := n1_
               have BK103 := n2_
               have HB := n3_
               clear n0_ n1_ n2_ n3_
               refine start_ (n := 6) (S := fun w' => w'.cell? ⟨gb102, 0, none⟩ = some (.int .i64 a3_0) ∧ w'.cell? ⟨gb102, 1, none⟩ = some (.int .i64 a3_1) ∧ w'.cell? ⟨gb102, 2, none⟩ = some (.bool a3_2)) (ds := []) #[false, false, false, false, false, false] (by kernel_rfl) rfl rfl ⟨(blk_cell BK102.out 0).trans rfl, (blk_cell BK102.out 1).trans rfl, (blk_cell BK102.out 2).trans rfl⟩ (fun hHeld => ?_)
               generalize w85.drew = w86 at BK101 BK102 BK103 HB hHeld ⊢
               refine pure_ (i := 1) (N := some 57) (v := ?_) (a' := ?_) #[false, true, false, false, false, false] rfl rfl (by kernel_rfl) (fun _ _ _ h => h) (Or.inl ⟨by rfl, ?_⟩) ?_ ?_
               rotate_left
               · intro w'
                 go_simp
                 with_reducible rfl
               rotate_left
               · simp only [Act.put, List.setIfInBounds_toArray, List.set_cons_zero, List.set_cons_succ, i64_w, i32_w]
                 rfl
               refine take_ (i := 0) (N := some 56) (v := ?_) (a' := ?_) #[true, true, false, false, false, false] rfl rfl (by kernel_rfl) (fun _ _ _ h => h) (Or.inl ⟨by rfl, ?_⟩) hHeld ?_ ?_
               rotate_left
               · rintro w' ⟨s0, s1, s2⟩
                 go_simp
                 with_reducible rfl
               rotate_left
               · simp only [Act.put, List.setIfInBounds_toArray, List.set_cons_zero, List.set_cons_succ, i64_w, i32_w]
                 rfl
               refine join_ (σ := Nat) 1 #[true, true, true, true, true, false] (fun s_ => [(58, .agg #[.int .i64 t109, .int .i64 t110, .bool t111]), (59, .agg #[.int .i64 t112, .int .i64 t113, .bool t114]), (13, .pointer (some ⟨s_, 0, none⟩))]) (fun s_ w' => (w'.cell? ⟨gb102, 0, none⟩ = some (.int .i64 a3_0) ∧ w'.cell? ⟨gb102, 1, none⟩ = some (.int .i64 a3_1) ∧ w'.cell? ⟨gb102, 2, none⟩ = some (.bool a3_2)) ∧ (w'.heap[gb101]? = some (.cells #[.int .i64 a0_0, .int .i64 a0_1, .int .i64 a0_2, .bool a0_3, .int .i64 a0_4] 33 (0, 0))) ∧ (w'.heap[gb102]? = some (.cells #[.int .i64 a3_0, .int .i64 a3_1, .bool a3_2] 31 (0, 0))) ∧ (w'.heap[gb103]? = some (.cells #[.int .i64 0, .int .i64 0, .int .i64 0, .bool false, .int .i64 0] 33 (0, 0))) ∧ (w'.heap[s_]? = some (.cells #[.int .i64 0, .int .i64 0, .bool false] 31 (0, 0))) ∧ (w.heap.size ≤ s_) ∧ (w.heap.size ≤ s_) ∧ (gb101 ≠ s_) ∧ (s_ ≠ gb101) ∧ (gb102 ≠ s_) ∧ (s_ ≠ gb102) ∧ (gb103 ≠ s_) ∧ (s_ ≠ gb103) ∧ (Below w.heap.size w w')) ?_ ?_
               rotate_left
               · intro hCont
                 refine two_ (i := 2) (j := 4) (Ni := some 58) (Nj := some 13) #[true, true, true, false, false, false] #[true, true, false, false, true, false] rfl rfl rfl rfl (by kernel_rfl) (by decide) (by decide) (fun K hK => ?_) (fun K hK => ?_)
                 · skip
                   refine goes_ Try.func86 (by kernel_rfl) rfl #[.int .i64 0, .int .i64 t107] (by rfl) rfl rfl (by (try simp only [List.map_toArray, List.map_cons, List.map_nil]); first | done | rfl | (simp only [List.length_drop, List.length_take]; rfl)) ?_
                   with_reducible refine (bound_Of_api_Tick.calls kj6 0 t107 t109 t110 t111 _ A35.out).mono ?_
                   rintro e w87 ⟨rfl, hb⟩
                   refine ⟨_, rfl, ?_⟩
                   have n0_ := bkb_ BK101 hb rfl
                   have n1_ := bkb_ BK102 hb rfl
                   have n2_ := bkb_ BK103 hb rfl
                   have n3_ := hbs_ HB hb rfl rfl rfl rfl
                   clear BK101
                   clear BK102
                   clear BK103
                   clear HB
                   have BK101 := n0_
                   have BK102 := n1_
                   have BK103 := n2_
                   have HB := n3_
                   clear n0_ n1_ n2_ n3_
                   (try clear hb)
                   (try clear hb2)
                   (try clear hk)
                   (try clear hi)
                   refine hK.out _ _ ⟨(blk_cell BK102.out 0).trans rfl, (blk_cell BK102.out 1).trans rfl, (blk_cell BK102.out 2).trans rfl⟩ (fun hHeld => ?_)
                   clear hK K
                   refine norm_ (a' := ?_) ?_ ?_
                   rotate_left
                   · show Act.put _ (some 58) _ = _
                     simp only [Act.put, List.setIfInBounds_toArray, List.set_cons_zero, List.set_cons_succ, i64_w, i32_w]
                     rfl
                   refine two_ (i := 3) (j := 4) (Ni := some 59) (Nj := some 13) #[true, true, true, true, false, false] #[true, true, true, false, true, false] rfl rfl rfl rfl (by kernel_rfl) (by decide) (by decide) (fun K hK => ?_) (fun K hK => ?_)
                   · skip
                     refine goes_ Try.func85 (by kernel_rfl) rfl #[.agg #[.int .i64 a3_0, .int .i64 a3_1, .bool a3_2], .agg #[.int .i64 t109, .int .i64 t110, .bool t111]] (by rfl) rfl rfl (by (try simp only [List.map_toArray, List.map_cons, List.map_nil]); first | done | rfl | (simp only [List.length_drop, List.length_take]; rfl)) ?_
                     with_reducible refine (bound_Add_api_Tick.calls kj6 a3_0 a3_1 a3_2 t109 t110 t111 t112 t113 t114 _ A36.out).mono ?_
                     rintro e w88 ⟨rfl, hb⟩
                     refine ⟨_, rfl, ?_⟩
                     have n0_ := bkb_ BK101 hb rfl
                     have n1_ := bkb_ BK102 hb rfl
                     have n2_ := bkb_ BK103 hb rfl
                     have n3_ := hbs_ HB hb rfl rfl rfl rfl
                     clear BK101
                     clear BK102
                     clear BK103
                     clear HB
                     have BK101 := n0_
                     have BK102 := n1_
                     have BK103 := n2_
                     have HB := n3_
                     clear n0_ n1_ n2_ n3_
                     (try clear hb)
                     (try clear hb2)
                     (try clear hk)
                     (try clear hi)
                     refine hK.out _ _ ⟨(blk_cell BK102.out 0).trans rfl, (blk_cell BK102.out 1).trans rfl, (blk_cell BK102.out 2).trans rfl⟩ (fun hHeld => ?_)
                     clear hK K
                     refine norm_ (a' := ?_) ?_ ?_
                     rotate_left
                     · show Act.put _ (some 59) _ = _
                       simp only [Act.put, List.setIfInBounds_toArray, List.set_cons_zero, List.set_cons_succ, i64_w, i32_w]
                       rfl
                     refine one_ (i := 4) (N := some 13) #[true, true, true, true, true, false] rfl rfl (by kernel_rfl) (by decide) (fun K hK => ?_)
                     refine box_step ?hg (N := 13) ?hd (cs := #[.int .i64 0, .int .i64 0, .bool false]) (t := 31) ?hr ?_; (case hd => rfl); (case hg => rfl); (case hr => first | (go_simp; done) | (go_simp; rfl))
                     intro gb115 hg w89 hbox hb
                     have n0_ := bkb_ BK101 hb rfl
                     have n1_ := bkb_ BK102 hb rfl
                     have n2_ := bkb_ BK103 hb rfl
                     have n3_ := hbs_ HB hb rfl rfl rfl rfl
                     have n4_ := Aside0.mk (hbox)
                     have n5_ := Aside0.mk ((by rw [hg]; exact (below_size (by repeat (first | (with_reducible first | exact HB.out | apply below_alloc | apply pw_below_drewN | apply below_drew1 | refine below_set ?_ GE101.out | refine below_set ?_ GE102.out | refine below_set ?_ GE103.out) | exact HB.out))) : w.heap.size ≤ gb115))
                     have n6_ := n5_
                     have n7_ := nbl_ BK101 hg rfl
                     have n8_ := nbg_ BK101 hg rfl
                     have n9_ := nbl_ BK102 hg rfl
                     have n10_ := nbg_ BK102 hg rfl
                     have n11_ := nbl_ BK103 hg rfl
                     have n12_ := nbg_ BK103 hg rfl
                     clear BK101
                     clear BK102
                     clear BK103
                     clear HB
                     have BK101 := n0_
                     have BK102 := n1_
                     have BK103 := n2_
                     have HB := n3_
                     have BK115 := n4_
                     have GW115 := n5_
                     have GE115 := n6_
                     have NB101_115 := n7_
                     have NB115_101 := n8_
                     have NB102_115 := n9_
                     have NB115_102 := n10_
                     have NB103_115 := n11_
                     have NB115_103 := n12_
                     clear n0_ n1_ n2_ n3_ n4_ n5_ n6_ n7_ n8_ n9_ n10_ n11_ n12_
                     clear hb hbox hg
                     refine hK.out _ _ ⟨(blk_cell BK102.out 0).trans rfl, (blk_cell BK102.out 1).trans rfl, (blk_cell BK102.out 2).trans rfl⟩ (fun hHeld => ?_)
                     clear hK K
                     refine norm_ (a' := ?_) ?_ ?_
                     rotate_left
                     · show Act.put _ (some 13) _ = _
                       simp only [Act.put, List.setIfInBounds_toArray, List.set_cons_zero, List.set_cons_succ, i64_w, i32_w]
                       rfl
                     exact norm_ (by simp only [putAll, Act.put, List.setIfInBounds_toArray, List.set_cons_zero, List.set_cons_succ]) (hCont (gb115) _ ⟨hHeld, BK101.out, BK102.out, BK103.out, BK115.out, GW115.out, GE115.out, NB101_115.out, NB115_101.out, NB102_115.out, NB115_102.out, NB103_115.out, NB115_103.out, (by repeat (first | (with_reducible first | exact HB.out | apply below_alloc | apply pw_below_drewN | apply below_drew1 | refine below_set ?_ GE101.out | refine below_set ?_ GE102.out | refine below_set ?_ GE103.out | refine below_set ?_ GE115.out) | exact HB.out))⟩)
                   · skip
                     refine box_step ?hg (N := 13) ?hd (cs := #[.int .i64 0, .int .i64 0, .bool false]) (t := 31) ?hr ?_; (case hd => rfl); (case hg => rfl); (case hr => first | (go_simp; done) | (go_simp; rfl))
                     intro gb115 hg w88 hbox hb
                     have n0_ := bkb_ BK101 hb rfl
                     have n1_ := bkb_ BK102 hb rfl
                     have n2_ := bkb_ BK103 hb rfl
                     have n3_ := hbs_ HB hb rfl rfl rfl rfl
                     have n4_ := Aside0.mk (hbox)
                     have n5_ := Aside0.mk ((by rw [hg]; exact (below_size (by repeat (first | (with_reducible first | exact HB.out | apply below_alloc | apply pw_below_drewN | apply below_drew1 | refine below_set ?_ GE101.out | refine below_set ?_ GE102.out | refine below_set ?_ GE103.out) | exact HB.out))) : w.heap.size ≤ gb115))
                     have n6_ := n5_
                     have n7_ := nbl_ BK101 hg rfl
                     have n8_ := nbg_ BK101 hg rfl
                     have n9_ := nbl_ BK102 hg rfl
                     have n10_ := nbg_ BK102 hg rfl
                     have n11_ := nbl_ BK103 hg rfl
                     have n12_ := nbg_ BK103 hg rfl
                     clear BK101
                     clear BK102
                     clear BK103
                     clear HB
                     have BK101 := n0_
                     have BK102 := n1_
                     have BK103 := n2_
                     have HB := n3_
                     have BK115 := n4_
                     have GW115 := n5_
                     have GE115 := n6_
                     have NB101_115 := n7_
                     have NB115_101 := n8_
                     have NB102_115 := n9_
                     have NB115_102 := n10_
                     have NB103_115 := n11_
                     have NB115_103 := n12_
                     clear n0_ n1_ n2_ n3_ n4_ n5_ n6_ n7_ n8_ n9_ n10_ n11_ n12_
                     clear hb hbox hg
                     refine hK.out _ _ ⟨(blk_cell BK102.out 0).trans rfl, (blk_cell BK102.out 1).trans rfl, (blk_cell BK102.out 2).trans rfl⟩ (fun hHeld => ?_)
                     clear hK K
                     refine norm_ (a' := ?_) ?_ ?_
                     rotate_left
                     · show Act.put _ (some 13) _ = _
                       simp only [Act.put, List.setIfInBounds_toArray, List.set_cons_zero, List.set_cons_succ, i64_w, i32_w]
                       rfl
                     refine one_ (i := 3) (N := some 59) #[true, true, true, true, true, false] rfl rfl (by kernel_rfl) (by decide) (fun K hK => ?_)
                     refine goes_ Try.func85 (by kernel_rfl) rfl #[.agg #[.int .i64 a3_0, .int .i64 a3_1, .bool a3_2], .agg #[.int .i64 t109, .int .i64 t110, .bool t111]] (by rfl) rfl rfl (by (try simp only [List.map_toArray, List.map_cons, List.map_nil]); first | done | rfl | (simp only [List.length_drop, List.length_take]; rfl)) ?_
                     with_reducible refine (bound_Add_api_Tick.calls kj6 a3_0 a3_1 a3_2 t109 t110 t111 t112 t113 t114 _ A36.out).mono ?_
                     rintro e w89 ⟨rfl, hb⟩
                     refine ⟨_, rfl, ?_⟩
                     have n0_ := bkb_ BK101 hb rfl
                     have n1_ := bkb_ BK102 hb rfl
                     have n2_ := bkb_ BK103 hb rfl
                     have n3_ := bkb_ BK115 hb rfl
                     have n4_ := hbs_ HB hb rfl rfl rfl rfl
                     clear BK101
                     clear BK102
                     clear BK103
                     clear BK115
                     clear HB
                     have BK101 := n0_
                     have BK102 := n1_
                     have BK103 := n2_
                     have BK115 := n3_
                     have HB := n4_
                     clear n0_ n1_ n2_ n3_ n4_
                     (try clear hb)
                     (try clear hb2)
                     (try clear hk)
                     (try clear hi)
                     refine hK.out _ _ ⟨(blk_cell BK102.out 0).trans rfl, (blk_cell BK102.out 1).trans rfl, (blk_cell BK102.out 2).trans rfl⟩ (fun hHeld => ?_)
                     clear hK K
                     refine norm_ (a' := ?_) ?_ ?_
                     rotate_left
                     · show Act.put _ (some 59) _ = _
                       simp only [Act.put, List.setIfInBounds_toArray, List.set_cons_zero, List.set_cons_succ, i64_w, i32_w]
                       rfl
                     exact norm_ (by simp only [putAll, Act.put, List.setIfInBounds_toArray, List.set_cons_zero, List.set_cons_succ]) (hCont (gb115) _ ⟨hHeld, BK101.out, BK102.out, BK103.out, BK115.out, GW115.out, GE115.out, NB101_115.out, NB115_101.out, NB102_115.out, NB115_102.out, NB103_115.out, NB115_103.out, (by repeat (first | (with_reducible first | exact HB.out | apply below_alloc | apply pw_below_drewN | apply below_drew1 | refine below_set ?_ GE101.out | refine below_set ?_ GE102.out | refine below_set ?_ GE103.out | refine below_set ?_ GE115.out) | exact HB.out))⟩)
                 · skip
                   refine box_step ?hg (N := 13) ?hd (cs := #[.int .i64 0, .int .i64 0, .bool false]) (t := 31) ?hr ?_; (case hd => rfl); (case hg => rfl); (case hr => first | (go_simp; done) | (go_simp; rfl))
                   intro gb115 hg w87 hbox hb
                   have n0_ := bkb_ BK101 hb rfl
                   have n1_ := bkb_ BK102 hb rfl
                   have n2_ := bkb_ BK103 hb rfl
                   have n3_ := hbs_ HB hb rfl rfl rfl rfl
                   have n4_ := Aside0.mk (hbox)
                   have n5_ := Aside0.mk ((by rw [hg]; exact (below_size (by repeat (first | (with_reducible first | exact HB.out | apply below_alloc | apply pw_below_drewN | apply below_drew1 | refine below_set ?_ GE101.out | refine below_set ?_ GE102.out | refine below_set ?_ GE103.out) | exact HB.out))) : w.heap.size ≤ gb115))
                   have n6_ := n5_
                   have n7_ := nbl_ BK101 hg rfl
                   have n8_ := nbg_ BK101 hg rfl
                   have n9_ := nbl_ BK102 hg rfl
                   have n10_ := nbg_ BK102 hg rfl
                   have n11_ := nbl_ BK103 hg rfl
                   have n12_ := nbg_ BK103 hg rfl
                   clear BK101
                   clear BK102
                   clear BK103
                   clear HB
                   have BK101 := n0_
                   have BK102 := n1_
                   have BK103 := n2_
                   have HB := n3_
                   have BK115 := n4_
                   have GW115 := n5_
                   have GE115 := n6_
                   have NB101_115 := n7_
                   have NB115_101 := n8_
                   have NB102_115 := n9_
                   have NB115_102 := n10_
                   have NB103_115 := n11_
                   have NB115_103 := n12_
                   clear n0_ n1_ n2_ n3_ n4_ n5_ n6_ n7_ n8_ n9_ n10_ n11_ n12_
                   clear hb hbox hg
                   refine hK.out _ _ ⟨(blk_cell BK102.out 0).trans rfl, (blk_cell BK102.out 1).trans rfl, (blk_cell BK102.out 2).trans rfl⟩ (fun hHeld => ?_)
                   clear hK K
                   refine norm_ (a' := ?_) ?_ ?_
                   rotate_left
                   · show Act.put _ (some 13) _ = _
                     simp only [Act.put, List.setIfInBounds_toArray, List.set_cons_zero, List.set_cons_succ, i64_w, i32_w]
                     rfl
                   refine one_ (i := 2) (N := some 58) #[true, true, true, false, true, false] rfl rfl (by kernel_rfl) (by decide) (fun K hK => ?_)
                   refine goes_ Try.func86 (by kernel_rfl) rfl #[.int .i64 0, .int .i64 t107] (by rfl) rfl rfl (by (try simp only [List.map_toArray, List.map_cons, List.map_nil]); first | done | rfl | (simp only [List.length_drop, List.length_take]; rfl)) ?_
                   with_reducible refine (bound_Of_api_Tick.calls kj6 0 t107 t109 t110 t111 _ A35.out).mono ?_
                   rintro e w88 ⟨rfl, hb⟩
                   refine ⟨_, rfl, ?_⟩
                   have n0_ := bkb_ BK101 hb rfl
                   have n1_ := bkb_ BK102 hb rfl
                   have n2_ := bkb_ BK103 hb rfl
                   have n3_ := bkb_ BK115 hb rfl
                   have n4_ := hbs_ HB hb rfl rfl rfl rfl
                   clear BK101
                   clear BK102
                   clear BK103
                   clear BK115
                   clear HB
                   have BK101 := n0_
                   have BK102 := n1_
                   have BK103 := n2_
                   have BK115 := n3_
                   have HB := n4_
                   clear n0_ n1_ n2_ n3_ n4_
                   (try clear hb)
                   (try clear hb2)
                   (try clear hk)
                   (try clear hi)
                   refine hK.out _ _ ⟨(blk_cell BK102.out 0).trans rfl, (blk_cell BK102.out 1).trans rfl, (blk_cell BK102.out 2).trans rfl⟩ (fun hHeld => ?_)
                   clear hK K
                   refine norm_ (a' := ?_) ?_ ?_
                   rotate_left
                   · show Act.put _ (some 58) _ = _
                     simp only [Act.put, List.setIfInBounds_toArray, List.set_cons_zero, List.set_cons_succ, i64_w, i32_w]
                     rfl
                   refine one_ (i := 3) (N := some 59) #[true, true, true, true, true, false] rfl rfl (by kernel_rfl) (by decide) (fun K hK => ?_)
                   refine goes_ Try.func85 (by kernel_rfl) rfl #[.agg #[.int .i64 a3_0, .int .i64 a3_1, .bool a3_2], .agg #[.int .i64 t109, .int .i64 t110, .bool t111]] (by rfl) rfl rfl (by (try simp only [List.map_toArray, List.map_cons, List.map_nil]); first | done | rfl | (simp only [List.length_drop, List.length_take]; rfl)) ?_
                   with_reducible refine (bound_Add_api_Tick.calls kj6 a3_0 a3_1 a3_2 t109 t110 t111 t112 t113 t114 _ A36.out).mono ?_
                   rintro e w89 ⟨rfl, hb⟩
                   refine ⟨_, rfl, ?_⟩
                   have n0_ := bkb_ BK101 hb rfl
                   have n1_ := bkb_ BK102 hb rfl
                   have n2_ := bkb_ BK103 hb rfl
                   have n3_ := bkb_ BK115 hb rfl
                   have n4_ := hbs_ HB hb rfl rfl rfl rfl
                   clear BK101
                   clear BK102
                   clear BK103
                   clear BK115
                   clear HB
                   have BK101 := n0_
                   have BK102 := n1_
                   have BK103 := n2_
                   have BK115 := n3_
                   have HB := n4_
                   clear n0_ n1_ n2_ n3_ n4_
                   (try clear hb)
                   (try clear hb2)
                   (try clear hk)
                   (try clear hi)
                   refine hK.out _ _ ⟨(blk_cell BK102.out 0).trans rfl, (blk_cell BK102.out 1).trans rfl, (blk_cell BK102.out 2).trans rfl⟩ (fun hHeld => ?_)
                   clear hK K
                   refine norm_ (a' := ?_) ?_ ?_
                   rotate_left
                   · show Act.put _ (some 59) _ = _
                     simp only [Act.put, List.setIfInBounds_toArray, List.set_cons_zero, List.set_cons_succ, i64_w, i32_w]
                     rfl
                   exact norm_ (by simp only [putAll, Act.put, List.setIfInBounds_toArray, List.set_cons_zero, List.set_cons_succ]) (hCont (gb115) _ ⟨hHeld, BK101.out, BK102.out, BK103.out, BK115.out, GW115.out, GE115.out, NB101_115.out, NB115_101.out, NB102_115.out, NB115_102.out, NB103_115.out, NB115_103.out, (by repeat (first | (with_reducible first | exact HB.out | apply below_alloc | apply pw_below_drewN | apply below_drew1 | refine below_set ?_ GE101.out | refine below_set ?_ GE102.out | refine below_set ?_ GE103.out | refine below_set ?_ GE115.out) | exact HB.out))⟩)
               rintro gb115 w90 ⟨hS_, h0_, h1_, h2_, h3_, h4_, h5_, h6_, h7_, h8_, h9_, h10_, h11_, h12_⟩
               have n0_ : Aside0 (w90.heap[gb101]? = some (.cells #[.int .i64 a0_0, .int .i64 a0_1, .int .i64 a0_2, .bool a0_3, .int .i64 a0_4] 33 (0, 0))) := ⟨h0_⟩
               have n1_ : Aside0 (w90.heap[gb102]? = some (.cells #[.int .i64 a3_0, .int .i64 a3_1, .bool a3_2] 31 (0, 0))) := ⟨h1_⟩
               have n2_ : Aside0 (w90.heap[gb103]? = some (.cells #[.int .i64 0, .int .i64 0, .int .i64 0, .bool false, .int .i64 0] 33 (0, 0))) := ⟨h2_⟩
               have n3_ : Aside0 (w90.heap[gb115]? = some (.cells #[.int .i64 0, .int .i64 0, .bool false] 31 (0, 0))) := ⟨h3_⟩
               have n4_ : Aside0 (w.heap.size ≤ gb115) := ⟨h4_⟩
               have n5_ : Aside0 (w.heap.size ≤ gb115) := ⟨h5_⟩
               have n6_ : Aside0 (gb101 ≠ gb115) := ⟨h6_⟩
               have n7_ : Aside0 (gb115 ≠ gb101) := ⟨h7_⟩
               have n8_ : Aside0 (gb102 ≠ gb115) := ⟨h8_⟩
               have n9_ : Aside0 (gb115 ≠ gb102) := ⟨h9_⟩
               have n10_ : Aside0 (gb103 ≠ gb115) := ⟨h10_⟩
               have n11_ : Aside0 (gb115 ≠ gb103) := ⟨h11_⟩
               have n12_ : Aside0 (Below w.heap.size w w90) := ⟨h12_⟩
               clear BK101
               clear BK102
               clear BK103
               clear HB
               clear h0_ h1_ h2_ h3_ h4_ h5_ h6_ h7_ h8_ h9_ h10_ h11_ h12_
               have BK101 := n0_
               have BK102 := n1_
               have BK103 := n2_
               have BK115 := n3_
               have GW115 := n4_
               have GE115 := n5_
               have NB101_115 := n6_
               have NB115_101 := n7_
               have NB102_115 := n8_
               have NB115_102 := n9_
               have NB103_115 := n10_
               have NB115_103 := n11_
               have HB := n12_
               clear n0_ n1_ n2_ n3_ n4_ n5_ n6_ n7_ n8_ n9_ n10_ n11_ n12_
               have hHeld : w90.cell? ⟨gb102, 0, none⟩ = some (.int .i64 a3_0) ∧ w90.cell? ⟨gb102, 1, none⟩ = some (.int .i64 a3_1) ∧ w90.cell? ⟨gb102, 2, none⟩ = some (.bool a3_2) := hS_
               refine norm_ (a' := ?_) ?_ ?_
               rotate_left
               · simp only [putAll, Act.put, List.setIfInBounds_toArray, List.set_cons_zero, List.set_cons_succ]
                 rfl
               refine one_ (i := 5) (N := none) #[true, true, true, true, true, true] rfl rfl (by kernel_rfl) (by decide) (fun K hK => ?_)
               have hs91 : w90.cell? ⟨gb115, 0, none⟩ = some (.int .i64 0) := (blk_cell BK115.out 0).trans rfl
               have hfs91 := blk_frozen BK115.out 0
               have hns91_0 := NB101_115.out
               have hns91_1 := NB102_115.out
               have hns91_2 := NB103_115.out
               have hms91_0 := NB115_101.out
               have hms91_1 := NB115_102.out
               have hms91_2 := NB115_103.out
               have hs92 : w90.cell? ⟨gb115, 1, none⟩ = some (.int .i64 0) := (blk_cell BK115.out 1).trans rfl
               have hfs92 := blk_frozen BK115.out 1
               have hns92_0 := NB101_115.out
               have hns92_1 := NB102_115.out
               have hns92_2 := NB103_115.out
               have hms92_0 := NB115_101.out
               have hms92_1 := NB115_102.out
               have hms92_2 := NB115_103.out
               have hs93 : w90.cell? ⟨gb115, 2, none⟩ = some (.bool false) := (blk_cell BK115.out 2).trans rfl
               have hfs93 := blk_frozen BK115.out 2
               have hns93_0 := NB101_115.out
               have hns93_1 := NB102_115.out
               have hns93_2 := NB103_115.out
               have hms93_0 := NB115_101.out
               have hms93_1 := NB115_102.out
               have hms93_2 := NB115_103.out
               refine skip_ (w1 := ?_) (by rfl) rfl ?_ ?_
               rotate_left
               · go_simp
                 rfl
               refine hK.out _ _ ⟨((cell_far (p := ⟨gb115, _, none⟩) NB102_115.out _).trans (((cell_far (p := ⟨gb115, _, none⟩) NB102_115.out _).trans (((cell_far (p := ⟨gb115, _, none⟩) NB102_115.out _).trans (hHeld.1)))))), ((cell_far (p := ⟨gb115, _, none⟩) NB102_115.out _).trans (((cell_far (p := ⟨gb115, _, none⟩) NB102_115.out _).trans (((cell_far (p := ⟨gb115, _, none⟩) NB102_115.out _).trans (hHeld.2.1)))))), ((cell_far (p := ⟨gb115, _, none⟩) NB102_115.out _).trans (((cell_far (p := ⟨gb115, _, none⟩) NB102_115.out _).trans (((cell_far (p := ⟨gb115, _, none⟩) NB102_115.out _).trans (hHeld.2.2))))))⟩ (fun hHeld => ?_)
               clear hK K
               refine done_ (by kernel_rfl) ?_
               try go_wp2
               have n0_ : Aside0 ((((w90.setCell ⟨gb115, 0, none⟩ (.int .i64 t112)).setCell ⟨gb115, 1, none⟩ (.int .i64 t113)).setCell ⟨gb115, 2, none⟩ (.bool t114)).heap[gb101]? = some (.cells #[.int .i64 a0_0, .int .i64 a0_1, .int .i64 a0_2, .bool a0_3, .int .i64 a0_4] 33 (0, 0))) := ⟨by (with_reducible repeat apply blk_drewN); refine blk_far ?_ NB101_115.out _; (with_reducible repeat apply blk_drewN); refine blk_far ?_ NB101_115.out _; (with_reducible repeat apply blk_drewN); refine blk_far ?_ NB101_115.out _; (with_reducible repeat apply blk_drewN); exact BK101.out⟩
               have n1_ : Aside0 ((((w90.setCell ⟨gb115, 0, none⟩ (.int .i64 t112)).setCell ⟨gb115, 1, none⟩ (.int .i64 t113)).setCell ⟨gb115, 2, none⟩ (.bool t114)).heap[gb102]? = some (.cells #[.int .i64 a3_0, .int .i64 a3_1, .bool a3_2] 31 (0, 0))) := ⟨by (with_reducible repeat apply blk_drewN); refine blk_far ?_ NB102_115.out _; (with_reducible repeat apply blk_drewN); refine blk_far ?_ NB102_115.out _; (with_reducible repeat apply blk_drewN); refine blk_far ?_ NB102_115.out _; (with_reducible repeat apply blk_drewN); exact BK102.out⟩
               have n2_ : Aside0 ((((w90.setCell ⟨gb115, 0, none⟩ (.int .i64 t112)).setCell ⟨gb115, 1, none⟩ (.int .i64 t113)).setCell ⟨gb115, 2, none⟩ (.bool t114)).heap[gb103]? = some (.cells #[.int .i64 0, .int .i64 0, .int .i64 0, .bool false, .int .i64 0] 33 (0, 0))) := ⟨by (with_reducible repeat apply blk_drewN); refine blk_far ?_ NB103_115.out _; (with_reducible repeat apply blk_drewN); refine blk_far ?_ NB103_115.out _; (with_reducible repeat apply blk_drewN); refine blk_far ?_ NB103_115.out _; (with_reducible repeat apply blk_drewN); exact BK103.out⟩
               have n3_ : Aside0 ((((w90.setCell ⟨gb115, 0, none⟩ (.int .i64 t112)).setCell ⟨gb115, 1, none⟩ (.int .i64 t113)).setCell ⟨gb115, 2, none⟩ (.bool t114)).heap[gb115]? = some (.cells #[.int .i64 t112, .int .i64 t113, .bool t114] 31 (0, 0))) := ⟨by (with_reducible repeat apply blk_drewN); refine blk_put (cs := #[.int .i64 t112, .int .i64 t113, .bool false]) ?_ 2 _ rfl; (with_reducible repeat apply blk_drewN); refine blk_put (cs := #[.int .i64 t112, .int .i64 0, .bool false]) ?_ 1 _ rfl; (with_reducible repeat apply blk_drewN); refine blk_put (cs := #[.int .i64 0, .int .i64 0, .bool false]) ?_ 0 _ rfl; (with_reducible repeat apply blk_drewN); exact BK115.out⟩
               have n4_ : Aside0 (Below w.heap.size w (((w90.setCell ⟨gb115, 0, none⟩ (.int .i64 t112)).setCell ⟨gb115, 1, none⟩ (.int .i64 t113)).setCell ⟨gb115, 2, none⟩ (.bool t114))) := ⟨by repeat (first | (with_reducible first | exact HB.out | apply below_alloc | apply pw_below_drewN | apply below_drew1 | refine below_set ?_ GE101.out | refine below_set ?_ GE102.out | refine below_set ?_ GE103.out | refine below_set ?_ GE115.out) | exact HB.out)⟩
               (try clear BK101)
               (try clear BK102)
               (try clear BK103)
               (try clear BK115)
               (try clear HB)
               generalize (((w90.setCell ⟨gb115, 0, none⟩ (.int .i64 t112)).setCell ⟨gb115, 1, none⟩ (.int .i64 t113)).setCell ⟨gb115, 2, none⟩ (.bool t114)) = w94 at n0_ n1_ n2_ n3_ n4_ ⊢
               have BK101 := n0_
               have BK102 := n1_
               have BK103 := n2_
               have BK115 := n3_
               have HB := n4_
               clear n0_ n1_ n2_ n3_ n4_
               have n0_ := Aside0.mk (blk_drew BK101.out)
               have n1_ := Aside0.mk (blk_drew BK102.out)
               have n2_ := Aside0.mk (blk_drew BK103.out)
               have n3_ := Aside0.mk (blk_drew BK115.out)
               have n4_ := Aside0.mk (below_drew1 HB.out)
               clear BK101
               clear BK102
               clear BK103
               clear BK115
               clear HB
               have BK101 := n0_
               have BK102 := n1_
               have BK103 := n2_
               have BK115 := n3_
               have HB := n4_
               clear n0_ n1_ n2_ n3_ n4_
               refine start_ (n := 11) (S := fun w' => w'.cell? ⟨gb115, 0, none⟩ = some (.int .i64 t112) ∧ w'.cell? ⟨gb115, 1, none⟩ = some (.int .i64 t113) ∧ w'.cell? ⟨gb115, 2, none⟩ = some (.bool t114) ∧ w'.cell? ⟨gb101, 0, none⟩ = some (.int .i64 a0_0) ∧ w'.cell? ⟨gb101, 1, none⟩ = some (.int .i64 a0_1) ∧ w'.cell? ⟨gb101, 2, none⟩ = some (.int .i64 a0_2) ∧ w'.cell? ⟨gb101, 3, none⟩ = some (.bool a0_3) ∧ w'.cell? ⟨gb101, 4, none⟩ = some (.int .i64 a0_4)) (ds := []) #[false, false, false, false, false, false, false, false, false, false, false] (by kernel_rfl) rfl rfl ⟨(blk_cell BK115.out 0).trans rfl, (blk_cell BK115.out 1).trans rfl, (blk_cell BK115.out 2).trans rfl, (blk_cell BK101.out 0).trans rfl, (blk_cell BK101.out 1).trans rfl, (blk_cell BK101.out 2).trans rfl, (blk_cell BK101.out 3).trans rfl, (blk_cell BK101.out 4).trans rfl⟩ (fun hHeld => ?_); refine with_tabW clock_Sync.tab10 clock_Sync.bits10 (fun HT_ HW_ => ?_)
               generalize w94.drew = w95 at BK101 BK102 BK103 BK115 HB hHeld ⊢
               refine pure_ (i := 2) (N := some 63) (v := ?_) (a' := ?_) #[false, false, true, false, false, false, false, false, false, false, false] rfl rfl (any_of HT_.out (by kernel_rfl)) (fun _ _ _ h => h) (Or.inl ⟨by rfl, ?_⟩) ?_ ?_
               rotate_left
               · intro w'
                 go_simp
                 with_reducible rfl
               rotate_left
               · simp only [Act.put, List.setIfInBounds_toArray, List.set_cons_zero, List.set_cons_succ, i64_w, i32_w]
                 rfl
               refine take_ (i := 0) (N := some 61) (v := ?_) (a' := ?_) #[true, false, true, false, false, false, false, false, false, false, false] rfl rfl (take_ofW HT_.out HW_.out (by kernel_rfl)) (fun _ _ _ h => h) (Or.inl ⟨by rfl, ?_⟩) hHeld ?_ ?_
               rotate_left
               · rintro w' ⟨s0, s1, s2, s3, s4, s5, s6, s7⟩
                 go_simp
                 with_reducible rfl
               rotate_left
               · simp only [Act.put, List.setIfInBounds_toArray, List.set_cons_zero, List.set_cons_succ, i64_w, i32_w]
                 rfl
               refine take_ (i := 1) (N := some 62) (v := ?_) (a' := ?_) #[true, true, true, false, false, false, false, false, false, false, false] rfl rfl (take_ofW HT_.out HW_.out (by kernel_rfl)) (fun _ _ _ h => h) (Or.inl ⟨by rfl, ?_⟩) hHeld ?_ ?_
               rotate_left
               · rintro w' ⟨s0, s1, s2, s3, s4, s5, s6, s7⟩
                 go_simp
                 with_reducible rfl
               rotate_left
               · simp only [Act.put, List.setIfInBounds_toArray, List.set_cons_zero, List.set_cons_succ, i64_w, i32_w]
                 rfl
               refine join_ (σ := Nat) 2 #[true, true, true, true, true, true, true, true, true, false, false] (fun s_ => [(64, .agg #[.int .i64 t116, .int .i64 t117, .bool t118]), (65, .tuple #[.agg #[.int .i64 t119, .int .i64 t120, .bool t121], .bool true]), (14, .pointer (some ⟨s_, 0, none⟩)), (60, .tuple #[.agg #[.int .i64 t119, .int .i64 t120, .bool t121], .bool true]), (66, .agg #[.int .i64 t119, .int .i64 t120, .bool t121]), (67, .bool true)]) (fun s_ w' => (w'.cell? ⟨gb115, 0, none⟩ = some (.int .i64 t112) ∧ w'.cell? ⟨gb115, 1, none⟩ = some (.int .i64 t113) ∧ w'.cell? ⟨gb115, 2, none⟩ = some (.bool t114) ∧ w'.cell? ⟨gb101, 0, none⟩ = some (.int .i64 a0_0) ∧ w'.cell? ⟨gb101, 1, none⟩ = some (.int .i64 a0_1) ∧ w'.cell? ⟨gb101, 2, none⟩ = some (.int .i64 a0_2) ∧ w'.cell? ⟨gb101, 3, none⟩ = some (.bool a0_3) ∧ w'.cell? ⟨gb101, 4, none⟩ = some (.int .i64 a0_4)) ∧ (w'.heap[gb101]? = some (.cells #[.int .i64 a0_0, .int .i64 a0_1, .int .i64 a0_2, .bool a0_3, .int .i64 a0_4] 33 (0, 0))) ∧ (w'.heap[gb102]? = some (.cells #[.int .i64 a3_0, .int .i64 a3_1, .bool a3_2] 31 (0, 0))) ∧ (w'.heap[gb103]? = some (.cells #[.int .i64 0, .int .i64 0, .int .i64 0, .bool false, .int .i64 0] 33 (0, 0))) ∧ (w'.heap[gb115]? = some (.cells #[.int .i64 t112, .int .i64 t113, .bool t114] 31 (0, 0))) ∧ (w'.heap[s_]? = some (.cells #[.int .i64 0, .int .i64 0, .bool false] 31 (0, 0))) ∧ (w.heap.size ≤ s_) ∧ (w.heap.size ≤ s_) ∧ (gb101 ≠ s_) ∧ (s_ ≠ gb101) ∧ (gb102 ≠ s_) ∧ (s_ ≠ gb102) ∧ (gb103 ≠ s_) ∧ (s_ ≠ gb103) ∧ (gb115 ≠ s_) ∧ (s_ ≠ gb115) ∧ (Below w.heap.size w w')) ?_ ?_
               rotate_left
               · intro hCont
                 refine two_ (i := 3) (j := 8) (Ni := some 64) (Nj := some 14) #[true, true, true, true, false, false, false, false, false, false, false] #[true, true, true, false, false, false, false, false, true, false, false] rfl rfl rfl rfl (two_of HT_.out (by kernel_rfl)) (by decide) (by decide) (fun K hK => ?_) (fun K hK => ?_)
                 · skip
                   refine goes_ Try.func20 (by kernel_rfl) rfl #[.agg #[.int .i64 a0_0, .int .i64 a0_1, .int .i64 a0_2, .bool a0_3, .int .i64 a0_4], .int .i64 a2] (by rfl) rfl rfl (by (try simp only [List.map_toArray, List.map_cons, List.map_nil]); first | done | rfl | (simp only [List.length_drop, List.length_take]; rfl)) ?_
                   with_reducible refine (clock_Uniform.calls kj6 a0_0 a0_1 a0_2 a0_3 a0_4 a2 t116 t117 t118 _ A37.out).mono ?_
                   rintro e w96 ⟨rfl, hb⟩
                   refine ⟨_, rfl, ?_⟩
                   have n0_ := bkb_ BK101 hb rfl
                   have n1_ := bkb_ BK102 hb rfl
                   have n2_ := bkb_ BK103 hb rfl
                   have n3_ := bkb_ BK115 hb rfl
                   have n4_ := hbs_ HB hb rfl rfl rfl rfl
                   clear BK101
                   clear BK102
                   clear BK103
                   clear BK115
                   clear HB
                   have BK101 := n0_
                   have BK102 := n1_
                   have BK103 := n2_
                   have BK115 := n3_
                   have HB := n4_
                   clear n0_ n1_ n2_ n3_ n4_
                   (try clear hb)
                   (try clear hb2)
                   (try clear hk)
                   (try clear hi)
                   refine hK.out _ _ ⟨(blk_cell BK115.out 0).trans rfl, (blk_cell BK115.out 1).trans rfl, (blk_cell BK115.out 2).trans rfl, (blk_cell BK101.out 0).trans rfl, (blk_cell BK101.out 1).trans rfl, (blk_cell BK101.out 2).trans rfl, (blk_cell BK101.out 3).trans rfl, (blk_cell BK101.out 4).trans rfl⟩ (fun hHeld => ?_)
                   clear hK K
                   refine norm_ (a' := ?_) ?_ ?_
                   rotate_left
                   · show Act.put _ (some 64) _ = _
                     simp only [Act.put, List.setIfInBounds_toArray, List.set_cons_zero, List.set_cons_succ, i64_w, i32_w]
                     rfl
                   refine two_ (i := 4) (j := 8) (Ni := some 65) (Nj := some 14) #[true, true, true, true, true, false, false, false, false, false, false] #[true, true, true, true, false, false, false, false, true, false, false] rfl rfl rfl rfl (two_of HT_.out (by kernel_rfl)) (by decide) (by decide) (fun K hK => ?_) (fun K hK => ?_)
                   · skip
                     refine goes_ Try.func87 (by kernel_rfl) rfl #[.agg #[.int .i64 t112, .int .i64 t113, .bool t114], .agg #[.int .i64 t116, .int .i64 t117, .bool t118]] (by rfl) rfl rfl (by (try simp only [List.map_toArray, List.map_cons, List.map_nil]); first | done | rfl | (simp only [List.length_drop, List.length_take]; rfl)) ?_
                     with_reducible refine (bound_Meet_api_Tick.calls kj6 t112 t113 t114 t116 t117 t118 t119 t120 t121 true _ A38.out).mono ?_
                     rintro e w97 ⟨rfl, hb⟩
                     refine ⟨_, rfl, ?_⟩
                     have n0_ := bkb_ BK101 hb rfl
                     have n1_ := bkb_ BK102 hb rfl
                     have n2_ := bkb_ BK103 hb rfl
                     have n3_ := bkb_ BK115 hb rfl
                     have n4_ := hbs_ HB hb rfl rfl rfl rfl
                     clear BK101
                     clear BK102
                     clear BK103
                     clear BK115
                     clear HB
                     have BK101 := n0_
                     have BK102 := n1_
                     have BK103 := n2_
                     have BK115 := n3_
                     have HB := n4_
                     clear n0_ n1_ n2_ n3_ n4_
                     (try clear hb)
                     (try clear hb2)
                     (try clear hk)
                     (try clear hi)
                     refine hK.out _ _ ⟨(blk_cell BK115.out 0).trans rfl, (blk_cell BK115.out 1).trans rfl, (blk_cell BK115.out 2).trans rfl, (blk_cell BK101.out 0).trans rfl, (blk_cell BK101.out 1).trans rfl, (blk_cell BK101.out 2).trans rfl, (blk_cell BK101.out 3).trans rfl, (blk_cell BK101.out 4).trans rfl⟩ (fun hHeld => ?_)
                     clear hK K
                     refine norm_ (a' := ?_) ?_ ?_
                     rotate_left
                     · show Act.put _ (some 65) _ = _
                       simp only [Act.put, List.setIfInBounds_toArray, List.set_cons_zero, List.set_cons_succ, i64_w, i32_w]
                       rfl
                     refine pure_ (i := 5) (N := some 60) (v := ?_) (a' := ?_) #[true, true, true, true, true, true, false, false, false, false, false] rfl rfl (any_of HT_.out (by kernel_rfl)) (fun _ _ _ h => h) (Or.inl ⟨by rfl, ?_⟩) ?_ ?_
                     rotate_left
                     · intro w'
                       go_simp
                       with_reducible rfl
                     rotate_left
                     · simp only [Act.put, List.setIfInBounds_toArray, List.set_cons_zero, List.set_cons_succ, i64_w, i32_w]
                       rfl
                     refine pure_ (i := 6) (N := some 66) (v := ?_) (a' := ?_) #[true, true, true, true, true, true, true, false, false, false, false] rfl rfl (any_of HT_.out (by kernel_rfl)) (fun _ _ _ h => h) (Or.inl ⟨by rfl, ?_⟩) ?_ ?_
                     rotate_left
                     · intro w'
                       go_simp
                       with_reducible rfl
                     rotate_left
                     · simp only [Act.put, List.setIfInBounds_toArray, List.set_cons_zero, List.set_cons_succ, i64_w, i32_w]
                       rfl
                     refine pure_ (i := 7) (N := some 67) (v := ?_) (a' := ?_) #[true, true, true, true, true, true, true, true, false, false, false] rfl rfl (any_of HT_.out (by kernel_rfl)) (fun _ _ _ h => h) (Or.inl ⟨by rfl, ?_⟩) ?_ ?_
                     rotate_left
                     · intro w'
                       go_simp
                       with_reducible rfl
                     rotate_left
                     · simp only [Act.put, List.setIfInBounds_toArray, List.set_cons_zero, List.set_cons_succ, i64_w, i32_w]
                       rfl
                     refine one_ (i := 8) (N := some 14) #[true, true, true, true, true, true, true, true, true, false, false] rfl rfl (one_of HT_.out (by kernel_rfl)) (by decide) (fun K hK => ?_)
                     refine box_step ?hg (N := 14) ?hd (cs := #[.int .i64 0, .int .i64 0, .bool false]) (t := 31) ?hr ?_; (case hd => rfl); (case hg => rfl); (case hr => first | (go_simp; done) | (go_simp; rfl))
                     intro gb123 hg w98 hbox hb
                     have n0_ := bkb_ BK101 hb rfl
                     have n1_ := bkb_ BK102 hb rfl
                     have n2_ := bkb_ BK103 hb rfl
                     have n3_ := bkb_ BK115 hb rfl
                     have n4_ := hbs_ HB hb rfl rfl rfl rfl
                     have n5_ := Aside0.mk (hbox)
                     have n6_ := Aside0.mk ((by rw [hg]; exact (below_size (by repeat (first | (with_reducible first | exact HB.out | apply below_alloc | apply pw_below_drewN | apply below_drew1 | refine below_set ?_ GE101.out | refine below_set ?_ GE102.out | refine below_set ?_ GE103.out | refine below_set ?_ GE115.out) | exact HB.out))) : w.heap.size ≤ gb123))
                     have n7_ := n6_
                     have n8_ := nbl_ BK101 hg rfl
                     have n9_ := nbg_ BK101 hg rfl
                     have n10_ := nbl_ BK102 hg rfl
                     have n11_ := nbg_ BK102 hg rfl
                     have n12_ := nbl_ BK103 hg rfl
                     have n13_ := nbg_ BK103 hg rfl
                     have n14_ := nbl_ BK115 hg rfl
                     have n15_ := nbg_ BK115 hg rfl
                     clear BK101
                     clear BK102
                     clear BK103
                     clear BK115
                     clear HB
                     have BK101 := n0_
                     have BK102 := n1_
                     have BK103 := n2_
                     have BK115 := n3_
                     have HB := n4_
                     have BK123 := n5_
                     have GW123 := n6_
                     have GE123 := n7_
                     have NB101_123 := n8_
                     have NB123_101 := n9_
                     have NB102_123 := n10_
                     have NB123_102 := n11_
                     have NB103_123 := n12_
                     have NB123_103 := n13_
                     have NB115_123 := n14_
                     have NB123_115 := n15_
                     clear n0_ n1_ n2_ n3_ n4_ n5_ n6_ n7_ n8_ n9_ n10_ n11_ n12_ n13_ n14_ n15_
                     clear hb hbox hg
                     refine hK.out _ _ ⟨(blk_cell BK115.out 0).trans rfl, (blk_cell BK115.out 1).trans rfl, (blk_cell BK115.out 2).trans rfl, (blk_cell BK101.out 0).trans rfl, (blk_cell BK101.out 1).trans rfl, (blk_cell BK101.out 2).trans rfl, (blk_cell BK101.out 3).trans rfl, (blk_cell BK101.out 4).trans rfl⟩ (fun hHeld => ?_)
                     clear hK K
                     refine norm_ (a' := ?_) ?_ ?_
                     rotate_left
                     · show Act.put _ (some 14) _ = _
                       simp only [Act.put, List.setIfInBounds_toArray, List.set_cons_zero, List.set_cons_succ, i64_w, i32_w]
                       rfl
                     exact norm_ (by simp only [putAll, Act.put, List.setIfInBounds_toArray, List.set_cons_zero, List.set_cons_succ]) (hCont (gb123) _ ⟨hHeld, BK101.out, BK102.out, BK103.out, BK115.out, BK123.out, GW123.out, GE123.out, NB101_123.out, NB123_101.out, NB102_123.out, NB123_102.out, NB103_123.out, NB123_103.out, NB115_123.out, NB123_115.out, (by repeat (first | (with_reducible first | exact HB.out | apply below_alloc | apply pw_below_drewN | apply below_drew1 | refine below_set ?_ GE101.out | refine below_set ?_ GE102.out | refine below_set ?_ GE103.out | refine below_set ?_ GE115.out | refine below_set ?_ GE123.out) | exact HB.out))⟩)
                   · skip
                     refine box_step ?hg (N := 14) ?hd (cs := #[.int .i64 0, .int .i64 0, .bool false]) (t := 31) ?hr ?_; (case hd => rfl); (case hg => rfl); (case hr => first | (go_simp; done) | (go_simp; rfl))
                     intro gb123 hg w97 hbox hb
                     have n0_ := bkb_ BK101 hb rfl
                     have n1_ := bkb_ BK102 hb rfl
                     have n2_ := bkb_ BK103 hb rfl
                     have n3_ := bkb_ BK115 hb rfl
                     have n4_ := hbs_ HB hb rfl rfl rfl rfl
                     have n5_ := Aside0.mk (hbox)
                     have n6_ := Aside0.mk ((by rw [hg]; exact (below_size (by repeat (first | (with_reducible first | exact HB.out | apply below_alloc | apply pw_below_drewN | apply below_drew1 | refine below_set ?_ GE101.out | refine below_set ?_ GE102.out | refine below_set ?_ GE103.out | refine below_set ?_ GE115.out) | exact HB.out))) : w.heap.size ≤ gb123))
                     have n7_ := n6_
                     have n8_ := nbl_ BK101 hg rfl
                     have n9_ := nbg_ BK101 hg rfl
                     have n10_ := nbl_ BK102 hg rfl
                     have n11_ := nbg_ BK102 hg rfl
                     have n12_ := nbl_ BK103 hg rfl
                     have n13_ := nbg_ BK103 hg rfl
                     have n14_ := nbl_ BK115 hg rfl
                     have n15_ := nbg_ BK115 hg rfl
                     clear BK101
                     clear BK102
                     clear BK103
                     clear BK115
                     clear HB
                     have BK101 := n0_
                     have BK102 := n1_
                     have BK103 := n2_
                     have BK115 := n3_
                     have HB := n4_
                     have BK123 := n5_
                     have GW123 := n6_
                     have GE123 := n7_
                     have NB101_123 := n8_
                     have NB123_101 := n9_
                     have NB102_123 := n10_
                     have NB123_102 := n11_
                     have NB103_123 := n12_
                     have NB123_103 := n13_
                     have NB115_123 := n14_
                     have NB123_115 := n15_
                     clear n0_ n1_ n2_ n3_ n4_ n5_ n6_ n7_ n8_ n9_ n10_ n11_ n12_ n13_ n14_ n15_
                     clear hb hbox hg
                     refine hK.out _ _ ⟨(blk_cell BK115.out 0).trans rfl, (blk_cell BK115.out 1).trans rfl, (blk_cell BK115.out 2).trans rfl, (blk_cell BK101.out 0).trans rfl, (blk_cell BK101.out 1).trans rfl, (blk_cell BK101.out 2).trans rfl, (blk_cell BK101.out 3).trans rfl, (blk_cell BK101.out 4).trans rfl⟩ (fun hHeld => ?_)
                     clear hK K
                     refine norm_ (a' := ?_) ?_ ?_
                     rotate_left
                     · show Act.put _ (some 14) _ = _
                       simp only [Act.put, List.setIfInBounds_toArray, List.set_cons_zero, List.set_cons_succ, i64_w, i32_w]
                       rfl
                     refine one_ (i := 4) (N := some 65) #[true, true, true, true, true, false, false, false, true, false, false] rfl rfl (one_of HT_.out (by kernel_rfl)) (by decide) (fun K hK => ?_)
                     refine goes_ Try.func87 (by kernel_rfl) rfl #[.agg #[.int .i64 t112, .int .i64 t113, .bool t114], .agg #[.int .i64 t116, .int .i64 t117, .bool t118]] (by rfl) rfl rfl (by (try simp only [List.map_toArray, List.map_cons, List.map_nil]); first | done | rfl | (simp only [List.length_drop, List.length_take]; rfl)) ?_
                     with_reducible refine (bound_Meet_api_Tick.calls kj6 t112 t113 t114 t116 t117 t118 t119 t120 t121 true _ A38.out).mono ?_
                     rintro e w98 ⟨rfl, hb⟩
                     refine ⟨_, rfl, ?_⟩
                     have n0_ := bkb_ BK101 hb rfl
                     have n1_ := bkb_ BK102 hb rfl
                     have n2_ := bkb_ BK103 hb rfl
                     have n3_ := bkb_ BK115 hb rfl
                     have n4_ := bkb_ BK123 hb rfl
                     have n5_ := hbs_ HB hb rfl rfl rfl rfl
                     clear BK101
                     clear BK102
                     clear BK103
                     clear BK115
                     clear BK123
                     clear HB
                     have BK101 := n0_
                     have BK102 := n1_
                     have BK103 := n2_
                     have BK115 := n3_
                     have BK123 := n4_
                     have HB := n5_
                     clear n0_ n1_ n2_ n3_ n4_ n5_
                     (try clear hb)
                     (try clear hb2)
                     (try clear hk)
                     (try clear hi)
                     refine hK.out _ _ ⟨(blk_cell BK115.out 0).trans rfl, (blk_cell BK115.out 1).trans rfl, (blk_cell BK115.out 2).trans rfl, (blk_cell BK101.out 0).trans rfl, (blk_cell BK101.out 1).trans rfl, (blk_cell BK101.out 2).trans rfl, (blk_cell BK101.out 3).trans rfl, (blk_cell BK101.out 4).trans rfl⟩ (fun hHeld => ?_)
                     clear hK K
                     refine norm_ (a' := ?_) ?_ ?_
                     rotate_left
                     · show Act.put _ (some 65) _ = _
                       simp only [Act.put, List.setIfInBounds_toArray, List.set_cons_zero, List.set_cons_succ, i64_w, i32_w]
                       rfl
                     refine pure_ (i := 5) (N := some 60) (v := ?_) (a' := ?_) #[true, true, true, true, true, true, false, false, true, false, false] rfl rfl (any_of HT_.out (by kernel_rfl)) (fun _ _ _ h => h) (Or.inl ⟨by rfl, ?_⟩) ?_ ?_
                     rotate_left
                     · intro w'
                       go_simp
                       with_reducible rfl
                     rotate_left
                     · simp only [Act.put, List.setIfInBounds_toArray, List.set_cons_zero, List.set_cons_succ, i64_w, i32_w]
                       rfl
                     refine pure_ (i := 6) (N := some 66) (v := ?_) (a' := ?_) #[true, true, true, true, true, true, true, false, true, false, false] rfl rfl (any_of HT_.out (by kernel_rfl)) (fun _ _ _ h => h) (Or.inl ⟨by rfl, ?_⟩) ?_ ?_
                     rotate_left
                     · intro w'
                       go_simp
                       with_reducible rfl
                     rotate_left
                     · simp only [Act.put, List.setIfInBounds_toArray, List.set_cons_zero, List.set_cons_succ, i64_w, i32_w]
                       rfl
                     refine pure_ (i := 7) (N := some 67) (v := ?_) (a' := ?_) #[true, true, true, true, true, true, true, true, true, false, false] rfl rfl (any_of HT_.out (by kernel_rfl)) (fun _ _ _ h => h) (Or.inl ⟨by rfl, ?_⟩) ?_ ?_
                     rotate_left
                     · intro w'
                       go_simp
                       with_reducible rfl
                     rotate_left
                     · simp only [Act.put, List.setIfInBounds_toArray, List.set_cons_zero, List.set_cons_succ, i64_w, i32_w]
                       rfl
                     exact norm_ (by simp only [putAll, Act.put, List.setIfInBounds_toArray, List.set_cons_zero, List.set_cons_succ]) (hCont (gb123) _ ⟨hHeld, BK101.out, BK102.out, BK103.out, BK115.out, BK123.out, GW123.out, GE123.out, NB101_123.out, NB123_101.out, NB102_123.out, NB123_102.out, NB103_123.out, NB123_103.out, NB115_123.out, NB123_115.out, (by repeat (first | (with_reducible first | exact HB.out | apply below_alloc | apply pw_below_drewN | apply below_drew1 | refine below_set ?_ GE101.out | refine below_set ?_ GE102.out | refine below_set ?_ GE103.out | refine below_set ?_ GE115.out | refine below_set ?_ GE123.out) | exact HB.out))⟩)
                 · skip
                   refine box_step ?hg (N := 14) ?hd (cs := #[.int .i64 0, .int .i64 0, .bool false]) (t := 31) ?hr ?_; (case hd => rfl); (case hg => rfl); (case hr => first | (go_simp; done) | (go_simp; rfl))
                   intro gb123 hg w96 hbox hb
                   have n0_ := bkb_ BK101 hb rfl
                   have n1_ := bkb_ BK102 hb rfl
                   have n2_ := bkb_ BK103 hb rfl
                   have n3_ := bkb_ BK115 hb rfl
                   have n4_ := hbs_ HB hb rfl rfl rfl rfl
                   have n5_ := Aside0.mk (hbox)
                   have n6_ := Aside0.mk ((by rw [hg]; exact (below_size (by repeat (first | (with_reducible first | exact HB.out | apply below_alloc | apply pw_below_drewN | apply below_drew1 | refine below_set ?_ GE101.out | refine below_set ?_ GE102.out | refine below_set ?_ GE103.out | refine below_set ?_ GE115.out) | exact HB.out))) : w.heap.size ≤ gb123))
                   have n7_ := n6_
                   have n8_ := nbl_ BK101 hg rfl
                   have n9_ := nbg_ BK101 hg rfl
                   have n10_ := nbl_ BK102 hg rfl
                   have n11_ := nbg_ BK102 hg rfl
                   have n12_ := nbl_ BK103 hg rfl
                   have n13_ := nbg_ BK103 hg rfl
                   have n14_ := nbl_ BK115 hg rfl
                   have n15_ := nbg_ BK115 hg rfl
                   clear BK101
                   clear BK102
                   clear BK103
                   clear BK115
                   clear HB
                   have BK101 := n0_
                   have BK102 := n1_
                   have BK103 := n2_
                   have BK115 := n3_
                   have HB := n4_
                   have BK123 := n5_
                   have GW123 := n6_
                   have GE123 := n7_
                   have NB101_123 := n8_
                   have NB123_101 := n9_
                   have NB102_123 := n10_
                   have NB123_102 := n11_
                   have NB103_123 := n12_
                   have NB123_103 := n13_
                   have NB115_123 := n14_
                   have NB123_115 := n15_
                   clear n0_ n1_ n2_ n3_ n4_ n5_ n6_ n7_ n8_ n9_ n10_ n11_ n12_ n13_ n14_ n15_
                   clear hb hbox hg
                   refine hK.out _ _ ⟨(blk_cell BK115.out 0).trans rfl, (blk_cell BK115.out 1).trans rfl, (blk_cell BK115.out 2).trans rfl, (blk_cell BK101.out 0).trans rfl, (blk_cell BK101.out 1).trans rfl, (blk_cell BK101.out 2).trans rfl, (blk_cell BK101.out 3).trans rfl, (blk_cell BK101.out 4).trans rfl⟩ (fun hHeld => ?_)
                   clear hK K
                   refine norm_ (a' := ?_) ?_ ?_
                   rotate_left
                   · show Act.put _ (some 14) _ = _
                     simp only [Act.put, List.setIfInBounds_toArray, List.set_cons_zero, List.set_cons_succ, i64_w, i32_w]
                     rfl
                   refine one_ (i := 3) (N := some 64) #[true, true, true, true, false, false, false, false, true, false, false] rfl rfl (one_of HT_.out (by kernel_rfl)) (by decide) (fun K hK => ?_)
                   refine goes_ Try.func20 (by kernel_rfl) rfl #[.agg #[.int .i64 a0_0, .int .i64 a0_1, .int .i64 a0_2, .bool a0_3, .int .i64 a0_4], .int .i64 a2] (by rfl) rfl rfl (by (try simp only [List.map_toArray, List.map_cons, List.map_nil]); first | done | rfl | (simp only [List.length_drop, List.length_take]; rfl)) ?_
                   with_reducible refine (clock_Uniform.calls kj6 a0_0 a0_1 a0_2 a0_3 a0_4 a2 t116 t117 t118 _ A37.out).mono ?_
                   rintro e w97 ⟨rfl, hb⟩
                   refine ⟨_, rfl, ?_⟩
                   have n0_ := bkb_ BK101 hb rfl
                   have n1_ := bkb_ BK102 hb rfl
                   have n2_ := bkb_ BK103 hb rfl
                   have n3_ := bkb_ BK115 hb rfl
                   have n4_ := bkb_ BK123 hb rfl
                   have n5_ := hbs_ HB hb rfl rfl rfl rfl
                   clear BK101
                   clear BK102
                   clear BK103
                   clear BK115
                   clear BK123
                   clear HB
                   have BK101 := n0_
                   have BK102 := n1_
                   have BK103 := n2_
                   have BK115 := n3_
                   have BK123 := n4_
                   have HB := n5_
                   clear n0_ n1_ n2_ n3_ n4_ n5_
                   (try clear hb)
                   (try clear hb2)
                   (try clear hk)
                   (try clear hi)
                   refine hK.out _ _ ⟨(blk_cell BK115.out 0).trans rfl, (blk_cell BK115.out 1).trans rfl, (blk_cell BK115.out 2).trans rfl, (blk_cell BK101.out 0).trans rfl, (blk_cell BK101.out 1).trans rfl, (blk_cell BK101.out 2).trans rfl, (blk_cell BK101.out 3).trans rfl, (blk_cell BK101.out 4).trans rfl⟩ (fun hHeld => ?_)
                   clear hK K
                   refine norm_ (a' := ?_) ?_ ?_
                   rotate_left
                   · show Act.put _ (some 64) _ = _
                     simp only [Act.put, List.setIfInBounds_toArray, List.set_cons_zero, List.set_cons_succ, i64_w, i32_w]
                     rfl
                   refine one_ (i := 4) (N := some 65) #[true, true, true, true, true, false, false, false, true, false, false] rfl rfl (one_of HT_.out (by kernel_rfl)) (by decide) (fun K hK => ?_)
                   refine goes_ Try.func87 (by kernel_rfl) rfl #[.agg #[.int .i64 t112, .int .i64 t113, .bool t114], .agg #[.int .i64 t116, .int .i64 t117, .bool t118]] (by rfl) rfl rfl (by (try simp only [List.map_toArray, List.map_cons, List.map_nil]); first | done | rfl | (simp only [List.length_drop, List.length_take]; rfl)) ?_
                   with_reducible refine (bound_Meet_api_Tick.calls kj6 t112 t113 t114 t116 t117 t118 t119 t120 t121 true _ A38.out).mono ?_
                   rintro e w98 ⟨rfl, hb⟩
                   refine ⟨_, rfl, ?_⟩
                   have n0_ := bkb_ BK101 hb rfl
                   have n1_ := bkb_ BK102 hb rfl
                   have n2_ := bkb_ BK103 hb rfl
                   have n3_ := bkb_ BK115 hb rfl
                   have n4_ := bkb_ BK123 hb rfl
                   have n5_ := hbs_ HB hb rfl rfl rfl rfl
                   clear BK101
                   clear BK102
                   clear BK103
                   clear BK115
                   clear BK123
                   clear HB
                   have BK101 := n0_
                   have BK102 := n1_
                   have BK103 := n2_
                   have BK115 := n3_
                   have BK123 := n4_
                   have HB := n5_
                   clear n0_ n1_ n2_ n3_ n4_ n5_
                   (try clear hb)
                   (try clear hb2)
                   (try clear hk)
                   (try clear hi)
                   refine hK.out _ _ ⟨(blk_cell BK115.out 0).trans rfl, (blk_cell BK115.out 1).trans rfl, (blk_cell BK115.out 2).trans rfl, (blk_cell BK101.out 0).trans rfl, (blk_cell BK101.out 1).trans rfl, (blk_cell BK101.out 2).trans rfl, (blk_cell BK101.out 3).trans rfl, (blk_cell BK101.out 4).trans rfl⟩ (fun hHeld => ?_)
                   clear hK K
                   refine norm_ (a' := ?_) ?_ ?_
                   rotate_left
                   · show Act.put _ (some 65) _ = _
                     simp only [Act.put, List.setIfInBounds_toArray, List.set_cons_zero, List.set_cons_succ, i64_w, i32_w]
                     rfl
                   refine pure_ (i := 5) (N := some 60) (v := ?_) (a' := ?_) #[true, true, true, true, true, true, false, false, true, false, false] rfl rfl (any_of HT_.out (by kernel_rfl)) (fun _ _ _ h => h) (Or.inl ⟨by rfl, ?_⟩) ?_ ?_
                   rotate_left
                   · intro w'
                     go_simp
                     with_reducible rfl
                   rotate_left
                   · simp only [Act.put, List.setIfInBounds_toArray, List.set_cons_zero, List.set_cons_succ, i64_w, i32_w]
                     rfl
                   refine pure_ (i := 6) (N := some 66) (v := ?_) (a' := ?_) #[true, true, true, true, true, true, true, false, true, false, false] rfl rfl (any_of HT_.out (by kernel_rfl)) (fun _ _ _ h => h) (Or.inl ⟨by rfl, ?_⟩) ?_ ?_
                   rotate_left
                   · intro w'
                     go_simp
                     with_reducible rfl
                   rotate_left
                   · simp only [Act.put, List.setIfInBounds_toArray, List.set_cons_zero, List.set_cons_succ, i64_w, i32_w]
                     rfl
                   refine pure_ (i := 7) (N := some 67) (v := ?_) (a' := ?_) #[true, true, true, true, true, true, true, true, true, false, false] rfl rfl (any_of HT_.out (by kernel_rfl)) (fun _ _ _ h => h) (Or.inl ⟨by rfl, ?_⟩) ?_ ?_
                   rotate_left
                   · intro w'
                     go_simp
                     with_reducible rfl
                   rotate_left
                   · simp only [Act.put, List.setIfInBounds_toArray, List.set_cons_zero, List.set_cons_succ, i64_w, i32_w]
                     rfl
                   exact norm_ (by simp only [putAll, Act.put, List.setIfInBounds_toArray, List.set_cons_zero, List.set_cons_succ]) (hCont (gb123) _ ⟨hHeld, BK101.out, BK102.out, BK103.out, BK115.out, BK123.out, GW123.out, GE123.out, NB101_123.out, NB123_101.out, NB102_123.out, NB123_102.out, NB103_123.out, NB123_103.out, NB115_123.out, NB123_115.out, (by repeat (first | (with_reducible first | exact HB.out | apply below_alloc | apply pw_below_drewN | apply below_drew1 | refine below_set ?_ GE101.out | refine below_set ?_ GE102.out | refine below_set ?_ GE103.out | refine below_set ?_ GE115.out | refine below_set ?_ GE123.out) | exact HB.out))⟩)
               rintro gb123 w99 ⟨hS_, h0_, h1_, h2_, h3_, h4_, h5_, h6_, h7_, h8_, h9_, h10_, h11_, h12_, h13_, h14_, h15_⟩
               have n0_ : Aside0 (w99.heap[gb101]? = some (.cells #[.int .i64 a0_0, .int .i64 a0_1, .int .i64 a0_2, .bool a0_3, .int .i64 a0_4] 33 (0, 0))) := ⟨h0_⟩
               have n1_ : Aside0 (w99.heap[gb102]? = some (.cells #[.int .i64 a3_0, .int .i64 a3_1, .bool a3_2] 31 (0, 0))) := ⟨h1_⟩
               have n2_ : Aside0 (w99.heap[gb103]? = some (.cells #[.int .i64 0, .int .i64 0, .int .i64 0, .bool false, .int .i64 0] 33 (0, 0))) := ⟨h2_⟩
               have n3_ : Aside0 (w99.heap[gb115]? = some (.cells #[.int .i64 t112, .int .i64 t113, .bool t114] 31 (0, 0))) := ⟨h3_⟩
               have n4_ : Aside0 (w99.heap[gb123]? = some (.cells #[.int .i64 0, .int .i64 0, .bool false] 31 (0, 0))) := ⟨h4_⟩
               have n5_ : Aside0 (w.heap.size ≤ gb123) := ⟨h5_⟩
               have n6_ : Aside0 (w.heap.size ≤ gb123) := ⟨h6_⟩
               have n7_ : Aside0 (gb101 ≠ gb123) := ⟨h7_⟩
               have n8_ : Aside0 (gb123 ≠ gb101) := ⟨h8_⟩
               have n9_ : Aside0 (gb102 ≠ gb123) := ⟨h9_⟩
               have n10_ : Aside0 (gb123 ≠ gb102) := ⟨h10_⟩
               have n11_ : Aside0 (gb103 ≠ gb123) := ⟨h11_⟩
               have n12_ : Aside0 (gb123 ≠ gb103) := ⟨h12_⟩
               have n13_ : Aside0 (gb115 ≠ gb123) := ⟨h13_⟩
               have n14_ : Aside0 (gb123 ≠ gb115) := ⟨h14_⟩
               have n15_ : Aside0 (Below w.heap.size w w99) := ⟨h15_⟩
               clear BK101
               clear BK102
               clear BK103
               clear BK115
               clear HB
               clear h0_ h1_ h2_ h3_ h4_ h5_ h6_ h7_ h8_ h9_ h10_ h11_ h12_ h13_ h14_ h15_
               have BK101 := n0_
               have BK102 := n1_
               have BK103 := n2_
               have BK115 := n3_
               have BK123 := n4_
               have GW123 := n5_
               have GE123 := n6_
               have NB101_123 := n7_
               have NB123_101 := n8_
               have NB102_123 := n9_
               have NB123_102 := n10_
               have NB103_123 := n11_
               have NB123_103 := n12_
               have NB115_123 := n13_
               have NB123_115 := n14_
               have HB := n15_
               clear n0_ n1_ n2_ n3_ n4_ n5_ n6_ n7_ n8_ n9_ n10_ n11_ n12_ n13_ n14_ n15_
               have hHeld : w99.cell? ⟨gb115, 0, none⟩ = some (.int .i64 t112) ∧ w99.cell? ⟨gb115, 1, none⟩ = some (.int .i64 t113) ∧ w99.cell? ⟨gb115, 2, none⟩ = some (.bool t114) ∧ w99.cell? ⟨gb101, 0, none⟩ = some (.int .i64 a0_0) ∧ w99.cell? ⟨gb101, 1, none⟩ = some (.int .i64 a0_1) ∧ w99.cell? ⟨gb101, 2, none⟩ = some (.int .i64 a0_2) ∧ w99.cell? ⟨gb101, 3, none⟩ = some (.bool a0_3) ∧ w99.cell? ⟨gb101, 4, none⟩ = some (.int .i64 a0_4) := hS_
               refine norm_ (a' := ?_) ?_ ?_
               rotate_left
               · simp only [putAll, Act.put, List.setIfInBounds_toArray, List.set_cons_zero, List.set_cons_succ]
                 rfl
               refine one_ (i := 9) (N := none) #[true, true, true, true, true, true, true, true, true, true, false] rfl rfl (one_of HT_.out (by kernel_rfl)) (by decide) (fun K hK => ?_)
               have hs100 : w99.cell? ⟨gb123, 0, none⟩ = some (.int .i64 0) := (blk_cell BK123.out 0).trans rfl
               have hfs100 := blk_frozen BK123.out 0
               have hns100_0 := NB101_123.out
               have hns100_1 := NB102_123.out
               have hns100_2 := NB103_123.out
               have hns100_3 := NB115_123.out
               have hms100_0 := NB123_101.out
               have hms100_1 := NB123_102.out
               have hms100_2 := NB123_103.out
               have hms100_3 := NB123_115.out
               have hs101 : w99.cell? ⟨gb123, 1, none⟩ = some (.int .i64 0) := (blk_cell BK123.out 1).trans rfl
               have hfs101 := blk_frozen BK123.out 1
               have hns101_0 := NB101_123.out
               have hns101_1 := NB102_123.out
               have hns101_2 := NB103_123.out
               have hns101_3 := NB115_123.out
               have hms101_0 := NB123_101.out
               have hms101_1 := NB123_102.out
               have hms101_2 := NB123_103.out
               have hms101_3 := NB123_115.out
               have hs102 : w99.cell? ⟨gb123, 2, none⟩ = some (.bool false) := (blk_cell BK123.out 2).trans rfl
               have hfs102 := blk_frozen BK123.out 2
               have hns102_0 := NB101_123.out
               have hns102_1 := NB102_123.out
               have hns102_2 := NB103_123.out
               have hns102_3 := NB115_123.out
               have hms102_0 := NB123_101.out
               have hms102_1 := NB123_102.out
               have hms102_2 := NB123_103.out
               have hms102_3 := NB123_115.out
               refine skip_ (w1 := ?_) (by rfl) rfl ?_ ?_
               rotate_left
               · go_simp
                 rfl
               refine hK.out _ _ ⟨((cell_far (p := ⟨gb123, _, none⟩) NB115_123.out _).trans (((cell_far (p := ⟨gb123, _, none⟩) NB115_123.out _).trans (((cell_far (p := ⟨gb123, _, none⟩) NB115_123.out _).trans (hHeld.1)))))), ((cell_far (p := ⟨gb123, _, none⟩) NB115_123.out _).trans (((cell_far (p := ⟨gb123, _, none⟩) NB115_123.out _).trans (((cell_far (p := ⟨gb123, _, none⟩) NB115_123.out _).trans (hHeld.2.1)))))), ((cell_far (p := ⟨gb123, _, none⟩) NB115_123.out _).trans (((cell_far (p := ⟨gb123, _, none⟩) NB115_123.out _).trans (((cell_far (p := ⟨gb123, _, none⟩) NB115_123.out _).trans (hHeld.2.2.1)))))), ((cell_far (p := ⟨gb123, _, none⟩) NB101_123.out _).trans (((cell_far (p := ⟨gb123, _, none⟩) NB101_123.out _).trans (((cell_far (p := ⟨gb123, _, none⟩) NB101_123.out _).trans (hHeld.2.2.2.1)))))), ((cell_far (p := ⟨gb123, _, none⟩) NB101_123.out _).trans (((cell_far (p := ⟨gb123, _, none⟩) NB101_123.out _).trans (((cell_far (p := ⟨gb123, _, none⟩) NB101_123.out _).trans (hHeld.2.2.2.2.1)))))), ((cell_far (p := ⟨gb123, _, none⟩) NB101_123.out _).trans (((cell_far (p := ⟨gb123, _, none⟩) NB101_123.out _).trans (((cell_far (p := ⟨gb123, _, none⟩) NB101_123.out _).trans (hHeld.2.2.2.2.2.1)))))), ((cell_far (p := ⟨gb123, _, none⟩) NB101_123.out _).trans (((cell_far (p := ⟨gb123, _, none⟩) NB101_123.out _).trans (((cell_far (p := ⟨gb123, _, none⟩) NB101_123.out _).trans (hHeld.2.2.2.2.2.2.1)))))), ((cell_far (p := ⟨gb123, _, none⟩) NB101_123.out _).trans (((cell_far (p := ⟨gb123, _, none⟩) NB101_123.out _).trans (((cell_far (p := ⟨gb123, _, none⟩) NB101_123.out _).trans (hHeld.2.2.2.2.2.2.2))))))⟩ (fun hHeld => ?_)
               clear hK K
               refine pure_ (i := 10) (N := some 15) (v := ?_) (a' := ?_) #[true, true, true, true, true, true, true, true, true, true, true] rfl rfl (any_of HT_.out (by kernel_rfl)) (fun _ _ _ h => h) (Or.inl ⟨by rfl, ?_⟩) ?_ ?_
               rotate_left
               · intro w'
                 go_simp
                 with_reducible rfl
               rotate_left
               · simp only [Act.put, List.setIfInBounds_toArray, List.set_cons_zero, List.set_cons_succ, i64_w, i32_w]
                 rfl
               refine done_ (done_of HT_.out (by kernel_rfl)) ?_
               have hnb103 := NB123_101.out
               have hnc103 := NB101_123.out
               have hnb104 := NB123_102.out
               have hnc104 := NB102_123.out
               have hnb105 := NB123_103.out
               have hnc105 := NB103_123.out
               have hnb106 := NB123_115.out
               have hnc106 := NB115_123.out
               have hcz107_0 : w99.cell? ⟨gb123, 0, none⟩ = some (.int .i64 0) := (blk_cell BK123.out 0).trans rfl
               have hcz107_1 : w99.cell? ⟨gb123, 1, none⟩ = some (.int .i64 0) := (blk_cell BK123.out 1).trans rfl
               have hcz107_2 : w99.cell? ⟨gb123, 2, none⟩ = some (.bool false) := (blk_cell BK123.out 2).trans rfl
               have hfz107_0 := blk_frozen BK123.out 0
               have hfz107_1 := blk_frozen BK123.out 1
               have hfz107_2 := blk_frozen BK123.out 2
               have hnb108 := NB101_115.out
               have hnc108 := NB115_101.out
               have hcz109_0 : w99.cell? ⟨gb101, 0, none⟩ = some (.int .i64 a0_0) := (blk_cell BK101.out 0).trans rfl
               have hcz109_1 : w99.cell? ⟨gb101, 1, none⟩ = some (.int .i64 a0_1) := (blk_cell BK101.out 1).trans rfl
               have hcz109_2 : w99.cell? ⟨gb101, 2, none⟩ = some (.int .i64 a0_2) := (blk_cell BK101.out 2).trans rfl
               have hcz109_3 : w99.cell? ⟨gb101, 3, none⟩ = some (.bool a0_3) := (blk_cell BK101.out 3).trans rfl
               have hcz109_4 : w99.cell? ⟨gb101, 4, none⟩ = some (.int .i64 a0_4) := (blk_cell BK101.out 4).trans rfl
               have hfz109_0 := blk_frozen BK101.out 0
               have hfz109_1 := blk_frozen BK101.out 1
               have hfz109_2 := blk_frozen BK101.out 2
               have hfz109_3 := blk_frozen BK101.out 3
               have hfz109_4 := blk_frozen BK101.out 4
               try go_wp2_with (first | ((with_reducible refine gate_dst (N := 16) rfl ?_); refine box_event ?hg (N := 16) ?hd (cs := #[.int .i64 0, .int .i64 0, .int .i64 0, .bool false, .int .i64 0]) (t := 33) ?hr ?_; (case hd => rfl); (case hg => rfl); (case hr => first | (go_simp; done) | (go_simp; rfl)); intro gb124 hg w110 hbox hb; have n0_ := Aside0.mk (blk_below (g := gb101) (o := .cells #[.int .i64 a0_0, .int .i64 a0_1, .int .i64 a0_2, .bool a0_3, .int .i64 a0_4] 33 (0, 0)) (by (with_reducible repeat apply blk_drewN); refine blk_far ?_ NB101_123.out _; (with_reducible repeat apply blk_drewN); refine blk_far ?_ NB101_123.out _; (with_reducible repeat apply blk_drewN); refine blk_far ?_ NB101_123.out _; (with_reducible repeat apply blk_drewN); exact BK101.out) hb); have n1_ := Aside0.mk (blk_below (g := gb102) (o := .cells #[.int .i64 a3_0, .int .i64 a3_1, .bool a3_2] 31 (0, 0)) (by (with_reducible repeat apply blk_drewN); refine blk_far ?_ NB102_123.out _; (with_reducible repeat apply blk_drewN); refine blk_far ?_ NB102_123.out _; (with_reducible repeat apply blk_drewN); refine blk_far ?_ NB102_123.out _; (with_reducible repeat apply blk_drewN); exact BK102.out) hb); have n2_ := Aside0.mk (blk_below (g := gb103) (o := .cells #[.int .i64 0, .int .i64 0, .int .i64 0, .bool false, .int .i64 0] 33 (0, 0)) (by (with_reducible repeat apply blk_drewN); refine blk_far ?_ NB103_123.out _; (with_reducible repeat apply blk_drewN); refine blk_far ?_ NB103_123.out _; (with_reducible repeat apply blk_drewN); refine blk_far ?_ NB103_123.out _; (with_reducible repeat apply blk_drewN); exact BK103.out) hb); have n3_ := Aside0.mk (blk_below (g := gb115) (o := .cells #[.int .i64 t112, .int .i64 t113, .bool t114] 31 (0, 0)) (by (with_reducible repeat apply blk_drewN); refine blk_far ?_ NB115_123.out _; (with_reducible repeat apply blk_drewN); refine blk_far ?_ NB115_123.out _; (with_reducible repeat apply blk_drewN); refine blk_far ?_ NB115_123.out _; (with_reducible repeat apply blk_drewN); exact BK115.out) hb); have n4_ := Aside0.mk (blk_below (g := gb123) (o := .cells #[.int .i64 t119, .int .i64 t120, .bool t121] 31 (0, 0)) (by (with_reducible repeat apply blk_drewN); refine blk_put (cs := #[.int .i64 t119, .int .i64 t120, .bool false]) ?_ 2 _ rfl; (with_reducible repeat apply blk_drewN); refine blk_put (cs := #[.int .i64 t119, .int .i64 0, .bool false]) ?_ 1 _ rfl; (with_reducible repeat apply blk_drewN); refine blk_put (cs := #[.int .i64 0, .int .i64 0, .bool false]) ?_ 0 _ rfl; (with_reducible repeat apply blk_drewN); exact BK123.out) hb); have n5_ := Aside0.mk (below_step (by repeat (first | (with_reducible first | exact HB.out | apply below_alloc | apply pw_below_drewN | apply below_drew1 | refine below_set ?_ GE101.out | refine below_set ?_ GE102.out | refine below_set ?_ GE103.out | refine below_set ?_ GE115.out | refine below_set ?_ GE123.out) | exact HB.out)) hb); have n6_ := Aside0.mk (hbox); have n7_ := Aside0.mk ((by rw [hg]; exact (below_size (by repeat (first | (with_reducible first | exact HB.out | apply below_alloc | apply pw_below_drewN | apply below_drew1 | refine below_set ?_ GE101.out | refine below_set ?_ GE102.out | refine below_set ?_ GE103.out | refine below_set ?_ GE115.out | refine below_set ?_ GE123.out) | exact HB.out))) : w.heap.size ≤ gb124)); have n8_ := n7_; have n9_ := Aside0.mk ((by rw [hg]; exact Nat.ne_of_lt (blk_lt (g := gb101) (o := .cells #[.int .i64 a0_0, .int .i64 a0_1, .int .i64 a0_2, .bool a0_3, .int .i64 a0_4] 33 (0, 0)) (by (with_reducible repeat apply blk_drewN); refine blk_far ?_ NB101_123.out _; (with_reducible repeat apply blk_drewN); refine blk_far ?_ NB101_123.out _; (with_reducible repeat apply blk_drewN); refine blk_far ?_ NB101_123.out _; (with_reducible repeat apply blk_drewN); exact BK101.out)) : gb101 ≠ gb124)); have n10_ := Aside0.mk ((by rw [hg]; exact Nat.ne_of_gt (blk_lt (g := gb101) (o := .cells #[.int .i64 a0_0, .int .i64 a0_1, .int .i64 a0_2, .bool a0_3, .int .i64 a0_4] 33 (0, 0)) (by (with_reducible repeat apply blk_drewN); refine blk_far ?_ NB101_123.out _; (with_reducible repeat apply blk_drewN); refine blk_far ?_ NB101_123.out _; (with_reducible repeat apply blk_drewN); refine blk_far ?_ NB101_123.out _; (with_reducible repeat apply blk_drewN); exact BK101.out)) : gb124 ≠ gb101)); have n11_ := Aside0.mk ((by rw [hg]; exact Nat.ne_of_lt (blk_lt (g := gb102) (o := .cells #[.int .i64 a3_0, .int .i64 a3_1, .bool a3_2] 31 (0, 0)) (by (with_reducible repeat apply blk_drewN); refine blk_far ?_ NB102_123.out _; (with_reducible repeat apply blk_drewN); refine blk_far ?_ NB102_123.out _; (with_reducible repeat apply blk_drewN); refine blk_far ?_ NB102_123.out _; (with_reducible repeat apply blk_drewN); exact BK102.out)) : gb102 ≠ gb124)); have n12_ := Aside0.mk ((by rw [hg]; exact Nat.ne_of_gt (blk_lt (g := gb102) (o := .cells #[.int .i64 a3_0, .int .i64 a3_1, .bool a3_2] 31 (0, 0)) (by (with_reducible repeat apply blk_drewN); refine blk_far ?_ NB102_123.out _; (with_reducible repeat apply blk_drewN); refine blk_far ?_ NB102_123.out _; (with_reducible repeat apply blk_drewN); refine blk_far ?_ NB102_123.out _; (with_reducible repeat apply blk_drewN); exact BK102.out)) : gb124 ≠ gb102)); have n13_ := Aside0.mk ((by rw [hg]; exact Nat.ne_of_lt (blk_lt (g := gb103) (o := .cells #[.int .i64 0, .int .i64 0, .int .i64 0, .bool false, .int .i64 0] 33 (0, 0)) (by (with_reducible repeat apply blk_drewN); refine blk_far ?_ NB103_123.out _; (with_reducible repeat apply blk_drewN); refine blk_far ?_ NB103_123.out _; (with_reducible repeat apply blk_drewN); refine blk_far ?_ NB103_123.out _; (with_reducible repeat apply blk_drewN); exact BK103.out)) : gb103 ≠ gb124)); have n14_ := Aside0.mk ((by rw [hg]; exact Nat.ne_of_gt (blk_lt (g := gb103) (o := .cells #[.int .i64 0, .int .i64 0, .int .i64 0, .bool false, .int .i64 0] 33 (0, 0)) (by (with_reducible repeat apply blk_drewN); refine blk_far ?_ NB103_123.out _; (with_reducible repeat apply blk_drewN); refine blk_far ?_ NB103_123.out _; (with_reducible repeat apply blk_drewN); refine blk_far ?_ NB103_123.out _; (with_reducible repeat apply blk_drewN); exact BK103.out)) : gb124 ≠ gb103)); have n15_ := Aside0.mk ((by rw [hg]; exact Nat.ne_of_lt (blk_lt (g := gb115) (o := .cells #[.int .i64 t112, .int .i64 t113, .bool t114] 31 (0, 0)) (by (with_reducible repeat apply blk_drewN); refine blk_far ?_ NB115_123.out _; (with_reducible repeat apply blk_drewN); refine blk_far ?_ NB115_123.out _; (with_reducible repeat apply blk_drewN); refine blk_far ?_ NB115_123.out _; (with_reducible repeat apply blk_drewN); exact BK115.out)) : gb115 ≠ gb124)); have n16_ := Aside0.mk ((by rw [hg]; exact Nat.ne_of_gt (blk_lt (g := gb115) (o := .cells #[.int .i64 t112, .int .i64 t113, .bool t114] 31 (0, 0)) (by (with_reducible repeat apply blk_drewN); refine blk_far ?_ NB115_123.out _; (with_reducible repeat apply blk_drewN); refine blk_far ?_ NB115_123.out _; (with_reducible repeat apply blk_drewN); refine blk_far ?_ NB115_123.out _; (with_reducible repeat apply blk_drewN); exact BK115.out)) : gb124 ≠ gb115)); have n17_ := Aside0.mk ((by rw [hg]; exact Nat.ne_of_lt (blk_lt (g := gb123) (o := .cells #[.int .i64 t119, .int .i64 t120, .bool t121] 31 (0, 0)) (by (with_reducible repeat apply blk_drewN); refine blk_put (cs := #[.int .i64 t119, .int .i64 t120, .bool false]) ?_ 2 _ rfl; (with_reducible repeat apply blk_drewN); refine blk_put (cs := #[.int .i64 t119, .int .i64 0, .bool false]) ?_ 1 _ rfl; (with_reducible repeat apply blk_drewN); refine blk_put (cs := #[.int .i64 0, .int .i64 0, .bool false]) ?_ 0 _ rfl; (with_reducible repeat apply blk_drewN); exact BK123.out)) : gb123 ≠ gb124)); have n18_ := Aside0.mk ((by rw [hg]; exact Nat.ne_of_gt (blk_lt (g := gb123) (o := .cells #[.int .i64 t119, .int .i64 t120, .bool t121] 31 (0, 0)) (by (with_reducible repeat apply blk_drewN); refine blk_put (cs := #[.int .i64 t119, .int .i64 t120, .bool false]) ?_ 2 _ rfl; (with_reducible repeat apply blk_drewN); refine blk_put (cs := #[.int .i64 t119, .int .i64 0, .bool false]) ?_ 1 _ rfl; (with_reducible repeat apply blk_drewN); refine blk_put (cs := #[.int .i64 0, .int .i64 0, .bool false]) ?_ 0 _ rfl; (with_reducible repeat apply blk_drewN); exact BK123.out)) : gb124 ≠ gb123)); clear BK101; clear BK102; clear BK103; clear BK115; clear BK123; clear HB; have BK101 := n0_; have BK102 := n1_; have BK103 := n2_; have BK115 := n3_; have BK123 := n4_; have HB := n5_; have BK124 := n6_; have GW124 := n7_; have GE124 := n8_; have NB101_124 := n9_; have NB124_101 := n10_; have NB102_124 := n11_; have NB124_102 := n12_; have NB103_124 := n13_; have NB124_103 := n14_; have NB115_124 := n15_; have NB124_115 := n16_; have NB123_124 := n17_; have NB124_123 := n18_; clear n0_ n1_ n2_ n3_ n4_ n5_ n6_ n7_ n8_ n9_ n10_ n11_ n12_ n13_ n14_ n15_ n16_ n17_ n18_; clear hb hbox hg; have hnb111 := NB124_101.out; have hnc111 := NB101_124.out; have hnb112 := NB124_102.out; have hnc112 := NB102_124.out; have hnb113 := NB124_103.out; have hnc113 := NB103_124.out; have hnb114 := NB124_115.out; have hnc114 := NB115_124.out; have hnb115 := NB124_123.out; have hnc115 := NB123_124.out; have hcz116_0 : w110.cell? ⟨gb124, 0, none⟩ = some (.int .i64 0) := (blk_cell BK124.out 0).trans rfl; have hcz116_1 : w110.cell? ⟨gb124, 1, none⟩ = some (.int .i64 0) := (blk_cell BK124.out 1).trans rfl; have hcz116_2 : w110.cell? ⟨gb124, 2, none⟩ = some (.int .i64 0) := (blk_cell BK124.out 2).trans rfl; have hcz116_3 : w110.cell? ⟨gb124, 3, none⟩ = some (.bool false) := (blk_cell BK124.out 3).trans rfl; have hcz116_4 : w110.cell? ⟨gb124, 4, none⟩ = some (.int .i64 0) := (blk_cell BK124.out 4).trans rfl; have hfz116_0 := blk_frozen BK124.out 0; have hfz116_1 := blk_frozen BK124.out 1; have hfz116_2 := blk_frozen BK124.out 2; have hfz116_3 := blk_frozen BK124.out 3; have hfz116_4 := blk_frozen BK124.out 4) | ((with_reducible refine gate_callee (f := 83) rfl ?_); refine goesL_ (some 77) rfl rfl Try.func83 (by kernel_rfl) rfl #[.agg #[.int .i64 a2, .int .i64 t119, .int .i64 t120, .bool t121, .int .i64 a0_4]] rfl (by (try simp only [List.map_toArray, List.map_cons, List.map_nil]); first | done | rfl | (simp only [List.length_drop, List.length_take]; rfl)) ?_; (with_reducible refine (clock_Check.calls kj6 a2 t119 t120 t121 a0_4 t125 _ A40.out).mono ?_); rintro e w117 ⟨rfl, hb⟩; refine ⟨_, rfl, ?_⟩; have n0_ := Aside0.mk (blk_below (g := gb101) (o := .cells #[.int .i64 a0_0, .int .i64 a0_1, .int .i64 a0_2, .bool a0_3, .int .i64 a0_4] 33 (0, 0)) (by (with_reducible repeat apply blk_drewN); refine blk_far ?_ NB101_124.out _; (with_reducible repeat apply blk_drewN); refine blk_far ?_ NB101_124.out _; (with_reducible repeat apply blk_drewN); refine blk_far ?_ NB101_124.out _; (with_reducible repeat apply blk_drewN); refine blk_far ?_ NB101_124.out _; (with_reducible repeat apply blk_drewN); refine blk_far ?_ NB101_124.out _; (with_reducible repeat apply blk_drewN); exact BK101.out) hb); have n1_ := Aside0.mk (blk_below (g := gb102) (o := .cells #[.int .i64 a3_0, .int .i64 a3_1, .bool a3_2] 31 (0, 0)) (by (with_reducible repeat apply blk_drewN); refine blk_far ?_ NB102_124.out _; (with_reducible repeat apply blk_drewN); refine blk_far ?_ NB102_124.out _; (with_reducible repeat apply blk_drewN); refine blk_far ?_ NB102_124.out _; (with_reducible repeat apply blk_drewN); refine blk_far ?_ NB102_124.out _; (with_reducible repeat apply blk_drewN); refine blk_far ?_ NB102_124.out _; (with_reducible repeat apply blk_drewN); exact BK102.out) hb); have n2_ := Aside0.mk (blk_below (g := gb103) (o := .cells #[.int .i64 0, .int .i64 0, .int .i64 0, .bool false, .int .i64 0] 33 (0, 0)) (by (with_reducible repeat apply blk_drewN); refine blk_far ?_ NB103_124.out _; (with_reducible repeat apply blk_drewN); refine blk_far ?_ NB103_124.out _; (with_reducible repeat apply blk_drewN); refine blk_far ?_ NB103_124.out _; (with_reducible repeat apply blk_drewN); refine blk_far ?_ NB103_124.out _; (with_reducible repeat apply blk_drewN); refine blk_far ?_ NB103_124.out _; (with_reducible repeat apply blk_drewN); exact BK103.out) hb); have n3_ := Aside0.mk (blk_below (g := gb115) (o := .cells #[.int .i64 t112, .int .i64 t113, .bool t114] 31 (0, 0)) (by (with_reducible repeat apply blk_drewN); refine blk_far ?_ NB115_124.out _; (with_reducible repeat apply blk_drewN); refine blk_far ?_ NB115_124.out _; (with_reducible repeat apply blk_drewN); refine blk_far ?_ NB115_124.out _; (with_reducible repeat apply blk_drewN); refine blk_far ?_ NB115_124.out _; (with_reducible repeat apply blk_drewN); refine blk_far ?_ NB115_124.out _; (with_reducible repeat apply blk_drewN); exact BK115.out) hb); have n4_ := Aside0.mk (blk_below (g := gb123) (o := .cells #[.int .i64 t119, .int .i64 t120, .bool t121] 31 (0, 0)) (by (with_reducible repeat apply blk_drewN); refine blk_far ?_ NB123_124.out _; (with_reducible repeat apply blk_drewN); refine blk_far ?_ NB123_124.out _; (with_reducible repeat apply blk_drewN); refine blk_far ?_ NB123_124.out _; (with_reducible repeat apply blk_drewN); refine blk_far ?_ NB123_124.out _; (with_reducible repeat apply blk_drewN); refine blk_far ?_ NB123_124.out _; (with_reducible repeat apply blk_drewN); exact BK123.out) hb); have n5_ := Aside0.mk (blk_below (g := gb124) (o := .cells #[.int .i64 a2, .int .i64 t119, .int .i64 t120, .bool t121, .int .i64 a0_4] 33 (0, 0)) (by (with_reducible repeat apply blk_drewN); refine blk_put (cs := #[.int .i64 a2, .int .i64 t119, .int .i64 t120, .bool t121, .int .i64 0]) ?_ 4 _ rfl; (with_reducible repeat apply blk_drewN); refine blk_put (cs := #[.int .i64 a2, .int .i64 t119, .int .i64 t120, .bool false, .int .i64 0]) ?_ 3 _ rfl; (with_reducible repeat apply blk_drewN); refine blk_put (cs := #[.int .i64 a2, .int .i64 t119, .int .i64 0, .bool false, .int .i64 0]) ?_ 2 _ rfl; (with_reducible repeat apply blk_drewN); refine blk_put (cs := #[.int .i64 a2, .int .i64 0, .int .i64 0, .bool false, .int .i64 0]) ?_ 1 _ rfl; (with_reducible repeat apply blk_drewN); refine blk_put (cs := #[.int .i64 0, .int .i64 0, .int .i64 0, .bool false, .int .i64 0]) ?_ 0 _ rfl; (with_reducible repeat apply blk_drewN); exact BK124.out) hb); have n6_ := Aside0.mk (below_step (by repeat (first | (with_reducible first | exact HB.out | apply below_alloc | apply pw_below_drewN | apply below_drew1 | refine below_set ?_ GE101.out | refine below_set ?_ GE102.out | refine below_set ?_ GE103.out | refine below_set ?_ GE115.out | refine below_set ?_ GE123.out | refine below_set ?_ GE124.out) | exact HB.out)) hb); clear BK101; clear BK102; clear BK103; clear BK115; clear BK123; clear BK124; clear HB; have BK101 := n0_; have BK102 := n1_; have BK103 := n2_; have BK115 := n3_; have BK123 := n4_; have BK124 := n5_; have HB := n6_; clear n0_ n1_ n2_ n3_ n4_ n5_ n6_; (try clear hb); (try clear hb2); (try clear hk); (try clear hi); have hnb118 := NB103_102.out; have hnc118 := NB102_103.out; have hnb119 := NB103_115.out; have hnc119 := NB115_103.out; have hcz120_0 : w117.cell? ⟨gb103, 0, none⟩ = some (.int .i64 0) := (blk_cell BK103.out 0).trans rfl; have hcz120_1 : w117.cell? ⟨gb103, 1, none⟩ = some (.int .i64 0) := (blk_cell BK103.out 1).trans rfl; have hcz120_2 : w117.cell? ⟨gb103, 2, none⟩ = some (.int .i64 0) := (blk_cell BK103.out 2).trans rfl; have hcz120_3 : w117.cell? ⟨gb103, 3, none⟩ = some (.bool false) := (blk_cell BK103.out 3).trans rfl; have hcz120_4 : w117.cell? ⟨gb103, 4, none⟩ = some (.int .i64 0) := (blk_cell BK103.out 4).trans rfl; have hfz120_0 := blk_frozen BK103.out 0; have hfz120_1 := blk_frozen BK103.out 1; have hfz120_2 := blk_frozen BK103.out 2; have hfz120_3 := blk_frozen BK103.out 3; have hfz120_4 := blk_frozen BK103.out 4))
               refine bodyPost_ret (results_ct rfl _ _ gb103 33 #[.int .i64 0, .int .i64 0, .int .i64 0, .bool false, .int .i64 0] (0, 0) _ rfl (by (with_reducible repeat apply blk_drewN); refine blk_put (cs := #[.int .i64 0, .int .i64 0, .int .i64 0, .bool false, .int .i64 0]) ?_ 4 _ rfl; (with_reducible repeat apply blk_drewN); refine blk_put (cs := #[.int .i64 0, .int .i64 0, .int .i64 0, .bool false, .int .i64 0]) ?_ 3 _ rfl; (with_reducible repeat apply blk_drewN); refine blk_put (cs := #[.int .i64 0, .int .i64 0, .int .i64 0, .bool false, .int .i64 0]) ?_ 2 _ rfl; (with_reducible repeat apply blk_drewN); refine blk_put (cs := #[.int .i64 0, .int .i64 0, .int .i64 0, .bool false, .int .i64 0]) ?_ 1 _ rfl; (with_reducible repeat apply blk_drewN); refine blk_put (cs := #[.int .i64 0, .int .i64 0, .int .i64 0, .bool false, .int .i64 0]) ?_ 0 _ rfl; (with_reducible repeat apply blk_drewN); exact BK103.out) Try.underlying33 rfl (by kernel_rfl)) rfl ?_
               exact ⟨by first | rfl | (simp [errW_none, errW_some] <;> rfl) | (simp [*, errW_none, errW_some] <;> rfl), by repeat (first | (with_reducible first | exact HB.out | apply below_alloc | apply pw_below_drewN | apply below_drew1 | refine below_set ?_ GE101.out | refine below_set ?_ GE102.out | refine below_set ?_ GE103.out | refine below_set ?_ GE115.out | refine below_set ?_ GE123.out | refine below_set ?_ GE124.out) | exact HB.out)⟩
           · replace c39 := Bool.eq_false_iff.mpr c39
             subst c39
             have H1 : (some (0, 0, 0, false, 0, 15)) = some (r1, r2, r3, r4, r5, r6) := by rw [if_neg (show ¬ (false = true) by decide)] at H; exact H
             clear H
             have H := H1
             clear H1
             simp only [Option.some.injEq, Prod.mk.injEq] at H
             obtain ⟨rfl, rfl, rfl, rfl, rfl, rfl⟩ := H
             have hnb121 := NB101_102.out
             have hnc121 := NB102_101.out
             have hnb122 := NB101_103.out
             have hnc122 := NB103_101.out
             have hcz123_0 : wc.cell? ⟨gb101, 0, none⟩ = some (.int .i64 a0_0) := (blk_cell BK101.out 0).trans rfl
             have hcz123_1 : wc.cell? ⟨gb101, 1, none⟩ = some (.int .i64 a0_1) := (blk_cell BK101.out 1).trans rfl
             have hcz123_2 : wc.cell? ⟨gb101, 2, none⟩ = some (.int .i64 a0_2) := (blk_cell BK101.out 2).trans rfl
             have hcz123_3 : wc.cell? ⟨gb101, 3, none⟩ = some (.bool a0_3) := (blk_cell BK101.out 3).trans rfl
             have hcz123_4 : wc.cell? ⟨gb101, 4, none⟩ = some (.int .i64 a0_4) := (blk_cell BK101.out 4).trans rfl
             have hfz123_0 := blk_frozen BK101.out 0
             have hfz123_1 := blk_frozen BK101.out 1
             have hfz123_2 := blk_frozen BK101.out 2
             have hfz123_3 := blk_frozen BK101.out 3
             have hfz123_4 := blk_frozen BK101.out 4
             try go_wp2_with (first | ((with_reducible refine gate_callee (f := 84) rfl ?_); refine goesL_ (some 53) rfl rfl Try.func84 (by kernel_rfl) rfl #[.int .i64 (wrap64 ((wrap64 (a2 - a1)) + 1)), .int .i64 1000000, .int .i64 (wrap64 (1000000 - a0_4))] rfl (by (try simp only [List.map_toArray, List.map_cons, List.map_nil]); first | done | rfl | (simp only [List.length_drop, List.length_take]; rfl)) ?_; (with_reducible refine (num_MulDivUp.calls kj6 (wrap64 ((wrap64 (a2 - a1)) + 1)) 1000000 (wrap64 (1000000 - a0_4)) t107 t108 _ A34.out).mono ?_); rintro e w124 ⟨rfl, hb⟩; refine ⟨_, rfl, ?_⟩; have n0_ := bkb_ BK101 hb rfl; have n1_ := bkb_ BK102 hb rfl; have n2_ := bkb_ BK103 hb rfl; have n3_ := hbs_ HB hb rfl rfl rfl rfl; clear BK101; clear BK102; clear BK103; clear HB; have BK101 := n0_; have BK102 := n1_; have BK103 := n2_; have HB := n3_; clear n0_ n1_ n2_ n3_; (try clear hb); (try clear hb2); (try clear hk); (try clear hi)))
             have n0_ := Aside0.mk (blk_drew BK101.out)
             have n1_ := Aside0.mk (blk_drew BK102.out)
             have n2_ := Aside0.mk (blk_drew BK103.out)
             have n3_ := Aside0.mk (below_drew1 HB.out)
             clear BK101
             clear BK102
             clear BK103
             clear HB
             have BK101 := n0_
             have BK102 := n1_
             have BK103 := n2_
             have HB := n3_
             clear n0_ n1_ n2_ n3_
             refine start_ (n := 6) (S := fun w' => w'.cell? ⟨gb102, 0, none⟩ = some (.int .i64 a3_0) ∧ w'.cell? ⟨gb102, 1, none⟩ = some (.int .i64 a3_1) ∧ w'.cell? ⟨gb102, 2, none⟩ = some (.bool a3_2)) (ds := []) #[false, false, false, false, false, false] (by kernel_rfl) rfl rfl ⟨(blk_cell BK102.out 0).trans rfl, (blk_cell BK102.out 1).trans rfl, (blk_cell BK102.out 2).trans rfl⟩ (fun hHeld => ?_)
             generalize w124.drew = w125 at BK101 BK102 BK103 HB hHeld ⊢
             refine pure_ (i := 1) (N := some 57) (v := ?_) (a' := ?_) #[false, true, false, false, false, false] rfl rfl (by kernel_rfl) (fun _ _ _ h => h) (Or.inl ⟨by rfl, ?_⟩) ?_ ?_
             rotate_left
             · intro w'
               go_simp
               with_reducible rfl
             rotate_left
             · simp only [Act.put, List.setIfInBounds_toArray, List.set_cons_zero, List.set_cons_succ, i64_w, i32_w]
               rfl
             refine take_ (i := 0) (N := some 56) (v := ?_) (a' := ?_) #[true, true, false, false, false, false] rfl rfl (by kernel_rfl) (fun _ _ _ h => h) (Or.inl ⟨by rfl, ?_⟩) hHeld ?_ ?_
             rotate_left
             · rintro w' ⟨s0, s1, s2⟩
               go_simp
               with_reducible rfl
             rotate_left
             · simp only [Act.put, List.setIfInBounds_toArray, List.set_cons_zero, List.set_cons_succ, i64_w, i32_w]
               rfl
             refine join_ (σ := Nat) 1 #[true, true, true, true, true, false] (fun s_ => [(58, .agg #[.int .i64 t109, .int .i64 t110, .bool t111]), (59, .agg #[.int .i64 t112, .int .i64 t113, .bool t114]), (13, .pointer (some ⟨s_, 0, none⟩))]) (fun s_ w' => (w'.cell? ⟨gb102, 0, none⟩ = some (.int .i64 a3_0) ∧ w'.cell? ⟨gb102, 1, none⟩ = some (.int .i64 a3_1) ∧ w'.cell? ⟨gb102, 2, none⟩ = some (.bool a3_2)) ∧ (w'.heap[gb101]? = some (.cells #[.int .i64 a0_0, .int .i64 a0_1, .int .i64 a0_2, .bool a0_3, .int .i64 a0_4] 33 (0, 0))) ∧ (w'.heap[gb102]? = some (.cells #[.int .i64 a3_0, .int .i64 a3_1, .bool a3_2] 31 (0, 0))) ∧ (w'.heap[gb103]? = some (.cells #[.int .i64 0, .int .i64 0, .int .i64 0, .bool false, .int .i64 0] 33 (0, 0))) ∧ (w'.heap[s_]? = some (.cells #[.int .i64 0, .int .i64 0, .bool false] 31 (0, 0))) ∧ (w.heap.size ≤ s_) ∧ (w.heap.size ≤ s_) ∧ (gb101 ≠ s_) ∧ (s_ ≠ gb101) ∧ (gb102 ≠ s_) ∧ (s_ ≠ gb102) ∧ (gb103 ≠ s_) ∧ (s_ ≠ gb103) ∧ (Below w.heap.size w w')) ?_ ?_
             rotate_left
             · intro hCont
               refine two_ (i := 2) (j := 4) (Ni := some 58) (Nj := some 13) #[true, true, true, false, false, false] #[true, true, false, false, true, false] rfl rfl rfl rfl (by kernel_rfl) (by decide) (by decide) (fun K hK => ?_) (fun K hK => ?_)
               · skip
                 refine goes_ Try.func86 (by kernel_rfl) rfl #[.int .i64 0, .int .i64 t107] (by rfl) rfl rfl (by (try simp only [List.map_toArray, List.map_cons, List.map_nil]); first | done | rfl | (simp only [List.length_drop, List.length_take]; rfl)) ?_
                 with_reducible refine (bound_Of_api_Tick.calls kj6 0 t107 t109 t110 t111 _ A35.out).mono ?_
                 rintro e w126 ⟨rfl, hb⟩
                 refine ⟨_, rfl, ?_⟩
                 have n0_ := bkb_ BK101 hb rfl
                 have n1_ := bkb_ BK102 hb rfl
                 have n2_ := bkb_ BK103 hb rfl
                 have n3_ := hbs_ HB hb rfl rfl rfl rfl
                 clear BK101
                 clear BK102
                 clear BK103
                 clear HB
                 have BK101 := n0_
                 have BK102 := n1_
                 have BK103 := n2_
                 have HB := n3_
                 clear n0_ n1_ n2_ n3_
                 (try clear hb)
                 (try clear hb2)
                 (try clear hk)
                 (try clear hi)
                 refine hK.out _ _ ⟨(blk_cell BK102.out 0).trans rfl, (blk_cell BK102.out 1).trans rfl, (blk_cell BK102.out 2).trans rfl⟩ (fun hHeld => ?_)
                 clear hK K
                 refine norm_ (a' := ?_) ?_ ?_
                 rotate_left
                 · show Act.put _ (some 58) _ = _
                   simp only [Act.put, List.setIfInBounds_toArray, List.set_cons_zero, List.set_cons_succ, i64_w, i32_w]
                   rfl
                 refine two_ (i := 3) (j := 4) (Ni := some 59) (Nj := some 13) #[true, true, true, true, false, false] #[true, true, true, false, true, false] rfl rfl rfl rfl (by kernel_rfl) (by decide) (by decide) (fun K hK => ?_) (fun K hK => ?_)
                 · skip
                   refine goes_ Try.func85 (by kernel_rfl) rfl #[.agg #[.int .i64 a3_0, .int .i64 a3_1, .bool a3_2], .agg #[.int .i64 t109, .int .i64 t110, .bool t111]] (by rfl) rfl rfl (by (try simp only [List.map_toArray, List.map_cons, List.map_nil]); first | done | rfl | (simp only [List.length_drop, List.length_take]; rfl)) ?_
                   with_reducible refine (bound_Add_api_Tick.calls kj6 a3_0 a3_1 a3_2 t109 t110 t111 t112 t113 t114 _ A36.out).mono ?_
                   rintro e w127 ⟨rfl, hb⟩
                   refine ⟨_, rfl, ?_⟩
                   have n0_ := bkb_ BK101 hb rfl
                   have n1_ := bkb_ BK102 hb rfl
                   have n2_ := bkb_ BK103 hb rfl
                   have n3_ := hbs_ HB hb rfl rfl rfl rfl
                   clear BK101
                   clear BK102
                   clear BK103
                   clear HB
                   have BK101 := n0_
                   have BK102 := n1_
                   have BK103 := n2_
                   have HB := n3_
                   clear n0_ n1_ n2_ n3_
                   (try clear hb)
                   (try clear hb2)
                   (try clear hk)
                   (try clear hi)
                   refine hK.out _ _ ⟨(blk_cell BK102.out 0).trans rfl, (blk_cell BK102.out 1).trans rfl, (blk_cell BK102.out 2).trans rfl⟩ (fun hHeld => ?_)
                   clear hK K
                   refine norm_ (a' := ?_) ?_ ?_
                   rotate_left
                   · show Act.put _ (some 59) _ = _
                     simp only [Act.put, List.setIfInBounds_toArray, List.set_cons_zero, List.set_cons_succ, i64_w, i32_w]
                     rfl
                   refine one_ (i := 4) (N := some 13) #[true, true, true, true, true, false] rfl rfl (by kernel_rfl) (by decide) (fun K hK => ?_)
                   refine box_step ?hg (N := 13) ?hd (cs := #[.int .i64 0, .int .i64 0, .bool false]) (t := 31) ?hr ?_; (case hd => rfl); (case hg => rfl); (case hr => first | (go_simp; done) | (go_simp; rfl))
                   intro gb115 hg w128 hbox hb
                   have n0_ := bkb_ BK101 hb rfl
                   have n1_ := bkb_ BK102 hb rfl
                   have n2_ := bkb_ BK103 hb rfl
                   have n3_ := hbs_ HB hb rfl rfl rfl rfl
                   have n4_ := Aside0.mk (hbox)
                   have n5_ := Aside0.mk ((by rw [hg]; exact (below_size (by repeat (first | (with_reducible first | exact HB.out | apply below_alloc | apply pw_below_drewN | apply below_drew1 | refine below_set ?_ GE101.out | refine below_set ?_ GE102.out | refine below_set ?_ GE103.out) | exact HB.out))) : w.heap.size ≤ gb115))
                   have n6_ := n5_
                   have n7_ := nbl_ BK101 hg rfl
                   have n8_ := nbg_ BK101 hg rfl
                   have n9_ := nbl_ BK102 hg rfl
                   have n10_ := nbg_ BK102 hg rfl
                   have n11_ := nbl_ BK103 hg rfl
                   have n12_ := nbg_ BK103 hg rfl
                   clear BK101
                   clear BK102
                   clear BK103
                   clear HB
                   have BK101 := n0_
                   have BK102 := n1_
                   have BK103 := n2_
                   have HB := n3_
                   have BK115 := n4_
                   have GW115 := n5_
                   have GE115 := n6_
                   have NB101_115 := n7_
                   have NB115_101 := n8_
                   have NB102_115 := n9_
                   have NB115_102 := n10_
                   have NB103_115 := n11_
                   have NB115_103 := n12_
                   clear n0_ n1_ n2_ n3_ n4_ n5_ n6_ n7_ n8_ n9_ n10_ n11_ n12_
                   clear hb hbox hg
                   refine hK.out _ _ ⟨(blk_cell BK102.out 0).trans rfl, (blk_cell BK102.out 1).trans rfl, (blk_cell BK102.out 2).trans rfl⟩ (fun hHeld => ?_)
                   clear hK K
                   refine norm_ (a' := ?_) ?_ ?_
                   rotate_left
                   · show Act.put _ (some 13) _ = _
                     simp only [Act.put, List.setIfInBounds_toArray, List.set_cons_zero, List.set_cons_succ, i64_w, i32_w]
                     rfl
                   exact norm_ (by simp only [putAll, Act.put, List.setIfInBounds_toArray, List.set_cons_zero, List.set_cons_succ]) (hCont (gb115) _ ⟨hHeld, BK101.out, BK102.out, BK103.out, BK115.out, GW115.out, GE115.out, NB101_115.out, NB115_101.out, NB102_115.out, NB115_102.out, NB103_115.out, NB115_103.out, (by repeat (first | (with_reducible first | exact HB.out | apply below_alloc | apply pw_below_drewN | apply below_drew1 | refine below_set ?_ GE101.out | refine below_set ?_ GE102.out | refine below_set ?_ GE103.out | refine below_set ?_ GE115.out) | exact HB.out))⟩)
                 · skip
                   refine box_step ?hg (N := 13) ?hd (cs := #[.int .i64 0, .int .i64 0, .bool false]) (t := 31) ?hr ?_; (case hd => rfl); (case hg => rfl); (case hr => first | (go_simp; done) | (go_simp; rfl))
                   intro gb115 hg w127 hbox hb
                   have n0_ := bkb_ BK101 hb rfl
                   have n1_ := bkb_ BK102 hb rfl
                   have n2_ := bkb_ BK103 hb rfl
                   have n3_ := hbs_ HB hb rfl rfl rfl rfl
                   have n4_ := Aside0.mk (hbox)
                   have n5_ := Aside0.mk ((by rw [hg]; exact (below_size (by repeat (first | (with_reducible first | exact HB.out | apply below_alloc | apply pw_below_drewN | apply below_drew1 | refine below_set ?_ GE101.out | refine below_set ?_ GE102.out | refine below_set ?_ GE103.out) | exact HB.out))) : w.heap.size ≤ gb115))
                   have n6_ := n5_
                   have n7_ := nbl_ BK101 hg rfl
                   have n8_ := nbg_ BK101 hg rfl
                   have n9_ := nbl_ BK102 hg rfl
                   have n10_ := nbg_ BK102 hg rfl
                   have n11_ := nbl_ BK103 hg rfl
                   have n12_ := nbg_ BK103 hg rfl
                   clear BK101
                   clear BK102
                   clear BK103
                   clear HB
                   have BK101 := n0_
                   have BK102 := n1_
                   have BK103 := n2_
                   have HB := n3_
                   have BK115 := n4_
                   have GW115 := n5_
                   have GE115 := n6_
                   have NB101_115 := n7_
                   have NB115_101 := n8_
                   have NB102_115 := n9_
                   have NB115_102 := n10_
                   have NB103_115 := n11_
                   have NB115_103 := n12_
                   clear n0_ n1_ n2_ n3_ n4_ n5_ n6_ n7_ n8_ n9_ n10_ n11_ n12_
                   clear hb hbox hg
                   refine hK.out _ _ ⟨(blk_cell BK102.out 0).trans rfl, (blk_cell BK102.out 1).trans rfl, (blk_cell BK102.out 2).trans rfl⟩ (fun hHeld => ?_)
                   clear hK K
                   refine norm_ (a' := ?_) ?_ ?_
                   rotate_left
                   · show Act.put _ (some 13) _ = _
                     simp only [Act.put, List.setIfInBounds_toArray, List.set_cons_zero, List.set_cons_succ, i64_w, i32_w]
                     rfl
                   refine one_ (i := 3) (N := some 59) #[true, true, true, true, true, false] rfl rfl (by kernel_rfl) (by decide) (fun K hK => ?_)
                   refine goes_ Try.func85 (by kernel_rfl) rfl #[.agg #[.int .i64 a3_0, .int .i64 a3_1, .bool a3_2], .agg #[.int .i64 t109, .int .i64 t110, .bool t111]] (by rfl) rfl rfl (by (try simp only [List.map_toArray, List.map_cons, List.map_nil]); first | done | rfl | (simp only [List.length_drop, List.length_take]; rfl)) ?_
                   with_reducible refine (bound_Add_api_Tick.calls kj6 a3_0 a3_1 a3_2 t109 t110 t111 t112 t113 t114 _ A36.out).mono ?_
                   rintro e w128 ⟨rfl, hb⟩
                   refine ⟨_, rfl, ?_⟩
                   have n0_ := bkb_ BK101 hb rfl
                   have n1_ := bkb_ BK102 hb rfl
                   have n2_ := bkb_ BK103 hb rfl
                   have n3_ := bkb_ BK115 hb rfl
                   have n4_ := hbs_ HB hb rfl rfl rfl rfl
                   clear BK101
                   clear BK102
                   clear BK103
                   clear BK115
                   clear HB
                   have BK101 := n0_
                   have BK102 := n1_
                   have BK103 := n2_
                   have BK115 := n3_
                   have HB := n4_
                   clear n0_ n1_ n2_ n3_ n4_
                   (try clear hb)
                   (try clear hb2)
                   (try clear hk)
                   (try clear hi)
                   refine hK.out _ _ ⟨(blk_cell BK102.out 0).trans rfl, (blk_cell BK102.out 1).trans rfl, (blk_cell BK102.out 2).trans rfl⟩ (fun hHeld => ?_)
                   clear hK K
                   refine norm_ (a' := ?_) ?_ ?_
                   rotate_left
                   · show Act.put _ (some 59) _ = _
                     simp only [Act.put, List.setIfInBounds_toArray, List.set_cons_zero, List.set_cons_succ, i64_w, i32_w]
                     rfl
                   exact norm_ (by simp only [putAll, Act.put, List.setIfInBounds_toArray, List.set_cons_zero, List.set_cons_succ]) (hCont (gb115) _ ⟨hHeld, BK101.out, BK102.out, BK103.out, BK115.out, GW115.out, GE115.out, NB101_115.out, NB115_101.out, NB102_115.out, NB115_102.out, NB103_115.out, NB115_103.out, (by repeat (first | (with_reducible first | exact HB.out | apply below_alloc | apply pw_below_drewN | apply below_drew1 | refine below_set ?_ GE101.out | refine below_set ?_ GE102.out | refine below_set ?_ GE103.out | refine below_set ?_ GE115.out) | exact HB.out))⟩)
               · skip
                 refine box_step ?hg (N := 13) ?hd (cs := #[.int .i64 0, .int .i64 0, .bool false]) (t := 31) ?hr ?_; (case hd => rfl); (case hg => rfl); (case hr => first | (go_simp; done) | (go_simp; rfl))
                 intro gb115 hg w126 hbox hb
                 have n0_ := bkb_ BK101 hb rfl
                 have n1_ := bkb_ BK102 hb rfl
                 have n2_ := bkb_ BK103 hb rfl
                 have n3_ := hbs_ HB hb rfl rfl rfl rfl
                 have n4_ := Aside0.mk (hbox)
                 have n5_ := Aside0.mk ((by rw [hg]; exact (below_size (by repeat (first | (with_reducible first | exact HB.out | apply below_alloc | apply pw_below_drewN | apply below_drew1 | refine below_set ?_ GE101.out | refine below_set ?_ GE102.out | refine below_set ?_ GE103.out) | exact HB.out))) : w.heap.size ≤ gb115))
                 have n6_ := n5_
                 have n7_ := nbl_ BK101 hg rfl
                 have n8_ := nbg_ BK101 hg rfl
                 have n9_ := nbl_ BK102 hg rfl
                 have n10_ := nbg_ BK102 hg rfl
                 have n11_ := nbl_ BK103 hg rfl
                 have n12_ := nbg_ BK103 hg rfl
                 clear BK101
                 clear BK102
                 clear BK103
                 clear HB
                 have BK101 := n0_
                 have BK102 := n1_
                 have BK103 := n2_
                 have HB := n3_
                 have BK115 := n4_
                 have GW115 := n5_
                 have GE115 := n6_
                 have NB101_115 := n7_
                 have NB115_101 := n8_
                 have NB102_115 := n9_
                 have NB115_102 := n10_
                 have NB103_115 := n11_
                 have NB115_103 := n12_
                 clear n0_ n1_ n2_ n3_ n4_ n5_ n6_ n7_ n8_ n9_ n10_ n11_ n12_
                 clear hb hbox hg
                 refine hK.out _ _ ⟨(blk_cell BK102.out 0).trans rfl, (blk_cell BK102.out 1).trans rfl, (blk_cell BK102.out 2).trans rfl⟩ (fun hHeld => ?_)
                 clear hK K
                 refine norm_ (a' := ?_) ?_ ?_
                 rotate_left
                 · show Act.put _ (some 13) _ = _
                   simp only [Act.put, List.setIfInBounds_toArray, List.set_cons_zero, List.set_cons_succ, i64_w, i32_w]
                   rfl
                 refine one_ (i := 2) (N := some 58) #[true, true, true, false, true, false] rfl rfl (by kernel_rfl) (by decide) (fun K hK => ?_)
                 refine goes_ Try.func86 (by kernel_rfl) rfl #[.int .i64 0, .int .i64 t107] (by rfl) rfl rfl (by (try simp only [List.map_toArray, List.map_cons, List.map_nil]); first | done | rfl | (simp only [List.length_drop, List.length_take]; rfl)) ?_
                 with_reducible refine (bound_Of_api_Tick.calls kj6 0 t107 t109 t110 t111 _ A35.out).mono ?_
                 rintro e w127 ⟨rfl, hb⟩
                 refine ⟨_, rfl, ?_⟩
                 have n0_ := bkb_ BK101 hb rfl
                 have n1_ := bkb_ BK102 hb rfl
                 have n2_ := bkb_ BK103 hb rfl
                 have n3_ := bkb_ BK115 hb rfl
                 have n4_ := hbs_ HB hb rfl rfl rfl rfl
                 clear BK101
                 clear BK102
                 clear BK103
                 clear BK115
                 clear HB
                 have BK101 := n0_
                 have BK102 := n1_
                 have BK103 := n2_
                 have BK115 := n3_
                 have HB := n4_
                 clear n0_ n1_ n2_ n3_ n4_
                 (try clear hb)
                 (try clear hb2)
                 (try clear hk)
                 (try clear hi)
                 refine hK.out _ _ ⟨(blk_cell BK102.out 0).trans rfl, (blk_cell BK102.out 1).trans rfl, (blk_cell BK102.out 2).trans rfl⟩ (fun hHeld => ?_)
                 clear hK K
                 refine norm_ (a' := ?_) ?_ ?_
                 rotate_left
                 · show Act.put _ (some 58) _ = _
                   simp only [Act.put, List.setIfInBounds_toArray, List.set_cons_zero, List.set_cons_succ, i64_w, i32_w]
                   rfl
                 refine one_ (i := 3) (N := some 59) #[true, true, true, true, true, false] rfl rfl (by kernel_rfl) (by decide) (fun K hK => ?_)
                 refine goes_ Try.func85 (by kernel_rfl) rfl #[.agg #[.int .i64 a3_0, .int .i64 a3_1, .bool a3_2], .agg #[.int .i64 t109, .int .i64 t110, .bool t111]] (by rfl) rfl rfl (by (try simp only [List.map_toArray, List.map_cons, List.map_nil]); first | done | rfl | (simp only [List.length_drop, List.length_take]; rfl)) ?_
                 with_reducible refine (bound_Add_api_Tick.calls kj6 a3_0 a3_1 a3_2 t109 t110 t111 t112 t113 t114 _ A36.out).mono ?_
                 rintro e w128 ⟨rfl, hb⟩
                 refine ⟨_, rfl, ?_⟩
                 have n0_ := bkb_ BK101 hb rfl
                 have n1_ := bkb_ BK102 hb rfl
                 have n2_ := bkb_ BK103 hb rfl
                 have n3_ := bkb_ BK115 hb rfl
                 have n4_ := hbs_ HB hb rfl rfl rfl rfl
                 clear BK101
                 clear BK102
                 clear BK103
                 clear BK115
                 clear HB
                 have BK101 := n0_
                 have BK102 := n1_
                 have BK103 := n2_
                 have BK115 := n3_
                 have HB := n4_
                 clear n0_ n1_ n2_ n3_ n4_
                 (try clear hb)
                 (try clear hb2)
                 (try clear hk)
                 (try clear hi)
                 refine hK.out _ _ ⟨(blk_cell BK102.out 0).trans rfl, (blk_cell BK102.out 1).trans rfl, (blk_cell BK102.out 2).trans rfl⟩ (fun hHeld => ?_)
                 clear hK K
                 refine norm_ (a' := ?_) ?_ ?_
                 rotate_left
                 · show Act.put _ (some 59) _ = _
                   simp only [Act.put, List.setIfInBounds_toArray, List.set_cons_zero, List.set_cons_succ, i64_w, i32_w]
                   rfl
                 exact norm_ (by simp only [putAll, Act.put, List.setIfInBounds_toArray, List.set_cons_zero, List.set_cons_succ]) (hCont (gb115) _ ⟨hHeld, BK101.out, BK102.out, BK103.out, BK115.out, GW115.out, GE115.out, NB101_115.out, NB115_101.out, NB102_115.out, NB115_102.out, NB103_115.out, NB115_103.out, (by repeat (first | (with_reducible first | exact HB.out | apply below_alloc | apply pw_below_drewN | apply below_drew1 | refine below_set ?_ GE101.out | refine below_set ?_ GE102.out | refine below_set ?_ GE103.out | refine below_set ?_ GE115.out) | exact HB.out))⟩)
             rintro gb115 w129 ⟨hS_, h0_, h1_, h2_, h3_, h4_, h5_, h6_, h7_, h8_, h9_, h10_, h11_, h12_⟩
             have n0_ : Aside0 (w129.heap[gb101]? = some (.cells #[.int .i64 a0_0, .int .i64 a0_1, .int .i64 a0_2, .bool a0_3, .int .i64 a0_4] 33 (0, 0))) := ⟨h0_⟩
             have n1_ : Aside0 (w129.heap[gb102]? = some (.cells #[.int .i64 a3_0, .int .i64 a3_1, .bool a3_2] 31 (0, 0))) := ⟨h1_⟩
             have n2_ : Aside0 (w129.heap[gb103]? = some (.cells #[.int .i64 0, .int .i64 0, .int .i64 0, .bool false, .int .i64 0] 33 (0, 0))) := ⟨h2_⟩
             have n3_ : Aside0 (w129.heap[gb115]? = some (.cells #[.int .i64 0, .int .i64 0, .bool false] 31 (0, 0))) := ⟨h3_⟩
             have n4_ : Aside0 (w.heap.size ≤ gb115) := ⟨h4_⟩
             have n5_ : Aside0 (w.heap.size ≤ gb115) := ⟨h5_⟩
             have n6_ : Aside0 (gb101 ≠ gb115) := ⟨h6_⟩
             have n7_ : Aside0 (gb115 ≠ gb101) := ⟨h7_⟩
             have n8_ : Aside0 (gb102 ≠ gb115) := ⟨h8_⟩
             have n9_ : Aside0 (gb115 ≠ gb102) := ⟨h9_⟩
             have n10_ : Aside0 (gb103 ≠ gb115) := ⟨h10_⟩
             have n11_ : Aside0 (gb115 ≠ gb103) := ⟨h11_⟩
             have n12_ : Aside0 (Below w.heap.size w w129) := ⟨h12_⟩
             clear BK101
             clear BK102
             clear BK103
             clear HB
             clear h0_ h1_ h2_ h3_ h4_ h5_ h6_ h7_ h8_ h9_ h10_ h11_ h12_
             have BK101 := n0_
             have BK102 := n1_
             have BK103 := n2_
             have BK115 := n3_
             have GW115 := n4_
             have GE115 := n5_
             have NB101_115 := n6_
             have NB115_101 := n7_
             have NB102_115 := n8_
             have NB115_102 := n9_
             have NB103_115 := n10_
             have NB115_103 := n11_
             have HB := n12_
             clear n0_ n1_ n2_ n3_ n4_ n5_ n6_ n7_ n8_ n9_ n10_ n11_ n12_
             have hHeld : w129.cell? ⟨gb102, 0, none⟩ = some (.int .i64 a3_0) ∧ w129.cell? ⟨gb102, 1, none⟩ = some (.int .i64 a3_1) ∧ w129.cell? ⟨gb102, 2, none⟩ = some (.bool a3_2) := hS_
             refine norm_ (a' := ?_) ?_ ?_
             rotate_left
             · simp only [putAll, Act.put, List.setIfInBounds_toArray, List.set_cons_zero, List.set_cons_succ]
               rfl
             refine one_ (i := 5) (N := none) #[true, true, true, true, true, true] rfl rfl (by kernel_rfl) (by decide) (fun K hK => ?_)
             have hs130 : w129.cell? ⟨gb115, 0, none⟩ = some (.int .i64 0) := (blk_cell BK115.out 0).trans rfl
             have hfs130 := blk_frozen BK115.out 0
             have hns130_0 := NB101_115.out
             have hns130_1 := NB102_115.out
             have hns130_2 := NB103_115.out
             have hms130_0 := NB115_101.out
             have hms130_1 := NB115_102.out
             have hms130_2 := NB115_103.out
             have hs131 : w129.cell? ⟨gb115, 1, none⟩ = some (.int .i64 0) := (blk_cell BK115.out 1).trans rfl
             have hfs131 := blk_frozen BK115.out 1
             have hns131_0 := NB101_115.out
             have hns131_1 := NB102_115.out
             have hns131_2 := NB103_115.out
             have hms131_0 := NB115_101.out
             have hms131_1 := NB115_102.out
             have hms131_2 := NB115_103.out
             have hs132 : w129.cell? ⟨gb115, 2, none⟩ = some (.bool false) := (blk_cell BK115.out 2).trans rfl
             have hfs132 := blk_frozen BK115.out 2
             have hns132_0 := NB101_115.out
             have hns132_1 := NB102_115.out
             have hns132_2 := NB103_115.out
             have hms132_0 := NB115_101.out
             have hms132_1 := NB115_102.out
             have hms132_2 := NB115_103.out
             refine skip_ (w1 := ?_) (by rfl) rfl ?_ ?_
             rotate_left
             · go_simp
               rfl
             refine hK.out _ _ ⟨((cell_far (p := ⟨gb115, _, none⟩) NB102_115.out _).trans (((cell_far (p := ⟨gb115, _, none⟩) NB102_115.out _).trans (((cell_far (p := ⟨gb115, _, none⟩) NB102_115.out _).trans (hHeld.1)))))), ((cell_far (p := ⟨gb115, _, none⟩) NB102_115.out _).trans (((cell_far (p := ⟨gb115, _, none⟩) NB102_115.out _).trans (((cell_far (p := ⟨gb115, _, none⟩) NB102_115.out _).trans (hHeld.2.1)))))), ((cell_far (p := ⟨gb115, _, none⟩) NB102_115.out _).trans (((cell_far (p := ⟨gb115, _, none⟩) NB102_115.out _).trans (((cell_far (p := ⟨gb115, _, none⟩) NB102_115.out _).trans (hHeld.2.2))))))⟩ (fun hHeld => ?_)
             clear hK K
             refine done_ (by kernel_rfl) ?_
             try go_wp2
             have n0_ : Aside0 ((((w129.setCell ⟨gb115, 0, none⟩ (.int .i64 t112)).setCell ⟨gb115, 1, none⟩ (.int .i64 t113)).setCell ⟨gb115, 2, none⟩ (.bool t114)).heap[gb101]? = some (.cells #[.int .i64 a0_0, .int .i64 a0_1, .int .i64 a0_2, .bool a0_3, .int .i64 a0_4] 33 (0, 0))) := ⟨by (with_reducible repeat apply blk_drewN); refine blk_far ?_ NB101_115.out _; (with_reducible repeat apply blk_drewN); refine blk_far ?_ NB101_115.out _; (with_reducible repeat apply blk_drewN); refine blk_far ?_ NB101_115.out _; (with_reducible repeat apply blk_drewN); exact BK101.out⟩
             have n1_ : Aside0 ((((w129.setCell ⟨gb115, 0, none⟩ (.int .i64 t112)).setCell ⟨gb115, 1, none⟩ (.int .i64 t113)).setCell ⟨gb115, 2, none⟩ (.bool t114)).heap[gb102]? = some (.cells #[.int .i64 a3_0, .int .i64 a3_1, .bool a3_2] 31 (0, 0))) := ⟨by (with_reducible repeat apply blk_drewN); refine blk_far ?_ NB102_115.out _; (with_reducible repeat apply blk_drewN); refine blk_far ?_ NB102_115.out _; (with_reducible repeat apply blk_drewN); refine blk_far ?_ NB102_115.out _; (with_reducible repeat apply blk_drewN); exact BK102.out⟩
             have n2_ : Aside0 ((((w129.setCell ⟨gb115, 0, none⟩ (.int .i64 t112)).setCell ⟨gb115, 1, none⟩ (.int .i64 t113)).setCell ⟨gb115, 2, none⟩ (.bool t114)).heap[gb103]? = some (.cells #[.int .i64 0, .int .i64 0, .int .i64 0, .bool false, .int .i64 0] 33 (0, 0))) := ⟨by (with_reducible repeat apply blk_drewN); refine blk_far ?_ NB103_115.out _; (with_reducible repeat apply blk_drewN); refine blk_far ?_ NB103_115.out _; (with_reducible repeat apply blk_drewN); refine blk_far ?_ NB103_115.out _; (with_reducible repeat apply blk_drewN); exact BK103.out⟩
             have n3_ : Aside0 ((((w129.setCell ⟨gb115, 0, none⟩ (.int .i64 t112)).setCell ⟨gb115, 1, none⟩ (.int .i64 t113)).setCell ⟨gb115, 2, none⟩ (.bool t114)).heap[gb115]? = some (.cells #[.int .i64 t112, .int .i64 t113, .bool t114] 31 (0, 0))) := ⟨by (with_reducible repeat apply blk_drewN); refine blk_put (cs := #[.int .i64 t112, .int .i64 t113, .bool false]) ?_ 2 _ rfl; (with_reducible repeat apply blk_drewN); refine blk_put (cs := #[.int .i64 t112, .int .i64 0, .bool false]) ?_ 1 _ rfl; (with_reducible repeat apply blk_drewN); refine blk_put (cs := #[.int .i64 0, .int .i64 0, .bool false]) ?_ 0 _ rfl; (with_reducible repeat apply blk_drewN); exact BK115.out⟩
             have n4_ : Aside0 (Below w.heap.size w (((w129.setCell ⟨gb115, 0, none⟩ (.int .i64 t112)).setCell ⟨gb115, 1, none⟩ (.int .i64 t113)).setCell ⟨gb115, 2, none⟩ (.bool t114))) := ⟨by repeat (first | (with_reducible first | exact HB.out | apply below_alloc | apply pw_below_drewN | apply below_drew1 | refine below_set ?_ GE101.out | refine below_set ?_ GE102.out | refine below_set ?_ GE103.out | refine below_set ?_ GE115.out) | exact HB.out)⟩
             (try clear BK101)
             (try clear BK102)
             (try clear BK103)
             (try clear BK115)
             (try clear HB)
             generalize (((w129.setCell ⟨gb115, 0, none⟩ (.int .i64 t112)).setCell ⟨gb115, 1, none⟩ (.int .i64 t113)).setCell ⟨gb115, 2, none⟩ (.bool t114)) = w133 at n0_ n1_ n2_ n3_ n4_ ⊢
             have BK101 := n0_
             have BK102 := n1_
             have BK103 := n2_
             have BK115 := n3_
             have HB := n4_
             clear n0_ n1_ n2_ n3_ n4_
             have n0_ := Aside0.mk (blk_drew BK101.out)
             have n1_ := Aside0.mk (blk_drew BK102.out)
             have n2_ := Aside0.mk (blk_drew BK103.out)
             have n3_ := Aside0.mk (blk_drew BK115.out)
             have n4_ := Aside0.mk (below_drew1 HB.out)
             clear BK101
             clear BK102
             clear BK103
             clear BK115
             clear HB
             have BK101 := n0_
             have BK102 := n1_
             have BK103 := n2_
             have BK115 := n3_
             have HB := n4_
             clear n0_ n1_ n2_ n3_ n4_
             refine start_ (n := 11) (S := fun w' => w'.cell? ⟨gb115, 0, none⟩ = some (.int .i64 t112) ∧ w'.cell? ⟨gb115, 1, none⟩ = some (.int .i64 t113) ∧ w'.cell? ⟨gb115, 2, none⟩ = some (.bool t114) ∧ w'.cell? ⟨gb101, 0, none⟩ = some (.int .i64 a0_0) ∧ w'.cell? ⟨gb101, 1, none⟩ = some (.int .i64 a0_1) ∧ w'.cell? ⟨gb101, 2, none⟩ = some (.int .i64 a0_2) ∧ w'.cell? ⟨gb101, 3, none⟩ = some (.bool a0_3) ∧ w'.cell? ⟨gb101, 4, none⟩ = some (.int .i64 a0_4)) (ds := []) #[false, false, false, false, false, false, false, false, false, false, false] (by kernel_rfl) rfl rfl ⟨(blk_cell BK115.out 0).trans rfl, (blk_cell BK115.out 1).trans rfl, (blk_cell BK115.out 2).trans rfl, (blk_cell BK101.out 0).trans rfl, (blk_cell BK101.out 1).trans rfl, (blk_cell BK101.out 2).trans rfl, (blk_cell BK101.out 3).trans rfl, (blk_cell BK101.out 4).trans rfl⟩ (fun hHeld => ?_); refine with_tabW clock_Sync.tab10 clock_Sync.bits10 (fun HT_ HW_ => ?_)
             generalize w133.drew = w134 at BK101 BK102 BK103 BK115 HB hHeld ⊢
             refine pure_ (i := 2) (N := some 63) (v := ?_) (a' := ?_) #[false, false, true, false, false, false, false, false, false, false, false] rfl rfl (any_of HT_.out (by kernel_rfl)) (fun _ _ _ h => h) (Or.inl ⟨by rfl, ?_⟩) ?_ ?_
             rotate_left
             · intro w'
               go_simp
               with_reducible rfl
             rotate_left
             · simp only [Act.put, List.setIfInBounds_toArray, List.set_cons_zero, List.set_cons_succ, i64_w, i32_w]
               rfl
             refine take_ (i := 0) (N := some 61) (v := ?_) (a' := ?_) #[true, false, true, false, false, false, false, false, false, false, false] rfl rfl (take_ofW HT_.out HW_.out (by kernel_rfl)) (fun _ _ _ h => h) (Or.inl ⟨by rfl, ?_⟩) hHeld ?_ ?_
             rotate_left
             · rintro w' ⟨s0, s1, s2, s3, s4, s5, s6, s7⟩
               go_simp
               with_reducible rfl
             rotate_left
             · simp only [Act.put, List.setIfInBounds_toArray, List.set_cons_zero, List.set_cons_succ, i64_w, i32_w]
               rfl
             refine take_ (i := 1) (N := some 62) (v := ?_) (a' := ?_) #[true, true, true, false, false, false, false, false, false, false, false] rfl rfl (take_ofW HT_.out HW_.out (by kernel_rfl)) (fun _ _ _ h => h) (Or.inl ⟨by rfl, ?_⟩) hHeld ?_ ?_
             rotate_left
             · rintro w' ⟨s0, s1, s2, s3, s4, s5, s6, s7⟩
               go_simp
               with_reducible rfl
             rotate_left
             · simp only [Act.put, List.setIfInBounds_toArray, List.set_cons_zero, List.set_cons_succ, i64_w, i32_w]
               rfl
             refine join_ (σ := Nat) 2 #[true, true, true, true, true, true, true, true, true, false, false] (fun s_ => [(64, .agg #[.int .i64 t116, .int .i64 t117, .bool t118]), (65, .tuple #[.agg #[.int .i64 t119, .int .i64 t120, .bool t121], .bool false]), (14, .pointer (some ⟨s_, 0, none⟩)), (60, .tuple #[.agg #[.int .i64 t119, .int .i64 t120, .bool t121], .bool false]), (66, .agg #[.int .i64 t119, .int .i64 t120, .bool t121]), (67, .bool false)]) (fun s_ w' => (w'.cell? ⟨gb115, 0, none⟩ = some (.int .i64 t112) ∧ w'.cell? ⟨gb115, 1, none⟩ = some (.int .i64 t113) ∧ w'.cell? ⟨gb115, 2, none⟩ = some (.bool t114) ∧ w'.cell? ⟨gb101, 0, none⟩ = some (.int .i64 a0_0) ∧ w'.cell? ⟨gb101, 1, none⟩ = some (.int .i64 a0_1) ∧ w'.cell? ⟨gb101, 2, none⟩ = some (.int .i64 a0_2) ∧ w'.cell? ⟨gb101, 3, none⟩ = some (.bool a0_3) ∧ w'.cell? ⟨gb101, 4, none⟩ = some (.int .i64 a0_4)) ∧ (w'.heap[gb101]? = some (.cells #[.int .i64 a0_0, .int .i64 a0_1, .int .i64 a0_2, .bool a0_3, .int .i64 a0_4] 33 (0, 0))) ∧ (w'.heap[gb102]? = some (.cells #[.int .i64 a3_0, .int .i64 a3_1, .bool a3_2] 31 (0, 0))) ∧ (w'.heap[gb103]? = some (.cells #[.int .i64 0, .int .i64 0, .int .i64 0, .bool false, .int .i64 0] 33 (0, 0))) ∧ (w'.heap[gb115]? = some (.cells #[.int .i64 t112, .int .i64 t113, .bool t114] 31 (0, 0))) ∧ (w'.heap[s_]? = some (.cells #[.int .i64 0, .int .i64 0, .bool false] 31 (0, 0))) ∧ (w.heap.size ≤ s_) ∧ (w.heap.size ≤ s_) ∧ (gb101 ≠ s_) ∧ (s_ ≠ gb101) ∧ (gb102 ≠ s_) ∧ (s_ ≠ gb102) ∧ (gb103 ≠ s_) ∧ (s_ ≠ gb103) ∧ (gb115 ≠ s_) ∧ (s_ ≠ gb115) ∧ (Below w.heap.size w w')) ?_ ?_
             rotate_left
             · intro hCont
               refine two_ (i := 3) (j := 8) (Ni := some 64) (Nj := some 14) #[true, true, true, true, false, false, false, false, false, false, false] #[true, true, true, false, false, false, false, false, true, false, false] rfl rfl rfl rfl (two_of HT_.out (by kernel_rfl)) (by decide) (by decide) (fun K hK => ?_) (fun K hK => ?_)
               · skip
                 refine goes_ Try.func20 (by kernel_rfl) rfl #[.agg #[.int .i64 a0_0, .int .i64 a0_1, .int .i64 a0_2, .bool a0_3, .int .i64 a0_4], .int .i64 a2] (by rfl) rfl rfl (by (try simp only [List.map_toArray, List.map_cons, List.map_nil]); first | done | rfl | (simp only [List.length_drop, List.length_take]; rfl)) ?_
                 with_reducible refine (clock_Uniform.calls kj6 a0_0 a0_1 a0_2 a0_3 a0_4 a2 t116 t117 t118 _ A37.out).mono ?_
                 rintro e w135 ⟨rfl, hb⟩
                 refine ⟨_, rfl, ?_⟩
                 have n0_ := bkb_ BK101 hb rfl
                 have n1_ := bkb_ BK102 hb rfl
                 have n2_ := bkb_ BK103 hb rfl
                 have n3_ := bkb_ BK115 hb rfl
                 have n4_ := hbs_ HB hb rfl rfl rfl rfl
                 clear BK101
                 clear BK102
                 clear BK103
                 clear BK115
                 clear HB
                 have BK101 := n0_
                 have BK102 := n1_
                 have BK103 := n2_
                 have BK115 := n3_
                 have HB := n4_
                 clear n0_ n1_ n2_ n3_ n4_
                 (try clear hb)
                 (try clear hb2)
                 (try clear hk)
                 (try clear hi)
                 refine hK.out _ _ ⟨(blk_cell BK115.out 0).trans rfl, (blk_cell BK115.out 1).trans rfl, (blk_cell BK115.out 2).trans rfl, (blk_cell BK101.out 0).trans rfl, (blk_cell BK101.out 1).trans rfl, (blk_cell BK101.out 2).trans rfl, (blk_cell BK101.out 3).trans rfl, (blk_cell BK101.out 4).trans rfl⟩ (fun hHeld => ?_)
                 clear hK K
                 refine norm_ (a' := ?_) ?_ ?_
                 rotate_left
                 · show Act.put _ (some 64) _ = _
                   simp only [Act.put, List.setIfInBounds_toArray, List.set_cons_zero, List.set_cons_succ, i64_w, i32_w]
                   rfl
                 refine two_ (i := 4) (j := 8) (Ni := some 65) (Nj := some 14) #[true, true, true, true, true, false, false, false, false, false, false] #[true, true, true, true, false, false, false, false, true, false, false] rfl rfl rfl rfl (two_of HT_.out (by kernel_rfl)) (by decide) (by decide) (fun K hK => ?_) (fun K hK => ?_)
                 · skip
                   refine goes_ Try.func87 (by kernel_rfl) rfl #[.agg #[.int .i64 t112, .int .i64 t113, .bool t114], .agg #[.int .i64 t116, .int .i64 t117, .bool t118]] (by rfl) rfl rfl (by (try simp only [List.map_toArray, List.map_cons, List.map_nil]); first | done | rfl | (simp only [List.length_drop, List.length_take]; rfl)) ?_
                   with_reducible refine (bound_Meet_api_Tick.calls kj6 t112 t113 t114 t116 t117 t118 t119 t120 t121 false _ A38.out).mono ?_
                   rintro e w136 ⟨rfl, hb⟩
                   refine ⟨_, rfl, ?_⟩
                   have n0_ := bkb_ BK101 hb rfl
                   have n1_ := bkb_ BK102 hb rfl
                   have n2_ := bkb_ BK103 hb rfl
                   have n3_ := bkb_ BK115 hb rfl
                   have n4_ := hbs_ HB hb rfl rfl rfl rfl
                   clear BK101
                   clear BK102
                   clear BK103
                   clear BK115
                   clear HB
                   have BK101 := n0_
                   have BK102 := n1_
                   have BK103 := n2_
                   have BK115 := n3_
                   have HB := n4_
                   clear n0_ n1_ n2_ n3_ n4_
                   (try clear hb)
                   (try clear hb2)
                   (try clear hk)
                   (try clear hi)
                   refine hK.out _ _ ⟨(blk_cell BK115.out 0).trans rfl, (blk_cell BK115.out 1).trans rfl, (blk_cell BK115.out 2).trans rfl, (blk_cell BK101.out 0).trans rfl, (blk_cell BK101.out 1).trans rfl, (blk_cell BK101.out 2).trans rfl, (blk_cell BK101.out 3).trans rfl, (blk_cell BK101.out 4).trans rfl⟩ (fun hHeld => ?_)
                   clear hK K
                   refine norm_ (a' := ?_) ?_ ?_
                   rotate_left
                   · show Act.put _ (some 65) _ = _
                     simp only [Act.put, List.setIfInBounds_toArray, List.set_cons_zero, List.set_cons_succ, i64_w, i32_w]
                     rfl
                   refine pure_ (i := 5) (N := some 60) (v := ?_) (a' := ?_) #[true, true, true, true, true, true, false, false, false, false, false] rfl rfl (any_of HT_.out (by kernel_rfl)) (fun _ _ _ h => h) (Or.inl ⟨by rfl, ?_⟩) ?_ ?_
                   rotate_left
                   · intro w'
                     go_simp
                     with_reducible rfl
                   rotate_left
                   · simp only [Act.put, List.setIfInBounds_toArray, List.set_cons_zero, List.set_cons_succ, i64_w, i32_w]
                     rfl
                   refine pure_ (i := 6) (N := some 66) (v := ?_) (a' := ?_) #[true, true, true, true, true, true, true, false, false, false, false] rfl rfl (any_of HT_.out (by kernel_rfl)) (fun _ _ _ h => h) (Or.inl ⟨by rfl, ?_⟩) ?_ ?_
                   rotate_left
                   · intro w'
                     go_simp
                     with_reducible rfl
                   rotate_left
                   · simp only [Act.put, List.setIfInBounds_toArray, List.set_cons_zero, List.set_cons_succ, i64_w, i32_w]
                     rfl
                   refine pure_ (i := 7) (N := some 67) (v := ?_) (a' := ?_) #[true, true, true, true, true, true, true, true, false, false, false] rfl rfl (any_of HT_.out (by kernel_rfl)) (fun _ _ _ h => h) (Or.inl ⟨by rfl, ?_⟩) ?_ ?_
                   rotate_left
                   · intro w'
                     go_simp
                     with_reducible rfl
                   rotate_left
                   · simp only [Act.put, List.setIfInBounds_toArray, List.set_cons_zero, List.set_cons_succ, i64_w, i32_w]
                     rfl
                   refine one_ (i := 8) (N := some 14) #[true, true, true, true, true, true, true, true, true, false, false] rfl rfl (one_of HT_.out (by kernel_rfl)) (by decide) (fun K hK => ?_)
                   refine box_step ?hg (N := 14) ?hd (cs := #[.int .i64 0, .int .i64 0, .bool false]) (t := 31) ?hr ?_; (case hd => rfl); (case hg => rfl); (case hr => first | (go_simp; done) | (go_simp; rfl))
                   intro gb123 hg w137 hbox hb
                   have n0_ := bkb_ BK101 hb rfl
                   have n1_ := bkb_ BK102 hb rfl
                   have n2_ := bkb_ BK103 hb rfl
                   have n3_ := bkb_ BK115 hb rfl
                   have n4_ := hbs_ HB hb rfl rfl rfl rfl
                   have n5_ := Aside0.mk (hbox)
                   have n6_ := Aside0.mk ((by rw [hg]; exact (below_size (by repeat (first | (with_reducible first | exact HB.out | apply below_alloc | apply pw_below_drewN | apply below_drew1 | refine below_set ?_ GE101.out | refine below_set ?_ GE102.out | refine below_set ?_ GE103.out | refine below_set ?_ GE115.out) | exact HB.out))) : w.heap.size ≤ gb123))
                   have n7_ := n6_
                   have n8_ := nbl_ BK101 hg rfl
                   have n9_ := nbg_ BK101 hg rfl
                   have n10_ := nbl_ BK102 hg rfl
                   have n11_ := nbg_ BK102 hg rfl
                   have n12_ := nbl_ BK103 hg rfl
                   have n13_ := nbg_ BK103 hg rfl
                   have n14_ := nbl_ BK115 hg rfl
                   have n15_ := nbg_ BK115 hg rfl
                   clear BK101
                   clear BK102
                   clear BK103
                   clear BK115
                   clear HB
                   have BK101 := n0_
                   have BK102 := n1_
                   have BK103 := n2_
                   have BK115 := n3_
                   have HB := n4_
                   have BK123 := n5_
                   have GW123 := n6_
                   have GE123 := n7_
                   have NB101_123 := n8_
                   have NB123_101 := n9_
                   have NB102_123 := n10_
                   have NB123_102 := n11_
                   have NB103_123 := n12_
                   have NB123_103 := n13_
                   have NB115_123 := n14_
                   have NB123_115 := n15_
                   clear n0_ n1_ n2_ n3_ n4_ n5_ n6_ n7_ n8_ n9_ n10_ n11_ n12_ n13_ n14_ n15_
                   clear hb hbox hg
                   refine hK.out _ _ ⟨(blk_cell BK115.out 0).trans rfl, (blk_cell BK115.out 1).trans rfl, (blk_cell BK115.out 2).trans rfl, (blk_cell BK101.out 0).trans rfl, (blk_cell BK101.out 1).trans rfl, (blk_cell BK101.out 2).trans rfl, (blk_cell BK101.out 3).trans rfl, (blk_cell BK101.out 4).trans rfl⟩ (fun hHeld => ?_)
                   clear hK K
                   refine norm_ (a' := ?_) ?_ ?_
                   rotate_left
                   · show Act.put _ (some 14) _ = _
                     simp only [Act.put, List.setIfInBounds_toArray, List.set_cons_zero, List.set_cons_succ, i64_w, i32_w]
                     rfl
                   exact norm_ (by simp only [putAll, Act.put, List.setIfInBounds_toArray, List.set_cons_zero, List.set_cons_succ]) (hCont (gb123) _ ⟨hHeld, BK101.out, BK102.out, BK103.out, BK115.out, BK123.out, GW123.out, GE123.out, NB101_123.out, NB123_101.out, NB102_123.out, NB123_102.out, NB103_123.out, NB123_103.out, NB115_123.out, NB123_115.out, (by repeat (first | (with_reducible first | exact HB.out | apply below_alloc | apply pw_below_drewN | apply below_drew1 | refine below_set ?_ GE101.out | refine below_set ?_ GE102.out | refine below_set ?_ GE103.out | refine below_set ?_ GE115.out | refine below_set ?_ GE123.out) | exact HB.out))⟩)
                 · skip
                   refine box_step ?hg (N := 14) ?hd (cs := #[.int .i64 0, .int .i64 0, .bool false]) (t := 31) ?hr ?_; (case hd => rfl); (case hg => rfl); (case hr => first | (go_simp; done) | (go_simp; rfl))
                   intro gb123 hg w136 hbox hb
                   have n0_ := bkb_ BK101 hb rfl
                   have n1_ := bkb_ BK102 hb rfl
                   have n2_ := bkb_ BK103 hb rfl
                   have n3_ := bkb_ BK115 hb rfl
                   have n4_ := hbs_ HB hb rfl rfl rfl rfl
                   have n5_ := Aside0.mk (hbox)
                   have n6_ := Aside0.mk ((by rw [hg]; exact (below_size (by repeat (first | (with_reducible first | exact HB.out | apply below_alloc | apply pw_below_drewN | apply below_drew1 | refine below_set ?_ GE101.out | refine below_set ?_ GE102.out | refine below_set ?_ GE103.out | refine below_set ?_ GE115.out) | exact HB.out))) : w.heap.size ≤ gb123))
                   have n7_ := n6_
                   have n8_ := nbl_ BK101 hg rfl
                   have n9_ := nbg_ BK101 hg rfl
                   have n10_ := nbl_ BK102 hg rfl
                   have n11_ := nbg_ BK102 hg rfl
                   have n12_ := nbl_ BK103 hg rfl
                   have n13_ := nbg_ BK103 hg rfl
                   have n14_ := nbl_ BK115 hg rfl
                   have n15_ := nbg_ BK115 hg rfl
                   clear BK101
                   clear BK102
                   clear BK103
                   clear BK115
                   clear HB
                   have BK101 := n0_
                   have BK102 := n1_
                   have BK103 := n2_
                   have BK115 := n3_
                   have HB := n4_
                   have BK123 := n5_
                   have GW123 := n6_
                   have GE123 := n7_
                   have NB101_123 := n8_
                   have NB123_101 := n9_
                   have NB102_123 := n10_
                   have NB123_102 := n11_
                   have NB103_123 := n12_
                   have NB123_103 := n13_
                   have NB115_123 := n14_
                   have NB123_115 := n15_
                   clear n0_ n1_ n2_ n3_ n4_ n5_ n6_ n7_ n8_ n9_ n10_ n11_ n12_ n13_ n14_ n15_
                   clear hb hbox hg
                   refine hK.out _ _ ⟨(blk_cell BK115.out 0).trans rfl, (blk_cell BK115.out 1).trans rfl, (blk_cell BK115.out 2).trans rfl, (blk_cell BK101.out 0).trans rfl, (blk_cell BK101.out 1).trans rfl, (blk_cell BK101.out 2).trans rfl, (blk_cell BK101.out 3).trans rfl, (blk_cell BK101.out 4).trans rfl⟩ (fun hHeld => ?_)
                   clear hK K
                   refine norm_ (a' := ?_) ?_ ?_
                   rotate_left
                   · show Act.put _ (some 14) _ = _
                     simp only [Act.put, List.setIfInBounds_toArray, List.set_cons_zero, List.set_cons_succ, i64_w, i32_w]
                     rfl
                   refine one_ (i := 4) (N := some 65) #[true, true, true, true, true, false, false, false, true, false, false] rfl rfl (one_of HT_.out (by kernel_rfl)) (by decide) (fun K hK => ?_)
                   refine goes_ Try.func87 (by kernel_rfl) rfl #[.agg #[.int .i64 t112, .int .i64 t113, .bool t114], .agg #[.int .i64 t116, .int .i64 t117, .bool t118]] (by rfl) rfl rfl (by (try simp only [List.map_toArray, List.map_cons, List.map_nil]); first | done | rfl | (simp only [List.length_drop, List.length_take]; rfl)) ?_
                   with_reducible refine (bound_Meet_api_Tick.calls kj6 t112 t113 t114 t116 t117 t118 t119 t120 t121 false _ A38.out).mono ?_
                   rintro e w137 ⟨rfl, hb⟩
                   refine ⟨_, rfl, ?_⟩
                   have n0_ := bkb_ BK101 hb rfl
                   have n1_ := bkb_ BK102 hb rfl
                   have n2_ := bkb_ BK103 hb rfl
                   have n3_ := bkb_ BK115 hb rfl
                   have n4_ := bkb_ BK123 hb rfl
                   have n5_ := hbs_ HB hb rfl rfl rfl rfl
                   clear BK101
                   clear BK102
                   clear BK103
                   clear BK115
                   clear BK123
                   clear HB
                   have BK101 := n0_
                   have BK102 := n1_
                   have BK103 := n2_
                   have BK115 := n3_
                   have BK123 := n4_
                   have HB := n5_
                   clear n0_ n1_ n2_ n3_ n4_ n5_
                   (try clear hb)
                   (try clear hb2)
                   (try clear hk)
                   (try clear hi)
                   refine hK.out _ _ ⟨(blk_cell BK115.out 0).trans rfl, (blk_cell BK115.out 1).trans rfl, (blk_cell BK115.out 2).trans rfl, (blk_cell BK101.out 0).trans rfl, (blk_cell BK101.out 1).trans rfl, (blk_cell BK101.out 2).trans rfl, (blk_cell BK101.out 3).trans rfl, (blk_cell BK101.out 4).trans rfl⟩ (fun hHeld => ?_)
                   clear hK K
                   refine norm_ (a' := ?_) ?_ ?_
                   rotate_left
                   · show Act.put _ (some 65) _ = _
                     simp only [Act.put, List.setIfInBounds_toArray, List.set_cons_zero, List.set_cons_succ, i64_w, i32_w]
                     rfl
                   refine pure_ (i := 5) (N := some 60) (v := ?_) (a' := ?_) #[true, true, true, true, true, true, false, false, true, false, false] rfl rfl (any_of HT_.out (by kernel_rfl)) (fun _ _ _ h => h) (Or.inl ⟨by rfl, ?_⟩) ?_ ?_
                   rotate_left
                   · intro w'
                     go_simp
                     with_reducible rfl
                   rotate_left
                   · simp only [Act.put, List.setIfInBounds_toArray, List.set_cons_zero, List.set_cons_succ, i64_w, i32_w]
                     rfl
                   refine pure_ (i := 6) (N := some 66) (v := ?_) (a' := ?_) #[true, true, true, true, true, true, true, false, true, false, false] rfl rfl (any_of HT_.out (by kernel_rfl)) (fun _ _ _ h => h) (Or.inl ⟨by rfl, ?_⟩) ?_ ?_
                   rotate_left
                   · intro w'
                     go_simp
                     with_reducible rfl
                   rotate_left
                   · simp only [Act.put, List.setIfInBounds_toArray, List.set_cons_zero, List.set_cons_succ, i64_w, i32_w]
                     rfl
                   refine pure_ (i := 7) (N := some 67) (v := ?_) (a' := ?_) #[true, true, true, true, true, true, true, true, true, false, false] rfl rfl (any_of HT_.out (by kernel_rfl)) (fun _ _ _ h => h) (Or.inl ⟨by rfl, ?_⟩) ?_ ?_
                   rotate_left
                   · intro w'
                     go_simp
                     with_reducible rfl
                   rotate_left
                   · simp only [Act.put, List.setIfInBounds_toArray, List.set_cons_zero, List.set_cons_succ, i64_w, i32_w]
                     rfl
                   exact norm_ (by simp only [putAll, Act.put, List.setIfInBounds_toArray, List.set_cons_zero, List.set_cons_succ]) (hCont (gb123) _ ⟨hHeld, BK101.out, BK102.out, BK103.out, BK115.out, BK123.out, GW123.out, GE123.out, NB101_123.out, NB123_101.out, NB102_123.out, NB123_102.out, NB103_123.out, NB123_103.out, NB115_123.out, NB123_115.out, (by repeat (first | (with_reducible first | exact HB.out | apply below_alloc | apply pw_below_drewN | apply below_drew1 | refine below_set ?_ GE101.out | refine below_set ?_ GE102.out | refine below_set ?_ GE103.out | refine below_set ?_ GE115.out | refine below_set ?_ GE123.out) | exact HB.out))⟩)
               · skip
                 refine box_step ?hg (N := 14) ?hd (cs := #[.int .i64 0, .int .i64 0, .bool false]) (t := 31) ?hr ?_; (case hd => rfl); (case hg => rfl); (case hr => first | (go_simp; done) | (go_simp; rfl))
                 intro gb123 hg w135 hbox hb
                 have n0_ := bkb_ BK101 hb rfl
                 have n1_ := bkb_ BK102 hb rfl
                 have n2_ := bkb_ BK103 hb rfl
                 have n3_ := bkb_ BK115 hb rfl
                 have n4_ := hbs_ HB hb rfl rfl rfl rfl
                 have n5_ := Aside0.mk (hbox)
                 have n6_ := Aside0.mk ((by rw [hg]; exact (below_size (by repeat (first | (with_reducible first | exact HB.out | apply below_alloc | apply pw_below_drewN | apply below_drew1 | refine below_set ?_ GE101.out | refine below_set ?_ GE102.out | refine below_set ?_ GE103.out | refine below_set ?_ GE115.out) | exact HB.out))) : w.heap.size ≤ gb123))
                 have n7_ := n6_
                 have n8_ := nbl_ BK101 hg rfl
                 have n9_ := nbg_ BK101 hg rfl
                 have n10_ := nbl_ BK102 hg rfl
                 have n11_ := nbg_ BK102 hg rfl
                 have n12_ := nbl_ BK103 hg rfl
                 have n13_ := nbg_ BK103 hg rfl
                 have n14_ := nbl_ BK115 hg rfl
                 have n15_ := nbg_ BK115 hg rfl
                 clear BK101
                 clear BK102
                 clear BK103
                 clear BK115
                 clear HB
                 have BK101 := n0_
                 have BK102 := n1_
                 have BK103 := n2_
                 have BK115 := n3_
                 have HB := n4_
                 have BK123 := n5_
                 have GW123 := n6_
                 have GE123 := n7_
                 have NB101_123 := n8_
                 have NB123_101 := n9_
                 have NB102_123 := n10_
                 have NB123_102 := n11_
                 have NB103_123 := n12_
                 have NB123_103 := n13_
                 have NB115_123 := n14_
                 have NB123_115 := n15_
                 clear n0_ n1_ n2_ n3_ n4_ n5_ n6_ n7_ n8_ n9_ n10_ n11_ n12_ n13_ n14_ n15_
                 clear hb hbox hg
                 refine hK.out _ _ ⟨(blk_cell BK115.out 0).trans rfl, (blk_cell BK115.out 1).trans rfl, (blk_cell BK115.out 2).trans rfl, (blk_cell BK101.out 0).trans rfl, (blk_cell BK101.out 1).trans rfl, (blk_cell BK101.out 2).trans rfl, (blk_cell BK101.out 3).trans rfl, (blk_cell BK101.out 4).trans rfl⟩ (fun hHeld => ?_)
                 clear hK K
                 refine norm_ (a' := ?_) ?_ ?_
                 rotate_left
                 · show Act.put _ (some 14) _ = _
                   simp only [Act.put, List.setIfInBounds_toArray, List.set_cons_zero, List.set_cons_succ, i64_w, i32_w]
                   rfl
                 refine one_ (i := 3) (N := some 64) #[true, true, true, true, false, false, false, false, true, false, false] rfl rfl (one_of HT_.out (by kernel_rfl)) (by decide) (fun K hK => ?_)
                 refine goes_ Try.func20 (by kernel_rfl) rfl #[.agg #[.int .i64 a0_0, .int .i64 a0_1, .int .i64 a0_2, .bool a0_3, .int .i64 a0_4], .int .i64 a2] (by rfl) rfl rfl (by (try simp only [List.map_toArray, List.map_cons, List.map_nil]); first | done | rfl | (simp only [List.length_drop, List.length_take]; rfl)) ?_
                 with_reducible refine (clock_Uniform.calls kj6 a0_0 a0_1 a0_2 a0_3 a0_4 a2 t116 t117 t118 _ A37.out).mono ?_
                 rintro e w136 ⟨rfl, hb⟩
                 refine ⟨_, rfl, ?_⟩
                 have n0_ := bkb_ BK101 hb rfl
                 have n1_ := bkb_ BK102 hb rfl
                 have n2_ := bkb_ BK103 hb rfl
                 have n3_ := bkb_ BK115 hb rfl
                 have n4_ := bkb_ BK123 hb rfl
                 have n5_ := hbs_ HB hb rfl rfl rfl rfl
                 clear BK101
                 clear BK102
                 clear BK103
                 clear BK115
                 clear BK123
                 clear HB
                 have BK101 := n0_
                 have BK102 := n1_
                 have BK103 := n2_
                 have BK115 := n3_
                 have BK123 := n4_
                 have HB := n5_
                 clear n0_ n1_ n2_ n3_ n4_ n5_
                 (try clear hb)
                 (try clear hb2)
                 (try clear hk)
                 (try clear hi)
                 refine hK.out _ _ ⟨(blk_cell BK115.out 0).trans rfl, (blk_cell BK115.out 1).trans rfl, (blk_cell BK115.out 2).trans rfl, (blk_cell BK101.out 0).trans rfl, (blk_cell BK101.out 1).trans rfl, (blk_cell BK101.out 2).trans rfl, (blk_cell BK101.out 3).trans rfl, (blk_cell BK101.out 4).trans rfl⟩ (fun hHeld => ?_)
                 clear hK K
                 refine norm_ (a' := ?_) ?_ ?_
                 rotate_left
                 · show Act.put _ (some 64) _ = _
                   simp only [Act.put, List.setIfInBounds_toArray, List.set_cons_zero, List.set_cons_succ, i64_w, i32_w]
                   rfl
                 refine one_ (i := 4) (N := some 65) #[true, true, true, true, true, false, false, false, true, false, false] rfl rfl (one_of HT_.out (by kernel_rfl)) (by decide) (fun K hK => ?_)
                 refine goes_ Try.func87 (by kernel_rfl) rfl #[.agg #[.int .i64 t112, .int .i64 t113, .bool t114], .agg #[.int .i64 t116, .int .i64 t117, .bool t118]] (by rfl) rfl rfl (by (try simp only [List.map_toArray, List.map_cons, List.map_nil]); first | done | rfl | (simp only [List.length_drop, List.length_take]; rfl)) ?_
                 with_reducible refine (bound_Meet_api_Tick.calls kj6 t112 t113 t114 t116 t117 t118 t119 t120 t121 false _ A38.out).mono ?_
                 rintro e w137 ⟨rfl, hb⟩
                 refine ⟨_, rfl, ?_⟩
                 have n0_ := bkb_ BK101 hb rfl
                 have n1_ := bkb_ BK102 hb rfl
                 have n2_ := bkb_ BK103 hb rfl
                 have n3_ := bkb_ BK115 hb rfl
                 have n4_ := bkb_ BK123 hb rfl
                 have n5_ := hbs_ HB hb rfl rfl rfl rfl
                 clear BK101
                 clear BK102
                 clear BK103
                 clear BK115
                 clear BK123
                 clear HB
                 have BK101 := n0_
                 have BK102 := n1_
                 have BK103 := n2_
                 have BK115 := n3_
                 have BK123 := n4_
                 have HB := n5_
                 clear n0_ n1_ n2_ n3_ n4_ n5_
                 (try clear hb)
                 (try clear hb2)
                 (try clear hk)
                 (try clear hi)
                 refine hK.out _ _ ⟨(blk_cell BK115.out 0).trans rfl, (blk_cell BK115.out 1).trans rfl, (blk_cell BK115.out 2).trans rfl, (blk_cell BK101.out 0).trans rfl, (blk_cell BK101.out 1).trans rfl, (blk_cell BK101.out 2).trans rfl, (blk_cell BK101.out 3).trans rfl, (blk_cell BK101.out 4).trans rfl⟩ (fun hHeld => ?_)
                 clear hK K
                 refine norm_ (a' := ?_) ?_ ?_
                 rotate_left
                 · show Act.put _ (some 65) _ = _
                   simp only [Act.put, List.setIfInBounds_toArray, List.set_cons_zero, List.set_cons_succ, i64_w, i32_w]
                   rfl
                 refine pure_ (i := 5) (N := some 60) (v := ?_) (a' := ?_) #[true, true, true, true, true, true, false, false, true, false, false] rfl rfl (any_of HT_.out (by kernel_rfl)) (fun _ _ _ h => h) (Or.inl ⟨by rfl, ?_⟩) ?_ ?_
                 rotate_left
                 · intro w'
                   go_simp
                   with_reducible rfl
                 rotate_left
                 · simp only [Act.put, List.setIfInBounds_toArray, List.set_cons_zero, List.set_cons_succ, i64_w, i32_w]
                   rfl
                 refine pure_ (i := 6) (N := some 66) (v := ?_) (a' := ?_) #[true, true, true, true, true, true, true, false, true, false, false] rfl rfl (any_of HT_.out (by kernel_rfl)) (fun _ _ _ h => h) (Or.inl ⟨by rfl, ?_⟩) ?_ ?_
                 rotate_left
                 · intro w'
                   go_simp
                   with_reducible rfl
                 rotate_left
                 · simp only [Act.put, List.setIfInBounds_toArray, List.set_cons_zero, List.set_cons_succ, i64_w, i32_w]
                   rfl
                 refine pure_ (i := 7) (N := some 67) (v := ?_) (a' := ?_) #[true, true, true, true, true, true, true, true, true, false, false] rfl rfl (any_of HT_.out (by kernel_rfl)) (fun _ _ _ h => h) (Or.inl ⟨by rfl, ?_⟩) ?_ ?_
                 rotate_left
                 · intro w'
                   go_simp
                   with_reducible rfl
                 rotate_left
                 · simp only [Act.put, List.setIfInBounds_toArray, List.set_cons_zero, List.set_cons_succ, i64_w, i32_w]
                   rfl
                 exact norm_ (by simp only [putAll, Act.put, List.setIfInBounds_toArray, List.set_cons_zero, List.set_cons_succ]) (hCont (gb123) _ ⟨hHeld, BK101.out, BK102.out, BK103.out, BK115.out, BK123.out, GW123.out, GE123.out, NB101_123.out, NB123_101.out, NB102_123.out, NB123_102.out, NB103_123.out, NB123_103.out, NB115_123.out, NB123_115.out, (by repeat (first | (with_reducible first | exact HB.out | apply below_alloc | apply pw_below_drewN | apply below_drew1 | refine below_set ?_ GE101.out | refine below_set ?_ GE102.out | refine below_set ?_ GE103.out | refine below_set ?_ GE115.out | refine below_set ?_ GE123.out) | exact HB.out))⟩)
             rintro gb123 w138 ⟨hS_, h0_, h1_, h2_, h3_, h4_, h5_, h6_, h7_, h8_, h9_, h10_, h11_, h12_, h13_, h14_, h15_⟩
             have n0_ : Aside0 (w138.heap[gb101]? = some (.cells #[.int .i64 a0_0, .int .i64 a0_1, .int .i64 a0_2, .bool a0_3, .int .i64 a0_4] 33 (0, 0))) := ⟨h0_⟩
             have n1_ : Aside0 (w138.heap[gb102]? = some (.cells #[.int .i64 a3_0, .int .i64 a3_1, .bool a3_2] 31 (0, 0))) := ⟨h1_⟩
             have n2_ : Aside0 (w138.heap[gb103]? = some (.cells #[.int .i64 0, .int .i64 0, .int .i64 0, .bool false, .int .i64 0] 33 (0, 0))) := ⟨h2_⟩
             have n3_ : Aside0 (w138.heap[gb115]? = some (.cells #[.int .i64 t112, .int .i64 t113, .bool t114] 31 (0, 0))) := ⟨h3_⟩
             have n4_ : Aside0 (w138.heap[gb123]? = some (.cells #[.int .i64 0, .int .i64 0, .bool false] 31 (0, 0))) := ⟨h4_⟩
             have n5_ : Aside0 (w.heap.size ≤ gb123) := ⟨h5_⟩
             have n6_ : Aside0 (w.heap.size ≤ gb123) := ⟨h6_⟩
             have n7_ : Aside0 (gb101 ≠ gb123) := ⟨h7_⟩
             have n8_ : Aside0 (gb123 ≠ gb101) := ⟨h8_⟩
             have n9_ : Aside0 (gb102 ≠ gb123) := ⟨h9_⟩
             have n10_ : Aside0 (gb123 ≠ gb102) := ⟨h10_⟩
             have n11_ : Aside0 (gb103 ≠ gb123) := ⟨h11_⟩
             have n12_ : Aside0 (gb123 ≠ gb103) := ⟨h12_⟩
             have n13_ : Aside0 (gb115 ≠ gb123) := ⟨h13_⟩
             have n14_ : Aside0 (gb123 ≠ gb115) := ⟨h14_⟩
             have n15_ : Aside0 (Below w.heap.size w w138) := ⟨h15_⟩
             clear BK101
             clear BK102
             clear BK103
             clear BK115
             clear HB
             clear h0_ h1_ h2_ h3_ h4_ h5_ h6_ h7_ h8_ h9_ h10_ h11_ h12_ h13_ h14_ h15_
             have BK101 := n0_
             have BK102 := n1_
             have BK103 := n2_
             have BK115 := n3_
             have BK123 := n4_
             have GW123 := n5_
             have GE123 := n6_
             have NB101_123 := n7_
             have NB123_101 := n8_
             have NB102_123 := n9_
             have NB123_102 := n10_
             have NB103_123 := n11_
             have NB123_103 := n12_
             have NB115_123 := n13_
             have NB123_115 := n14_
             have HB := n15_
             clear n0_ n1_ n2_ n3_ n4_ n5_ n6_ n7_ n8_ n9_ n10_ n11_ n12_ n13_ n14_ n15_
             have hHeld : w138.cell? ⟨gb115, 0, none⟩ = some (.int .i64 t112) ∧ w138.cell? ⟨gb115, 1, none⟩ = some (.int .i64 t113) ∧ w138.cell? ⟨gb115, 2, none⟩ = some (.bool t114) ∧ w138.cell? ⟨gb101, 0, none⟩ = some (.int .i64 a0_0) ∧ w138.cell? ⟨gb101, 1, none⟩ = some (.int .i64 a0_1) ∧ w138.cell? ⟨gb101, 2, none⟩ = some (.int .i64 a0_2) ∧ w138.cell? ⟨gb101, 3, none⟩ = some (.bool a0_3) ∧ w138.cell? ⟨gb101, 4, none⟩ = some (.int .i64 a0_4) := hS_
             refine norm_ (a' := ?_) ?_ ?_
             rotate_left
             · simp only [putAll, Act.put, List.setIfInBounds_toArray, List.set_cons_zero, List.set_cons_succ]
               rfl
             refine one_ (i := 9) (N := none) #[true, true, true, true, true, true, true, true, true, true, false] rfl rfl (one_of HT_.out (by kernel_rfl)) (by decide) (fun K hK => ?_)
             have hs139 : w138.cell? ⟨gb123, 0, none⟩ = some (.int .i64 0) := (blk_cell BK123.out 0).trans rfl
             have hfs139 := blk_frozen BK123.out 0
             have hns139_0 := NB101_123.out
             have hns139_1 := NB102_123.out
             have hns139_2 := NB103_123.out
             have hns139_3 := NB115_123.out
             have hms139_0 := NB123_101.out
             have hms139_1 := NB123_102.out
             have hms139_2 := NB123_103.out
             have hms139_3 := NB123_115.out
             have hs140 : w138.cell? ⟨gb123, 1, none⟩ = some (.int .i64 0) := (blk_cell BK123.out 1).trans rfl
             have hfs140 := blk_frozen BK123.out 1
             have hns140_0 := NB101_123.out
             have hns140_1 := NB102_123.out
             have hns140_2 := NB103_123.out
             have hns140_3 := NB115_123.out
             have hms140_0 := NB123_101.out
             have hms140_1 := NB123_102.out
             have hms140_2 := NB123_103.out
             have hms140_3 := NB123_115.out
             have hs141 : w138.cell? ⟨gb123, 2, none⟩ = some (.bool false) := (blk_cell BK123.out 2).trans rfl
             have hfs141 := blk_frozen BK123.out 2
             have hns141_0 := NB101_123.out
             have hns141_1 := NB102_123.out
             have hns141_2 := NB103_123.out
             have hns141_3 := NB115_123.out
             have hms141_0 := NB123_101.out
             have hms141_1 := NB123_102.out
             have hms141_2 := NB123_103.out
             have hms141_3 := NB123_115.out
             refine skip_ (w1 := ?_) (by rfl) rfl ?_ ?_
             rotate_left
             · go_simp
               rfl
             refine hK.out _ _ ⟨((cell_far (p := ⟨gb123, _, none⟩) NB115_123.out _).trans (((cell_far (p := ⟨gb123, _, none⟩) NB115_123.out _).trans (((cell_far (p := ⟨gb123, _, none⟩) NB115_123.out _).trans (hHeld.1)))))), ((cell_far (p := ⟨gb123, _, none⟩) NB115_123.out _).trans (((cell_far (p := ⟨gb123, _, none⟩) NB115_123.out _).trans (((cell_far (p := ⟨gb123, _, none⟩) NB115_123.out _).trans (hHeld.2.1)))))), ((cell_far (p := ⟨gb123, _, none⟩) NB115_123.out _).trans (((cell_far (p := ⟨gb123, _, none⟩) NB115_123.out _).trans (((cell_far (p := ⟨gb123, _, none⟩) NB115_123.out _).trans (hHeld.2.2.1)))))), ((cell_far (p := ⟨gb123, _, none⟩) NB101_123.out _).trans (((cell_far (p := ⟨gb123, _, none⟩) NB101_123.out _).trans (((cell_far (p := ⟨gb123, _, none⟩) NB101_123.out _).trans (hHeld.2.2.2.1)))))), ((cell_far (p := ⟨gb123, _, none⟩) NB101_123.out _).trans (((cell_far (p := ⟨gb123, _, none⟩) NB101_123.out _).trans (((cell_far (p := ⟨gb123, _, none⟩) NB101_123.out _).trans (hHeld.2.2.2.2.1)))))), ((cell_far (p := ⟨gb123, _, none⟩) NB101_123.out _).trans (((cell_far (p := ⟨gb123, _, none⟩) NB101_123.out _).trans (((cell_far (p := ⟨gb123, _, none⟩) NB101_123.out _).trans (hHeld.2.2.2.2.2.1)))))), ((cell_far (p := ⟨gb123, _, none⟩) NB101_123.out _).trans (((cell_far (p := ⟨gb123, _, none⟩) NB101_123.out _).trans (((cell_far (p := ⟨gb123, _, none⟩) NB101_123.out _).trans (hHeld.2.2.2.2.2.2.1)))))), ((cell_far (p := ⟨gb123, _, none⟩) NB101_123.out _).trans (((cell_far (p := ⟨gb123, _, none⟩) NB101_123.out _).trans (((cell_far (p := ⟨gb123, _, none⟩) NB101_123.out _).trans (hHeld.2.2.2.2.2.2.2))))))⟩ (fun hHeld => ?_)
             clear hK K
             refine pure_ (i := 10) (N := some 15) (v := ?_) (a' := ?_) #[true, true, true, true, true, true, true, true, true, true, true] rfl rfl (any_of HT_.out (by kernel_rfl)) (fun _ _ _ h => h) (Or.inl ⟨by rfl, ?_⟩) ?_ ?_
             rotate_left
             · intro w'
               go_simp
               with_reducible rfl
             rotate_left
             · simp only [Act.put, List.setIfInBounds_toArray, List.set_cons_zero, List.set_cons_succ, i64_w, i32_w]
               rfl
             refine done_ (done_of HT_.out (by kernel_rfl)) ?_
             have hnb142 := NB103_102.out
             have hnc142 := NB102_103.out
             have hnb143 := NB103_115.out
             have hnc143 := NB115_103.out
             have hnb144 := NB103_123.out
             have hnc144 := NB123_103.out
             have hcz145_0 : w138.cell? ⟨gb103, 0, none⟩ = some (.int .i64 0) := (blk_cell BK103.out 0).trans rfl
             have hcz145_1 : w138.cell? ⟨gb103, 1, none⟩ = some (.int .i64 0) := (blk_cell BK103.out 1).trans rfl
             have hcz145_2 : w138.cell? ⟨gb103, 2, none⟩ = some (.int .i64 0) := (blk_cell BK103.out 2).trans rfl
             have hcz145_3 : w138.cell? ⟨gb103, 3, none⟩ = some (.bool false) := (blk_cell BK103.out 3).trans rfl
             have hcz145_4 : w138.cell? ⟨gb103, 4, none⟩ = some (.int .i64 0) := (blk_cell BK103.out 4).trans rfl
             have hfz145_0 := blk_frozen BK103.out 0
             have hfz145_1 := blk_frozen BK103.out 1
             have hfz145_2 := blk_frozen BK103.out 2
             have hfz145_3 := blk_frozen BK103.out 3
             have hfz145_4 := blk_frozen BK103.out 4
             try go_wp2
             refine bodyPost_ret (results_ct rfl _ _ gb103 33 #[.int .i64 0, .int .i64 0, .int .i64 0, .bool false, .int .i64 0] (0, 0) _ rfl (by (with_reducible repeat apply blk_drewN); refine blk_put (cs := #[.int .i64 0, .int .i64 0, .int .i64 0, .bool false, .int .i64 0]) ?_ 4 _ rfl; (with_reducible repeat apply blk_drewN); refine blk_put (cs := #[.int .i64 0, .int .i64 0, .int .i64 0, .bool false, .int .i64 0]) ?_ 3 _ rfl; (with_reducible repeat apply blk_drewN); refine blk_put (cs := #[.int .i64 0, .int .i64 0, .int .i64 0, .bool false, .int .i64 0]) ?_ 2 _ rfl; (with_reducible repeat apply blk_drewN); refine blk_put (cs := #[.int .i64 0, .int .i64 0, .int .i64 0, .bool false, .int .i64 0]) ?_ 1 _ rfl; (with_reducible repeat apply blk_drewN); refine blk_put (cs := #[.int .i64 0, .int .i64 0, .int .i64 0, .bool false, .int .i64 0]) ?_ 0 _ rfl; (with_reducible repeat apply blk_drewN); refine blk_far ?_ NB103_123.out _; (with_reducible repeat apply blk_drewN); refine blk_far ?_ NB103_123.out _; (with_reducible repeat apply blk_drewN); refine blk_far ?_ NB103_123.out _; (with_reducible repeat apply blk_drewN); exact BK103.out) Try.underlying33 rfl (by kernel_rfl)) rfl ?_
             exact ⟨by first | rfl | (simp [errW_none, errW_some] <;> rfl) | (simp [*, errW_none, errW_some] <;> rfl), by repeat (first | (with_reducible first | exact HB.out | apply below_alloc | apply pw_below_drewN | apply below_drew1 | refine below_set ?_ GE101.out | refine below_set ?_ GE102.out | refine below_set ?_ GE103.out | refine below_set ?_ GE115.out | refine below_set ?_ GE123.out) | exact HB.out)⟩
 · rw [if_neg c6] at H
   have c6b0 : (t104 == 0) = false := beq_eq_false_iff_ne.mpr c6
   have c6b1 : (t104 != 0) = true := bne_iff_ne.mpr c6
   simp only [Option.some.injEq, Prod.mk.injEq] at H
   obtain ⟨rfl, rfl, rfl, rfl, rfl, rfl⟩ := H
   go_enter Try.func17, Try.ntmps17
   go_wp2_with (first | ((with_reducible refine gate_dst (N := 4) rfl ?_); refine box_event ?hg (N := 4) ?hd (cs := #[.int .i64 a0_0, .int .i64 a0_1, .int .i64 a0_2, .bool a0_3, .int .i64 a0_4]) (t := 33) ?hr ?_; (case hd => rfl); (case hg => rfl); (case hr => first | (go_simp; done) | (go_simp; rfl)); intro gb101 hg w146 hbox hb; have n0_ := Aside0.mk (below_step (by repeat (first | (with_reducible first | exact HB.out | apply below_alloc | apply pw_below_drewN | apply below_drew1) | exact HB.out)) hb); have n1_ := Aside0.mk (hbox); have n2_ := Aside0.mk ((by rw [hg]; exact (below_size (by repeat (first | (with_reducible first | exact HB.out | apply below_alloc | apply pw_below_drewN | apply below_drew1) | exact HB.out))) : w.heap.size ≤ gb101)); have n3_ := n2_; clear HB; have HB := n0_; have BK101 := n1_; have GW101 := n2_; have GE101 := n3_; clear n0_ n1_ n2_ n3_; clear hb hbox hg) | ((with_reducible refine gate_dst (N := 7) rfl ?_); refine box_event ?hg (N := 7) ?hd (cs := #[.int .i64 a3_0, .int .i64 a3_1, .bool a3_2]) (t := 31) ?hr ?_; (case hd => rfl); (case hg => rfl); (case hr => first | (go_simp; done) | (go_simp; rfl)); intro gb102 hg w147 hbox hb; have n0_ := bkb_ BK101 hb rfl; have n1_ := hbs_ HB hb rfl rfl rfl rfl; have n2_ := Aside0.mk (hbox); have n3_ := Aside0.mk ((by rw [hg]; exact (below_size (by repeat (first | (with_reducible first | exact HB.out | apply below_alloc | apply pw_below_drewN | apply below_drew1 | refine below_set ?_ GE101.out) | exact HB.out))) : w.heap.size ≤ gb102)); have n4_ := n3_; have n5_ := nbl_ BK101 hg rfl; have n6_ := nbg_ BK101 hg rfl; clear BK101; clear HB; have BK101 := n0_; have HB := n1_; have BK102 := n2_; have GW102 := n3_; have GE102 := n4_; have NB101_102 := n5_; have NB102_101 := n6_; clear n0_ n1_ n2_ n3_ n4_ n5_ n6_; clear hb hbox hg) | ((with_reducible refine gate_dst (N := 8) rfl ?_); refine box_event ?hg (N := 8) ?hd (cs := #[.int .i64 0, .int .i64 0, .int .i64 0, .bool false, .int .i64 0]) (t := 33) ?hr ?_; (case hd => rfl); (case hg => rfl); (case hr => first | (go_simp; done) | (go_simp; rfl)); intro gb103 hg w148 hbox hb; have n0_ := bkb_ BK101 hb rfl; have n1_ := bkb_ BK102 hb rfl; have n2_ := hbs_ HB hb rfl rfl rfl rfl; have n3_ := Aside0.mk (hbox); have n4_ := Aside0.mk ((by rw [hg]; exact (below_size (by repeat (first | (with_reducible first | exact HB.out | apply below_alloc | apply pw_below_drewN | apply below_drew1 | refine below_set ?_ GE101.out | refine below_set ?_ GE102.out) | exact HB.out))) : w.heap.size ≤ gb103)); have n5_ := n4_; have n6_ := nbl_ BK101 hg rfl; have n7_ := nbg_ BK101 hg rfl; have n8_ := nbl_ BK102 hg rfl; have n9_ := nbg_ BK102 hg rfl; clear BK101; clear BK102; clear HB; have BK101 := n0_; have BK102 := n1_; have HB := n2_; have BK103 := n3_; have GW103 := n4_; have GE103 := n5_; have NB101_103 := n6_; have NB103_101 := n7_; have NB102_103 := n8_; have NB103_102 := n9_; clear n0_ n1_ n2_ n3_ n4_ n5_ n6_ n7_ n8_ n9_; clear hb hbox hg; have hnb149 := NB101_102.out; have hnc149 := NB102_101.out; have hnb150 := NB101_103.out; have hnc150 := NB103_101.out; have hcz151_0 : w148.cell? ⟨gb101, 0, none⟩ = some (.int .i64 a0_0) := (blk_cell BK101.out 0).trans rfl; have hcz151_1 : w148.cell? ⟨gb101, 1, none⟩ = some (.int .i64 a0_1) := (blk_cell BK101.out 1).trans rfl; have hcz151_2 : w148.cell? ⟨gb101, 2, none⟩ = some (.int .i64 a0_2) := (blk_cell BK101.out 2).trans rfl; have hcz151_3 : w148.cell? ⟨gb101, 3, none⟩ = some (.bool a0_3) := (blk_cell BK101.out 3).trans rfl; have hcz151_4 : w148.cell? ⟨gb101, 4, none⟩ = some (.int .i64 a0_4) := (blk_cell BK101.out 4).trans rfl; have hfz151_0 := blk_frozen BK101.out 0; have hfz151_1 := blk_frozen BK101.out 1; have hfz151_2 := blk_frozen BK101.out 2; have hfz151_3 := blk_frozen BK101.out 3; have hfz151_4 := blk_frozen BK101.out 4) | ((with_reducible refine gate_callee (f := 83) rfl ?_); refine goesL_ (some 19) rfl rfl Try.func83 (by kernel_rfl) rfl #[.agg #[.int .i64 a0_0, .int .i64 a0_1, .int .i64 a0_2, .bool a0_3, .int .i64 a0_4]] rfl (by (try simp only [List.map_toArray, List.map_cons, List.map_nil]); first | done | rfl | (simp only [List.length_drop, List.length_take]; rfl)) ?_; (with_reducible refine (clock_Check.calls k a0_0 a0_1 a0_2 a0_3 a0_4 t104 _ A5.out).mono ?_); rintro e w152 ⟨rfl, hb⟩; refine ⟨_, rfl, ?_⟩; have n0_ := bkb_ BK101 hb rfl; have n1_ := bkb_ BK102 hb rfl; have n2_ := bkb_ BK103 hb rfl; have n3_ := hbs_ HB hb rfl rfl rfl rfl; clear BK101; clear BK102; clear BK103; clear HB; have BK101 := n0_; have BK102 := n1_; have BK103 := n2_; have HB := n3_; clear n0_ n1_ n2_ n3_; (try clear hb); (try clear hb2); (try clear hk); (try clear hi); have hnb153 := NB103_102.out; have hnc153 := NB102_103.out; have hcz154_0 : w152.cell? ⟨gb103, 0, none⟩ = some (.int .i64 0) := (blk_cell BK103.out 0).trans rfl; have hcz154_1 : w152.cell? ⟨gb103, 1, none⟩ = some (.int .i64 0) := (blk_cell BK103.out 1).trans rfl; have hcz154_2 : w152.cell? ⟨gb103, 2, none⟩ = some (.int .i64 0) := (blk_cell BK103.out 2).trans rfl; have hcz154_3 : w152.cell? ⟨gb103, 3, none⟩ = some (.bool false) := (blk_cell BK103.out 3).trans rfl; have hcz154_4 : w152.cell? ⟨gb103, 4, none⟩ = some (.int .i64 0) := (blk_cell BK103.out 4).trans rfl; have hfz154_0 := blk_frozen BK103.out 0; have hfz154_1 := blk_frozen BK103.out 1; have hfz154_2 := blk_frozen BK103.out 2; have hfz154_3 := blk_frozen BK103.out 3; have hfz154_4 := blk_frozen BK103.out 4))
   refine bodyPost_ret (results_ct rfl _ _ gb103 33 #[.int .i64 0, .int .i64 0, .int .i64 0, .bool false, .int .i64 0] (0, 0) _ rfl (by (with_reducible repeat apply blk_drewN); refine blk_put (cs := #[.int .i64 0, .int .i64 0, .int .i64 0, .bool false, .int .i64 0]) ?_ 4 _ rfl; (with_reducible repeat apply blk_drewN); refine blk_put (cs := #[.int .i64 0, .int .i64 0, .int .i64 0, .bool false, .int .i64 0]) ?_ 3 _ rfl; (with_reducible repeat apply blk_drewN); refine blk_put (cs := #[.int .i64 0, .int .i64 0, .int .i64 0, .bool false, .int .i64 0]) ?_ 2 _ rfl; (with_reducible repeat apply blk_drewN); refine blk_put (cs := #[.int .i64 0, .int .i64 0, .int .i64 0, .bool false, .int .i64 0]) ?_ 1 _ rfl; (with_reducible repeat apply blk_drewN); refine blk_put (cs := #[.int .i64 0, .int .i64 0, .int .i64 0, .bool false, .int .i64 0]) ?_ 0 _ rfl; (with_reducible repeat apply blk_drewN); exact BK103.out) Try.underlying33 rfl (by kernel_rfl)) rfl ?_
   exact ⟨by first | rfl | (simp [errW_none, errW_some] <;> rfl) | (simp [*, errW_none, errW_some] <;> rfl), by repeat (first | (with_reducible first | exact HB.out | apply below_alloc | apply pw_below_drewN | apply below_drew1 | refine below_set ?_ GE101.out | refine below_set ?_ GE102.out | refine below_set ?_ GE103.out) | exact HB.out)⟩

end Go.Proofs.Ytpophefonhpnmaa.Q
