/- Contracts of Go functions of the seat, one by one: each call returns what the Lean function of the same name says, wherever that is 'some'; no other condition. Written by a program of this session. -/
import Derived.Test.YtpophefonhpnmaaKScaleFirstQx0
import Derived.Test.YtpophefonhpnmaaKScaleFirstQx6
import Derived.Test.YtpophefonhpnmaaKScaleFirstQx7
import Derived.Test.YtpophefonhpnmaaKScaleFirstQx13
import Derived.Test.YtpophefonhpnmaaKScaleFirstQx15
import Derived.Test.YtpophefonhpnmaaKScaleFirstQx16
import Derived.Test.YtpophefonhpnmaaKScaleFirstQx30
namespace Go.Proofs.Ytpophefonhpnmaa.Q
open Go.RowKit Go.Proofs.YtpophefonhpnmaaW.PrintWords Go.Proofs.YtpophefonhpnmaaW.PrintLast Go.Proofs.YtpophefonhpnmaaW.PrintMore
attribute [local go_sem] max2_int min2_int max_two min_two max_three min_three max_four min_four   -- for this text's walks alone
set_option linter.unusedVariables false
set_option linter.unusedSimpArgs false

/-! ### spykeep1_ScaleFirst: function 11 -/
def spykeep1_ScaleFirst.j0 : Nat → Int → Int → Int → Bool → Int → Int → Int → Int → Option (Bool)
 | 0, _, _, _, _, _, _, _, _ => none
 | k + 1, x5, x6, x7, x38, x112000, x112001, x112002, x112003 => if x38 = true then (none) else ((spykeep1_ScaleFirst_1.f k x5 [(⟨x112000, x112001, (⟨x112002, x112003⟩ : S77)⟩ : S90)]).bind fun t115 => ((spykeep1_ScaleFirst_1.f k x5 [(⟨x112000, x112001, (⟨x112002, x112003⟩ : S77)⟩ : S90)]).bind fun t116 => ((num_Mod.f (wrap64 (x6 - t115)) 4294967296).bind fun t117 => ((spykeep1_ScaleFirst_1.f k x7 [(⟨x112000, x112001, (⟨x112002, x112003⟩ : S77)⟩ : S90)]).bind fun t118 => (if t118 ≥ (wrap64 (t115 + t117)) then (if x7 = x5 then ((scale_Angle.f k x112000 x112001 x112002 x112003 x5).bind fun t119 => ((spykeep1_ScaleFirst_1.f k x5 [(⟨x112000, x112001, (⟨x112002, x112003⟩ : S77)⟩ : S90)]).bind fun t120 => ((num_Mod.f t115 4294967296).bind fun t121 => (some (t119 == t121))))) else ((spykeep1_ScaleFirst_1.f k (wrap64 (x7 - 1)) [(⟨x112000, x112001, (⟨x112002, x112003⟩ : S77)⟩ : S90)]).bind fun t122 => (if t122 < (wrap64 (t115 + t117)) then ((scale_Angle.f k x112000 x112001 x112002 x112003 x5).bind fun t123 => ((spykeep1_ScaleFirst_1.f k x5 [(⟨x112000, x112001, (⟨x112002, x112003⟩ : S77)⟩ : S90)]).bind fun t124 => ((num_Mod.f t115 4294967296).bind fun t125 => (some (t123 == t125))))) else (none)))) else (none))))))
def spykeep1_ScaleFirst.f (k : Nat) (l0 : List Int) : Option (Bool) := (spymake_Stream_Rate.f k l0 0).bind fun bt102 => ((spymake_Stream_Time.f l0 bt102.2.2.2.2).bind fun bt107 => ((spymake_Stream_Arc.f l0 bt107.2).bind fun bt109 => ((scale_When.f k bt102.1 bt102.2.1 bt102.2.2.1 bt102.2.2.2.1 (wrap64 (Int.tdiv bt107.1 10)) bt109.1).bind fun bt112 => ((spykeep1_scaleFact.f k).bind fun t114 => (if t114 = true then (if bt112.2 = 0 then (spykeep1_ScaleFirst.j0 k (wrap64 (Int.tdiv bt107.1 10)) bt109.1 bt112.1 (decide (bt112.1 < (wrap64 (Int.tdiv bt107.1 10)))) bt102.1 bt102.2.1 bt102.2.2.1 bt102.2.2.2.1) else (none)) else (none))))))
theorem spykeep1_ScaleFirst.mono_l : ∀ k, (∀ y0 y1 y2 y3 y4 y5 y6 y7, LeO (spykeep1_ScaleFirst.j0 k y0 y1 y2 y3 y4 y5 y6 y7) (spykeep1_ScaleFirst.j0 (k + 1) y0 y1 y2 y3 y4 y5 y6 y7))
 | 0 => fun _ _ _ _ _ _ _ _ r h => by simp [spykeep1_ScaleFirst.j0] at h
 | k + 1 => by
  have ih0 := spykeep1_ScaleFirst.mono_l k
  · intro y0 y1 y2 y3 y4 y5 y6 y7
    unfold spykeep1_ScaleFirst.j0
    repeat' first
    | (with_reducible exact ih0 _ _ _ _ _ _ _ _)
    | (with_reducible exact scale_Angle.mono _ _ _ _ _ _)
    | (with_reducible exact scale_When.mono _ _ _ _ _ _ _)
    | (with_reducible exact spykeep1_ScaleFirst_1.mono _ _ _)
    | (with_reducible exact spykeep1_scaleFact.mono _)
    | (with_reducible exact spymake_Stream_Rate.mono _ _ _)
    | (with_reducible exact LeO.refl _)
    | (with_reducible exact LeO.none _)
    | (with_reducible refine LeO.ite ?_ ?_)
    | (with_reducible refine LeO.bind ?_ (fun _ => ?_))
    | exact ih0 _ _ _ _ _ _ _ _
    | exact scale_Angle.mono _ _ _ _ _ _
    | exact scale_When.mono _ _ _ _ _ _ _
    | exact spykeep1_ScaleFirst_1.mono _ _ _
    | exact spykeep1_scaleFact.mono _
    | exact spymake_Stream_Rate.mono _ _ _
    | exact LeO.none _
    | refine LeO.ite ?_ ?_
    | refine LeO.bind ?_ (fun _ => ?_)
theorem spykeep1_ScaleFirst.mono : ∀ a0 k, LeO (spykeep1_ScaleFirst.f k a0) (spykeep1_ScaleFirst.f (k + 1) a0) := by
 intro a0 k
 have ih0 := spykeep1_ScaleFirst.mono_l k
 unfold spykeep1_ScaleFirst.f
 repeat' first
  | (with_reducible exact ih0 _ _ _ _ _ _ _ _)
  | (with_reducible exact scale_Angle.mono _ _ _ _ _ _)
  | (with_reducible exact scale_When.mono _ _ _ _ _ _ _)
  | (with_reducible exact spykeep1_ScaleFirst_1.mono _ _ _)
  | (with_reducible exact spykeep1_scaleFact.mono _)
  | (with_reducible exact spymake_Stream_Rate.mono _ _ _)
  | (with_reducible exact LeO.refl _)
  | (with_reducible exact LeO.none _)
  | (with_reducible refine LeO.ite ?_ ?_)
  | (with_reducible refine LeO.bind ?_ (fun _ => ?_))
  | exact ih0 _ _ _ _ _ _ _ _
  | exact scale_Angle.mono _ _ _ _ _ _
  | exact scale_When.mono _ _ _ _ _ _ _
  | exact spykeep1_ScaleFirst_1.mono _ _ _
  | exact spykeep1_scaleFact.mono _
  | exact spymake_Stream_Rate.mono _ _ _
  | exact LeO.none _
  | refine LeO.ite ?_ ?_
  | refine LeO.bind ?_ (fun _ => ?_)
set_option maxHeartbeats 8000000 in
set_option maxRecDepth 100000 in
theorem spykeep1_ScaleFirst.calls (k : Nat) (A0 : Option Addr) (c0 : Nat) (l0 : List Int) (r : Bool) (w : World) (hr0 : Kd.C (Kd.int .i64) w A0 l0.length l0) (hc0 : l0.length ≤ c0) (h : spykeep1_ScaleFirst.f k l0 = some r) :
 Calls Try.prog 11 #[.slice A0 l0.length c0] w fun e w' => e = .returned (.bool r) ∧ Below w.heap.size w w' := by
 have hu25 := Try.underlying25
 have hu90 := Try.underlying90
 have hmf : ∀ (fn : Fn) (first cap : Array Value) (w : World), (Instr.makeFunc fn first cap).run Try.prog w = .ok (.func fn first cap) w := fun _ _ _ _ => rfl
 have HR0 := Aside0.mk hr0
 have HC0 := Aside0.mk hc0
 clear hr0 hc0
 have HB := Aside0.mk (Below.refl w.heap.size w)
 have H : ((spymake_Stream_Rate.f k l0 0).bind fun bt102 => ((spymake_Stream_Time.f l0 bt102.2.2.2.2).bind fun bt107 => ((spymake_Stream_Arc.f l0 bt107.2).bind fun bt109 => ((scale_When.f k bt102.1 bt102.2.1 bt102.2.2.1 bt102.2.2.2.1 (wrap64 (Int.tdiv bt107.1 10)) bt109.1).bind fun bt112 => ((spykeep1_scaleFact.f k).bind fun t114 => (if t114 = true then (if bt112.2 = 0 then (spykeep1_ScaleFirst.j0 k (wrap64 (Int.tdiv bt107.1 10)) bt109.1 bt112.1 (decide (bt112.1 < (wrap64 (Int.tdiv bt107.1 10)))) bt102.1 bt102.2.1 bt102.2.2.1 bt102.2.2.2.1) else (none)) else (none))))))) = some r := h
 clear h
 replace H := Option.bind_eq_some_iff.mp H
 obtain ⟨⟨t102, t103, t104, t105, t106⟩, A20, H⟩ := H
 replace H : ((spymake_Stream_Time.f l0 t106).bind fun bt107 => ((spymake_Stream_Arc.f l0 bt107.2).bind fun bt109 => ((scale_When.f k t102 t103 t104 t105 (wrap64 (Int.tdiv bt107.1 10)) bt109.1).bind fun bt112 => ((spykeep1_scaleFact.f k).bind fun t114 => (if t114 = true then (if bt112.2 = 0 then (spykeep1_ScaleFirst.j0 k (wrap64 (Int.tdiv bt107.1 10)) bt109.1 bt112.1 (decide (bt112.1 < (wrap64 (Int.tdiv bt107.1 10)))) t102 t103 t104 t105) else (none)) else (none)))))) = some r := H
 have A2 := Aside0.mk A20
 clear A20
 replace H := Option.bind_eq_some_iff.mp H
 obtain ⟨⟨t107, t108⟩, A30, H⟩ := H
 replace H : ((spymake_Stream_Arc.f l0 t108).bind fun bt109 => ((scale_When.f k t102 t103 t104 t105 (wrap64 (Int.tdiv t107 10)) bt109.1).bind fun bt112 => ((spykeep1_scaleFact.f k).bind fun t114 => (if t114 = true then (if bt112.2 = 0 then (spykeep1_ScaleFirst.j0 k (wrap64 (Int.tdiv t107 10)) bt109.1 bt112.1 (decide (bt112.1 < (wrap64 (Int.tdiv t107 10)))) t102 t103 t104 t105) else (none)) else (none))))) = some r := H
 have A3 := Aside0.mk A30
 clear A30
 replace H := Option.bind_eq_some_iff.mp H
 obtain ⟨⟨t109, t110⟩, A40, H⟩ := H
 replace H : ((scale_When.f k t102 t103 t104 t105 (wrap64 (Int.tdiv t107 10)) t109).bind fun bt112 => ((spykeep1_scaleFact.f k).bind fun t114 => (if t114 = true then (if bt112.2 = 0 then (spykeep1_ScaleFirst.j0 k (wrap64 (Int.tdiv t107 10)) t109 bt112.1 (decide (bt112.1 < (wrap64 (Int.tdiv t107 10)))) t102 t103 t104 t105) else (none)) else (none)))) = some r := H
 have A4 := Aside0.mk A40
 clear A40
 replace H := Option.bind_eq_some_iff.mp H
 obtain ⟨⟨t112, t113⟩, A50, H⟩ := H
 replace H : ((spykeep1_scaleFact.f k).bind fun t114 => (if t114 = true then (if t113 = 0 then (spykeep1_ScaleFirst.j0 k (wrap64 (Int.tdiv t107 10)) t109 t112 (decide (t112 < (wrap64 (Int.tdiv t107 10)))) t102 t103 t104 t105) else (none)) else (none))) = some r := H
 have A5 := Aside0.mk A50
 clear A50
 have HC6 := Aside0.mk H
 clear H
 go_enter Try.func11, Try.ntmps11
 go_upto_region 4 with (first | ((with_reducible refine gate_dst (N := 13) rfl ?_); refine box_event ?hg (N := 13) ?hd (cs := #[.slice A0 l0.length c0, .int .i64 0]) (t := 25) ?hr ?_; (case hd => rfl); (case hg => rfl); (case hr => first | (go_simp; done) | (go_simp; rfl)); intro gb101 hg w7 hbox hb; have n0_ := Aside0.mk (below_step (by repeat (first | (with_reducible first | exact HB.out | apply below_alloc | apply pw_below_drewN | apply below_drew1) | exact HB.out)) hb); have n1_ := Aside0.mk ((show IsS25 w _ gb101 l0 0 from ⟨_, _, hbox, (by rw [hg]; exact (below_size (by repeat (first | (with_reducible first | exact HB.out | apply below_alloc | apply pw_below_drewN | apply below_drew1) | exact HB.out))) : w.heap.size ≤ gb101), HR0.out⟩)); have n2_ := Aside0.mk ((by rw [hg]; exact (below_size (by repeat (first | (with_reducible first | exact HB.out | apply below_alloc | apply pw_below_drewN | apply below_drew1) | exact HB.out))) : w.heap.size ≤ gb101)); have n3_ := Aside0.mk ((by rw [hg]; exact (below_size (by repeat (first | (with_reducible first | exact HB.out | apply below_alloc | apply pw_below_drewN | apply below_drew1) | exact HB.out))) : w.heap.size ≤ gb101)); clear HB; have HB := n0_; have HI101 := n1_; have GW101 := n2_; have GE101 := n3_; clear n0_ n1_ n2_ n3_; clear hb hbox hg) | ((with_reducible refine gate_callee (f := 62) rfl ?_); refine goesL_ (some 15) rfl rfl Try.func62 (by kernel_rfl) rfl #[.pointer (some ⟨gb101, 0, none⟩)] rfl (by (try simp only [List.map_toArray, List.map_cons, List.map_nil]); first | done | rfl | (simp only [List.length_drop, List.length_take]; rfl)) ?_; (with_reducible refine (spymake_Stream_Rate.calls k gb101 l0 0 t102 t103 t104 t105 t106 w _ ?side1 ?side2 A2.out).mono ?_); (case side1 => repeat (first | (with_reducible first | exact HI101.out | apply IsS25.alloc | apply IsS25.drewN | apply IsS25.drew | apply IsS25.set_1) | exact HI101.out)); (case side2 => repeat (first | (with_reducible first | exact HB.out | apply below_alloc | apply pw_below_drewN | apply below_drew1 | refine below_set ?_ (IsS25.ge HI101.out)) | exact HB.out)); rintro e w8 ⟨rfl, hi, hb, hk⟩; refine ⟨_, rfl, ?_⟩; have n0_ := Aside0.mk (hb); have n1_ := Aside0.mk (hi); clear HB; clear HI101; have HB := n0_; have HI101 := n1_; clear n0_ n1_; (try clear hb); (try clear hb2); (try clear hk); (try clear hi)) | ((with_reducible refine gate_callee (f := 68) rfl ?_); refine goesL_ (some 17) rfl rfl Try.func68 (by kernel_rfl) rfl #[.pointer (some ⟨gb101, 0, none⟩)] rfl (by (try simp only [List.map_toArray, List.map_cons, List.map_nil]); first | done | rfl | (simp only [List.length_drop, List.length_take]; rfl)) ?_; (with_reducible refine (spymake_Stream_Time.calls gb101 l0 t106 t107 t108 w _ ?side1 ?side2 A3.out).mono ?_); (case side1 => repeat (first | (with_reducible first | exact HI101.out | apply IsS25.alloc | apply IsS25.drewN | apply IsS25.drew | apply IsS25.set_1) | exact HI101.out)); (case side2 => repeat (first | (with_reducible first | exact HB.out | apply below_alloc | apply pw_below_drewN | apply below_drew1 | refine below_set ?_ (IsS25.ge HI101.out)) | exact HB.out)); rintro e w9 ⟨rfl, hi, hb, hk⟩; refine ⟨_, rfl, ?_⟩; have n0_ := Aside0.mk (hb); have n1_ := Aside0.mk (hi); clear HB; clear HI101; have HB := n0_; have HI101 := n1_; clear n0_ n1_; (try clear hb); (try clear hb2); (try clear hk); (try clear hi)) | ((with_reducible refine gate_callee (f := 69) rfl ?_); refine goesL_ (some 20) rfl rfl Try.func69 (by kernel_rfl) rfl #[.pointer (some ⟨gb101, 0, none⟩)] rfl (by (try simp only [List.map_toArray, List.map_cons, List.map_nil]); first | done | rfl | (simp only [List.length_drop, List.length_take]; rfl)) ?_; (with_reducible refine (spymake_Stream_Arc.calls gb101 l0 t108 t109 t110 w _ ?side1 ?side2 A4.out).mono ?_); (case side1 => repeat (first | (with_reducible first | exact HI101.out | apply IsS25.alloc | apply IsS25.drewN | apply IsS25.drew | apply IsS25.set_1) | exact HI101.out)); (case side2 => repeat (first | (with_reducible first | exact HB.out | apply below_alloc | apply pw_below_drewN | apply below_drew1 | refine below_set ?_ (IsS25.ge HI101.out)) | exact HB.out)); rintro e w10 ⟨rfl, hi, hb, hk⟩; refine ⟨_, rfl, ?_⟩; have n0_ := Aside0.mk (hb); have n1_ := Aside0.mk (hi); clear HB; clear HI101; have HB := n0_; have HI101 := n1_; clear n0_ n1_; (try clear hb); (try clear hb2); (try clear hk); (try clear hi)) | ((with_reducible refine gate_dst (N := 4) rfl ?_); refine box_event ?hg (N := 4) ?hd (cs := #[.int .i64 0, .int .i64 0, .int .i64 0, .int .i64 0]) (t := 90) ?hr ?_; (case hd => rfl); (case hg => rfl); (case hr => first | (go_simp; done) | (go_simp; rfl)); intro gb111 hg w11 hbox hb; have n0_ := Aside0.mk (IsS25.below (by repeat (first | (with_reducible first | exact HI101.out | apply IsS25.alloc | apply IsS25.drewN | apply IsS25.drew | apply IsS25.set_1) | exact HI101.out)) hb); have n1_ := Aside0.mk (below_step (by repeat (first | (with_reducible first | exact HB.out | apply below_alloc | apply pw_below_drewN | apply below_drew1 | refine below_set ?_ (IsS25.ge HI101.out)) | exact HB.out)) hb); have n2_ := Aside0.mk (hbox); have n3_ := Aside0.mk ((by rw [hg]; exact (below_size (by repeat (first | (with_reducible first | exact HB.out | apply below_alloc | apply pw_below_drewN | apply below_drew1 | refine below_set ?_ (IsS25.ge HI101.out)) | exact HB.out))) : w.heap.size ≤ gb111)); have n4_ := Aside0.mk ((by rw [hg]; exact (below_size (by repeat (first | (with_reducible first | exact HB.out | apply below_alloc | apply pw_below_drewN | apply below_drew1 | refine below_set ?_ (IsS25.ge HI101.out)) | exact HB.out))) : w.heap.size ≤ gb111)); have n5_ := Aside0.mk ((by rw [hg]; exact Nat.ne_of_lt (IsS25.lt (show IsS25 w _ gb101 l0 t110 from by repeat (first | (with_reducible first | exact HI101.out | apply IsS25.alloc | apply IsS25.drewN | apply IsS25.drew | apply IsS25.set_1) | exact HI101.out))) : gb101 ≠ gb111)); have n6_ := Aside0.mk ((by rw [hg]; exact Nat.ne_of_gt (IsS25.lt (show IsS25 w _ gb101 l0 t110 from by repeat (first | (with_reducible first | exact HI101.out | apply IsS25.alloc | apply IsS25.drewN | apply IsS25.drew | apply IsS25.set_1) | exact HI101.out))) : gb111 ≠ gb101)); clear HI101; clear HB; have HI101 := n0_; have HB := n1_; have BK111 := n2_; have GW111 := n3_; have GE111 := n4_; have NB101_111 := n5_; have NB111_101 := n6_; clear n0_ n1_ n2_ n3_ n4_ n5_ n6_; clear hb hbox hg; have hnb12 := NB111_101.out; have hnc12 := NB101_111.out; have hcz13_0 : w11.cell? ⟨gb111, 0, none⟩ = some (.int .i64 0) := (blk_cell BK111.out 0).trans rfl; have hcz13_1 : w11.cell? ⟨gb111, 1, none⟩ = some (.int .i64 0) := (blk_cell BK111.out 1).trans rfl; have hcz13_2 : w11.cell? ⟨gb111, 2, none⟩ = some (.int .i64 0) := (blk_cell BK111.out 2).trans rfl; have hcz13_3 : w11.cell? ⟨gb111, 3, none⟩ = some (.int .i64 0) := (blk_cell BK111.out 3).trans rfl; have hfz13_0 := blk_frozen BK111.out 0; have hfz13_1 := blk_frozen BK111.out 1; have hfz13_2 := blk_frozen BK111.out 2; have hfz13_3 := blk_frozen BK111.out 3) | ((with_reducible refine gate_callee (f := 70) rfl ?_); refine goesL_ (some 25) rfl rfl Try.func70 (by kernel_rfl) rfl #[.agg #[.int .i64 t102, .int .i64 t103, .int .i64 t104, .int .i64 t105], .int .i64 (wrap64 (Int.tdiv t107 10)), .int .i64 t109] rfl (by (try simp only [List.map_toArray, List.map_cons, List.map_nil]); first | done | rfl | (simp only [List.length_drop, List.length_take]; rfl)) ?_; (with_reducible refine (scale_When.calls k t102 t103 t104 t105 (wrap64 (Int.tdiv t107 10)) t109 t112 t113 _ A5.out).mono ?_); rintro e w14 ⟨rfl, hb⟩; refine ⟨_, rfl, ?_⟩; have n0_ := Aside0.mk (IsS25.below (show IsS25 w ((((w11.setCell ⟨gb111, 0, none⟩ (.int .i64 t102)).setCell ⟨gb111, 1, none⟩ (.int .i64 t103)).setCell ⟨gb111, 2, none⟩ (.int .i64 t104)).setCell ⟨gb111, 3, none⟩ (.int .i64 t105)) gb101 l0 t110 from by repeat (first | (with_reducible first | exact HI101.out | apply IsS25.alloc | apply IsS25.drewN | apply IsS25.drew | apply IsS25.set_1 | refine IsS25.far ?_ NB101_111.out _) | exact HI101.out)) hb); have n1_ := Aside0.mk (blk_below (g := gb111) (o := .cells #[.int .i64 t102, .int .i64 t103, .int .i64 t104, .int .i64 t105] 90 (0, 0)) (by (with_reducible repeat (first | refine blk_drewN ?_ _ | refine blk_drew ?_ | refine blk_alloc ?_ _)); refine blk_put (cs := #[.int .i64 t102, .int .i64 t103, .int .i64 t104, .int .i64 0]) ?_ 3 _ rfl; (with_reducible repeat (first | refine blk_drewN ?_ _ | refine blk_drew ?_ | refine blk_alloc ?_ _)); refine blk_put (cs := #[.int .i64 t102, .int .i64 t103, .int .i64 0, .int .i64 0]) ?_ 2 _ rfl; (with_reducible repeat (first | refine blk_drewN ?_ _ | refine blk_drew ?_ | refine blk_alloc ?_ _)); refine blk_put (cs := #[.int .i64 t102, .int .i64 0, .int .i64 0, .int .i64 0]) ?_ 1 _ rfl; (with_reducible repeat (first | refine blk_drewN ?_ _ | refine blk_drew ?_ | refine blk_alloc ?_ _)); refine blk_put (cs := #[.int .i64 0, .int .i64 0, .int .i64 0, .int .i64 0]) ?_ 0 _ rfl; (with_reducible repeat (first | refine blk_drewN ?_ _ | refine blk_drew ?_ | refine blk_alloc ?_ _)); exact BK111.out) hb); have n2_ := Aside0.mk (below_step (by repeat (first | (with_reducible first | exact HB.out | apply below_alloc | apply pw_below_drewN | apply below_drew1 | refine below_set ?_ (IsS25.ge HI101.out) | refine below_set ?_ GE111.out) | exact HB.out)) hb); clear HI101; clear BK111; clear HB; have HI101 := n0_; have BK111 := n1_; have HB := n2_; clear n0_ n1_ n2_; (try clear hb); (try clear hb2); (try clear hk); (try clear hi)))
 (try simp only [Act.put, List.setIfInBounds_toArray, List.set_cons_zero, List.set_cons_succ])
 go_cut [38] (fun v38 wc => ∃ (kq : Nat) (x38_5 : Bool), v38 = .bool x38_5 ∧ Aside0 (spykeep1_ScaleFirst.j0 kq (wrap64 (Int.tdiv t107 10)) t109 t112 x38_5 t102 t103 t104 t105 = some r) ∧ Aside0 (kq ≤ k) ∧ Aside0 (wc.heap[gb111]? = some (.cells #[.int .i64 t102, .int .i64 t103, .int .i64 t104, .int .i64 t105] 90 (0, 0))) ∧ Aside0 (Below w.heap.size w wc))
 case first =>
  have H := HC6.out
  clear HC6
  replace H := Option.bind_eq_some_iff.mp H
  obtain ⟨t114, A150, H⟩ := H
  replace H : (if t114 = true then (if t113 = 0 then (spykeep1_ScaleFirst.j0 k (wrap64 (Int.tdiv t107 10)) t109 t112 (decide (t112 < (wrap64 (Int.tdiv t107 10)))) t102 t103 t104 t105) else (none)) else (none)) = some r := H
  have A15 := Aside0.mk A150
  clear A150
  by_cases c16 : t114 = true
  · subst c16
    have H1 : (if t113 = 0 then (spykeep1_ScaleFirst.j0 k (wrap64 (Int.tdiv t107 10)) t109 t112 (decide (t112 < (wrap64 (Int.tdiv t107 10)))) t102 t103 t104 t105) else (none)) = some r := by rw [if_pos rfl] at H; exact H
    clear H
    have H := H1
    clear H1
    by_cases c17 : t113 = 0
    · rw [if_pos c17] at H
      have c17b0 : (t113 == 0) = true := beq_iff_eq.mpr c17
      have c17b1 : (t113 != 0) = false := bne_eq_false_iff_eq.mpr c17
      clear c17
      (first | rw [c17b0] | (simp only [i64_w, i32_w]; rw [c17b0]) | skip)
      have H' := Aside0.mk H
      clear H
      go_wp2_with (first | ((with_reducible refine gate_callee (f := 65) rfl ?_); refine goesL_ (some 28) rfl rfl Try.func65 (by kernel_rfl) rfl #[] rfl (by (try simp only [List.map_toArray, List.map_cons, List.map_nil]); first | done | rfl | (simp only [List.length_drop, List.length_take]; rfl)) ?_; (with_reducible refine (spykeep1_scaleFact.calls k  true _ A15.out).mono ?_); rintro e w18 ⟨rfl, hb⟩; refine ⟨_, rfl, ?_⟩; have n0_ := Aside0.mk (IsS25.below (by repeat (first | (with_reducible first | exact HI101.out | apply IsS25.alloc | apply IsS25.drewN | apply IsS25.drew | apply IsS25.set_1 | refine IsS25.far ?_ NB101_111.out _) | exact HI101.out)) hb); have n1_ := Aside0.mk (blk_below (g := gb111) (o := .cells #[.int .i64 t102, .int .i64 t103, .int .i64 t104, .int .i64 t105] 90 (0, 0)) (by (with_reducible repeat (first | refine blk_drewN ?_ _ | refine blk_drew ?_ | refine blk_alloc ?_ _)); exact BK111.out) hb); have n2_ := Aside0.mk (below_step (by repeat (first | (with_reducible first | exact HB.out | apply below_alloc | apply pw_below_drewN | apply below_drew1 | refine below_set ?_ (IsS25.ge HI101.out) | refine below_set ?_ GE111.out) | exact HB.out)) hb); clear HI101; clear BK111; clear HB; have HI101 := n0_; have BK111 := n1_; have HB := n2_; clear n0_ n1_ n2_; (try clear hb); (try clear hb2); (try clear hk); (try clear hi)))
      go_meet
      case rel => exact ⟨_, (decide (t112 < (wrap64 (Int.tdiv t107 10)))), (by first | rfl | (simp; done) | (simp [*]; done)), H', ⟨by first | omega | exact Nat.le_refl _⟩, ⟨by (with_reducible repeat (first | refine blk_drewN ?_ _ | refine blk_drew ?_ | refine blk_alloc ?_ _)); exact BK111.out⟩, ⟨by repeat (first | (with_reducible first | exact HB.out | apply below_alloc | apply pw_below_drewN | apply below_drew1 | refine below_set ?_ (IsS25.ge HI101.out) | refine below_set ?_ GE111.out) | exact HB.out)⟩⟩
    · rw [if_neg c17] at H
      exact absurd H (by simp)
  · replace c16 := Bool.eq_false_iff.mpr c16
    subst c16
    have H1 : (none) = some r := by rw [if_neg (show ¬ (false = true) by decide)] at H; exact H
    clear H
    have H := H1
    clear H1
    exact absurd H (by simp)
 case rest =>
  clear HC6
  obtain ⟨kq, x38_5, rfl, HA, HJ5, BK111, HB⟩ := hcut
  cases kq with
  | zero => exact absurd HA.out (by simp [spykeep1_ScaleFirst.j0])
  | succ kj5 =>
   have H := HA.out
   clear HA
   simp only [spykeep1_ScaleFirst.j0] at H
   by_cases c19 : x38_5 = true
   · subst c19
     have H1 : (none) = some r := by rw [if_pos rfl] at H; exact H
     clear H
     have H := H1
     clear H1
     exact absurd H (by simp)
   · replace c19 := Bool.eq_false_iff.mpr c19
     subst c19
     have H1 : ((spykeep1_ScaleFirst_1.f kj5 (wrap64 (Int.tdiv t107 10)) [(⟨t102, t103, (⟨t104, t105⟩ : S77)⟩ : S90)]).bind fun t115 => ((spykeep1_ScaleFirst_1.f kj5 (wrap64 (Int.tdiv t107 10)) [(⟨t102, t103, (⟨t104, t105⟩ : S77)⟩ : S90)]).bind fun t116 => ((num_Mod.f (wrap64 (t109 - t115)) 4294967296).bind fun t117 => ((spykeep1_ScaleFirst_1.f kj5 t112 [(⟨t102, t103, (⟨t104, t105⟩ : S77)⟩ : S90)]).bind fun t118 => (if t118 ≥ (wrap64 (t115 + t117)) then (if t112 = (wrap64 (Int.tdiv t107 10)) then ((scale_Angle.f kj5 t102 t103 t104 t105 (wrap64 (Int.tdiv t107 10))).bind fun t119 => ((spykeep1_ScaleFirst_1.f kj5 (wrap64 (Int.tdiv t107 10)) [(⟨t102, t103, (⟨t104, t105⟩ : S77)⟩ : S90)]).bind fun t120 => ((num_Mod.f t115 4294967296).bind fun t121 => (some (t119 == t121))))) else ((spykeep1_ScaleFirst_1.f kj5 (wrap64 (t112 - 1)) [(⟨t102, t103, (⟨t104, t105⟩ : S77)⟩ : S90)]).bind fun t122 => (if t122 < (wrap64 (t115 + t117)) then ((scale_Angle.f kj5 t102 t103 t104 t105 (wrap64 (Int.tdiv t107 10))).bind fun t123 => ((spykeep1_ScaleFirst_1.f kj5 (wrap64 (Int.tdiv t107 10)) [(⟨t102, t103, (⟨t104, t105⟩ : S77)⟩ : S90)]).bind fun t124 => ((num_Mod.f t115 4294967296).bind fun t125 => (some (t123 == t125))))) else (none)))) else (none)))))) = some r := by rw [if_neg (show ¬ (false = true) by decide)] at H; exact H
     clear H
     have H := H1
     clear H1
     replace H := Option.bind_eq_some_iff.mp H
     obtain ⟨t115, A200, H⟩ := H
     replace H : ((spykeep1_ScaleFirst_1.f kj5 (wrap64 (Int.tdiv t107 10)) [(⟨t102, t103, (⟨t104, t105⟩ : S77)⟩ : S90)]).bind fun t116 => ((num_Mod.f (wrap64 (t109 - t115)) 4294967296).bind fun t117 => ((spykeep1_ScaleFirst_1.f kj5 t112 [(⟨t102, t103, (⟨t104, t105⟩ : S77)⟩ : S90)]).bind fun t118 => (if t118 ≥ (wrap64 (t115 + t117)) then (if t112 = (wrap64 (Int.tdiv t107 10)) then ((scale_Angle.f kj5 t102 t103 t104 t105 (wrap64 (Int.tdiv t107 10))).bind fun t119 => ((spykeep1_ScaleFirst_1.f kj5 (wrap64 (Int.tdiv t107 10)) [(⟨t102, t103, (⟨t104, t105⟩ : S77)⟩ : S90)]).bind fun t120 => ((num_Mod.f t115 4294967296).bind fun t121 => (some (t119 == t121))))) else ((spykeep1_ScaleFirst_1.f kj5 (wrap64 (t112 - 1)) [(⟨t102, t103, (⟨t104, t105⟩ : S77)⟩ : S90)]).bind fun t122 => (if t122 < (wrap64 (t115 + t117)) then ((scale_Angle.f kj5 t102 t103 t104 t105 (wrap64 (Int.tdiv t107 10))).bind fun t123 => ((spykeep1_ScaleFirst_1.f kj5 (wrap64 (Int.tdiv t107 10)) [(⟨t102, t103, (⟨t104, t105⟩ : S77)⟩ : S90)]).bind fun t124 => ((num_Mod.f t115 4294967296).bind fun t125 => (some (t123 == t125))))) else (none)))) else (none))))) = some r := H
     have A20 := Aside0.mk A200
     clear A200
     replace H := Option.bind_eq_some_iff.mp H
     obtain ⟨t116, A210, H⟩ := H
     replace H : ((num_Mod.f (wrap64 (t109 - t115)) 4294967296).bind fun t117 => ((spykeep1_ScaleFirst_1.f kj5 t112 [(⟨t102, t103, (⟨t104, t105⟩ : S77)⟩ : S90)]).bind fun t118 => (if t118 ≥ (wrap64 (t115 + t117)) then (if t112 = (wrap64 (Int.tdiv t107 10)) then ((scale_Angle.f kj5 t102 t103 t104 t105 (wrap64 (Int.tdiv t107 10))).bind fun t119 => ((spykeep1_ScaleFirst_1.f kj5 (wrap64 (Int.tdiv t107 10)) [(⟨t102, t103, (⟨t104, t105⟩ : S77)⟩ : S90)]).bind fun t120 => ((num_Mod.f t115 4294967296).bind fun t121 => (some (t119 == t121))))) else ((spykeep1_ScaleFirst_1.f kj5 (wrap64 (t112 - 1)) [(⟨t102, t103, (⟨t104, t105⟩ : S77)⟩ : S90)]).bind fun t122 => (if t122 < (wrap64 (t115 + t117)) then ((scale_Angle.f kj5 t102 t103 t104 t105 (wrap64 (Int.tdiv t107 10))).bind fun t123 => ((spykeep1_ScaleFirst_1.f kj5 (wrap64 (Int.tdiv t107 10)) [(⟨t102, t103, (⟨t104, t105⟩ : S77)⟩ : S90)]).bind fun t124 => ((num_Mod.f t115 4294967296).bind fun t125 => (some (t123 == t125))))) else (none)))) else (none)))) = some r := H
     have E_ := Option.some.inj (A20.out.symm.trans A210)
     subst E_
     have A21 := Aside0.mk A210
     clear A210
     replace H := Option.bind_eq_some_iff.mp H
     obtain ⟨t117, A220, H⟩ := H
     replace H : ((spykeep1_ScaleFirst_1.f kj5 t112 [(⟨t102, t103, (⟨t104, t105⟩ : S77)⟩ : S90)]).bind fun t118 => (if t118 ≥ (wrap64 (t115 + t117)) then (if t112 = (wrap64 (Int.tdiv t107 10)) then ((scale_Angle.f kj5 t102 t103 t104 t105 (wrap64 (Int.tdiv t107 10))).bind fun t119 => ((spykeep1_ScaleFirst_1.f kj5 (wrap64 (Int.tdiv t107 10)) [(⟨t102, t103, (⟨t104, t105⟩ : S77)⟩ : S90)]).bind fun t120 => ((num_Mod.f t115 4294967296).bind fun t121 => (some (t119 == t121))))) else ((spykeep1_ScaleFirst_1.f kj5 (wrap64 (t112 - 1)) [(⟨t102, t103, (⟨t104, t105⟩ : S77)⟩ : S90)]).bind fun t122 => (if t122 < (wrap64 (t115 + t117)) then ((scale_Angle.f kj5 t102 t103 t104 t105 (wrap64 (Int.tdiv t107 10))).bind fun t123 => ((spykeep1_ScaleFirst_1.f kj5 (wrap64 (Int.tdiv t107 10)) [(⟨t102, t103, (⟨t104, t105⟩ : S77)⟩ : S90)]).bind fun t124 => ((num_Mod.f t115 4294967296).bind fun t125 => (some (t123 == t125))))) else (none)))) else (none))) = some r := H
     have A22 := Aside0.mk A220
     clear A220
     replace H := Option.bind_eq_some_iff.mp H
     obtain ⟨t118, A230, H⟩ := H
     replace H : (if t118 ≥ (wrap64 (t115 + t117)) then (if t112 = (wrap64 (Int.tdiv t107 10)) then ((scale_Angle.f kj5 t102 t103 t104 t105 (wrap64 (Int.tdiv t107 10))).bind fun t119 => ((spykeep1_ScaleFirst_1.f kj5 (wrap64 (Int.tdiv t107 10)) [(⟨t102, t103, (⟨t104, t105⟩ : S77)⟩ : S90)]).bind fun t120 => ((num_Mod.f t115 4294967296).bind fun t121 => (some (t119 == t121))))) else ((spykeep1_ScaleFirst_1.f kj5 (wrap64 (t112 - 1)) [(⟨t102, t103, (⟨t104, t105⟩ : S77)⟩ : S90)]).bind fun t122 => (if t122 < (wrap64 (t115 + t117)) then ((scale_Angle.f kj5 t102 t103 t104 t105 (wrap64 (Int.tdiv t107 10))).bind fun t123 => ((spykeep1_ScaleFirst_1.f kj5 (wrap64 (Int.tdiv t107 10)) [(⟨t102, t103, (⟨t104, t105⟩ : S77)⟩ : S90)]).bind fun t124 => ((num_Mod.f t115 4294967296).bind fun t125 => (some (t123 == t125))))) else (none)))) else (none)) = some r := H
     have A23 := Aside0.mk A230
     clear A230
     by_cases c24 : t118 ≥ (wrap64 (t115 + t117))
     · rw [if_pos c24] at H
       have c24b0 : decide ((wrap64 (t115 + t117)) ≤ t118) = true := decide_eq_true c24
       clear c24
       by_cases c25 : t112 = (wrap64 (Int.tdiv t107 10))
       · rw [if_pos c25] at H
         have c25b0 : (t112 == (wrap64 (Int.tdiv t107 10))) = true := beq_iff_eq.mpr c25
         have c25b1 : (t112 != (wrap64 (Int.tdiv t107 10))) = false := bne_eq_false_iff_eq.mpr c25
         clear c25
         replace H := Option.bind_eq_some_iff.mp H
         obtain ⟨t119, A260, H⟩ := H
         replace H : ((spykeep1_ScaleFirst_1.f kj5 (wrap64 (Int.tdiv t107 10)) [(⟨t102, t103, (⟨t104, t105⟩ : S77)⟩ : S90)]).bind fun t120 => ((num_Mod.f t115 4294967296).bind fun t121 => (some (t119 == t121)))) = some r := H
         have A26 := Aside0.mk A260
         clear A260
         replace H := Option.bind_eq_some_iff.mp H
         obtain ⟨t120, A270, H⟩ := H
         replace H : ((num_Mod.f t115 4294967296).bind fun t121 => (some (t119 == t121))) = some r := H
         have E_ := Option.some.inj (A20.out.symm.trans A270)
         subst E_
         have A27 := Aside0.mk A270
         clear A270
         replace H := Option.bind_eq_some_iff.mp H
         obtain ⟨t121, A280, H⟩ := H
         replace H : (some (t119 == t121)) = some r := H
         have A28 := Aside0.mk A280
         clear A280
         obtain rfl := Option.some.inj H
         go_wp2_with (first | ((with_reducible refine gatev_ (t := 40) rfl ?_); refine goescL_ (caps := #[.pointer (some ⟨gb111, 0, none⟩)]) (some 42) rfl rfl Try.func71 (by kernel_rfl) rfl #[.int .i64 (wrap64 (Int.tdiv t107 10)), .pointer (some ⟨gb111, 0, none⟩)] rfl (by first | rfl | (simp [Act.eval, Act.put] <;> rfl)) (by (try simp only [List.map_toArray, List.map_cons, List.map_nil]); first | done | rfl | (simp only [List.length_drop, List.length_take]; rfl)) ?_; (with_reducible refine (spykeep1_ScaleFirst_1.calls kj5 (wrap64 (Int.tdiv t107 10)) _ (List.length [(⟨t102, t103, (⟨t104, t105⟩ : S77)⟩ : S90)]) [(⟨t102, t103, (⟨t104, t105⟩ : S77)⟩ : S90)] t115 _ ?side1 ?side2 A20.out).mono ?_); (case side1 => exact cap_C (by (with_reducible repeat (first | refine blk_drewN ?_ _ | refine blk_drew ?_ | refine blk_alloc ?_ _)); exact BK111.out) (k90_mk _ _) rfl); (case side2 => exact Nat.le_refl _); rintro e w29 ⟨rfl, hb⟩; refine ⟨_, rfl, ?_⟩; have n0_ := Aside0.mk (blk_below (g := gb111) (o := .cells #[.int .i64 t102, .int .i64 t103, .int .i64 t104, .int .i64 t105] 90 (0, 0)) (by (with_reducible repeat (first | refine blk_drewN ?_ _ | refine blk_drew ?_ | refine blk_alloc ?_ _)); exact BK111.out) hb); have n1_ := Aside0.mk (below_step (by repeat (first | (with_reducible first | exact HB.out | apply below_alloc | apply pw_below_drewN | apply below_drew1 | refine below_set ?_ GE111.out) | exact HB.out)) hb); clear BK111; clear HB; have BK111 := n0_; have HB := n1_; clear n0_ n1_; (try clear hb); (try clear hb2); (try clear hk); (try clear hi)) | ((with_reducible refine gatev_ (t := 44) rfl ?_); refine goescL_ (caps := #[.pointer (some ⟨gb111, 0, none⟩)]) (some 46) rfl rfl Try.func71 (by kernel_rfl) rfl #[.int .i64 (wrap64 (Int.tdiv t107 10)), .pointer (some ⟨gb111, 0, none⟩)] rfl (by first | rfl | (simp [Act.eval, Act.put] <;> rfl)) (by (try simp only [List.map_toArray, List.map_cons, List.map_nil]); first | done | rfl | (simp only [List.length_drop, List.length_take]; rfl)) ?_; (with_reducible refine (spykeep1_ScaleFirst_1.calls kj5 (wrap64 (Int.tdiv t107 10)) _ (List.length [(⟨t102, t103, (⟨t104, t105⟩ : S77)⟩ : S90)]) [(⟨t102, t103, (⟨t104, t105⟩ : S77)⟩ : S90)] t115 _ ?side1 ?side2 A21.out).mono ?_); (case side1 => exact cap_C (by (with_reducible repeat (first | refine blk_drewN ?_ _ | refine blk_drew ?_ | refine blk_alloc ?_ _)); exact BK111.out) (k90_mk _ _) rfl); (case side2 => exact Nat.le_refl _); rintro e w30 ⟨rfl, hb⟩; refine ⟨_, rfl, ?_⟩; have n0_ := Aside0.mk (blk_below (g := gb111) (o := .cells #[.int .i64 t102, .int .i64 t103, .int .i64 t104, .int .i64 t105] 90 (0, 0)) (by (with_reducible repeat (first | refine blk_drewN ?_ _ | refine blk_drew ?_ | refine blk_alloc ?_ _)); exact BK111.out) hb); have n1_ := Aside0.mk (below_step (by repeat (first | (with_reducible first | exact HB.out | apply below_alloc | apply pw_below_drewN | apply below_drew1 | refine below_set ?_ GE111.out) | exact HB.out)) hb); clear BK111; clear HB; have BK111 := n0_; have HB := n1_; clear n0_ n1_; (try clear hb); (try clear hb2); (try clear hk); (try clear hi)) | ((with_reducible refine gate_callee (f := 73) rfl ?_); refine goesL_ (some 48) rfl rfl Try.func73 (by kernel_rfl) rfl #[.int .i64 (wrap64 (t109 - t115)), .int .i64 4294967296] rfl (by (try simp only [List.map_toArray, List.map_cons, List.map_nil]); first | done | rfl | (simp only [List.length_drop, List.length_take]; rfl)) ?_; (with_reducible refine (num_Mod.calls (wrap64 (t109 - t115)) 4294967296 t117 _ A22.out).mono ?_); rintro e w' ⟨rfl, ⟨nd, rfl⟩⟩; refine ⟨_, rfl, ?_⟩) | ((with_reducible refine gatev_ (t := 50) rfl ?_); refine goescL_ (caps := #[.pointer (some ⟨gb111, 0, none⟩)]) (some 52) rfl rfl Try.func71 (by kernel_rfl) rfl #[.int .i64 t112, .pointer (some ⟨gb111, 0, none⟩)] rfl (by first | rfl | (simp [Act.eval, Act.put] <;> rfl)) (by (try simp only [List.map_toArray, List.map_cons, List.map_nil]); first | done | rfl | (simp only [List.length_drop, List.length_take]; rfl)) ?_; (with_reducible refine (spykeep1_ScaleFirst_1.calls kj5 t112 _ (List.length [(⟨t102, t103, (⟨t104, t105⟩ : S77)⟩ : S90)]) [(⟨t102, t103, (⟨t104, t105⟩ : S77)⟩ : S90)] t118 _ ?side1 ?side2 A23.out).mono ?_); (case side1 => exact cap_C (by (with_reducible repeat (first | refine blk_drewN ?_ _ | refine blk_drew ?_ | refine blk_alloc ?_ _)); exact BK111.out) (k90_mk _ _) rfl); (case side2 => exact Nat.le_refl _); rintro e w31 ⟨rfl, hb⟩; refine ⟨_, rfl, ?_⟩; have n0_ := Aside0.mk (blk_below (g := gb111) (o := .cells #[.int .i64 t102, .int .i64 t103, .int .i64 t104, .int .i64 t105] 90 (0, 0)) (by (with_reducible repeat (first | refine blk_drewN ?_ _ | refine blk_drew ?_ | refine blk_alloc ?_ _)); exact BK111.out) hb); have n1_ := Aside0.mk (below_step (by repeat (first | (with_reducible first | exact HB.out | apply below_alloc | apply pw_below_drewN | apply below_drew1 | refine below_set ?_ GE111.out) | exact HB.out)) hb); clear BK111; clear HB; have BK111 := n0_; have HB := n1_; clear n0_ n1_; (try clear hb); (try clear hb2); (try clear hk); (try clear hi); have hcz32_0 : w31.cell? ⟨gb111, 0, none⟩ = some (.int .i64 t102) := (blk_cell BK111.out 0).trans rfl; have hcz32_1 : w31.cell? ⟨gb111, 1, none⟩ = some (.int .i64 t103) := (blk_cell BK111.out 1).trans rfl; have hcz32_2 : w31.cell? ⟨gb111, 2, none⟩ = some (.int .i64 t104) := (blk_cell BK111.out 2).trans rfl; have hcz32_3 : w31.cell? ⟨gb111, 3, none⟩ = some (.int .i64 t105) := (blk_cell BK111.out 3).trans rfl; have hfz32_0 := blk_frozen BK111.out 0; have hfz32_1 := blk_frozen BK111.out 1; have hfz32_2 := blk_frozen BK111.out 2; have hfz32_3 := blk_frozen BK111.out 3) | (go_at_call 74; (with_reducible refine (scale_Angle.calls kj5 t102 t103 t104 t105 (wrap64 (Int.tdiv t107 10)) t119 _ A26.out).mono ?_); rintro e w33 ⟨rfl, hb⟩; have n0_ := Aside0.mk (blk_below (g := gb111) (o := .cells #[.int .i64 t102, .int .i64 t103, .int .i64 t104, .int .i64 t105] 90 (0, 0)) (by (with_reducible repeat (first | refine blk_drewN ?_ _ | refine blk_drew ?_ | refine blk_alloc ?_ _)); exact BK111.out) hb); have n1_ := Aside0.mk (below_step (by repeat (first | (with_reducible first | exact HB.out | apply below_alloc | apply pw_below_drewN | apply below_drew1 | refine below_set ?_ GE111.out) | exact HB.out)) hb); clear BK111; clear HB; have BK111 := n0_; have HB := n1_; clear n0_ n1_; (try clear hb); (try clear hb2); (try clear hk); (try clear hi)) | (go_at_call 71; (with_reducible refine (spykeep1_ScaleFirst_1.calls kj5 (wrap64 (Int.tdiv t107 10)) _ (List.length [(⟨t102, t103, (⟨t104, t105⟩ : S77)⟩ : S90)]) [(⟨t102, t103, (⟨t104, t105⟩ : S77)⟩ : S90)] t115 _ ?side1 ?side2 A27.out).mono ?_); (case side1 => exact cap_C (by (with_reducible repeat (first | refine blk_drewN ?_ _ | refine blk_drew ?_ | refine blk_alloc ?_ _)); exact BK111.out) (k90_mk _ _) rfl); (case side2 => exact Nat.le_refl _); rintro e w34 ⟨rfl, hb⟩; have n0_ := Aside0.mk (blk_below (g := gb111) (o := .cells #[.int .i64 t102, .int .i64 t103, .int .i64 t104, .int .i64 t105] 90 (0, 0)) (by (with_reducible repeat (first | refine blk_drewN ?_ _ | refine blk_drew ?_ | refine blk_alloc ?_ _)); exact BK111.out) hb); have n1_ := Aside0.mk (below_step (by repeat (first | (with_reducible first | exact HB.out | apply below_alloc | apply pw_below_drewN | apply below_drew1 | refine below_set ?_ GE111.out) | exact HB.out)) hb); clear BK111; clear HB; have BK111 := n0_; have HB := n1_; clear n0_ n1_; (try clear hb); (try clear hb2); (try clear hk); (try clear hi)) | (go_at_call 73; (with_reducible refine (num_Mod.calls t115 4294967296 t121 _ A28.out).mono ?_); rintro e w' ⟨rfl, ⟨nd, rfl⟩⟩))
         go_ret
         exact ⟨by first | rfl | (simp [errW_none, errW_some] <;> rfl) | (simp [*, errW_none, errW_some] <;> rfl), by repeat (first | (with_reducible first | exact HB.out | apply below_alloc | apply pw_below_drewN | apply below_drew1 | refine below_set ?_ GE111.out) | exact HB.out)⟩
       · rw [if_neg c25] at H
         have c25b0 : (t112 == (wrap64 (Int.tdiv t107 10))) = false := beq_eq_false_iff_ne.mpr c25
         have c25b1 : (t112 != (wrap64 (Int.tdiv t107 10))) = true := bne_iff_ne.mpr c25
         replace H := Option.bind_eq_some_iff.mp H
         obtain ⟨t122, A350, H⟩ := H
         replace H : (if t122 < (wrap64 (t115 + t117)) then ((scale_Angle.f kj5 t102 t103 t104 t105 (wrap64 (Int.tdiv t107 10))).bind fun t123 => ((spykeep1_ScaleFirst_1.f kj5 (wrap64 (Int.tdiv t107 10)) [(⟨t102, t103, (⟨t104, t105⟩ : S77)⟩ : S90)]).bind fun t124 => ((num_Mod.f t115 4294967296).bind fun t125 => (some (t123 == t125))))) else (none)) = some r := H
         have A35 := Aside0.mk A350
         clear A350
         by_cases c36 : t122 < (wrap64 (t115 + t117))
         · rw [if_pos c36] at H
           have c36b0 : decide (t122 < (wrap64 (t115 + t117))) = true := decide_eq_true c36
           clear c36
           replace H := Option.bind_eq_some_iff.mp H
           obtain ⟨t123, A370, H⟩ := H
           replace H : ((spykeep1_ScaleFirst_1.f kj5 (wrap64 (Int.tdiv t107 10)) [(⟨t102, t103, (⟨t104, t105⟩ : S77)⟩ : S90)]).bind fun t124 => ((num_Mod.f t115 4294967296).bind fun t125 => (some (t123 == t125)))) = some r := H
           have A37 := Aside0.mk A370
           clear A370
           replace H := Option.bind_eq_some_iff.mp H
           obtain ⟨t124, A380, H⟩ := H
           replace H : ((num_Mod.f t115 4294967296).bind fun t125 => (some (t123 == t125))) = some r := H
           have E_ := Option.some.inj (A20.out.symm.trans A380)
           subst E_
           have A38 := Aside0.mk A380
           clear A380
           replace H := Option.bind_eq_some_iff.mp H
           obtain ⟨t125, A390, H⟩ := H
           replace H : (some (t123 == t125)) = some r := H
           have A39 := Aside0.mk A390
           clear A390
           obtain rfl := Option.some.inj H
           go_wp2_with (first | ((with_reducible refine gatev_ (t := 40) rfl ?_); refine goescL_ (caps := #[.pointer (some ⟨gb111, 0, none⟩)]) (some 42) rfl rfl Try.func71 (by kernel_rfl) rfl #[.int .i64 (wrap64 (Int.tdiv t107 10)), .pointer (some ⟨gb111, 0, none⟩)] rfl (by first | rfl | (simp [Act.eval, Act.put] <;> rfl)) (by (try simp only [List.map_toArray, List.map_cons, List.map_nil]); first | done | rfl | (simp only [List.length_drop, List.length_take]; rfl)) ?_; (with_reducible refine (spykeep1_ScaleFirst_1.calls kj5 (wrap64 (Int.tdiv t107 10)) _ (List.length [(⟨t102, t103, (⟨t104, t105⟩ : S77)⟩ : S90)]) [(⟨t102, t103, (⟨t104, t105⟩ : S77)⟩ : S90)] t115 _ ?side1 ?side2 A20.out).mono ?_); (case side1 => exact cap_C (by (with_reducible repeat (first | refine blk_drewN ?_ _ | refine blk_drew ?_ | refine blk_alloc ?_ _)); exact BK111.out) (k90_mk _ _) rfl); (case side2 => exact Nat.le_refl _); rintro e w40 ⟨rfl, hb⟩; refine ⟨_, rfl, ?_⟩; have n0_ := Aside0.mk (blk_below (g := gb111) (o := .cells #[.int .i64 t102, .int .i64 t103, .int .i64 t104, .int .i64 t105] 90 (0, 0)) (by (with_reducible repeat (first | refine blk_drewN ?_ _ | refine blk_drew ?_ | refine blk_alloc ?_ _)); exact BK111.out) hb); have n1_ := Aside0.mk (below_step (by repeat (first | (with_reducible first | exact HB.out | apply below_alloc | apply pw_below_drewN | apply below_drew1 | refine below_set ?_ GE111.out) | exact HB.out)) hb); clear BK111; clear HB; have BK111 := n0_; have HB := n1_; clear n0_ n1_; (try clear hb); (try clear hb2); (try clear hk); (try clear hi)) | ((with_reducible refine gatev_ (t := 44) rfl ?_); refine goescL_ (caps := #[.pointer (some ⟨gb111, 0, none⟩)]) (some 46) rfl rfl Try.func71 (by kernel_rfl) rfl #[.int .i64 (wrap64 (Int.tdiv t107 10)), .pointer (some ⟨gb111, 0, none⟩)] rfl (by first | rfl | (simp [Act.eval, Act.put] <;> rfl)) (by (try simp only [List.map_toArray, List.map_cons, List.map_nil]); first | done | rfl | (simp only [List.length_drop, List.length_take]; rfl)) ?_; (with_reducible refine (spykeep1_ScaleFirst_1.calls kj5 (wrap64 (Int.tdiv t107 10)) _ (List.length [(⟨t102, t103, (⟨t104, t105⟩ : S77)⟩ : S90)]) [(⟨t102, t103, (⟨t104, t105⟩ : S77)⟩ : S90)] t115 _ ?side1 ?side2 A21.out).mono ?_); (case side1 => exact cap_C (by (with_reducible repeat (first | refine blk_drewN ?_ _ | refine blk_drew ?_ | refine blk_alloc ?_ _)); exact BK111.out) (k90_mk _ _) rfl); (case side2 => exact Nat.le_refl _); rintro e w41 ⟨rfl, hb⟩; refine ⟨_, rfl, ?_⟩; have n0_ := Aside0.mk (blk_below (g := gb111) (o := .cells #[.int .i64 t102, .int .i64 t103, .int .i64 t104, .int .i64 t105] 90 (0, 0)) (by (with_reducible repeat (first | refine blk_drewN ?_ _ | refine blk_drew ?_ | refine blk_alloc ?_ _)); exact BK111.out) hb); have n1_ := Aside0.mk (below_step (by repeat (first | (with_reducible first | exact HB.out | apply below_alloc | apply pw_below_drewN | apply below_drew1 | refine below_set ?_ GE111.out) | exact HB.out)) hb); clear BK111; clear HB; have BK111 := n0_; have HB := n1_; clear n0_ n1_; (try clear hb); (try clear hb2); (try clear hk); (try clear hi)) | ((with_reducible refine gate_callee (f := 73) rfl ?_); refine goesL_ (some 48) rfl rfl Try.func73 (by kernel_rfl) rfl #[.int .i64 (wrap64 (t109 - t115)), .int .i64 4294967296] rfl (by (try simp only [List.map_toArray, List.map_cons, List.map_nil]); first | done | rfl | (simp only [List.length_drop, List.length_take]; rfl)) ?_; (with_reducible refine (num_Mod.calls (wrap64 (t109 - t115)) 4294967296 t117 _ A22.out).mono ?_); rintro e w' ⟨rfl, ⟨nd, rfl⟩⟩; refine ⟨_, rfl, ?_⟩) | ((with_reducible refine gatev_ (t := 50) rfl ?_); refine goescL_ (caps := #[.pointer (some ⟨gb111, 0, none⟩)]) (some 52) rfl rfl Try.func71 (by kernel_rfl) rfl #[.int .i64 t112, .pointer (some ⟨gb111, 0, none⟩)] rfl (by first | rfl | (simp [Act.eval, Act.put] <;> rfl)) (by (try simp only [List.map_toArray, List.map_cons, List.map_nil]); first | done | rfl | (simp only [List.length_drop, List.length_take]; rfl)) ?_; (with_reducible refine (spykeep1_ScaleFirst_1.calls kj5 t112 _ (List.length [(⟨t102, t103, (⟨t104, t105⟩ : S77)⟩ : S90)]) [(⟨t102, t103, (⟨t104, t105⟩ : S77)⟩ : S90)] t118 _ ?side1 ?side2 A23.out).mono ?_); (case side1 => exact cap_C (by (with_reducible repeat (first | refine blk_drewN ?_ _ | refine blk_drew ?_ | refine blk_alloc ?_ _)); exact BK111.out) (k90_mk _ _) rfl); (case side2 => exact Nat.le_refl _); rintro e w42 ⟨rfl, hb⟩; refine ⟨_, rfl, ?_⟩; have n0_ := Aside0.mk (blk_below (g := gb111) (o := .cells #[.int .i64 t102, .int .i64 t103, .int .i64 t104, .int .i64 t105] 90 (0, 0)) (by (with_reducible repeat (first | refine blk_drewN ?_ _ | refine blk_drew ?_ | refine blk_alloc ?_ _)); exact BK111.out) hb); have n1_ := Aside0.mk (below_step (by repeat (first | (with_reducible first | exact HB.out | apply below_alloc | apply pw_below_drewN | apply below_drew1 | refine below_set ?_ GE111.out) | exact HB.out)) hb); clear BK111; clear HB; have BK111 := n0_; have HB := n1_; clear n0_ n1_; (try clear hb); (try clear hb2); (try clear hk); (try clear hi)) | (go_at_call 71; (with_reducible refine (spykeep1_ScaleFirst_1.calls kj5 (wrap64 (t112 - 1)) _ (List.length [(⟨t102, t103, (⟨t104, t105⟩ : S77)⟩ : S90)]) [(⟨t102, t103, (⟨t104, t105⟩ : S77)⟩ : S90)] t122 _ ?side1 ?side2 A35.out).mono ?_); (case side1 => exact cap_C (by (with_reducible repeat (first | refine blk_drewN ?_ _ | refine blk_drew ?_ | refine blk_alloc ?_ _)); exact BK111.out) (k90_mk _ _) rfl); (case side2 => exact Nat.le_refl _); rintro e w43 ⟨rfl, hb⟩; have n0_ := Aside0.mk (blk_below (g := gb111) (o := .cells #[.int .i64 t102, .int .i64 t103, .int .i64 t104, .int .i64 t105] 90 (0, 0)) (by (with_reducible repeat (first | refine blk_drewN ?_ _ | refine blk_drew ?_ | refine blk_alloc ?_ _)); exact BK111.out) hb); have n1_ := Aside0.mk (below_step (by repeat (first | (with_reducible first | exact HB.out | apply below_alloc | apply pw_below_drewN | apply below_drew1 | refine below_set ?_ GE111.out) | exact HB.out)) hb); clear BK111; clear HB; have BK111 := n0_; have HB := n1_; clear n0_ n1_; (try clear hb); (try clear hb2); (try clear hk); (try clear hi); have hcz44_0 : w43.cell? ⟨gb111, 0, none⟩ = some (.int .i64 t102) := (blk_cell BK111.out 0).trans rfl; have hcz44_1 : w43.cell? ⟨gb111, 1, none⟩ = some (.int .i64 t103) := (blk_cell BK111.out 1).trans rfl; have hcz44_2 : w43.cell? ⟨gb111, 2, none⟩ = some (.int .i64 t104) := (blk_cell BK111.out 2).trans rfl; have hcz44_3 : w43.cell? ⟨gb111, 3, none⟩ = some (.int .i64 t105) := (blk_cell BK111.out 3).trans rfl; have hfz44_0 := blk_frozen BK111.out 0; have hfz44_1 := blk_frozen BK111.out 1; have hfz44_2 := blk_frozen BK111.out 2; have hfz44_3 := blk_frozen BK111.out 3) | (go_at_call 74; (with_reducible refine (scale_Angle.calls kj5 t102 t103 t104 t105 (wrap64 (Int.tdiv t107 10)) t123 _ A37.out).mono ?_); rintro e w45 ⟨rfl, hb⟩; have n0_ := Aside0.mk (blk_below (g := gb111) (o := .cells #[.int .i64 t102, .int .i64 t103, .int .i64 t104, .int .i64 t105] 90 (0, 0)) (by (with_reducible repeat (first | refine blk_drewN ?_ _ | refine blk_drew ?_ | refine blk_alloc ?_ _)); exact BK111.out) hb); have n1_ := Aside0.mk (below_step (by repeat (first | (with_reducible first | exact HB.out | apply below_alloc | apply pw_below_drewN | apply below_drew1 | refine below_set ?_ GE111.out) | exact HB.out)) hb); clear BK111; clear HB; have BK111 := n0_; have HB := n1_; clear n0_ n1_; (try clear hb); (try clear hb2); (try clear hk); (try clear hi)) | (go_at_call 71; (with_reducible refine (spykeep1_ScaleFirst_1.calls kj5 (wrap64 (Int.tdiv t107 10)) _ (List.length [(⟨t102, t103, (⟨t104, t105⟩ : S77)⟩ : S90)]) [(⟨t102, t103, (⟨t104, t105⟩ : S77)⟩ : S90)] t115 _ ?side1 ?side2 A38.out).mono ?_); (case side1 => exact cap_C (by (with_reducible repeat (first | refine blk_drewN ?_ _ | refine blk_drew ?_ | refine blk_alloc ?_ _)); exact BK111.out) (k90_mk _ _) rfl); (case side2 => exact Nat.le_refl _); rintro e w46 ⟨rfl, hb⟩; have n0_ := Aside0.mk (blk_below (g := gb111) (o := .cells #[.int .i64 t102, .int .i64 t103, .int .i64 t104, .int .i64 t105] 90 (0, 0)) (by (with_reducible repeat (first | refine blk_drewN ?_ _ | refine blk_drew ?_ | refine blk_alloc ?_ _)); exact BK111.out) hb); have n1_ := Aside0.mk (below_step (by repeat (first | (with_reducible first | exact HB.out | apply below_alloc | apply pw_below_drewN | apply below_drew1 | refine below_set ?_ GE111.out) | exact HB.out)) hb); clear BK111; clear HB; have BK111 := n0_; have HB := n1_; clear n0_ n1_; (try clear hb); (try clear hb2); (try clear hk); (try clear hi)) | (go_at_call 73; (with_reducible refine (num_Mod.calls t115 4294967296 t125 _ A39.out).mono ?_); rintro e w' ⟨rfl, ⟨nd, rfl⟩⟩))
           go_ret
           exact ⟨by first | rfl | (simp [errW_none, errW_some] <;> rfl) | (simp [*, errW_none, errW_some] <;> rfl), by repeat (first | (with_reducible first | exact HB.out | apply below_alloc | apply pw_below_drewN | apply below_drew1 | refine below_set ?_ GE111.out) | exact HB.out)⟩
         · rw [if_neg c36] at H
           exact absurd H (by simp)
     · rw [if_neg c24] at H
       exact absurd H (by simp)

/-- THE ONE PURE STATEMENT of spykeep1_ScaleFirst: yours. -/
def spykeep1_ScaleFirst.Pure : Prop := ∀ (l0 : List Int), l0.length ≤ maxLen → l0.length * 8 ≤ 140737488351232 → (∀ x ∈ l0, (Lit.int .i64 x).wf = true) → ∃ k, spykeep1_ScaleFirst.f k l0 = some true
theorem spykeep1_ScaleFirst.walk (P : spykeep1_ScaleFirst.Pure) (a0 : Option Addr) (len0 cap0 : Nat) (z0 : List Int) (w : World) (w0 : (a0 = none ∧ len0 = 0 ∧ cap0 = 0 ∧ z0 = []) ∨ ∃ x, a0 = some x ∧ len0 ≤ cap0 ∧ cap0 ≤ maxLen ∧ z0.length = cap0 ∧ (∀ i, i < z0.length → w.cell? (x.add i) = some (.int .i64 (z0.getD i 0))) ∧ ∀ n ∈ z0, (Lit.int .i64 n).wf = true) (y0 : len0 * 8 ≤ 140737488351232) :
 Calls Try.prog 11 #[.slice a0 len0 cap0] w fun e w' => e = .returned (.bool true) ∧ Below w.heap.size w w' := by
 obtain ⟨l0, rfl, hr0, hm0, hw0, hc0⟩ := ReadsInt.ofRowC w0
 obtain ⟨k, h⟩ := P l0 hm0 y0 hw0
 refine (spykeep1_ScaleFirst.calls k _ _ l0 true w (Kd.C_of_reads (d := (0 : Int)) (h1 := fun _ => rfl) hr0) hc0 h).mono ?_
 rintro e w' ⟨rfl, hd⟩
 exact ⟨rfl, hd⟩

end Go.Proofs.Ytpophefonhpnmaa.Q
