/- Contracts of Go functions of the seat, one by one: each call returns what the Lean function of the same name says, wherever that is 'some'; no other condition. Written by a program of this session. -/
import Derived.Test.YtpophefonhpnmaaKClockSyncTruthQx0
import Derived.Test.YtpophefonhpnmaaKClockSyncTruthQx6
import Derived.Test.YtpophefonhpnmaaKClockSyncTruthQx28
import Derived.Test.YtpophefonhpnmaaKClockSyncTruthQx32
import Derived.Test.YtpophefonhpnmaaKClockSyncTruthQx33
import Derived.Test.YtpophefonhpnmaaKClockSyncTruthQx34
import Derived.Test.YtpophefonhpnmaaKClockSyncTruthQx35
import Derived.Test.YtpophefonhpnmaaKClockSyncTruthQx36
namespace Go.Proofs.Ytpophefonhpnmaa.Q
open Go.RowKit Go.Proofs.YtpophefonhpnmaaW.PrintWords Go.Proofs.YtpophefonhpnmaaW.PrintLast Go.Proofs.YtpophefonhpnmaaW.PrintMore
attribute [local go_sem] max2_int min2_int max_two min_two max_three min_three max_four min_four   -- for this text's walks alone
set_option linter.unusedVariables false
set_option linter.unusedSimpArgs false

/-! ### spykeep1_ClockSyncTruth: function 3 -/
def spykeep1_ClockSyncTruth.l0 : Nat → Int → Int → Int → Int → List Int → Int → Int → Int → List (S114) → Int → Int → Int → Bool → Int → Option (Bool)
 | 0, _, _, _, _, _, _, _, _, _, _, _, _, _, _ => none
 | k + 1, x1, x8, x32, x33, x102000, x102001, x114000, x114001, x114002, x115000, x115001, x115002, x115003, x115004 => if x33 < x32 then ((spymake_Stream_Next.f x102000 x102001 3000).bind fun bt118 => ((clock_Reads.f k x114000 x114001 x114002 (wrap64 (x8 + bt118.1))).bind fun bt120 => ((spymake_Stream_Next.f x102000 bt118.2 400).bind fun bt122 => ((spymake_Stream_Next.f x102000 bt122.2 9).bind fun bt124 => ((spymake_Stream_Next.f x102000 bt124.2 9).bind fun bt126 => ((spymake_Stream_Next.f x102000 bt126.2 400).bind fun bt129 => ((clock_Reads.f k x114000 x114001 x114002 (wrap64 ((wrap64 ((wrap64 (x8 + bt118.1)) + bt122.1)) + bt129.1))).bind fun bt131 => ((clock_Sync.f k x115000 x115001 x115002 x115003 x115004 bt120.1 bt131.1 (wrap64 ((wrap64 ((wrap64 (x8 + bt118.1)) + bt122.1)) - bt124.1)) (wrap64 ((wrap64 ((wrap64 (x8 + bt118.1)) + bt122.1)) + bt126.1)) false).bind fun bt133 => (if bt120.2 = 0 then (if bt131.2 = 0 then (if bt133.2.2.2.2.2 = 0 then ((bound_Has_api_Tick.f k bt133.2.1 bt133.2.2.1 bt133.2.2.2.1 (wrap64 ((wrap64 ((wrap64 (x8 + bt118.1)) + bt122.1)) + bt129.1))).bind fun t140 => (if t140 = true then ((clock_Uniform.f k x115000 x115001 x115002 x115003 x115004 bt131.1).bind fun bt141 => ((bound_Inside_api_Tick.f k bt133.2.1 bt133.2.2.1 bt133.2.2.2.1 bt141.1 bt141.2.1 bt141.2.2).bind fun t144 => (if t144 = true then (spykeep1_ClockSyncTruth.l0 k x1 (wrap64 ((wrap64 ((wrap64 (x8 + bt118.1)) + bt122.1)) + bt129.1)) x32 (wrap64 (x33 + 1)) x102000 bt129.2 x114000 x114001 x114002 bt133.1 bt133.2.1 bt133.2.2.1 bt133.2.2.2.1 bt133.2.2.2.2.1) else (none)))) else (none))) else (none)) else (none)) else (none)))))))))) else ((spymake_Below.f x1 5000).bind fun t145 => ((clock_Reads.f k x114000 x114001 x114002 (wrap64 (x8 + t145))).bind fun bt146 => (if bt146.2 = 0 then ((clock_Uniform.f k x115000 x115001 x115002 x115003 x115004 bt146.1).bind fun bt148 => ((bound_Has_api_Tick.f k bt148.1 bt148.2.1 bt148.2.2 (wrap64 (x8 + t145))).bind fun t151 => (some t151))) else (none))))
def spykeep1_ClockSyncTruth.f (k : Nat) (l0 : List Int) (a1 : Int) : Option (Bool) := (spykeep1_running.f k l0 0).bind fun bt102 => ((spykeep1_clockFact.f k).bind fun t115 => (if t115 = true then ((spymake_Stream_Next.f l0 bt102.2.2.2.2.2.2.2.2 4).bind fun bt116 => (spykeep1_ClockSyncTruth.l0 k a1 bt102.2.1 (wrap64 (bt116.1 + 1)) 0 l0 bt116.2 bt102.1 bt102.2.1 bt102.2.2.1 bt102.2.2.2.1 bt102.2.2.2.2.1 bt102.2.2.2.2.2.1 bt102.2.2.2.2.2.2.1 bt102.2.2.2.2.2.2.2.1)) else (none)))
theorem spykeep1_ClockSyncTruth.mono_l : ∀ k, (∀ y0 y1 y2 y3 y4 y5 y6 y7 y8 y9 y10 y11 y12 y13, LeO (spykeep1_ClockSyncTruth.l0 k y0 y1 y2 y3 y4 y5 y6 y7 y8 y9 y10 y11 y12 y13) (spykeep1_ClockSyncTruth.l0 (k + 1) y0 y1 y2 y3 y4 y5 y6 y7 y8 y9 y10 y11 y12 y13))
 | 0 => fun _ _ _ _ _ _ _ _ _ _ _ _ _ _ r h => by simp [spykeep1_ClockSyncTruth.l0] at h
 | k + 1 => by
  have ih0 := spykeep1_ClockSyncTruth.mono_l k
  · intro y0 y1 y2 y3 y4 y5 y6 y7 y8 y9 y10 y11 y12 y13
    unfold spykeep1_ClockSyncTruth.l0
    repeat' first
    | (with_reducible exact ih0 _ _ _ _ _ _ _ _ _ _ _ _ _ _)
    | (with_reducible exact bound_Has_api_Tick.mono _ _ _ _ _)
    | (with_reducible exact bound_Inside_api_Tick.mono _ _ _ _ _ _ _)
    | (with_reducible exact clock_Reads.mono _ _ _ _ _)
    | (with_reducible exact clock_Sync.mono _ _ _ _ _ _ _ _ _ _ _)
    | (with_reducible exact clock_Uniform.mono _ _ _ _ _ _ _)
    | (with_reducible exact spykeep1_clockFact.mono _)
    | (with_reducible exact spykeep1_running.mono _ _ _)
    | (with_reducible exact LeO.refl _)
    | (with_reducible exact LeO.none _)
    | (with_reducible refine LeO.ite ?_ ?_)
    | (with_reducible refine LeO.bind ?_ (fun _ => ?_))
    | exact ih0 _ _ _ _ _ _ _ _ _ _ _ _ _ _
    | exact bound_Has_api_Tick.mono _ _ _ _ _
    | exact bound_Inside_api_Tick.mono _ _ _ _ _ _ _
    | exact clock_Reads.mono _ _ _ _ _
    | exact clock_Sync.mono _ _ _ _ _ _ _ _ _ _ _
    | exact clock_Uniform.mono _ _ _ _ _ _ _
    | exact spykeep1_clockFact.mono _
    | exact spykeep1_running.mono _ _ _
    | exact LeO.none _
    | refine LeO.ite ?_ ?_
    | refine LeO.bind ?_ (fun _ => ?_)
theorem spykeep1_ClockSyncTruth.mono : ∀ a0 a1 k, LeO (spykeep1_ClockSyncTruth.f k a0 a1) (spykeep1_ClockSyncTruth.f (k + 1) a0 a1) := by
 intro a0 a1 k
 have ih0 := spykeep1_ClockSyncTruth.mono_l k
 unfold spykeep1_ClockSyncTruth.f
 repeat' first
  | (with_reducible exact ih0 _ _ _ _ _ _ _ _ _ _ _ _ _ _)
  | (with_reducible exact bound_Has_api_Tick.mono _ _ _ _ _)
  | (with_reducible exact bound_Inside_api_Tick.mono _ _ _ _ _ _ _)
  | (with_reducible exact clock_Reads.mono _ _ _ _ _)
  | (with_reducible exact clock_Sync.mono _ _ _ _ _ _ _ _ _ _ _)
  | (with_reducible exact clock_Uniform.mono _ _ _ _ _ _ _)
  | (with_reducible exact spykeep1_clockFact.mono _)
  | (with_reducible exact spykeep1_running.mono _ _ _)
  | (with_reducible exact LeO.refl _)
  | (with_reducible exact LeO.none _)
  | (with_reducible refine LeO.ite ?_ ?_)
  | (with_reducible refine LeO.bind ?_ (fun _ => ?_))
  | exact ih0 _ _ _ _ _ _ _ _ _ _ _ _ _ _
  | exact bound_Has_api_Tick.mono _ _ _ _ _
  | exact bound_Inside_api_Tick.mono _ _ _ _ _ _ _
  | exact clock_Reads.mono _ _ _ _ _
  | exact clock_Sync.mono _ _ _ _ _ _ _ _ _ _ _
  | exact clock_Uniform.mono _ _ _ _ _ _ _
  | exact spykeep1_clockFact.mono _
  | exact spykeep1_running.mono _ _ _
  | exact LeO.none _
  | refine LeO.ite ?_ ?_
  | refine LeO.bind ?_ (fun _ => ?_)
def spykeep1_ClockSyncTruth.T15 : Bool × List (List Nat × List Nat) := (true, [([], []), ([0], [0]), ([1], [1]), ([2], [2]), ([3, 2], [2, 3]), ([2, 4], [2, 4]), ([5, 2], [5]), ([6], [6]), ([7, 6], [6, 7]), ([6, 8], [6, 8]), ([9, 6], [9]), ([10], [10]), ([11, 10], [10, 11]), ([10], [10]), ([12, 13, 10, 10], [10, 12, 13]), ([14, 10], [10, 14]), ([10, 15], [10, 15]), ([16, 14], [16]), ([17], [17]), ([18, 17], [17, 18]), ([17], [17]), ([17], [17]), ([20, 21, 17, 17], [17, 20, 21]), ([19, 22, 22, 17], [17, 19, 22]), ([23, 17], [17, 23]), ([17, 24], [17, 24])])
def spykeep1_ClockSyncTruth.B15 : List Nat := [0, 1, 3, 7, 15, 31, 63, 127, 255, 511, 1023, 2047, 4095, 2047, 16383, 32767, 65535, 131071, 262143, 524287, 262143, 262143, 3407871, 8388607, 16777215, 33554431]
theorem spykeep1_ClockSyncTruth.tab15 : rtab .any (opsOf Try.f3 15) = spykeep1_ClockSyncTruth.T15 := by kernel_rfl
theorem spykeep1_ClockSyncTruth.bits15 : waitsOk spykeep1_ClockSyncTruth.T15.2 spykeep1_ClockSyncTruth.B15 = true := by kernel_rfl
set_option maxHeartbeats 8000000 in
set_option maxRecDepth 100000 in
theorem spykeep1_ClockSyncTruth.calls (k : Nat) (A0 : Option Addr) (c0 : Nat) (l0 : List Int) (a1 : Int) (r : Bool) (w : World) (hr0 : Kd.C (Kd.int .i64) w A0 l0.length l0) (hc0 : l0.length ≤ c0) (h : spykeep1_ClockSyncTruth.f k l0 a1 = some r) :
 Calls Try.prog 3 #[.slice A0 l0.length c0, .int .i64 a1] w fun e w' => e = .returned (.bool r) ∧ Below w.heap.size w w' := by
 have hu25 := Try.underlying25
 have hu29 := Try.underlying29
 have hu33 := Try.underlying33
 have hu31 := Try.underlying31
 have HR0 := Aside0.mk hr0
 have HC0 := Aside0.mk hc0
 clear hr0 hc0
 have HB := Aside0.mk (Below.refl w.heap.size w)
 have H : ((spykeep1_running.f k l0 0).bind fun bt102 => ((spykeep1_clockFact.f k).bind fun t115 => (if t115 = true then ((spymake_Stream_Next.f l0 bt102.2.2.2.2.2.2.2.2 4).bind fun bt116 => (spykeep1_ClockSyncTruth.l0 k a1 bt102.2.1 (wrap64 (bt116.1 + 1)) 0 l0 bt116.2 bt102.1 bt102.2.1 bt102.2.2.1 bt102.2.2.2.1 bt102.2.2.2.2.1 bt102.2.2.2.2.2.1 bt102.2.2.2.2.2.2.1 bt102.2.2.2.2.2.2.2.1)) else (none)))) = some r := h
 clear h
 replace H := Option.bind_eq_some_iff.mp H
 obtain ⟨⟨t102, t103, t104, t107, t108, t109, t110, t111, t112⟩, A30, H⟩ := H
 replace H : ((spykeep1_clockFact.f k).bind fun t115 => (if t115 = true then ((spymake_Stream_Next.f l0 t112 4).bind fun bt116 => (spykeep1_ClockSyncTruth.l0 k a1 t103 (wrap64 (bt116.1 + 1)) 0 l0 bt116.2 t102 t103 t104 t107 t108 t109 t110 t111)) else (none))) = some r := H
 have A3 := Aside0.mk A30
 clear A30
 replace H := Option.bind_eq_some_iff.mp H
 obtain ⟨t115, A40, H⟩ := H
 replace H : (if t115 = true then ((spymake_Stream_Next.f l0 t112 4).bind fun bt116 => (spykeep1_ClockSyncTruth.l0 k a1 t103 (wrap64 (bt116.1 + 1)) 0 l0 bt116.2 t102 t103 t104 t107 t108 t109 t110 t111)) else (none)) = some r := H
 have A4 := Aside0.mk A40
 clear A40
 by_cases c5 : t115 = true
 · subst c5
   have H1 : ((spymake_Stream_Next.f l0 t112 4).bind fun bt116 => (spykeep1_ClockSyncTruth.l0 k a1 t103 (wrap64 (bt116.1 + 1)) 0 l0 bt116.2 t102 t103 t104 t107 t108 t109 t110 t111)) = some r := by rw [if_pos rfl] at H; exact H
   clear H
   have H := H1
   clear H1
   replace H := Option.bind_eq_some_iff.mp H
   obtain ⟨⟨t116, t117⟩, A60, H⟩ := H
   replace H : (spykeep1_ClockSyncTruth.l0 k a1 t103 (wrap64 (t116 + 1)) 0 l0 t117 t102 t103 t104 t107 t108 t109 t110 t111) = some r := H
   have A6 := Aside0.mk A60
   clear A60
   have H' := Aside0.mk H
   clear H
   go_enter Try.func3, Try.ntmps3
   go_wp2_with (first | ((with_reducible refine gate_dst (N := 20) rfl ?_); refine box_event ?hg (N := 20) ?hd (cs := #[.slice A0 l0.length c0, .int .i64 0]) (t := 25) ?hr ?_; (case hd => rfl); (case hg => rfl); (case hr => first | (go_simp; done) | (go_simp; rfl)); intro gb101 hg w7 hbox hb; have n0_ := Aside0.mk (below_step (by repeat (first | (with_reducible first | exact HB.out | apply below_alloc | apply pw_below_drewN | apply below_drew1) | exact HB.out)) hb); have n1_ := Aside0.mk ((show IsS25 w _ gb101 l0 0 from ⟨_, _, hbox, (by rw [hg]; exact (below_size (by repeat (first | (with_reducible first | exact HB.out | apply below_alloc | apply pw_below_drewN | apply below_drew1) | exact HB.out))) : w.heap.size ≤ gb101), HR0.out⟩)); have n2_ := Aside0.mk ((by rw [hg]; exact (below_size (by repeat (first | (with_reducible first | exact HB.out | apply below_alloc | apply pw_below_drewN | apply below_drew1) | exact HB.out))) : w.heap.size ≤ gb101)); have n3_ := n2_; clear HB; have HB := n0_; have HI101 := n1_; have GW101 := n2_; have GE101 := n3_; clear n0_ n1_ n2_ n3_; clear hb hbox hg) | ((with_reducible refine gate_callee (f := 13) rfl ?_); refine goesL_ (some 23) rfl rfl Try.func13 (by kernel_rfl) rfl #[.pointer (some ⟨gb101, 0, none⟩)] rfl (by (try simp only [List.map_toArray, List.map_cons, List.map_nil]); first | done | rfl | (simp only [List.length_drop, List.length_take]; rfl)) ?_; (with_reducible refine (spykeep1_running.calls k gb101 l0 0 t102 t103 t104 t107 t108 t109 t110 t111 t112 w _ ?side1 ?side2 A3.out).mono ?_); (case side1 => repeat (first | (with_reducible first | exact HI101.out | apply IsS25.alloc | apply IsS25.drewN | apply IsS25.drew | apply IsS25.set_1) | exact HI101.out)); (case side2 => repeat (first | (with_reducible first | exact HB.out | apply below_alloc | apply pw_below_drewN | apply below_drew1 | refine below_set ?_ (IsS25.ge HI101.out)) | exact HB.out)); rintro e w8 ⟨v105, rfl, ho0, hi, hb, hk⟩; refine ⟨_, rfl, ?_⟩; have n0_ := Aside0.mk (Kd.R_lower ho0 (below_size (by repeat (first | (with_reducible first | exact HB.out | apply below_alloc | apply pw_below_drewN | apply below_drew1 | refine below_set ?_ (IsS25.ge HI101.out)) | exact HB.out)))); have n1_ := Aside0.mk (hb); have n2_ := Aside0.mk (hi); clear HB; clear HI101; have HO106 := n0_; have HB := n1_; have HI101 := n2_; clear n0_ n1_ n2_; (try clear hb); (try clear hb2); (try clear hk); (try clear hi); (try clear ho0)) | ((with_reducible refine gate_dst (N := 6) rfl ?_); refine box_event ?hg (N := 6) ?hd (cs := #[.int .i64 0, .int .i64 0, .slice none 0 0]) (t := 29) ?hr ?_; (case hd => rfl); (case hg => rfl); (case hr => first | (go_simp; done) | (go_simp; rfl)); intro gb113 hg w9 hbox hb; have n0_ := Aside0.mk (Kd.R_below (by (with_reducible repeat (first | apply Kd.R_alloc | apply Kd.R_drewN | apply Kd.R_drew)); exact HO106.out) hb); have n1_ := Aside0.mk (IsS25.below (by repeat (first | (with_reducible first | exact HI101.out | apply IsS25.alloc | apply IsS25.drewN | apply IsS25.drew | apply IsS25.set_1) | exact HI101.out)) hb); have n2_ := Aside0.mk (below_step (by repeat (first | (with_reducible first | exact HB.out | apply below_alloc | apply pw_below_drewN | apply below_drew1 | refine below_set ?_ (IsS25.ge HI101.out)) | exact HB.out)) hb); have n3_ := Aside0.mk (hbox); have n4_ := Aside0.mk ((by rw [hg]; exact (below_size (by repeat (first | (with_reducible first | exact HB.out | apply below_alloc | apply pw_below_drewN | apply below_drew1 | refine below_set ?_ (IsS25.ge HI101.out)) | exact HB.out))) : w.heap.size ≤ gb113)); have n5_ := n4_; have n6_ := Aside0.mk ((by rw [hg]; exact Nat.ne_of_lt (IsS25.lt (show IsS25 w _ gb101 l0 t112 from by repeat (first | (with_reducible first | exact HI101.out | apply IsS25.alloc | apply IsS25.drewN | apply IsS25.drew | apply IsS25.set_1) | exact HI101.out))) : gb101 ≠ gb113)); have n7_ := Aside0.mk ((by rw [hg]; exact Nat.ne_of_gt (IsS25.lt (show IsS25 w _ gb101 l0 t112 from by repeat (first | (with_reducible first | exact HI101.out | apply IsS25.alloc | apply IsS25.drewN | apply IsS25.drew | apply IsS25.set_1) | exact HI101.out))) : gb113 ≠ gb101)); clear HO106; clear HI101; clear HB; have HO106 := n0_; have HI101 := n1_; have HB := n2_; have BK113 := n3_; have GW113 := n4_; have GE113 := n5_; have NB101_113 := n6_; have NB113_101 := n7_; clear n0_ n1_ n2_ n3_ n4_ n5_ n6_ n7_; clear hb hbox hg) | ((with_reducible refine gate_dst (N := 7) rfl ?_); refine box_event ?hg (N := 7) ?hd (cs := #[.int .i64 0, .int .i64 0, .int .i64 0, .bool false, .int .i64 0]) (t := 33) ?hr ?_; (case hd => rfl); (case hg => rfl); (case hr => first | (go_simp; done) | (go_simp; rfl)); intro gb114 hg w10 hbox hb; have n0_ := Aside0.mk (Kd.R_below (by (with_reducible repeat (first | apply Kd.R_alloc | apply Kd.R_drewN | apply Kd.R_drew)); exact HO106.out) hb); have n1_ := Aside0.mk (IsS25.below (by repeat (first | (with_reducible first | exact HI101.out | apply IsS25.alloc | apply IsS25.drewN | apply IsS25.drew | apply IsS25.set_1 | refine IsS25.far ?_ NB101_113.out _) | exact HI101.out)) hb); have n2_ := bkb_ BK113 hb rfl; have n3_ := Aside0.mk (below_step (by repeat (first | (with_reducible first | exact HB.out | apply below_alloc | apply pw_below_drewN | apply below_drew1 | refine below_set ?_ (IsS25.ge HI101.out) | refine below_set ?_ GE113.out) | exact HB.out)) hb); have n4_ := Aside0.mk (hbox); have n5_ := Aside0.mk ((by rw [hg]; exact (below_size (by repeat (first | (with_reducible first | exact HB.out | apply below_alloc | apply pw_below_drewN | apply below_drew1 | refine below_set ?_ (IsS25.ge HI101.out) | refine below_set ?_ GE113.out) | exact HB.out))) : w.heap.size ≤ gb114)); have n6_ := n5_; have n7_ := nbl_ BK113 hg rfl; have n8_ := nbg_ BK113 hg rfl; have n9_ := Aside0.mk ((by rw [hg]; exact Nat.ne_of_lt (IsS25.lt (show IsS25 w _ gb101 l0 t112 from by repeat (first | (with_reducible first | exact HI101.out | apply IsS25.alloc | apply IsS25.drewN | apply IsS25.drew | apply IsS25.set_1 | refine IsS25.far ?_ NB101_113.out _) | exact HI101.out))) : gb101 ≠ gb114)); have n10_ := Aside0.mk ((by rw [hg]; exact Nat.ne_of_gt (IsS25.lt (show IsS25 w _ gb101 l0 t112 from by repeat (first | (with_reducible first | exact HI101.out | apply IsS25.alloc | apply IsS25.drewN | apply IsS25.drew | apply IsS25.set_1 | refine IsS25.far ?_ NB101_113.out _) | exact HI101.out))) : gb114 ≠ gb101)); clear HO106; clear HI101; clear BK113; clear HB; have HO106 := n0_; have HI101 := n1_; have BK113 := n2_; have HB := n3_; have BK114 := n4_; have GW114 := n5_; have GE114 := n6_; have NB113_114 := n7_; have NB114_113 := n8_; have NB101_114 := n9_; have NB114_101 := n10_; clear n0_ n1_ n2_ n3_ n4_ n5_ n6_ n7_ n8_ n9_ n10_; clear hb hbox hg; have hnb11 := NB113_114.out; have hnc11 := NB114_113.out; have hnb12 := NB113_101.out; have hnc12 := NB101_113.out; have hcz13_0 : w10.cell? ⟨gb113, 0, none⟩ = some (.int .i64 0) := (blk_cell BK113.out 0).trans rfl; have hcz13_1 : w10.cell? ⟨gb113, 1, none⟩ = some (.int .i64 0) := (blk_cell BK113.out 1).trans rfl; have hcz13_2 : w10.cell? ⟨gb113, 2, none⟩ = some (.slice none 0 0) := (blk_cell BK113.out 2).trans rfl; have hfz13_0 := blk_frozen BK113.out 0; have hfz13_1 := blk_frozen BK113.out 1; have hfz13_2 := blk_frozen BK113.out 2; obtain ⟨Ao14, co14, eo14⟩ := Kd.R_slice HO106.out; subst eo14; have hnb15 := NB114_101.out; have hnc15 := NB101_114.out; have hcz16_0 : w10.cell? ⟨gb114, 0, none⟩ = some (.int .i64 0) := (blk_cell BK114.out 0).trans rfl; have hcz16_1 : w10.cell? ⟨gb114, 1, none⟩ = some (.int .i64 0) := (blk_cell BK114.out 1).trans rfl; have hcz16_2 : w10.cell? ⟨gb114, 2, none⟩ = some (.int .i64 0) := (blk_cell BK114.out 2).trans rfl; have hcz16_3 : w10.cell? ⟨gb114, 3, none⟩ = some (.bool false) := (blk_cell BK114.out 3).trans rfl; have hcz16_4 : w10.cell? ⟨gb114, 4, none⟩ = some (.int .i64 0) := (blk_cell BK114.out 4).trans rfl; have hfz16_0 := blk_frozen BK114.out 0; have hfz16_1 := blk_frozen BK114.out 1; have hfz16_2 := blk_frozen BK114.out 2; have hfz16_3 := blk_frozen BK114.out 3; have hfz16_4 := blk_frozen BK114.out 4) | ((with_reducible refine gate_callee (f := 14) rfl ?_); refine goesL_ (some 28) rfl rfl Try.func14 (by kernel_rfl) rfl #[] rfl (by (try simp only [List.map_toArray, List.map_cons, List.map_nil]); first | done | rfl | (simp only [List.length_drop, List.length_take]; rfl)) ?_; (with_reducible refine (spykeep1_clockFact.calls k  true _ A4.out).mono ?_); rintro e w17 ⟨rfl, hb⟩; refine ⟨_, rfl, ?_⟩; have n0_ := Aside0.mk (Kd.R_below (by (with_reducible repeat (first | apply Kd.R_alloc | apply Kd.R_drewN | apply Kd.R_drew)); exact (Kd.R_mono (Kd.R_mono (Kd.R_far (p := ⟨gb114, 4, none⟩) (Kd.R_far (p := ⟨gb114, 3, none⟩) (Kd.R_far (p := ⟨gb114, 2, none⟩) (Kd.R_far (p := ⟨gb114, 1, none⟩) (Kd.R_far (p := ⟨gb114, 0, none⟩) (Kd.R_far (p := ⟨gb113, 2, none⟩) (Kd.R_far (p := ⟨gb113, 1, none⟩) (Kd.R_far (p := ⟨gb113, 0, none⟩) (Kd.R_types (Kd.R_types HO106.out BK113.out (by decide)) BK114.out (by decide)) (fun _ hk => hk.1.2) (.int .i64 t102)) (fun _ hk => hk.1.2) (.int .i64 t103)) (fun _ hk => hk.1.2) (.slice Ao14 t104.length co14)) (fun _ hk => hk.2) (.int .i64 t107)) (fun _ hk => hk.2) (.int .i64 t108)) (fun _ hk => hk.2) (.int .i64 t109)) (fun _ hk => hk.2) (.bool t110)) (fun _ hk => hk.2) (.int .i64 t111)) (fun _ h_ => h_.1)) (fun _ h_ => h_.1))) hb); have n1_ := Aside0.mk (IsS25.below (show IsS25 w ((((((((w10.setCell ⟨gb113, 0, none⟩ (.int .i64 t102)).setCell ⟨gb113, 1, none⟩ (.int .i64 t103)).setCell ⟨gb113, 2, none⟩ (.slice Ao14 t104.length co14)).setCell ⟨gb114, 0, none⟩ (.int .i64 t107)).setCell ⟨gb114, 1, none⟩ (.int .i64 t108)).setCell ⟨gb114, 2, none⟩ (.int .i64 t109)).setCell ⟨gb114, 3, none⟩ (.bool t110)).setCell ⟨gb114, 4, none⟩ (.int .i64 t111)) gb101 l0 t112 from by repeat (first | (with_reducible first | exact HI101.out | apply IsS25.alloc | apply IsS25.drewN | apply IsS25.drew | apply IsS25.set_1 | refine IsS25.far ?_ NB101_113.out _ | refine IsS25.far ?_ NB101_114.out _) | exact HI101.out)) hb); have n2_ := Aside0.mk (blk_below (g := gb113) (o := .cells #[.int .i64 t102, .int .i64 t103, .slice Ao14 t104.length co14] 29 (0, 0)) (by (with_reducible repeat (first | refine blk_drewN ?_ _ | refine blk_drew ?_ | refine blk_alloc ?_ _)); refine blk_far ?_ NB113_114.out _; (with_reducible repeat (first | refine blk_drewN ?_ _ | refine blk_drew ?_ | refine blk_alloc ?_ _)); refine blk_far ?_ NB113_114.out _; (with_reducible repeat (first | refine blk_drewN ?_ _ | refine blk_drew ?_ | refine blk_alloc ?_ _)); refine blk_far ?_ NB113_114.out _; (with_reducible repeat (first | refine blk_drewN ?_ _ | refine blk_drew ?_ | refine blk_alloc ?_ _)); refine blk_far ?_ NB113_114.out _; (with_reducible repeat (first | refine blk_drewN ?_ _ | refine blk_drew ?_ | refine blk_alloc ?_ _)); refine blk_far ?_ NB113_114.out _; (with_reducible repeat (first | refine blk_drewN ?_ _ | refine blk_drew ?_ | refine blk_alloc ?_ _)); refine blk_put (cs := #[.int .i64 t102, .int .i64 t103, .slice none 0 0]) ?_ 2 _ rfl; (with_reducible repeat (first | refine blk_drewN ?_ _ | refine blk_drew ?_ | refine blk_alloc ?_ _)); refine blk_put (cs := #[.int .i64 t102, .int .i64 0, .slice none 0 0]) ?_ 1 _ rfl; (with_reducible repeat (first | refine blk_drewN ?_ _ | refine blk_drew ?_ | refine blk_alloc ?_ _)); refine blk_put (cs := #[.int .i64 0, .int .i64 0, .slice none 0 0]) ?_ 0 _ rfl; (with_reducible repeat (first | refine blk_drewN ?_ _ | refine blk_drew ?_ | refine blk_alloc ?_ _)); exact BK113.out) hb); have n3_ := Aside0.mk (blk_below (g := gb114) (o := .cells #[.int .i64 t107, .int .i64 t108, .int .i64 t109, .bool t110, .int .i64 t111] 33 (0, 0)) (by (with_reducible repeat (first | refine blk_drewN ?_ _ | refine blk_drew ?_ | refine blk_alloc ?_ _)); refine blk_put (cs := #[.int .i64 t107, .int .i64 t108, .int .i64 t109, .bool t110, .int .i64 0]) ?_ 4 _ rfl; (with_reducible repeat (first | refine blk_drewN ?_ _ | refine blk_drew ?_ | refine blk_alloc ?_ _)); refine blk_put (cs := #[.int .i64 t107, .int .i64 t108, .int .i64 t109, .bool false, .int .i64 0]) ?_ 3 _ rfl; (with_reducible repeat (first | refine blk_drewN ?_ _ | refine blk_drew ?_ | refine blk_alloc ?_ _)); refine blk_put (cs := #[.int .i64 t107, .int .i64 t108, .int .i64 0, .bool false, .int .i64 0]) ?_ 2 _ rfl; (with_reducible repeat (first | refine blk_drewN ?_ _ | refine blk_drew ?_ | refine blk_alloc ?_ _)); refine blk_put (cs := #[.int .i64 t107, .int .i64 0, .int .i64 0, .bool false, .int .i64 0]) ?_ 1 _ rfl; (with_reducible repeat (first | refine blk_drewN ?_ _ | refine blk_drew ?_ | refine blk_alloc ?_ _)); refine blk_put (cs := #[.int .i64 0, .int .i64 0, .int .i64 0, .bool false, .int .i64 0]) ?_ 0 _ rfl; (with_reducible repeat (first | refine blk_drewN ?_ _ | refine blk_drew ?_ | refine blk_alloc ?_ _)); refine blk_far ?_ NB114_113.out _; (with_reducible repeat (first | refine blk_drewN ?_ _ | refine blk_drew ?_ | refine blk_alloc ?_ _)); refine blk_far ?_ NB114_113.out _; (with_reducible repeat (first | refine blk_drewN ?_ _ | refine blk_drew ?_ | refine blk_alloc ?_ _)); refine blk_far ?_ NB114_113.out _; (with_reducible repeat (first | refine blk_drewN ?_ _ | refine blk_drew ?_ | refine blk_alloc ?_ _)); exact BK114.out) hb); have n4_ := Aside0.mk (below_step (by repeat (first | (with_reducible first | exact HB.out | apply below_alloc | apply pw_below_drewN | apply below_drew1 | refine below_set ?_ (IsS25.ge HI101.out) | refine below_set ?_ GE113.out | refine below_set ?_ GE114.out) | exact HB.out)) hb); clear HO106; clear HI101; clear BK113; clear BK114; clear HB; have HO106 := n0_; have HI101 := n1_; have BK113 := n2_; have BK114 := n3_; have HB := n4_; clear n0_ n1_ n2_ n3_ n4_; (try clear hb); (try clear hb2); (try clear hk); (try clear hi)) | ((with_reducible refine gate_callee (f := 15) rfl ?_); refine goesL_ (some 31) rfl rfl Try.func15 (by kernel_rfl) rfl #[.pointer (some ⟨gb101, 0, none⟩), .int .i64 4] rfl (by (try simp only [List.map_toArray, List.map_cons, List.map_nil]); first | done | rfl | (simp only [List.length_drop, List.length_take]; rfl)) ?_; (with_reducible refine (spymake_Stream_Next.calls gb101 l0 t112 4 t116 t117 w _ ?side1 ?side2 A6.out).mono ?_); (case side1 => repeat (first | (with_reducible first | exact HI101.out | apply IsS25.alloc | apply IsS25.drewN | apply IsS25.drew | apply IsS25.set_1 | refine IsS25.far ?_ NB101_113.out _ | refine IsS25.far ?_ NB101_114.out _) | exact HI101.out)); (case side2 => repeat (first | (with_reducible first | exact HB.out | apply below_alloc | apply pw_below_drewN | apply below_drew1 | refine below_set ?_ (IsS25.ge HI101.out) | refine below_set ?_ GE113.out | refine below_set ?_ GE114.out) | exact HB.out)); rintro e w18 ⟨rfl, hi, hb, hk⟩; refine ⟨_, rfl, ?_⟩; have n0_ := Aside0.mk (Kd.R_mono (Kd.R_keep (IsS25.apart (show IsS25 w _ gb101 l0 t112 from by repeat (first | (with_reducible first | exact HI101.out | apply IsS25.alloc | apply IsS25.drewN | apply IsS25.drew | apply IsS25.set_1 | refine IsS25.far ?_ NB101_113.out _ | refine IsS25.far ?_ NB101_114.out _) | exact HI101.out)) (by (with_reducible repeat (first | apply Kd.R_alloc | apply Kd.R_drewN | apply Kd.R_drew)); exact HO106.out) (by decide)) hk (fun _ h => h.2)) (fun _ h => h.1)); have n1_ := Aside0.mk (KeepBut.blk hk (g' := gb113) (o := .cells #[.int .i64 t102, .int .i64 t103, .slice Ao14 t104.length co14] 29 (0, 0)) BK113.out NB113_101.out (by simp)); have n2_ := Aside0.mk (KeepBut.blk hk (g' := gb114) (o := .cells #[.int .i64 t107, .int .i64 t108, .int .i64 t109, .bool t110, .int .i64 t111] 33 (0, 0)) BK114.out NB114_101.out (by simp)); have n3_ := Aside0.mk (hb); have n4_ := Aside0.mk (hi); clear HO106; clear BK113; clear BK114; clear HB; clear HI101; have HO106 := n0_; have BK113 := n1_; have BK114 := n2_; have HB := n3_; have HI101 := n4_; clear n0_ n1_ n2_ n3_ n4_; (try clear hb); (try clear hb2); (try clear hk); (try clear hi)))
   go_loopg [8, 33] k (fun kq v8 v33 w' => ∃ (x8_1 : Int) (x33_1 : Int) (x102001_1 : Int) (x115000_1 : Int) (x115001_1 : Int) (x115002_1 : Int) (x115003_1 : Bool) (x115004_1 : Int), v8 = .int .i64 x8_1 ∧ v33 = .int .i64 x33_1 ∧ Aside0 (spykeep1_ClockSyncTruth.l0 kq a1 x8_1 (wrap64 (t116 + 1)) x33_1 l0 x102001_1 t102 t103 t104 x115000_1 x115001_1 x115002_1 x115003_1 x115004_1 = some r) ∧ Aside0 (kq ≤ k) ∧ Aside0 (Kd.R k114 114 w' w.heap.size (fun _ => True) (.slice Ao14 t104.length co14) t104) ∧ Aside0 (w'.heap[gb113]? = some (.cells #[.int .i64 t102, .int .i64 t103, (.slice Ao14 t104.length co14)] 29 (0, 0))) ∧ Aside0 (w'.heap[gb114]? = some (.cells #[.int .i64 x115000_1, .int .i64 x115001_1, .int .i64 x115002_1, .bool x115003_1, .int .i64 x115004_1] 33 (0, 0))) ∧ Aside0 (IsS25 w w' gb101 l0 x102001_1) ∧ Aside0 (Below w.heap.size w w'))
   case atStart => exact ⟨(t103), (0), (t117), (t107), (t108), (t109), (t110), (t111), (by first | rfl | (simp; done) | (simp [*]; done)), (by first | rfl | (simp; done) | (simp [*]; done)), H', ⟨Nat.le_refl _⟩, ⟨by (with_reducible repeat (first | apply Kd.R_alloc | apply Kd.R_drewN | apply Kd.R_drew)); exact HO106.out⟩, ⟨by (with_reducible repeat (first | refine blk_drewN ?_ _ | refine blk_drew ?_ | refine blk_alloc ?_ _)); exact BK113.out⟩, ⟨by (with_reducible repeat (first | refine blk_drewN ?_ _ | refine blk_drew ?_ | refine blk_alloc ?_ _)); exact BK114.out⟩, ⟨by repeat (first | (with_reducible first | exact HI101.out | apply IsS25.alloc | apply IsS25.drewN | apply IsS25.drew | apply IsS25.set_1 | refine IsS25.far ?_ NB101_113.out _ | refine IsS25.far ?_ NB101_114.out _) | exact HI101.out)⟩, ⟨by repeat (first | (with_reducible first | exact HB.out | apply below_alloc | apply pw_below_drewN | apply below_drew1 | refine below_set ?_ (IsS25.ge HI101.out) | refine below_set ?_ GE113.out | refine below_set ?_ GE114.out) | exact HB.out)⟩⟩
   case round =>
    clear H'
    obtain ⟨x8_1, x33_1, x102001_1, x115000_1, x115001_1, x115002_1, x115003_1, x115004_1, rfl, rfl, HA, HK1, HO_114002, BK113, BK114, HI101, HB⟩ := hrel
    cases gk with
    | zero => exact absurd HA.out (by simp [spykeep1_ClockSyncTruth.l0])
    | succ k1 =>
     have H := HA.out
     clear HA
     simp only [spykeep1_ClockSyncTruth.l0] at H
     by_cases c19 : x33_1 < (wrap64 (t116 + 1))
     · rw [if_pos c19] at H
       have c19b0 : decide (x33_1 < (wrap64 (t116 + 1))) = true := decide_eq_true c19
       clear c19
       replace H := Option.bind_eq_some_iff.mp H
       obtain ⟨⟨t118, t119⟩, A200, H⟩ := H
       replace H : ((clock_Reads.f k1 t102 t103 t104 (wrap64 (x8_1 + t118))).bind fun bt120 => ((spymake_Stream_Next.f l0 t119 400).bind fun bt122 => ((spymake_Stream_Next.f l0 bt122.2 9).bind fun bt124 => ((spymake_Stream_Next.f l0 bt124.2 9).bind fun bt126 => ((spymake_Stream_Next.f l0 bt126.2 400).bind fun bt129 => ((clock_Reads.f k1 t102 t103 t104 (wrap64 ((wrap64 ((wrap64 (x8_1 + t118)) + bt122.1)) + bt129.1))).bind fun bt131 => ((clock_Sync.f k1 x115000_1 x115001_1 x115002_1 x115003_1 x115004_1 bt120.1 bt131.1 (wrap64 ((wrap64 ((wrap64 (x8_1 + t118)) + bt122.1)) - bt124.1)) (wrap64 ((wrap64 ((wrap64 (x8_1 + t118)) + bt122.1)) + bt126.1)) false).bind fun bt133 => (if bt120.2 = 0 then (if bt131.2 = 0 then (if bt133.2.2.2.2.2 = 0 then ((bound_Has_api_Tick.f k1 bt133.2.1 bt133.2.2.1 bt133.2.2.2.1 (wrap64 ((wrap64 ((wrap64 (x8_1 + t118)) + bt122.1)) + bt129.1))).bind fun t140 => (if t140 = true then ((clock_Uniform.f k1 x115000_1 x115001_1 x115002_1 x115003_1 x115004_1 bt131.1).bind fun bt141 => ((bound_Inside_api_Tick.f k1 bt133.2.1 bt133.2.2.1 bt133.2.2.2.1 bt141.1 bt141.2.1 bt141.2.2).bind fun t144 => (if t144 = true then (spykeep1_ClockSyncTruth.l0 k1 a1 (wrap64 ((wrap64 ((wrap64 (x8_1 + t118)) + bt122.1)) + bt129.1)) (wrap64 (t116 + 1)) (wrap64 (x33_1 + 1)) l0 bt129.2 t102 t103 t104 bt133.1 bt133.2.1 bt133.2.2.1 bt133.2.2.2.1 bt133.2.2.2.2.1) else (none)))) else (none))) else (none)) else (none)) else (none))))))))) = some r := H
       have A20 := Aside0.mk A200
       clear A200
       replace H := Option.bind_eq_some_iff.mp H
       obtain ⟨⟨t120, t121⟩, A210, H⟩ := H
       replace H : ((spymake_Stream_Next.f l0 t119 400).bind fun bt122 => ((spymake_Stream_Next.f l0 bt122.2 9).bind fun bt124 => ((spymake_Stream_Next.f l0 bt124.2 9).bind fun bt126 => ((spymake_Stream_Next.f l0 bt126.2 400).bind fun bt129 => ((clock_Reads.f k1 t102 t103 t104 (wrap64 ((wrap64 ((wrap64 (x8_1 + t118)) + bt122.1)) + bt129.1))).bind fun bt131 => ((clock_Sync.f k1 x115000_1 x115001_1 x115002_1 x115003_1 x115004_1 t120 bt131.1 (wrap64 ((wrap64 ((wrap64 (x8_1 + t118)) + bt122.1)) - bt124.1)) (wrap64 ((wrap64 ((wrap64 (x8_1 + t118)) + bt122.1)) + bt126.1)) false).bind fun bt133 => (if t121 = 0 then (if bt131.2 = 0 then (if bt133.2.2.2.2.2 = 0 then ((bound_Has_api_Tick.f k1 bt133.2.1 bt133.2.2.1 bt133.2.2.2.1 (wrap64 ((wrap64 ((wrap64 (x8_1 + t118)) + bt122.1)) + bt129.1))).bind fun t140 => (if t140 = true then ((clock_Uniform.f k1 x115000_1 x115001_1 x115002_1 x115003_1 x115004_1 bt131.1).bind fun bt141 => ((bound_Inside_api_Tick.f k1 bt133.2.1 bt133.2.2.1 bt133.2.2.2.1 bt141.1 bt141.2.1 bt141.2.2).bind fun t144 => (if t144 = true then (spykeep1_ClockSyncTruth.l0 k1 a1 (wrap64 ((wrap64 ((wrap64 (x8_1 + t118)) + bt122.1)) + bt129.1)) (wrap64 (t116 + 1)) (wrap64 (x33_1 + 1)) l0 bt129.2 t102 t103 t104 bt133.1 bt133.2.1 bt133.2.2.1 bt133.2.2.2.1 bt133.2.2.2.2.1) else (none)))) else (none))) else (none)) else (none)) else (none)))))))) = some r := H
       have A21 := Aside0.mk A210
       clear A210
       replace H := Option.bind_eq_some_iff.mp H
       obtain ⟨⟨t122, t123⟩, A220, H⟩ := H
       replace H : ((spymake_Stream_Next.f l0 t123 9).bind fun bt124 => ((spymake_Stream_Next.f l0 bt124.2 9).bind fun bt126 => ((spymake_Stream_Next.f l0 bt126.2 400).bind fun bt129 => ((clock_Reads.f k1 t102 t103 t104 (wrap64 ((wrap64 ((wrap64 (x8_1 + t118)) + t122)) + bt129.1))).bind fun bt131 => ((clock_Sync.f k1 x115000_1 x115001_1 x115002_1 x115003_1 x115004_1 t120 bt131.1 (wrap64 ((wrap64 ((wrap64 (x8_1 + t118)) + t122)) - bt124.1)) (wrap64 ((wrap64 ((wrap64 (x8_1 + t118)) + t122)) + bt126.1)) false).bind fun bt133 => (if t121 = 0 then (if bt131.2 = 0 then (if bt133.2.2.2.2.2 = 0 then ((bound_Has_api_Tick.f k1 bt133.2.1 bt133.2.2.1 bt133.2.2.2.1 (wrap64 ((wrap64 ((wrap64 (x8_1 + t118)) + t122)) + bt129.1))).bind fun t140 => (if t140 = true then ((clock_Uniform.f k1 x115000_1 x115001_1 x115002_1 x115003_1 x115004_1 bt131.1).bind fun bt141 => ((bound_Inside_api_Tick.f k1 bt133.2.1 bt133.2.2.1 bt133.2.2.2.1 bt141.1 bt141.2.1 bt141.2.2).bind fun t144 => (if t144 = true then (spykeep1_ClockSyncTruth.l0 k1 a1 (wrap64 ((wrap64 ((wrap64 (x8_1 + t118)) + t122)) + bt129.1)) (wrap64 (t116 + 1)) (wrap64 (x33_1 + 1)) l0 bt129.2 t102 t103 t104 bt133.1 bt133.2.1 bt133.2.2.1 bt133.2.2.2.1 bt133.2.2.2.2.1) else (none)))) else (none))) else (none)) else (none)) else (none))))))) = some r := H
       have A22 := Aside0.mk A220
       clear A220
       replace H := Option.bind_eq_some_iff.mp H
       obtain ⟨⟨t124, t125⟩, A230, H⟩ := H
       replace H : ((spymake_Stream_Next.f l0 t125 9).bind fun bt126 => ((spymake_Stream_Next.f l0 bt126.2 400).bind fun bt129 => ((clock_Reads.f k1 t102 t103 t104 (wrap64 ((wrap64 ((wrap64 (x8_1 + t118)) + t122)) + bt129.1))).bind fun bt131 => ((clock_Sync.f k1 x115000_1 x115001_1 x115002_1 x115003_1 x115004_1 t120 bt131.1 (wrap64 ((wrap64 ((wrap64 (x8_1 + t118)) + t122)) - t124)) (wrap64 ((wrap64 ((wrap64 (x8_1 + t118)) + t122)) + bt126.1)) false).bind fun bt133 => (if t121 = 0 then (if bt131.2 = 0 then (if bt133.2.2.2.2.2 = 0 then ((bound_Has_api_Tick.f k1 bt133.2.1 bt133.2.2.1 bt133.2.2.2.1 (wrap64 ((wrap64 ((wrap64 (x8_1 + t118)) + t122)) + bt129.1))).bind fun t140 => (if t140 = true then ((clock_Uniform.f k1 x115000_1 x115001_1 x115002_1 x115003_1 x115004_1 bt131.1).bind fun bt141 => ((bound_Inside_api_Tick.f k1 bt133.2.1 bt133.2.2.1 bt133.2.2.2.1 bt141.1 bt141.2.1 bt141.2.2).bind fun t144 => (if t144 = true then (spykeep1_ClockSyncTruth.l0 k1 a1 (wrap64 ((wrap64 ((wrap64 (x8_1 + t118)) + t122)) + bt129.1)) (wrap64 (t116 + 1)) (wrap64 (x33_1 + 1)) l0 bt129.2 t102 t103 t104 bt133.1 bt133.2.1 bt133.2.2.1 bt133.2.2.2.1 bt133.2.2.2.2.1) else (none)))) else (none))) else (none)) else (none)) else (none)))))) = some r := H
       have A23 := Aside0.mk A230
       clear A230
       replace H := Option.bind_eq_some_iff.mp H
       obtain ⟨⟨t126, t127⟩, A240, H⟩ := H
       replace H : ((spymake_Stream_Next.f l0 t127 400).bind fun bt129 => ((clock_Reads.f k1 t102 t103 t104 (wrap64 ((wrap64 ((wrap64 (x8_1 + t118)) + t122)) + bt129.1))).bind fun bt131 => ((clock_Sync.f k1 x115000_1 x115001_1 x115002_1 x115003_1 x115004_1 t120 bt131.1 (wrap64 ((wrap64 ((wrap64 (x8_1 + t118)) + t122)) - t124)) (wrap64 ((wrap64 ((wrap64 (x8_1 + t118)) + t122)) + t126)) false).bind fun bt133 => (if t121 = 0 then (if bt131.2 = 0 then (if bt133.2.2.2.2.2 = 0 then ((bound_Has_api_Tick.f k1 bt133.2.1 bt133.2.2.1 bt133.2.2.2.1 (wrap64 ((wrap64 ((wrap64 (x8_1 + t118)) + t122)) + bt129.1))).bind fun t140 => (if t140 = true then ((clock_Uniform.f k1 x115000_1 x115001_1 x115002_1 x115003_1 x115004_1 bt131.1).bind fun bt141 => ((bound_Inside_api_Tick.f k1 bt133.2.1 bt133.2.2.1 bt133.2.2.2.1 bt141.1 bt141.2.1 bt141.2.2).bind fun t144 => (if t144 = true then (spykeep1_ClockSyncTruth.l0 k1 a1 (wrap64 ((wrap64 ((wrap64 (x8_1 + t118)) + t122)) + bt129.1)) (wrap64 (t116 + 1)) (wrap64 (x33_1 + 1)) l0 bt129.2 t102 t103 t104 bt133.1 bt133.2.1 bt133.2.2.1 bt133.2.2.2.1 bt133.2.2.2.2.1) else (none)))) else (none))) else (none)) else (none)) else (none))))) = some r := H
       have A24 := Aside0.mk A240
       clear A240
       replace H := Option.bind_eq_some_iff.mp H
       obtain ⟨⟨t129, t130⟩, A250, H⟩ := H
       replace H : ((clock_Reads.f k1 t102 t103 t104 (wrap64 ((wrap64 ((wrap64 (x8_1 + t118)) + t122)) + t129))).bind fun bt131 => ((clock_Sync.f k1 x115000_1 x115001_1 x115002_1 x115003_1 x115004_1 t120 bt131.1 (wrap64 ((wrap64 ((wrap64 (x8_1 + t118)) + t122)) - t124)) (wrap64 ((wrap64 ((wrap64 (x8_1 + t118)) + t122)) + t126)) false).bind fun bt133 => (if t121 = 0 then (if bt131.2 = 0 then (if bt133.2.2.2.2.2 = 0 then ((bound_Has_api_Tick.f k1 bt133.2.1 bt133.2.2.1 bt133.2.2.2.1 (wrap64 ((wrap64 ((wrap64 (x8_1 + t118)) + t122)) + t129))).bind fun t140 => (if t140 = true then ((clock_Uniform.f k1 x115000_1 x115001_1 x115002_1 x115003_1 x115004_1 bt131.1).bind fun bt141 => ((bound_Inside_api_Tick.f k1 bt133.2.1 bt133.2.2.1 bt133.2.2.2.1 bt141.1 bt141.2.1 bt141.2.2).bind fun t144 => (if t144 = true then (spykeep1_ClockSyncTruth.l0 k1 a1 (wrap64 ((wrap64 ((wrap64 (x8_1 + t118)) + t122)) + t129)) (wrap64 (t116 + 1)) (wrap64 (x33_1 + 1)) l0 t130 t102 t103 t104 bt133.1 bt133.2.1 bt133.2.2.1 bt133.2.2.2.1 bt133.2.2.2.2.1) else (none)))) else (none))) else (none)) else (none)) else (none)))) = some r := H
       have A25 := Aside0.mk A250
       clear A250
       replace H := Option.bind_eq_some_iff.mp H
       obtain ⟨⟨t131, t132⟩, A260, H⟩ := H
       replace H : ((clock_Sync.f k1 x115000_1 x115001_1 x115002_1 x115003_1 x115004_1 t120 t131 (wrap64 ((wrap64 ((wrap64 (x8_1 + t118)) + t122)) - t124)) (wrap64 ((wrap64 ((wrap64 (x8_1 + t118)) + t122)) + t126)) false).bind fun bt133 => (if t121 = 0 then (if t132 = 0 then (if bt133.2.2.2.2.2 = 0 then ((bound_Has_api_Tick.f k1 bt133.2.1 bt133.2.2.1 bt133.2.2.2.1 (wrap64 ((wrap64 ((wrap64 (x8_1 + t118)) + t122)) + t129))).bind fun t140 => (if t140 = true then ((clock_Uniform.f k1 x115000_1 x115001_1 x115002_1 x115003_1 x115004_1 t131).bind fun bt141 => ((bound_Inside_api_Tick.f k1 bt133.2.1 bt133.2.2.1 bt133.2.2.2.1 bt141.1 bt141.2.1 bt141.2.2).bind fun t144 => (if t144 = true then (spykeep1_ClockSyncTruth.l0 k1 a1 (wrap64 ((wrap64 ((wrap64 (x8_1 + t118)) + t122)) + t129)) (wrap64 (t116 + 1)) (wrap64 (x33_1 + 1)) l0 t130 t102 t103 t104 bt133.1 bt133.2.1 bt133.2.2.1 bt133.2.2.2.1 bt133.2.2.2.2.1) else (none)))) else (none))) else (none)) else (none)) else (none))) = some r := H
       have A26 := Aside0.mk A260
       clear A260
       replace H := Option.bind_eq_some_iff.mp H
       obtain ⟨⟨t133, t134, t135, t136, t137, t138⟩, A270, H⟩ := H
       replace H : (if t121 = 0 then (if t132 = 0 then (if t138 = 0 then ((bound_Has_api_Tick.f k1 t134 t135 t136 (wrap64 ((wrap64 ((wrap64 (x8_1 + t118)) + t122)) + t129))).bind fun t140 => (if t140 = true then ((clock_Uniform.f k1 x115000_1 x115001_1 x115002_1 x115003_1 x115004_1 t131).bind fun bt141 => ((bound_Inside_api_Tick.f k1 t134 t135 t136 bt141.1 bt141.2.1 bt141.2.2).bind fun t144 => (if t144 = true then (spykeep1_ClockSyncTruth.l0 k1 a1 (wrap64 ((wrap64 ((wrap64 (x8_1 + t118)) + t122)) + t129)) (wrap64 (t116 + 1)) (wrap64 (x33_1 + 1)) l0 t130 t102 t103 t104 t133 t134 t135 t136 t137) else (none)))) else (none))) else (none)) else (none)) else (none)) = some r := H
       have A27 := Aside0.mk A270
       clear A270
       by_cases c28 : t121 = 0
       · rw [if_pos c28] at H
         have c28b0 : (t121 == 0) = true := beq_iff_eq.mpr c28
         have c28b1 : (t121 != 0) = false := bne_eq_false_iff_eq.mpr c28
         clear c28
         by_cases c29 : t132 = 0
         · rw [if_pos c29] at H
           have c29b0 : (t132 == 0) = true := beq_iff_eq.mpr c29
           have c29b1 : (t132 != 0) = false := bne_eq_false_iff_eq.mpr c29
           clear c29
           by_cases c30 : t138 = 0
           · rw [if_pos c30] at H
             have c30b0 : (t138 == 0) = true := beq_iff_eq.mpr c30
             have c30b1 : (t138 != 0) = false := bne_eq_false_iff_eq.mpr c30
             clear c30
             replace H := Option.bind_eq_some_iff.mp H
             obtain ⟨t140, A310, H⟩ := H
             replace H : (if t140 = true then ((clock_Uniform.f k1 x115000_1 x115001_1 x115002_1 x115003_1 x115004_1 t131).bind fun bt141 => ((bound_Inside_api_Tick.f k1 t134 t135 t136 bt141.1 bt141.2.1 bt141.2.2).bind fun t144 => (if t144 = true then (spykeep1_ClockSyncTruth.l0 k1 a1 (wrap64 ((wrap64 ((wrap64 (x8_1 + t118)) + t122)) + t129)) (wrap64 (t116 + 1)) (wrap64 (x33_1 + 1)) l0 t130 t102 t103 t104 t133 t134 t135 t136 t137) else (none)))) else (none)) = some r := H
             have A31 := Aside0.mk A310
             clear A310
             by_cases c32 : t140 = true
             · subst c32
               have H1 : ((clock_Uniform.f k1 x115000_1 x115001_1 x115002_1 x115003_1 x115004_1 t131).bind fun bt141 => ((bound_Inside_api_Tick.f k1 t134 t135 t136 bt141.1 bt141.2.1 bt141.2.2).bind fun t144 => (if t144 = true then (spykeep1_ClockSyncTruth.l0 k1 a1 (wrap64 ((wrap64 ((wrap64 (x8_1 + t118)) + t122)) + t129)) (wrap64 (t116 + 1)) (wrap64 (x33_1 + 1)) l0 t130 t102 t103 t104 t133 t134 t135 t136 t137) else (none)))) = some r := by rw [if_pos rfl] at H; exact H
               clear H
               have H := H1
               clear H1
               replace H := Option.bind_eq_some_iff.mp H
               obtain ⟨⟨t141, t142, t143⟩, A330, H⟩ := H
               replace H : ((bound_Inside_api_Tick.f k1 t134 t135 t136 t141 t142 t143).bind fun t144 => (if t144 = true then (spykeep1_ClockSyncTruth.l0 k1 a1 (wrap64 ((wrap64 ((wrap64 (x8_1 + t118)) + t122)) + t129)) (wrap64 (t116 + 1)) (wrap64 (x33_1 + 1)) l0 t130 t102 t103 t104 t133 t134 t135 t136 t137) else (none))) = some r := H
               have A33 := Aside0.mk A330
               clear A330
               replace H := Option.bind_eq_some_iff.mp H
               obtain ⟨t144, A340, H⟩ := H
               replace H : (if t144 = true then (spykeep1_ClockSyncTruth.l0 k1 a1 (wrap64 ((wrap64 ((wrap64 (x8_1 + t118)) + t122)) + t129)) (wrap64 (t116 + 1)) (wrap64 (x33_1 + 1)) l0 t130 t102 t103 t104 t133 t134 t135 t136 t137) else (none)) = some r := H
               have A34 := Aside0.mk A340
               clear A340
               by_cases c35 : t144 = true
               · subst c35
                 have H1 : (spykeep1_ClockSyncTruth.l0 k1 a1 (wrap64 ((wrap64 ((wrap64 (x8_1 + t118)) + t122)) + t129)) (wrap64 (t116 + 1)) (wrap64 (x33_1 + 1)) l0 t130 t102 t103 t104 t133 t134 t135 t136 t137) = some r := by rw [if_pos rfl] at H; exact H
                 clear H
                 have H := H1
                 clear H1
                 have H' := Aside0.mk H
                 clear H
                 try go_wp2_with (first | ((with_reducible refine gate_callee (f := 15) rfl ?_); refine goesL_ (some 37) rfl rfl Try.func15 (by kernel_rfl) rfl #[.pointer (some ⟨gb101, 0, none⟩), .int .i64 3000] rfl (by (try simp only [List.map_toArray, List.map_cons, List.map_nil]); first | done | rfl | (simp only [List.length_drop, List.length_take]; rfl)) ?_; (with_reducible refine (spymake_Stream_Next.calls gb101 l0 x102001_1 3000 t118 t119 w _ ?side1 ?side2 A20.out).mono ?_); (case side1 => repeat (first | (with_reducible first | exact HI101.out | apply IsS25.alloc | apply IsS25.drewN | apply IsS25.drew | apply IsS25.set_1 | refine IsS25.far ?_ NB101_113.out _ | refine IsS25.far ?_ NB101_114.out _) | exact HI101.out)); (case side2 => repeat (first | (with_reducible first | exact HB.out | apply below_alloc | apply pw_below_drewN | apply below_drew1 | refine below_set ?_ (IsS25.ge HI101.out) | refine below_set ?_ GE113.out | refine below_set ?_ GE114.out) | exact HB.out)); rintro e w36 ⟨rfl, hi, hb, hk⟩; refine ⟨_, rfl, ?_⟩; have n0_ := Aside0.mk (Kd.R_mono (Kd.R_keep (IsS25.apart (show IsS25 w _ gb101 l0 x102001_1 from by repeat (first | (with_reducible first | exact HI101.out | apply IsS25.alloc | apply IsS25.drewN | apply IsS25.drew | apply IsS25.set_1 | refine IsS25.far ?_ NB101_113.out _ | refine IsS25.far ?_ NB101_114.out _) | exact HI101.out)) (by (with_reducible repeat (first | apply Kd.R_alloc | apply Kd.R_drewN | apply Kd.R_drew)); exact HO_114002.out) (by decide)) hk (fun _ h => h.2)) (fun _ h => h.1)); have n1_ := Aside0.mk (KeepBut.blk hk (g' := gb113) (o := .cells #[.int .i64 t102, .int .i64 t103, .slice Ao14 t104.length co14] 29 (0, 0)) BK113.out NB113_101.out (by simp)); have n2_ := Aside0.mk (KeepBut.blk hk (g' := gb114) (o := .cells #[.int .i64 x115000_1, .int .i64 x115001_1, .int .i64 x115002_1, .bool x115003_1, .int .i64 x115004_1] 33 (0, 0)) BK114.out NB114_101.out (by simp)); have n3_ := Aside0.mk (hb); have n4_ := Aside0.mk (hi); clear HO_114002; clear BK113; clear BK114; clear HB; clear HI101; have HO_114002 := n0_; have BK113 := n1_; have BK114 := n2_; have HB := n3_; have HI101 := n4_; clear n0_ n1_ n2_ n3_ n4_; (try clear hb); (try clear hb2); (try clear hk); (try clear hi); have hnb37 := NB113_114.out; have hnc37 := NB114_113.out; have hnb38 := NB113_101.out; have hnc38 := NB101_113.out; have hcz39_0 : w36.cell? ⟨gb113, 0, none⟩ = some (.int .i64 t102) := (blk_cell BK113.out 0).trans rfl; have hcz39_1 : w36.cell? ⟨gb113, 1, none⟩ = some (.int .i64 t103) := (blk_cell BK113.out 1).trans rfl; have hcz39_2 : w36.cell? ⟨gb113, 2, none⟩ = some (.slice Ao14 t104.length co14) := (blk_cell BK113.out 2).trans rfl; have hfz39_0 := blk_frozen BK113.out 0; have hfz39_1 := blk_frozen BK113.out 1; have hfz39_2 := blk_frozen BK113.out 2) | ((with_reducible refine gate_callee (f := 16) rfl ?_); refine goesL_ (some 42) rfl rfl Try.func16 (by kernel_rfl) rfl #[.agg #[.int .i64 t102, .int .i64 t103, .slice Ao14 t104.length co14], .int .i64 (wrap64 (x8_1 + t118))] rfl (by (try simp only [List.map_toArray, List.map_cons, List.map_nil]); first | done | rfl | (simp only [List.length_drop, List.length_take]; rfl)) ?_; (with_reducible refine (clock_Reads.calls k1 t102 t103 _ _ t104 (wrap64 (x8_1 + t118)) t120 t121 _ ?side1 ?side2 A21.out).mono ?_); (case side1 => repeat (first | exact (Kd.R_reads' HO_114002.out).2.2 | (with_reducible refine Kd.C_alloc ?_ _) | (with_reducible refine Kd.C_drewN ?_ _) | (with_reducible refine Kd.C_drew ?_))); (case side2 => exact (Kd.R_reads' HO_114002.out).2.1); rintro e w40 ⟨rfl, hb⟩; refine ⟨_, rfl, ?_⟩; have n0_ := Aside0.mk (Kd.R_below (by (with_reducible repeat (first | apply Kd.R_alloc | apply Kd.R_drewN | apply Kd.R_drew)); exact HO_114002.out) hb); have n1_ := bkb_ BK113 hb rfl; have n2_ := bkb_ BK114 hb rfl; have n3_ := Aside0.mk (IsS25.below (by repeat (first | (with_reducible first | exact HI101.out | apply IsS25.alloc | apply IsS25.drewN | apply IsS25.drew | apply IsS25.set_1 | refine IsS25.far ?_ NB101_113.out _ | refine IsS25.far ?_ NB101_114.out _) | exact HI101.out)) hb); have n4_ := Aside0.mk (below_step (by repeat (first | (with_reducible first | exact HB.out | apply below_alloc | apply pw_below_drewN | apply below_drew1 | refine below_set ?_ (IsS25.ge HI101.out) | refine below_set ?_ GE113.out | refine below_set ?_ GE114.out) | exact HB.out)) hb); clear HO_114002; clear BK113; clear BK114; clear HI101; clear HB; have HO_114002 := n0_; have BK113 := n1_; have BK114 := n2_; have HI101 := n3_; have HB := n4_; clear n0_ n1_ n2_ n3_ n4_; (try clear hb); (try clear hb2); (try clear hk); (try clear hi)) | ((with_reducible refine gate_callee (f := 15) rfl ?_); refine goesL_ (some 47) rfl rfl Try.func15 (by kernel_rfl) rfl #[.pointer (some ⟨gb101, 0, none⟩), .int .i64 400] rfl (by (try simp only [List.map_toArray, List.map_cons, List.map_nil]); first | done | rfl | (simp only [List.length_drop, List.length_take]; rfl)) ?_; (with_reducible refine (spymake_Stream_Next.calls gb101 l0 t119 400 t122 t123 w _ ?side1 ?side2 A22.out).mono ?_); (case side1 => repeat (first | (with_reducible first | exact HI101.out | apply IsS25.alloc | apply IsS25.drewN | apply IsS25.drew | apply IsS25.set_1 | refine IsS25.far ?_ NB101_113.out _ | refine IsS25.far ?_ NB101_114.out _) | exact HI101.out)); (case side2 => repeat (first | (with_reducible first | exact HB.out | apply below_alloc | apply pw_below_drewN | apply below_drew1 | refine below_set ?_ (IsS25.ge HI101.out) | refine below_set ?_ GE113.out | refine below_set ?_ GE114.out) | exact HB.out)); rintro e w41 ⟨rfl, hi, hb, hk⟩; refine ⟨_, rfl, ?_⟩; have n0_ := Aside0.mk (Kd.R_mono (Kd.R_keep (IsS25.apart (show IsS25 w _ gb101 l0 t119 from by repeat (first | (with_reducible first | exact HI101.out | apply IsS25.alloc | apply IsS25.drewN | apply IsS25.drew | apply IsS25.set_1 | refine IsS25.far ?_ NB101_113.out _ | refine IsS25.far ?_ NB101_114.out _) | exact HI101.out)) (by (with_reducible repeat (first | apply Kd.R_alloc | apply Kd.R_drewN | apply Kd.R_drew)); exact HO_114002.out) (by decide)) hk (fun _ h => h.2)) (fun _ h => h.1)); have n1_ := Aside0.mk (KeepBut.blk hk (g' := gb113) (o := .cells #[.int .i64 t102, .int .i64 t103, .slice Ao14 t104.length co14] 29 (0, 0)) BK113.out NB113_101.out (by simp)); have n2_ := Aside0.mk (KeepBut.blk hk (g' := gb114) (o := .cells #[.int .i64 x115000_1, .int .i64 x115001_1, .int .i64 x115002_1, .bool x115003_1, .int .i64 x115004_1] 33 (0, 0)) BK114.out NB114_101.out (by simp)); have n3_ := Aside0.mk (hb); have n4_ := Aside0.mk (hi); clear HO_114002; clear BK113; clear BK114; clear HB; clear HI101; have HO_114002 := n0_; have BK113 := n1_; have BK114 := n2_; have HB := n3_; have HI101 := n4_; clear n0_ n1_ n2_ n3_ n4_; (try clear hb); (try clear hb2); (try clear hk); (try clear hi)) | ((with_reducible refine gate_callee (f := 15) rfl ?_); refine goesL_ (some 51) rfl rfl Try.func15 (by kernel_rfl) rfl #[.pointer (some ⟨gb101, 0, none⟩), .int .i64 9] rfl (by (try simp only [List.map_toArray, List.map_cons, List.map_nil]); first | done | rfl | (simp only [List.length_drop, List.length_take]; rfl)) ?_; (with_reducible refine (spymake_Stream_Next.calls gb101 l0 t123 9 t124 t125 w _ ?side1 ?side2 A23.out).mono ?_); (case side1 => repeat (first | (with_reducible first | exact HI101.out | apply IsS25.alloc | apply IsS25.drewN | apply IsS25.drew | apply IsS25.set_1 | refine IsS25.far ?_ NB101_113.out _ | refine IsS25.far ?_ NB101_114.out _) | exact HI101.out)); (case side2 => repeat (first | (with_reducible first | exact HB.out | apply below_alloc | apply pw_below_drewN | apply below_drew1 | refine below_set ?_ (IsS25.ge HI101.out) | refine below_set ?_ GE113.out | refine below_set ?_ GE114.out) | exact HB.out)); rintro e w42 ⟨rfl, hi, hb, hk⟩; refine ⟨_, rfl, ?_⟩; have n0_ := Aside0.mk (Kd.R_mono (Kd.R_keep (IsS25.apart (show IsS25 w _ gb101 l0 t123 from by repeat (first | (with_reducible first | exact HI101.out | apply IsS25.alloc | apply IsS25.drewN | apply IsS25.drew | apply IsS25.set_1 | refine IsS25.far ?_ NB101_113.out _ | refine IsS25.far ?_ NB101_114.out _) | exact HI101.out)) (by (with_reducible repeat (first | apply Kd.R_alloc | apply Kd.R_drewN | apply Kd.R_drew)); exact HO_114002.out) (by decide)) hk (fun _ h => h.2)) (fun _ h => h.1)); have n1_ := Aside0.mk (KeepBut.blk hk (g' := gb113) (o := .cells #[.int .i64 t102, .int .i64 t103, .slice Ao14 t104.length co14] 29 (0, 0)) BK113.out NB113_101.out (by simp)); have n2_ := Aside0.mk (KeepBut.blk hk (g' := gb114) (o := .cells #[.int .i64 x115000_1, .int .i64 x115001_1, .int .i64 x115002_1, .bool x115003_1, .int .i64 x115004_1] 33 (0, 0)) BK114.out NB114_101.out (by simp)); have n3_ := Aside0.mk (hb); have n4_ := Aside0.mk (hi); clear HO_114002; clear BK113; clear BK114; clear HB; clear HI101; have HO_114002 := n0_; have BK113 := n1_; have BK114 := n2_; have HB := n3_; have HI101 := n4_; clear n0_ n1_ n2_ n3_ n4_; (try clear hb); (try clear hb2); (try clear hk); (try clear hi)) | ((with_reducible refine gate_callee (f := 15) rfl ?_); refine goesL_ (some 55) rfl rfl Try.func15 (by kernel_rfl) rfl #[.pointer (some ⟨gb101, 0, none⟩), .int .i64 9] rfl (by (try simp only [List.map_toArray, List.map_cons, List.map_nil]); first | done | rfl | (simp only [List.length_drop, List.length_take]; rfl)) ?_; (with_reducible refine (spymake_Stream_Next.calls gb101 l0 t125 9 t126 t127 w _ ?side1 ?side2 A24.out).mono ?_); (case side1 => repeat (first | (with_reducible first | exact HI101.out | apply IsS25.alloc | apply IsS25.drewN | apply IsS25.drew | apply IsS25.set_1 | refine IsS25.far ?_ NB101_113.out _ | refine IsS25.far ?_ NB101_114.out _) | exact HI101.out)); (case side2 => repeat (first | (with_reducible first | exact HB.out | apply below_alloc | apply pw_below_drewN | apply below_drew1 | refine below_set ?_ (IsS25.ge HI101.out) | refine below_set ?_ GE113.out | refine below_set ?_ GE114.out) | exact HB.out)); rintro e w43 ⟨rfl, hi, hb, hk⟩; refine ⟨_, rfl, ?_⟩; have n0_ := Aside0.mk (Kd.R_mono (Kd.R_keep (IsS25.apart (show IsS25 w _ gb101 l0 t125 from by repeat (first | (with_reducible first | exact HI101.out | apply IsS25.alloc | apply IsS25.drewN | apply IsS25.drew | apply IsS25.set_1 | refine IsS25.far ?_ NB101_113.out _ | refine IsS25.far ?_ NB101_114.out _) | exact HI101.out)) (by (with_reducible repeat (first | apply Kd.R_alloc | apply Kd.R_drewN | apply Kd.R_drew)); exact HO_114002.out) (by decide)) hk (fun _ h => h.2)) (fun _ h => h.1)); have n1_ := Aside0.mk (KeepBut.blk hk (g' := gb113) (o := .cells #[.int .i64 t102, .int .i64 t103, .slice Ao14 t104.length co14] 29 (0, 0)) BK113.out NB113_101.out (by simp)); have n2_ := Aside0.mk (KeepBut.blk hk (g' := gb114) (o := .cells #[.int .i64 x115000_1, .int .i64 x115001_1, .int .i64 x115002_1, .bool x115003_1, .int .i64 x115004_1] 33 (0, 0)) BK114.out NB114_101.out (by simp)); have n3_ := Aside0.mk (hb); have n4_ := Aside0.mk (hi); clear HO_114002; clear BK113; clear BK114; clear HB; clear HI101; have HO_114002 := n0_; have BK113 := n1_; have BK114 := n2_; have HB := n3_; have HI101 := n4_; clear n0_ n1_ n2_ n3_ n4_; (try clear hb); (try clear hb2); (try clear hk); (try clear hi)) | ((with_reducible refine gate_dst (N := 11) rfl ?_); refine box_event ?hg (N := 11) ?hd (cs := #[.int .i64 0, .int .i64 0, .bool false]) (t := 31) ?hr ?_; (case hd => rfl); (case hg => rfl); (case hr => first | (go_simp; done) | (go_simp; rfl)); intro gb128 hg w44 hbox hb; have n0_ := Aside0.mk (Kd.R_below (by (with_reducible repeat (first | apply Kd.R_alloc | apply Kd.R_drewN | apply Kd.R_drew)); exact HO_114002.out) hb); have n1_ := bkb_ BK113 hb rfl; have n2_ := bkb_ BK114 hb rfl; have n3_ := Aside0.mk (IsS25.below (by repeat (first | (with_reducible first | exact HI101.out | apply IsS25.alloc | apply IsS25.drewN | apply IsS25.drew | apply IsS25.set_1 | refine IsS25.far ?_ NB101_113.out _ | refine IsS25.far ?_ NB101_114.out _) | exact HI101.out)) hb); have n4_ := Aside0.mk (below_step (by repeat (first | (with_reducible first | exact HB.out | apply below_alloc | apply pw_below_drewN | apply below_drew1 | refine below_set ?_ (IsS25.ge HI101.out) | refine below_set ?_ GE113.out | refine below_set ?_ GE114.out) | exact HB.out)) hb); have n5_ := Aside0.mk (hbox); have n6_ := Aside0.mk ((by rw [hg]; exact (below_size (by repeat (first | (with_reducible first | exact HB.out | apply below_alloc | apply pw_below_drewN | apply below_drew1 | refine below_set ?_ (IsS25.ge HI101.out) | refine below_set ?_ GE113.out | refine below_set ?_ GE114.out) | exact HB.out))) : w.heap.size ≤ gb128)); have n7_ := n6_; have n8_ := nbl_ BK113 hg rfl; have n9_ := nbg_ BK113 hg rfl; have n10_ := nbl_ BK114 hg rfl; have n11_ := nbg_ BK114 hg rfl; have n12_ := Aside0.mk ((by rw [hg]; exact Nat.ne_of_lt (IsS25.lt (show IsS25 w _ gb101 l0 t127 from by repeat (first | (with_reducible first | exact HI101.out | apply IsS25.alloc | apply IsS25.drewN | apply IsS25.drew | apply IsS25.set_1 | refine IsS25.far ?_ NB101_113.out _ | refine IsS25.far ?_ NB101_114.out _) | exact HI101.out))) : gb101 ≠ gb128)); have n13_ := Aside0.mk ((by rw [hg]; exact Nat.ne_of_gt (IsS25.lt (show IsS25 w _ gb101 l0 t127 from by repeat (first | (with_reducible first | exact HI101.out | apply IsS25.alloc | apply IsS25.drewN | apply IsS25.drew | apply IsS25.set_1 | refine IsS25.far ?_ NB101_113.out _ | refine IsS25.far ?_ NB101_114.out _) | exact HI101.out))) : gb128 ≠ gb101)); clear HO_114002; clear BK113; clear BK114; clear HI101; clear HB; have HO_114002 := n0_; have BK113 := n1_; have BK114 := n2_; have HI101 := n3_; have HB := n4_; have BK128 := n5_; have GW128 := n6_; have GE128 := n7_; have NB113_128 := n8_; have NB128_113 := n9_; have NB114_128 := n10_; have NB128_114 := n11_; have NB101_128 := n12_; have NB128_101 := n13_; clear n0_ n1_ n2_ n3_ n4_ n5_ n6_ n7_ n8_ n9_ n10_ n11_ n12_ n13_; clear hb hbox hg; have hnb45 := NB128_113.out; have hnc45 := NB113_128.out; have hnb46 := NB128_114.out; have hnc46 := NB114_128.out; have hnb47 := NB128_101.out; have hnc47 := NB101_128.out; have hcz48_0 : w44.cell? ⟨gb128, 0, none⟩ = some (.int .i64 0) := (blk_cell BK128.out 0).trans rfl; have hcz48_1 : w44.cell? ⟨gb128, 1, none⟩ = some (.int .i64 0) := (blk_cell BK128.out 1).trans rfl; have hcz48_2 : w44.cell? ⟨gb128, 2, none⟩ = some (.bool false) := (blk_cell BK128.out 2).trans rfl; have hfz48_0 := blk_frozen BK128.out 0; have hfz48_1 := blk_frozen BK128.out 1; have hfz48_2 := blk_frozen BK128.out 2) | ((with_reducible refine gate_callee (f := 15) rfl ?_); refine goesL_ (some 60) rfl rfl Try.func15 (by kernel_rfl) rfl #[.pointer (some ⟨gb101, 0, none⟩), .int .i64 400] rfl (by (try simp only [List.map_toArray, List.map_cons, List.map_nil]); first | done | rfl | (simp only [List.length_drop, List.length_take]; rfl)) ?_; (with_reducible refine (spymake_Stream_Next.calls gb101 l0 t127 400 t129 t130 w _ ?side1 ?side2 A25.out).mono ?_); (case side1 => repeat (first | (with_reducible first | exact HI101.out | apply IsS25.alloc | apply IsS25.drewN | apply IsS25.drew | apply IsS25.set_1 | refine IsS25.far ?_ NB101_113.out _ | refine IsS25.far ?_ NB101_114.out _ | refine IsS25.far ?_ NB101_128.out _) | exact HI101.out)); (case side2 => repeat (first | (with_reducible first | exact HB.out | apply below_alloc | apply pw_below_drewN | apply below_drew1 | refine below_set ?_ (IsS25.ge HI101.out) | refine below_set ?_ GE113.out | refine below_set ?_ GE114.out | refine below_set ?_ GE128.out) | exact HB.out)); rintro e w49 ⟨rfl, hi, hb, hk⟩; refine ⟨_, rfl, ?_⟩; have n0_ := Aside0.mk (Kd.R_mono (Kd.R_keep (IsS25.apart (show IsS25 w _ gb101 l0 t127 from by repeat (first | (with_reducible first | exact HI101.out | apply IsS25.alloc | apply IsS25.drewN | apply IsS25.drew | apply IsS25.set_1 | refine IsS25.far ?_ NB101_113.out _ | refine IsS25.far ?_ NB101_114.out _ | refine IsS25.far ?_ NB101_128.out _) | exact HI101.out)) (by (with_reducible repeat (first | apply Kd.R_alloc | apply Kd.R_drewN | apply Kd.R_drew)); exact (Kd.R_mono (Kd.R_far (p := ⟨gb128, 2, none⟩) (Kd.R_far (p := ⟨gb128, 1, none⟩) (Kd.R_far (p := ⟨gb128, 0, none⟩) (Kd.R_types HO_114002.out BK128.out (by decide)) (fun _ hk => hk.2) (.int .i64 (wrap64 ((wrap64 ((wrap64 (x8_1 + t118)) + t122)) - t124)))) (fun _ hk => hk.2) (.int .i64 (wrap64 ((wrap64 ((wrap64 (x8_1 + t118)) + t122)) + t126)))) (fun _ hk => hk.2) (.bool false)) (fun _ h_ => h_.1))) (by decide)) hk (fun _ h => h.2)) (fun _ h => h.1)); have n1_ := Aside0.mk (KeepBut.blk hk (g' := gb113) (o := .cells #[.int .i64 t102, .int .i64 t103, .slice Ao14 t104.length co14] 29 (0, 0)) (by (with_reducible repeat (first | refine blk_drewN ?_ _ | refine blk_drew ?_ | refine blk_alloc ?_ _)); refine blk_far ?_ NB113_128.out _; (with_reducible repeat (first | refine blk_drewN ?_ _ | refine blk_drew ?_ | refine blk_alloc ?_ _)); refine blk_far ?_ NB113_128.out _; (with_reducible repeat (first | refine blk_drewN ?_ _ | refine blk_drew ?_ | refine blk_alloc ?_ _)); refine blk_far ?_ NB113_128.out _; (with_reducible repeat (first | refine blk_drewN ?_ _ | refine blk_drew ?_ | refine blk_alloc ?_ _)); exact BK113.out) NB113_101.out (by simp)); have n2_ := Aside0.mk (KeepBut.blk hk (g' := gb114) (o := .cells #[.int .i64 x115000_1, .int .i64 x115001_1, .int .i64 x115002_1, .bool x115003_1, .int .i64 x115004_1] 33 (0, 0)) (by (with_reducible repeat (first | refine blk_drewN ?_ _ | refine blk_drew ?_ | refine blk_alloc ?_ _)); refine blk_far ?_ NB114_128.out _; (with_reducible repeat (first | refine blk_drewN ?_ _ | refine blk_drew ?_ | refine blk_alloc ?_ _)); refine blk_far ?_ NB114_128.out _; (with_reducible repeat (first | refine blk_drewN ?_ _ | refine blk_drew ?_ | refine blk_alloc ?_ _)); refine blk_far ?_ NB114_128.out _; (with_reducible repeat (first | refine blk_drewN ?_ _ | refine blk_drew ?_ | refine blk_alloc ?_ _)); exact BK114.out) NB114_101.out (by simp)); have n3_ := Aside0.mk (KeepBut.blk hk (g' := gb128) (o := .cells #[.int .i64 (wrap64 ((wrap64 ((wrap64 (x8_1 + t118)) + t122)) - t124)), .int .i64 (wrap64 ((wrap64 ((wrap64 (x8_1 + t118)) + t122)) + t126)), .bool false] 31 (0, 0)) (by (with_reducible repeat (first | refine blk_drewN ?_ _ | refine blk_drew ?_ | refine blk_alloc ?_ _)); refine blk_put (cs := #[.int .i64 (wrap64 ((wrap64 ((wrap64 (x8_1 + t118)) + t122)) - t124)), .int .i64 (wrap64 ((wrap64 ((wrap64 (x8_1 + t118)) + t122)) + t126)), .bool false]) ?_ 2 _ rfl; (with_reducible repeat (first | refine blk_drewN ?_ _ | refine blk_drew ?_ | refine blk_alloc ?_ _)); refine blk_put (cs := #[.int .i64 (wrap64 ((wrap64 ((wrap64 (x8_1 + t118)) + t122)) - t124)), .int .i64 0, .bool false]) ?_ 1 _ rfl; (with_reducible repeat (first | refine blk_drewN ?_ _ | refine blk_drew ?_ | refine blk_alloc ?_ _)); refine blk_put (cs := #[.int .i64 0, .int .i64 0, .bool false]) ?_ 0 _ rfl; (with_reducible repeat (first | refine blk_drewN ?_ _ | refine blk_drew ?_ | refine blk_alloc ?_ _)); exact BK128.out) NB128_101.out (by simp)); have n4_ := Aside0.mk (hb); have n5_ := Aside0.mk (hi); clear HO_114002; clear BK113; clear BK114; clear BK128; clear HB; clear HI101; have HO_114002 := n0_; have BK113 := n1_; have BK114 := n2_; have BK128 := n3_; have HB := n4_; have HI101 := n5_; clear n0_ n1_ n2_ n3_ n4_ n5_; (try clear hb); (try clear hb2); (try clear hk); (try clear hi); have hcz50_0 : w49.cell? ⟨gb113, 0, none⟩ = some (.int .i64 t102) := (blk_cell BK113.out 0).trans rfl; have hcz50_1 : w49.cell? ⟨gb113, 1, none⟩ = some (.int .i64 t103) := (blk_cell BK113.out 1).trans rfl; have hcz50_2 : w49.cell? ⟨gb113, 2, none⟩ = some (.slice Ao14 t104.length co14) := (blk_cell BK113.out 2).trans rfl; have hfz50_0 := blk_frozen BK113.out 0; have hfz50_1 := blk_frozen BK113.out 1; have hfz50_2 := blk_frozen BK113.out 2) | ((with_reducible refine gate_callee (f := 16) rfl ?_); refine goesL_ (some 65) rfl rfl Try.func16 (by kernel_rfl) rfl #[.agg #[.int .i64 t102, .int .i64 t103, .slice Ao14 t104.length co14], .int .i64 (wrap64 ((wrap64 ((wrap64 (x8_1 + t118)) + t122)) + t129))] rfl (by (try simp only [List.map_toArray, List.map_cons, List.map_nil]); first | done | rfl | (simp only [List.length_drop, List.length_take]; rfl)) ?_; (with_reducible refine (clock_Reads.calls k1 t102 t103 _ _ t104 (wrap64 ((wrap64 ((wrap64 (x8_1 + t118)) + t122)) + t129)) t131 t132 _ ?side1 ?side2 A26.out).mono ?_); (case side1 => repeat (first | exact (Kd.R_reads' HO_114002.out).2.2 | (with_reducible refine Kd.C_alloc ?_ _) | (with_reducible refine Kd.C_drewN ?_ _) | (with_reducible refine Kd.C_drew ?_))); (case side2 => exact (Kd.R_reads' HO_114002.out).2.1); rintro e w51 ⟨rfl, hb⟩; refine ⟨_, rfl, ?_⟩; have n0_ := Aside0.mk (Kd.R_below (by (with_reducible repeat (first | apply Kd.R_alloc | apply Kd.R_drewN | apply Kd.R_drew)); exact HO_114002.out) hb); have n1_ := bkb_ BK113 hb rfl; have n2_ := bkb_ BK114 hb rfl; have n3_ := Aside0.mk (IsS25.below (by repeat (first | (with_reducible first | exact HI101.out | apply IsS25.alloc | apply IsS25.drewN | apply IsS25.drew | apply IsS25.set_1 | refine IsS25.far ?_ NB101_113.out _ | refine IsS25.far ?_ NB101_114.out _ | refine IsS25.far ?_ NB101_128.out _) | exact HI101.out)) hb); have n4_ := bkb_ BK128 hb rfl; have n5_ := Aside0.mk (below_step (by repeat (first | (with_reducible first | exact HB.out | apply below_alloc | apply pw_below_drewN | apply below_drew1 | refine below_set ?_ (IsS25.ge HI101.out) | refine below_set ?_ GE113.out | refine below_set ?_ GE114.out | refine below_set ?_ GE128.out) | exact HB.out)) hb); clear HO_114002; clear BK113; clear BK114; clear HI101; clear BK128; clear HB; have HO_114002 := n0_; have BK113 := n1_; have BK114 := n2_; have HI101 := n3_; have BK128 := n4_; have HB := n5_; clear n0_ n1_ n2_ n3_ n4_ n5_; (try clear hb); (try clear hb2); (try clear hk); (try clear hi); have hnb52 := NB114_101.out; have hnc52 := NB101_114.out; have hcz53_0 : w51.cell? ⟨gb114, 0, none⟩ = some (.int .i64 x115000_1) := (blk_cell BK114.out 0).trans rfl; have hcz53_1 : w51.cell? ⟨gb114, 1, none⟩ = some (.int .i64 x115001_1) := (blk_cell BK114.out 1).trans rfl; have hcz53_2 : w51.cell? ⟨gb114, 2, none⟩ = some (.int .i64 x115002_1) := (blk_cell BK114.out 2).trans rfl; have hcz53_3 : w51.cell? ⟨gb114, 3, none⟩ = some (.bool x115003_1) := (blk_cell BK114.out 3).trans rfl; have hcz53_4 : w51.cell? ⟨gb114, 4, none⟩ = some (.int .i64 x115004_1) := (blk_cell BK114.out 4).trans rfl; have hfz53_0 := blk_frozen BK114.out 0; have hfz53_1 := blk_frozen BK114.out 1; have hfz53_2 := blk_frozen BK114.out 2; have hfz53_3 := blk_frozen BK114.out 3; have hfz53_4 := blk_frozen BK114.out 4; have hcz54_0 : w51.cell? ⟨gb128, 0, none⟩ = some (.int .i64 (wrap64 ((wrap64 ((wrap64 (x8_1 + t118)) + t122)) - t124))) := (blk_cell BK128.out 0).trans rfl; have hcz54_1 : w51.cell? ⟨gb128, 1, none⟩ = some (.int .i64 (wrap64 ((wrap64 ((wrap64 (x8_1 + t118)) + t122)) + t126))) := (blk_cell BK128.out 1).trans rfl; have hcz54_2 : w51.cell? ⟨gb128, 2, none⟩ = some (.bool false) := (blk_cell BK128.out 2).trans rfl; have hfz54_0 := blk_frozen BK128.out 0; have hfz54_1 := blk_frozen BK128.out 1; have hfz54_2 := blk_frozen BK128.out 2) | ((with_reducible refine gate_callee (f := 17) rfl ?_); refine goesL_ (some 73) rfl rfl Try.func17 (by kernel_rfl) rfl #[.agg #[.int .i64 x115000_1, .int .i64 x115001_1, .int .i64 x115002_1, .bool x115003_1, .int .i64 x115004_1], .int .i64 t120, .int .i64 t131, .agg #[.int .i64 (wrap64 ((wrap64 ((wrap64 (x8_1 + t118)) + t122)) - t124)), .int .i64 (wrap64 ((wrap64 ((wrap64 (x8_1 + t118)) + t122)) + t126)), .bool false]] rfl (by (try simp only [List.map_toArray, List.map_cons, List.map_nil]); first | done | rfl | (simp only [List.length_drop, List.length_take]; rfl)) ?_; (with_reducible refine (clock_Sync.calls k1 x115000_1 x115001_1 x115002_1 x115003_1 x115004_1 t120 t131 (wrap64 ((wrap64 ((wrap64 (x8_1 + t118)) + t122)) - t124)) (wrap64 ((wrap64 ((wrap64 (x8_1 + t118)) + t122)) + t126)) false t133 t134 t135 t136 t137 t138 _ A27.out).mono ?_); rintro e w55 ⟨rfl, hb⟩; refine ⟨_, rfl, ?_⟩; have n0_ := Aside0.mk (Kd.R_below (by (with_reducible repeat (first | apply Kd.R_alloc | apply Kd.R_drewN | apply Kd.R_drew)); exact HO_114002.out) hb); have n1_ := bkb_ BK113 hb rfl; have n2_ := bkb_ BK114 hb rfl; have n3_ := Aside0.mk (IsS25.below (by repeat (first | (with_reducible first | exact HI101.out | apply IsS25.alloc | apply IsS25.drewN | apply IsS25.drew | apply IsS25.set_1 | refine IsS25.far ?_ NB101_113.out _ | refine IsS25.far ?_ NB101_114.out _ | refine IsS25.far ?_ NB101_128.out _) | exact HI101.out)) hb); have n4_ := bkb_ BK128 hb rfl; have n5_ := Aside0.mk (below_step (by repeat (first | (with_reducible first | exact HB.out | apply below_alloc | apply pw_below_drewN | apply below_drew1 | refine below_set ?_ (IsS25.ge HI101.out) | refine below_set ?_ GE113.out | refine below_set ?_ GE114.out | refine below_set ?_ GE128.out) | exact HB.out)) hb); clear HO_114002; clear BK113; clear BK114; clear HI101; clear BK128; clear HB; have HO_114002 := n0_; have BK113 := n1_; have BK114 := n2_; have HI101 := n3_; have BK128 := n4_; have HB := n5_; clear n0_ n1_ n2_ n3_ n4_ n5_; (try clear hb); (try clear hb2); (try clear hk); (try clear hi)) | ((with_reducible refine gate_dst (N := 14) rfl ?_); refine box_event ?hg (N := 14) ?hd (cs := #[.int .i64 0, .int .i64 0, .int .i64 0, .bool false, .int .i64 0]) (t := 33) ?hr ?_; (case hd => rfl); (case hg => rfl); (case hr => first | (go_simp; done) | (go_simp; rfl)); intro gb139 hg w56 hbox hb; have n0_ := Aside0.mk (Kd.R_below (by (with_reducible repeat (first | apply Kd.R_alloc | apply Kd.R_drewN | apply Kd.R_drew)); exact HO_114002.out) hb); have n1_ := bkb_ BK113 hb rfl; have n2_ := bkb_ BK114 hb rfl; have n3_ := Aside0.mk (IsS25.below (by repeat (first | (with_reducible first | exact HI101.out | apply IsS25.alloc | apply IsS25.drewN | apply IsS25.drew | apply IsS25.set_1 | refine IsS25.far ?_ NB101_113.out _ | refine IsS25.far ?_ NB101_114.out _ | refine IsS25.far ?_ NB101_128.out _) | exact HI101.out)) hb); have n4_ := bkb_ BK128 hb rfl; have n5_ := Aside0.mk (below_step (by repeat (first | (with_reducible first | exact HB.out | apply below_alloc | apply pw_below_drewN | apply below_drew1 | refine below_set ?_ (IsS25.ge HI101.out) | refine below_set ?_ GE113.out | refine below_set ?_ GE114.out | refine below_set ?_ GE128.out) | exact HB.out)) hb); have n6_ := Aside0.mk (hbox); have n7_ := Aside0.mk ((by rw [hg]; exact (below_size (by repeat (first | (with_reducible first | exact HB.out | apply below_alloc | apply pw_below_drewN | apply below_drew1 | refine below_set ?_ (IsS25.ge HI101.out) | refine below_set ?_ GE113.out | refine below_set ?_ GE114.out | refine below_set ?_ GE128.out) | exact HB.out))) : w.heap.size ≤ gb139)); have n8_ := n7_; have n9_ := nbl_ BK113 hg rfl; have n10_ := nbg_ BK113 hg rfl; have n11_ := nbl_ BK114 hg rfl; have n12_ := nbg_ BK114 hg rfl; have n13_ := nbl_ BK128 hg rfl; have n14_ := nbg_ BK128 hg rfl; have n15_ := Aside0.mk ((by rw [hg]; exact Nat.ne_of_lt (IsS25.lt (show IsS25 w _ gb101 l0 t130 from by repeat (first | (with_reducible first | exact HI101.out | apply IsS25.alloc | apply IsS25.drewN | apply IsS25.drew | apply IsS25.set_1 | refine IsS25.far ?_ NB101_113.out _ | refine IsS25.far ?_ NB101_114.out _ | refine IsS25.far ?_ NB101_128.out _) | exact HI101.out))) : gb101 ≠ gb139)); have n16_ := Aside0.mk ((by rw [hg]; exact Nat.ne_of_gt (IsS25.lt (show IsS25 w _ gb101 l0 t130 from by repeat (first | (with_reducible first | exact HI101.out | apply IsS25.alloc | apply IsS25.drewN | apply IsS25.drew | apply IsS25.set_1 | refine IsS25.far ?_ NB101_113.out _ | refine IsS25.far ?_ NB101_114.out _ | refine IsS25.far ?_ NB101_128.out _) | exact HI101.out))) : gb139 ≠ gb101)); clear HO_114002; clear BK113; clear BK114; clear HI101; clear BK128; clear HB; have HO_114002 := n0_; have BK113 := n1_; have BK114 := n2_; have HI101 := n3_; have BK128 := n4_; have HB := n5_; have BK139 := n6_; have GW139 := n7_; have GE139 := n8_; have NB113_139 := n9_; have NB139_113 := n10_; have NB114_139 := n11_; have NB139_114 := n12_; have NB128_139 := n13_; have NB139_128 := n14_; have NB101_139 := n15_; have NB139_101 := n16_; clear n0_ n1_ n2_ n3_ n4_ n5_ n6_ n7_ n8_ n9_ n10_ n11_ n12_ n13_ n14_ n15_ n16_; clear hb hbox hg; have hnb57 := NB139_113.out; have hnc57 := NB113_139.out; have hnb58 := NB139_114.out; have hnc58 := NB114_139.out; have hnb59 := NB139_128.out; have hnc59 := NB128_139.out; have hnb60 := NB139_101.out; have hnc60 := NB101_139.out; have hcz61_0 : w56.cell? ⟨gb139, 0, none⟩ = some (.int .i64 0) := (blk_cell BK139.out 0).trans rfl; have hcz61_1 : w56.cell? ⟨gb139, 1, none⟩ = some (.int .i64 0) := (blk_cell BK139.out 1).trans rfl; have hcz61_2 : w56.cell? ⟨gb139, 2, none⟩ = some (.int .i64 0) := (blk_cell BK139.out 2).trans rfl; have hcz61_3 : w56.cell? ⟨gb139, 3, none⟩ = some (.bool false) := (blk_cell BK139.out 3).trans rfl; have hcz61_4 : w56.cell? ⟨gb139, 4, none⟩ = some (.int .i64 0) := (blk_cell BK139.out 4).trans rfl; have hfz61_0 := blk_frozen BK139.out 0; have hfz61_1 := blk_frozen BK139.out 1; have hfz61_2 := blk_frozen BK139.out 2; have hfz61_3 := blk_frozen BK139.out 3; have hfz61_4 := blk_frozen BK139.out 4))
                 have n0_ : Aside0 (Kd.R k114 114 (((((w56.setCell ⟨gb139, 0, none⟩ (.int .i64 t133)).setCell ⟨gb139, 1, none⟩ (.int .i64 t134)).setCell ⟨gb139, 2, none⟩ (.int .i64 t135)).setCell ⟨gb139, 3, none⟩ (.bool t136)).setCell ⟨gb139, 4, none⟩ (.int .i64 t137)) w.heap.size (fun _ => True) (.slice Ao14 t104.length co14) t104) := ⟨by (with_reducible repeat (first | apply Kd.R_alloc | apply Kd.R_drewN | apply Kd.R_drew)); exact Kd.R_mono (Kd.R_far (p := ⟨gb139, 4, none⟩) (Kd.R_far (p := ⟨gb139, 3, none⟩) (Kd.R_far (p := ⟨gb139, 2, none⟩) (Kd.R_far (p := ⟨gb139, 1, none⟩) (Kd.R_far (p := ⟨gb139, 0, none⟩) (Kd.R_types HO_114002.out BK139.out (by decide)) (fun _ hk => hk.2) (.int .i64 t133)) (fun _ hk => hk.2) (.int .i64 t134)) (fun _ hk => hk.2) (.int .i64 t135)) (fun _ hk => hk.2) (.bool t136)) (fun _ hk => hk.2) (.int .i64 t137)) (fun _ hk => trivial)⟩
                 have n1_ : Aside0 ((((((w56.setCell ⟨gb139, 0, none⟩ (.int .i64 t133)).setCell ⟨gb139, 1, none⟩ (.int .i64 t134)).setCell ⟨gb139, 2, none⟩ (.int .i64 t135)).setCell ⟨gb139, 3, none⟩ (.bool t136)).setCell ⟨gb139, 4, none⟩ (.int .i64 t137)).heap[gb113]? = some (.cells #[.int .i64 t102, .int .i64 t103, .slice Ao14 t104.length co14] 29 (0, 0))) := ⟨by (with_reducible repeat (first | refine blk_drewN ?_ _ | refine blk_drew ?_ | refine blk_alloc ?_ _)); refine blk_far ?_ NB113_139.out _; (with_reducible repeat (first | refine blk_drewN ?_ _ | refine blk_drew ?_ | refine blk_alloc ?_ _)); refine blk_far ?_ NB113_139.out _; (with_reducible repeat (first | refine blk_drewN ?_ _ | refine blk_drew ?_ | refine blk_alloc ?_ _)); refine blk_far ?_ NB113_139.out _; (with_reducible repeat (first | refine blk_drewN ?_ _ | refine blk_drew ?_ | refine blk_alloc ?_ _)); refine blk_far ?_ NB113_139.out _; (with_reducible repeat (first | refine blk_drewN ?_ _ | refine blk_drew ?_ | refine blk_alloc ?_ _)); refine blk_far ?_ NB113_139.out _; (with_reducible repeat (first | refine blk_drewN ?_ _ | refine blk_drew ?_ | refine blk_alloc ?_ _)); exact BK113.out⟩
                 have n2_ : Aside0 ((((((w56.setCell ⟨gb139, 0, none⟩ (.int .i64 t133)).setCell ⟨gb139, 1, none⟩ (.int .i64 t134)).setCell ⟨gb139, 2, none⟩ (.int .i64 t135)).setCell ⟨gb139, 3, none⟩ (.bool t136)).setCell ⟨gb139, 4, none⟩ (.int .i64 t137)).heap[gb114]? = some (.cells #[.int .i64 x115000_1, .int .i64 x115001_1, .int .i64 x115002_1, .bool x115003_1, .int .i64 x115004_1] 33 (0, 0))) := ⟨by (with_reducible repeat (first | refine blk_drewN ?_ _ | refine blk_drew ?_ | refine blk_alloc ?_ _)); refine blk_far ?_ NB114_139.out _; (with_reducible repeat (first | refine blk_drewN ?_ _ | refine blk_drew ?_ | refine blk_alloc ?_ _)); refine blk_far ?_ NB114_139.out _; (with_reducible repeat (first | refine blk_drewN ?_ _ | refine blk_drew ?_ | refine blk_alloc ?_ _)); refine blk_far ?_ NB114_139.out _; (with_reducible repeat (first | refine blk_drewN ?_ _ | refine blk_drew ?_ | refine blk_alloc ?_ _)); refine blk_far ?_ NB114_139.out _; (with_reducible repeat (first | refine blk_drewN ?_ _ | refine blk_drew ?_ | refine blk_alloc ?_ _)); refine blk_far ?_ NB114_139.out _; (with_reducible repeat (first | refine blk_drewN ?_ _ | refine blk_drew ?_ | refine blk_alloc ?_ _)); exact BK114.out⟩
                 have n3_ : Aside0 ((((((w56.setCell ⟨gb139, 0, none⟩ (.int .i64 t133)).setCell ⟨gb139, 1, none⟩ (.int .i64 t134)).setCell ⟨gb139, 2, none⟩ (.int .i64 t135)).setCell ⟨gb139, 3, none⟩ (.bool t136)).setCell ⟨gb139, 4, none⟩ (.int .i64 t137)).heap[gb128]? = some (.cells #[.int .i64 (wrap64 ((wrap64 ((wrap64 (x8_1 + t118)) + t122)) - t124)), .int .i64 (wrap64 ((wrap64 ((wrap64 (x8_1 + t118)) + t122)) + t126)), .bool false] 31 (0, 0))) := ⟨by (with_reducible repeat (first | refine blk_drewN ?_ _ | refine blk_drew ?_ | refine blk_alloc ?_ _)); refine blk_far ?_ NB128_139.out _; (with_reducible repeat (first | refine blk_drewN ?_ _ | refine blk_drew ?_ | refine blk_alloc ?_ _)); refine blk_far ?_ NB128_139.out _; (with_reducible repeat (first | refine blk_drewN ?_ _ | refine blk_drew ?_ | refine blk_alloc ?_ _)); refine blk_far ?_ NB128_139.out _; (with_reducible repeat (first | refine blk_drewN ?_ _ | refine blk_drew ?_ | refine blk_alloc ?_ _)); refine blk_far ?_ NB128_139.out _; (with_reducible repeat (first | refine blk_drewN ?_ _ | refine blk_drew ?_ | refine blk_alloc ?_ _)); refine blk_far ?_ NB128_139.out _; (with_reducible repeat (first | refine blk_drewN ?_ _ | refine blk_drew ?_ | refine blk_alloc ?_ _)); exact BK128.out⟩
                 have n4_ : Aside0 ((((((w56.setCell ⟨gb139, 0, none⟩ (.int .i64 t133)).setCell ⟨gb139, 1, none⟩ (.int .i64 t134)).setCell ⟨gb139, 2, none⟩ (.int .i64 t135)).setCell ⟨gb139, 3, none⟩ (.bool t136)).setCell ⟨gb139, 4, none⟩ (.int .i64 t137)).heap[gb139]? = some (.cells #[.int .i64 t133, .int .i64 t134, .int .i64 t135, .bool t136, .int .i64 t137] 33 (0, 0))) := ⟨by (with_reducible repeat (first | refine blk_drewN ?_ _ | refine blk_drew ?_ | refine blk_alloc ?_ _)); refine blk_put (cs := #[.int .i64 t133, .int .i64 t134, .int .i64 t135, .bool t136, .int .i64 0]) ?_ 4 _ rfl; (with_reducible repeat (first | refine blk_drewN ?_ _ | refine blk_drew ?_ | refine blk_alloc ?_ _)); refine blk_put (cs := #[.int .i64 t133, .int .i64 t134, .int .i64 t135, .bool false, .int .i64 0]) ?_ 3 _ rfl; (with_reducible repeat (first | refine blk_drewN ?_ _ | refine blk_drew ?_ | refine blk_alloc ?_ _)); refine blk_put (cs := #[.int .i64 t133, .int .i64 t134, .int .i64 0, .bool false, .int .i64 0]) ?_ 2 _ rfl; (with_reducible repeat (first | refine blk_drewN ?_ _ | refine blk_drew ?_ | refine blk_alloc ?_ _)); refine blk_put (cs := #[.int .i64 t133, .int .i64 0, .int .i64 0, .bool false, .int .i64 0]) ?_ 1 _ rfl; (with_reducible repeat (first | refine blk_drewN ?_ _ | refine blk_drew ?_ | refine blk_alloc ?_ _)); refine blk_put (cs := #[.int .i64 0, .int .i64 0, .int .i64 0, .bool false, .int .i64 0]) ?_ 0 _ rfl; (with_reducible repeat (first | refine blk_drewN ?_ _ | refine blk_drew ?_ | refine blk_alloc ?_ _)); exact BK139.out⟩
                 have n5_ : Aside0 (IsS25 w (((((w56.setCell ⟨gb139, 0, none⟩ (.int .i64 t133)).setCell ⟨gb139, 1, none⟩ (.int .i64 t134)).setCell ⟨gb139, 2, none⟩ (.int .i64 t135)).setCell ⟨gb139, 3, none⟩ (.bool t136)).setCell ⟨gb139, 4, none⟩ (.int .i64 t137)) gb101 l0 t130) := ⟨by repeat (first | (with_reducible first | exact HI101.out | apply IsS25.alloc | apply IsS25.drewN | apply IsS25.drew | apply IsS25.set_1 | refine IsS25.far ?_ NB101_113.out _ | refine IsS25.far ?_ NB101_114.out _ | refine IsS25.far ?_ NB101_128.out _ | refine IsS25.far ?_ NB101_139.out _) | exact HI101.out)⟩
                 have n6_ : Aside0 (Below w.heap.size w (((((w56.setCell ⟨gb139, 0, none⟩ (.int .i64 t133)).setCell ⟨gb139, 1, none⟩ (.int .i64 t134)).setCell ⟨gb139, 2, none⟩ (.int .i64 t135)).setCell ⟨gb139, 3, none⟩ (.bool t136)).setCell ⟨gb139, 4, none⟩ (.int .i64 t137))) := ⟨by repeat (first | (with_reducible first | exact HB.out | apply below_alloc | apply pw_below_drewN | apply below_drew1 | refine below_set ?_ (IsS25.ge HI101.out) | refine below_set ?_ GE113.out | refine below_set ?_ GE114.out | refine below_set ?_ GE128.out | refine below_set ?_ GE139.out) | exact HB.out)⟩
                 (try clear HO_114002)
                 (try clear BK113)
                 (try clear BK114)
                 (try clear BK128)
                 (try clear BK139)
                 (try clear HI101)
                 (try clear HB)
                 generalize (((((w56.setCell ⟨gb139, 0, none⟩ (.int .i64 t133)).setCell ⟨gb139, 1, none⟩ (.int .i64 t134)).setCell ⟨gb139, 2, none⟩ (.int .i64 t135)).setCell ⟨gb139, 3, none⟩ (.bool t136)).setCell ⟨gb139, 4, none⟩ (.int .i64 t137)) = w62 at n0_ n1_ n2_ n3_ n4_ n5_ n6_ ⊢
                 have HO_114002 := n0_
                 have BK113 := n1_
                 have BK114 := n2_
                 have BK128 := n3_
                 have BK139 := n4_
                 have HI101 := n5_
                 have HB := n6_
                 clear n0_ n1_ n2_ n3_ n4_ n5_ n6_
                 have n0_ := Aside0.mk (Kd.R_drew HO_114002.out)
                 have n1_ := Aside0.mk (blk_drew BK113.out)
                 have n2_ := Aside0.mk (blk_drew BK114.out)
                 have n3_ := Aside0.mk (blk_drew BK128.out)
                 have n4_ := Aside0.mk (blk_drew BK139.out)
                 have n5_ := Aside0.mk (IsS25.drew HI101.out)
                 have n6_ := Aside0.mk (below_drew1 HB.out)
                 clear HO_114002
                 clear BK113
                 clear BK114
                 clear BK128
                 clear BK139
                 clear HI101
                 clear HB
                 have HO_114002 := n0_
                 have BK113 := n1_
                 have BK114 := n2_
                 have BK128 := n3_
                 have BK139 := n4_
                 have HI101 := n5_
                 have HB := n6_
                 clear n0_ n1_ n2_ n3_ n4_ n5_ n6_
                 refine start_ (n := 26) (S := fun w' => w'.cell? ⟨gb139, 0, none⟩ = some (.int .i64 t133) ∧ w'.cell? ⟨gb139, 1, none⟩ = some (.int .i64 t134) ∧ w'.cell? ⟨gb139, 2, none⟩ = some (.int .i64 t135) ∧ w'.cell? ⟨gb139, 3, none⟩ = some (.bool t136) ∧ w'.cell? ⟨gb139, 4, none⟩ = some (.int .i64 t137) ∧ w'.cell? ⟨gb114, 0, none⟩ = some (.int .i64 x115000_1) ∧ w'.cell? ⟨gb114, 1, none⟩ = some (.int .i64 x115001_1) ∧ w'.cell? ⟨gb114, 2, none⟩ = some (.int .i64 x115002_1) ∧ w'.cell? ⟨gb114, 3, none⟩ = some (.bool x115003_1) ∧ w'.cell? ⟨gb114, 4, none⟩ = some (.int .i64 x115004_1)) (ds := []) #[false, false, false, false, false, false, false, false, false, false, false, false, false, false, false, false, false, false, false, false, false, false, false, false, false, false] (by kernel_rfl) rfl rfl ⟨(blk_cell BK139.out 0).trans rfl, (blk_cell BK139.out 1).trans rfl, (blk_cell BK139.out 2).trans rfl, (blk_cell BK139.out 3).trans rfl, (blk_cell BK139.out 4).trans rfl, (blk_cell BK114.out 0).trans rfl, (blk_cell BK114.out 1).trans rfl, (blk_cell BK114.out 2).trans rfl, (blk_cell BK114.out 3).trans rfl, (blk_cell BK114.out 4).trans rfl⟩ (fun hHeld => ?_); refine with_tabW spykeep1_ClockSyncTruth.tab15 spykeep1_ClockSyncTruth.bits15 (fun HT_ HW_ => ?_)
                 generalize w62.drew = w63 at HO_114002 BK113 BK114 BK128 BK139 HI101 HB hHeld ⊢
                 refine pure_ (i := 0) (N := some 76) (v := ?_) (a' := ?_) #[true, false, false, false, false, false, false, false, false, false, false, false, false, false, false, false, false, false, false, false, false, false, false, false, false, false] rfl rfl (any_of HT_.out (by kernel_rfl)) (fun _ _ _ h => h) (Or.inl ⟨by rfl, ?_⟩) ?_ ?_
                 rotate_left
                 · intro w'
                   go_simp
                   with_reducible rfl
                 rotate_left
                 · simp only [Act.put, List.setIfInBounds_toArray, List.set_cons_zero, List.set_cons_succ, i64_w, i32_w]
                   rfl
                 refine pure_ (i := 1) (N := some 77) (v := ?_) (a' := ?_) #[true, true, false, false, false, false, false, false, false, false, false, false, false, false, false, false, false, false, false, false, false, false, false, false, false, false] rfl rfl (any_of HT_.out (by kernel_rfl)) (fun _ _ _ h => h) (Or.inl ⟨by rfl, ?_⟩) ?_ ?_
                 rotate_left
                 · intro w'
                   go_simp
                   with_reducible rfl
                 rotate_left
                 · simp only [Act.put, List.setIfInBounds_toArray, List.set_cons_zero, List.set_cons_succ, i64_w, i32_w]
                   rfl
                 refine pure_ (i := 2) (N := some 78) (v := ?_) (a' := ?_) #[true, true, true, false, false, false, false, false, false, false, false, false, false, false, false, false, false, false, false, false, false, false, false, false, false, false] rfl rfl (any_of HT_.out (by kernel_rfl)) (fun _ _ _ h => h) (Or.inl ⟨by rfl, ?_⟩) ?_ ?_
                 rotate_left
                 · intro w'
                   go_simp
                   with_reducible rfl
                 rotate_left
                 · simp only [Act.put, List.setIfInBounds_toArray, List.set_cons_zero, List.set_cons_succ, i64_w, i32_w]
                   rfl
                 refine pure_ (i := 3) (N := some 79) (v := ?_) (a' := ?_) #[true, true, true, true, false, false, false, false, false, false, false, false, false, false, false, false, false, false, false, false, false, false, false, false, false, false] rfl rfl (any_of HT_.out (by kernel_rfl)) (fun _ _ _ h => h) (Or.inl ⟨by rfl, ?_⟩) ?_ ?_
                 rotate_left
                 · intro w'
                   go_simp
                   with_reducible rfl
                 rotate_left
                 · simp only [Act.put, List.setIfInBounds_toArray, List.set_cons_zero, List.set_cons_succ, i64_w, i32_w]
                   rfl
                 refine pure_ (i := 4) (N := some 80) (v := ?_) (a' := ?_) #[true, true, true, true, true, false, false, false, false, false, false, false, false, false, false, false, false, false, false, false, false, false, false, false, false, false] rfl rfl (any_of HT_.out (by kernel_rfl)) (fun _ _ _ h => h) (Or.inl ⟨by rfl, ?_⟩) ?_ ?_
                 rotate_left
                 · intro w'
                   go_simp
                   with_reducible rfl
                 rotate_left
                 · simp only [Act.put, List.setIfInBounds_toArray, List.set_cons_zero, List.set_cons_succ, i64_w, i32_w]
                   rfl
                 refine pure_ (i := 5) (N := some 81) (v := ?_) (a' := ?_) #[true, true, true, true, true, true, false, false, false, false, false, false, false, false, false, false, false, false, false, false, false, false, false, false, false, false] rfl rfl (any_of HT_.out (by kernel_rfl)) (fun _ _ _ h => h) (Or.inl ⟨by rfl, ?_⟩) ?_ ?_
                 rotate_left
                 · intro w'
                   go_simp
                   with_reducible rfl
                 rotate_left
                 · simp only [Act.put, List.setIfInBounds_toArray, List.set_cons_zero, List.set_cons_succ, i64_w, i32_w]
                   rfl
                 refine pure_ (i := 6) (N := some 82) (v := ?_) (a' := ?_) #[true, true, true, true, true, true, true, false, false, false, false, false, false, false, false, false, false, false, false, false, false, false, false, false, false, false] rfl rfl (any_of HT_.out (by kernel_rfl)) (fun _ _ _ h => h) (Or.inl ⟨by rfl, ?_⟩) ?_ ?_
                 rotate_left
                 · intro w'
                   go_simp
                   with_reducible rfl
                 rotate_left
                 · simp only [Act.put, List.setIfInBounds_toArray, List.set_cons_zero, List.set_cons_succ, i64_w, i32_w]
                   rfl
                 refine pure_ (i := 7) (N := some 83) (v := ?_) (a' := ?_) #[true, true, true, true, true, true, true, true, false, false, false, false, false, false, false, false, false, false, false, false, false, false, false, false, false, false] rfl rfl (any_of HT_.out (by kernel_rfl)) (fun _ _ _ h => h) (Or.inl ⟨by rfl, ?_⟩) ?_ ?_
                 rotate_left
                 · intro w'
                   go_simp
                   with_reducible rfl
                 rotate_left
                 · simp only [Act.put, List.setIfInBounds_toArray, List.set_cons_zero, List.set_cons_succ, i64_w, i32_w]
                   rfl
                 refine pure_ (i := 8) (N := some 84) (v := ?_) (a' := ?_) #[true, true, true, true, true, true, true, true, true, false, false, false, false, false, false, false, false, false, false, false, false, false, false, false, false, false] rfl rfl (any_of HT_.out (by kernel_rfl)) (fun _ _ _ h => h) (Or.inl ⟨by rfl, ?_⟩) ?_ ?_
                 rotate_left
                 · intro w'
                   go_simp
                   with_reducible rfl
                 rotate_left
                 · simp only [Act.put, List.setIfInBounds_toArray, List.set_cons_zero, List.set_cons_succ, i64_w, i32_w]
                   rfl
                 refine pure_ (i := 9) (N := some 85) (v := ?_) (a' := ?_) #[true, true, true, true, true, true, true, true, true, true, false, false, false, false, false, false, false, false, false, false, false, false, false, false, false, false] rfl rfl (any_of HT_.out (by kernel_rfl)) (fun _ _ _ h => h) (Or.inl ⟨by rfl, ?_⟩) ?_ ?_
                 rotate_left
                 · intro w'
                   go_simp
                   with_reducible rfl
                 rotate_left
                 · simp only [Act.put, List.setIfInBounds_toArray, List.set_cons_zero, List.set_cons_succ, i64_w, i32_w]
                   rfl
                 refine pure_ (i := 10) (N := some 86) (v := ?_) (a' := ?_) #[true, true, true, true, true, true, true, true, true, true, true, false, false, false, false, false, false, false, false, false, false, false, false, false, false, false] rfl rfl (any_of HT_.out (by kernel_rfl)) (fun _ _ _ h => h) (Or.inl ⟨by rfl, ?_⟩) ?_ ?_
                 rotate_left
                 · intro w'
                   go_simp
                   with_reducible rfl
                 rotate_left
                 · simp only [Act.put, List.setIfInBounds_toArray, List.set_cons_zero, List.set_cons_succ, i64_w, i32_w]
                   rfl
                 refine pure_ (i := 11) (N := some 87) (v := ?_) (a' := ?_) #[true, true, true, true, true, true, true, true, true, true, true, true, false, false, false, false, false, false, false, false, false, false, false, false, false, false] rfl rfl (any_of HT_.out (by kernel_rfl)) (fun _ _ _ h => h) (Or.inl ⟨by rfl, ?_⟩) ?_ ?_
                 rotate_left
                 · intro w'
                   go_simp
                   with_reducible rfl
                 rotate_left
                 · simp only [Act.put, List.setIfInBounds_toArray, List.set_cons_zero, List.set_cons_succ, i64_w, i32_w]
                   rfl
                 refine pure_ (i := 13) (N := some 89) (v := ?_) (a' := ?_) #[true, true, true, true, true, true, true, true, true, true, true, true, false, true, false, false, false, false, false, false, false, false, false, false, false, false] rfl rfl (any_of HT_.out (by kernel_rfl)) (fun _ _ _ h => h) (Or.inl ⟨by rfl, ?_⟩) ?_ ?_
                 rotate_left
                 · intro w'
                   go_simp
                   with_reducible rfl
                 rotate_left
                 · simp only [Act.put, List.setIfInBounds_toArray, List.set_cons_zero, List.set_cons_succ, i64_w, i32_w]
                   rfl
                 refine take_ (i := 12) (N := some 88) (v := ?_) (a' := ?_) #[true, true, true, true, true, true, true, true, true, true, true, true, true, true, false, false, false, false, false, false, false, false, false, false, false, false] rfl rfl (take_ofW HT_.out HW_.out (by kernel_rfl)) (fun _ _ _ h => h) (Or.inl ⟨by rfl, ?_⟩) hHeld ?_ ?_
                 rotate_left
                 · rintro w' ⟨s0, s1, s2, s3, s4, s5, s6, s7, s8, s9⟩
                   go_simp
                   with_reducible rfl
                 rotate_left
                 · simp only [Act.put, List.setIfInBounds_toArray, List.set_cons_zero, List.set_cons_succ, i64_w, i32_w]
                   rfl
                 refine one_ (i := 14) (N := some 90) #[true, true, true, true, true, true, true, true, true, true, true, true, true, true, true, false, false, false, false, false, false, false, false, false, false, false] rfl rfl (one_of HT_.out (by kernel_rfl)) (by decide) (fun K hK => ?_)
                 refine goes_ Try.func18 (by kernel_rfl) rfl #[.agg #[.int .i64 t134, .int .i64 t135, .bool t136], .int .i64 (wrap64 ((wrap64 ((wrap64 (x8_1 + t118)) + t122)) + t129))] (by rfl) rfl rfl (by (try simp only [List.map_toArray, List.map_cons, List.map_nil]); first | done | rfl | (simp only [List.length_drop, List.length_take]; rfl)) ?_
                 with_reducible refine (bound_Has_api_Tick.calls k1 t134 t135 t136 (wrap64 ((wrap64 ((wrap64 (x8_1 + t118)) + t122)) + t129)) true _ A31.out).mono ?_
                 rintro e w64 ⟨rfl, hb⟩
                 refine ⟨_, rfl, ?_⟩
                 have n0_ := Aside0.mk (Kd.R_below (by (with_reducible repeat (first | apply Kd.R_alloc | apply Kd.R_drewN | apply Kd.R_drew)); exact HO_114002.out) hb)
                 have n1_ := bkb_ BK113 hb rfl
                 have n2_ := bkb_ BK114 hb rfl
                 have n3_ := Aside0.mk (IsS25.below (by repeat (first | (with_reducible first | exact HI101.out | apply IsS25.alloc | apply IsS25.drewN | apply IsS25.drew | apply IsS25.set_1 | refine IsS25.far ?_ NB101_113.out _ | refine IsS25.far ?_ NB101_114.out _ | refine IsS25.far ?_ NB101_128.out _ | refine IsS25.far ?_ NB101_139.out _) | exact HI101.out)) hb)
                 have n4_ := bkb_ BK128 hb rfl
                 have n5_ := bkb_ BK139 hb rfl
                 have n6_ := Aside0.mk (below_step (by repeat (first | (with_reducible first | exact HB.out | apply below_alloc | apply pw_below_drewN | apply below_drew1 | refine below_set ?_ (IsS25.ge HI101.out) | refine below_set ?_ GE113.out | refine below_set ?_ GE114.out | refine below_set ?_ GE128.out | refine below_set ?_ GE139.out) | exact HB.out)) hb)
                 clear HO_114002
                 clear BK113
                 clear BK114
                 clear HI101
                 clear BK128
                 clear BK139
                 clear HB
                 have HO_114002 := n0_
                 have BK113 := n1_
                 have BK114 := n2_
                 have HI101 := n3_
                 have BK128 := n4_
                 have BK139 := n5_
                 have HB := n6_
                 clear n0_ n1_ n2_ n3_ n4_ n5_ n6_
                 (try clear hb)
                 (try clear hb2)
                 (try clear hk)
                 (try clear hi)
                 refine hK.out _ _ ⟨(blk_cell BK139.out 0).trans rfl, (blk_cell BK139.out 1).trans rfl, (blk_cell BK139.out 2).trans rfl, (blk_cell BK139.out 3).trans rfl, (blk_cell BK139.out 4).trans rfl, (blk_cell BK114.out 0).trans rfl, (blk_cell BK114.out 1).trans rfl, (blk_cell BK114.out 2).trans rfl, (blk_cell BK114.out 3).trans rfl, (blk_cell BK114.out 4).trans rfl⟩ (fun hHeld => ?_)
                 clear hK K
                 refine norm_ (a' := ?_) ?_ ?_
                 rotate_left
                 · show Act.put _ (some 90) _ = _
                   simp only [Act.put, List.setIfInBounds_toArray, List.set_cons_zero, List.set_cons_succ, i64_w, i32_w]
                   rfl
                 refine pure_ (i := 15) (N := some 91) (v := ?_) (a' := ?_) #[true, true, true, true, true, true, true, true, true, true, true, true, true, true, true, true, false, false, false, false, false, false, false, false, false, false] rfl rfl (any_of HT_.out (by kernel_rfl)) (fun _ _ _ h => h) (Or.inl ⟨by rfl, ?_⟩) ?_ ?_
                 rotate_left
                 · intro w'
                   go_simp
                   with_reducible rfl
                 rotate_left
                 · simp only [Act.put, List.setIfInBounds_toArray, List.set_cons_zero, List.set_cons_succ, i64_w, i32_w]
                   rfl
                 refine pure_ (i := 16) (N := some 92) (v := ?_) (a' := ?_) #[true, true, true, true, true, true, true, true, true, true, true, true, true, true, true, true, true, false, false, false, false, false, false, false, false, false] rfl rfl (any_of HT_.out (by kernel_rfl)) (fun _ _ _ h => h) (Or.inl ⟨by rfl, ?_⟩) ?_ ?_
                 rotate_left
                 · intro w'
                   go_simp
                   with_reducible rfl
                 rotate_left
                 · simp only [Act.put, List.setIfInBounds_toArray, List.set_cons_zero, List.set_cons_succ, i64_w, i32_w]
                   rfl
                 refine pure_ (i := 17) (N := some 93) (v := ?_) (a' := ?_) #[true, true, true, true, true, true, true, true, true, true, true, true, true, true, true, true, true, true, false, false, false, false, false, false, false, false] rfl rfl (any_of HT_.out (by kernel_rfl)) (fun _ _ _ h => h) (Or.inl ⟨by rfl, ?_⟩) ?_ ?_
                 rotate_left
                 · intro w'
                   go_simp
                   with_reducible rfl
                 rotate_left
                 · simp only [Act.put, List.setIfInBounds_toArray, List.set_cons_zero, List.set_cons_succ, i64_w, i32_w]
                   rfl
                 refine pure_ (i := 18) (N := some 94) (v := ?_) (a' := ?_) #[true, true, true, true, true, true, true, true, true, true, true, true, true, true, true, true, true, true, true, false, false, false, false, false, false, false] rfl rfl (any_of HT_.out (by kernel_rfl)) (fun _ _ _ h => h) (Or.inl ⟨by rfl, ?_⟩) ?_ ?_
                 rotate_left
                 · intro w'
                   go_simp
                   with_reducible rfl
                 rotate_left
                 · simp only [Act.put, List.setIfInBounds_toArray, List.set_cons_zero, List.set_cons_succ, i64_w, i32_w]
                   rfl
                 refine pure_ (i := 21) (N := some 97) (v := ?_) (a' := ?_) #[true, true, true, true, true, true, true, true, true, true, true, true, true, true, true, true, true, true, true, false, false, true, false, false, false, false] rfl rfl (any_of HT_.out (by kernel_rfl)) (fun _ _ _ h => h) (Or.inl ⟨by rfl, ?_⟩) ?_ ?_
                 rotate_left
                 · intro w'
                   go_simp
                   with_reducible rfl
                 rotate_left
                 · simp only [Act.put, List.setIfInBounds_toArray, List.set_cons_zero, List.set_cons_succ, i64_w, i32_w]
                   rfl
                 refine take_ (i := 19) (N := some 95) (v := ?_) (a' := ?_) #[true, true, true, true, true, true, true, true, true, true, true, true, true, true, true, true, true, true, true, true, false, true, false, false, false, false] rfl rfl (take_ofW HT_.out HW_.out (by kernel_rfl)) (fun _ _ _ h => h) (Or.inl ⟨by rfl, ?_⟩) hHeld ?_ ?_
                 rotate_left
                 · rintro w' ⟨s0, s1, s2, s3, s4, s5, s6, s7, s8, s9⟩
                   go_simp
                   with_reducible rfl
                 rotate_left
                 · simp only [Act.put, List.setIfInBounds_toArray, List.set_cons_zero, List.set_cons_succ, i64_w, i32_w]
                   rfl
                 refine take_ (i := 20) (N := some 96) (v := ?_) (a' := ?_) #[true, true, true, true, true, true, true, true, true, true, true, true, true, true, true, true, true, true, true, true, true, true, false, false, false, false] rfl rfl (take_ofW HT_.out HW_.out (by kernel_rfl)) (fun _ _ _ h => h) (Or.inl ⟨by rfl, ?_⟩) hHeld ?_ ?_
                 rotate_left
                 · rintro w' ⟨s0, s1, s2, s3, s4, s5, s6, s7, s8, s9⟩
                   go_simp
                   with_reducible rfl
                 rotate_left
                 · simp only [Act.put, List.setIfInBounds_toArray, List.set_cons_zero, List.set_cons_succ, i64_w, i32_w]
                   rfl
                 refine one_ (i := 22) (N := some 98) #[true, true, true, true, true, true, true, true, true, true, true, true, true, true, true, true, true, true, true, true, true, true, true, false, false, false] rfl rfl (one_of HT_.out (by kernel_rfl)) (by decide) (fun K hK => ?_)
                 refine goes_ Try.func20 (by kernel_rfl) rfl #[.agg #[.int .i64 x115000_1, .int .i64 x115001_1, .int .i64 x115002_1, .bool x115003_1, .int .i64 x115004_1], .int .i64 t131] (by rfl) rfl rfl (by (try simp only [List.map_toArray, List.map_cons, List.map_nil]); first | done | rfl | (simp only [List.length_drop, List.length_take]; rfl)) ?_
                 with_reducible refine (clock_Uniform.calls k1 x115000_1 x115001_1 x115002_1 x115003_1 x115004_1 t131 t141 t142 t143 _ A33.out).mono ?_
                 rintro e w65 ⟨rfl, hb⟩
                 refine ⟨_, rfl, ?_⟩
                 have n0_ := Aside0.mk (Kd.R_below (by (with_reducible repeat (first | apply Kd.R_alloc | apply Kd.R_drewN | apply Kd.R_drew)); exact HO_114002.out) hb)
                 have n1_ := bkb_ BK113 hb rfl
                 have n2_ := bkb_ BK114 hb rfl
                 have n3_ := Aside0.mk (IsS25.below (by repeat (first | (with_reducible first | exact HI101.out | apply IsS25.alloc | apply IsS25.drewN | apply IsS25.drew | apply IsS25.set_1 | refine IsS25.far ?_ NB101_113.out _ | refine IsS25.far ?_ NB101_114.out _ | refine IsS25.far ?_ NB101_128.out _ | refine IsS25.far ?_ NB101_139.out _) | exact HI101.out)) hb)
                 have n4_ := bkb_ BK128 hb rfl
                 have n5_ := bkb_ BK139 hb rfl
                 have n6_ := Aside0.mk (below_step (by repeat (first | (with_reducible first | exact HB.out | apply below_alloc | apply pw_below_drewN | apply below_drew1 | refine below_set ?_ (IsS25.ge HI101.out) | refine below_set ?_ GE113.out | refine below_set ?_ GE114.out | refine below_set ?_ GE128.out | refine below_set ?_ GE139.out) | exact HB.out)) hb)
                 clear HO_114002
                 clear BK113
                 clear BK114
                 clear HI101
                 clear BK128
                 clear BK139
                 clear HB
                 have HO_114002 := n0_
                 have BK113 := n1_
                 have BK114 := n2_
                 have HI101 := n3_
                 have BK128 := n4_
                 have BK139 := n5_
                 have HB := n6_
                 clear n0_ n1_ n2_ n3_ n4_ n5_ n6_
                 (try clear hb)
                 (try clear hb2)
                 (try clear hk)
                 (try clear hi)
                 refine hK.out _ _ ⟨(blk_cell BK139.out 0).trans rfl, (blk_cell BK139.out 1).trans rfl, (blk_cell BK139.out 2).trans rfl, (blk_cell BK139.out 3).trans rfl, (blk_cell BK139.out 4).trans rfl, (blk_cell BK114.out 0).trans rfl, (blk_cell BK114.out 1).trans rfl, (blk_cell BK114.out 2).trans rfl, (blk_cell BK114.out 3).trans rfl, (blk_cell BK114.out 4).trans rfl⟩ (fun hHeld => ?_)
                 clear hK K
                 refine norm_ (a' := ?_) ?_ ?_
                 rotate_left
                 · show Act.put _ (some 98) _ = _
                   simp only [Act.put, List.setIfInBounds_toArray, List.set_cons_zero, List.set_cons_succ, i64_w, i32_w]
                   rfl
                 refine one_ (i := 23) (N := some 99) #[true, true, true, true, true, true, true, true, true, true, true, true, true, true, true, true, true, true, true, true, true, true, true, true, false, false] rfl rfl (one_of HT_.out (by kernel_rfl)) (by decide) (fun K hK => ?_)
                 refine goes_ Try.func19 (by kernel_rfl) rfl #[.agg #[.int .i64 t134, .int .i64 t135, .bool t136], .agg #[.int .i64 t141, .int .i64 t142, .bool t143]] (by rfl) rfl rfl (by (try simp only [List.map_toArray, List.map_cons, List.map_nil]); first | done | rfl | (simp only [List.length_drop, List.length_take]; rfl)) ?_
                 with_reducible refine (bound_Inside_api_Tick.calls k1 t134 t135 t136 t141 t142 t143 true _ A34.out).mono ?_
                 rintro e w66 ⟨rfl, hb⟩
                 refine ⟨_, rfl, ?_⟩
                 have n0_ := Aside0.mk (Kd.R_below (by (with_reducible repeat (first | apply Kd.R_alloc | apply Kd.R_drewN | apply Kd.R_drew)); exact HO_114002.out) hb)
                 have n1_ := bkb_ BK113 hb rfl
                 have n2_ := bkb_ BK114 hb rfl
                 have n3_ := Aside0.mk (IsS25.below (by repeat (first | (with_reducible first | exact HI101.out | apply IsS25.alloc | apply IsS25.drewN | apply IsS25.drew | apply IsS25.set_1 | refine IsS25.far ?_ NB101_113.out _ | refine IsS25.far ?_ NB101_114.out _ | refine IsS25.far ?_ NB101_128.out _ | refine IsS25.far ?_ NB101_139.out _) | exact HI101.out)) hb)
                 have n4_ := bkb_ BK128 hb rfl
                 have n5_ := bkb_ BK139 hb rfl
                 have n6_ := Aside0.mk (below_step (by repeat (first | (with_reducible first | exact HB.out | apply below_alloc | apply pw_below_drewN | apply below_drew1 | refine below_set ?_ (IsS25.ge HI101.out) | refine below_set ?_ GE113.out | refine below_set ?_ GE114.out | refine below_set ?_ GE128.out | refine below_set ?_ GE139.out) | exact HB.out)) hb)
                 clear HO_114002
                 clear BK113
                 clear BK114
                 clear HI101
                 clear BK128
                 clear BK139
                 clear HB
                 have HO_114002 := n0_
                 have BK113 := n1_
                 have BK114 := n2_
                 have HI101 := n3_
                 have BK128 := n4_
                 have BK139 := n5_
                 have HB := n6_
                 clear n0_ n1_ n2_ n3_ n4_ n5_ n6_
                 (try clear hb)
                 (try clear hb2)
                 (try clear hk)
                 (try clear hi)
                 refine hK.out _ _ ⟨(blk_cell BK139.out 0).trans rfl, (blk_cell BK139.out 1).trans rfl, (blk_cell BK139.out 2).trans rfl, (blk_cell BK139.out 3).trans rfl, (blk_cell BK139.out 4).trans rfl, (blk_cell BK114.out 0).trans rfl, (blk_cell BK114.out 1).trans rfl, (blk_cell BK114.out 2).trans rfl, (blk_cell BK114.out 3).trans rfl, (blk_cell BK114.out 4).trans rfl⟩ (fun hHeld => ?_)
                 clear hK K
                 refine norm_ (a' := ?_) ?_ ?_
                 rotate_left
                 · show Act.put _ (some 99) _ = _
                   simp only [Act.put, List.setIfInBounds_toArray, List.set_cons_zero, List.set_cons_succ, i64_w, i32_w]
                   rfl
                 refine pure_ (i := 24) (N := some 100) (v := ?_) (a' := ?_) #[true, true, true, true, true, true, true, true, true, true, true, true, true, true, true, true, true, true, true, true, true, true, true, true, true, false] rfl rfl (any_of HT_.out (by kernel_rfl)) (fun _ _ _ h => h) (Or.inl ⟨by rfl, ?_⟩) ?_ ?_
                 rotate_left
                 · intro w'
                   go_simp
                   with_reducible rfl
                 rotate_left
                 · simp only [Act.put, List.setIfInBounds_toArray, List.set_cons_zero, List.set_cons_succ, i64_w, i32_w]
                   rfl
                 refine pure_ (i := 25) (N := some 101) (v := ?_) (a' := ?_) #[true, true, true, true, true, true, true, true, true, true, true, true, true, true, true, true, true, true, true, true, true, true, true, true, true, true] rfl rfl (any_of HT_.out (by kernel_rfl)) (fun _ _ _ h => h) (Or.inl ⟨by rfl, ?_⟩) ?_ ?_
                 rotate_left
                 · intro w'
                   go_simp
                   with_reducible rfl
                 rotate_left
                 · simp only [Act.put, List.setIfInBounds_toArray, List.set_cons_zero, List.set_cons_succ, i64_w, i32_w]
                   rfl
                 refine done_ (done_of HT_.out (by kernel_rfl)) ?_
                 have hcz67_0 : w66.cell? ⟨gb139, 0, none⟩ = some (.int .i64 t133) := (blk_cell BK139.out 0).trans rfl
                 have hcz67_1 : w66.cell? ⟨gb139, 1, none⟩ = some (.int .i64 t134) := (blk_cell BK139.out 1).trans rfl
                 have hcz67_2 : w66.cell? ⟨gb139, 2, none⟩ = some (.int .i64 t135) := (blk_cell BK139.out 2).trans rfl
                 have hcz67_3 : w66.cell? ⟨gb139, 3, none⟩ = some (.bool t136) := (blk_cell BK139.out 3).trans rfl
                 have hcz67_4 : w66.cell? ⟨gb139, 4, none⟩ = some (.int .i64 t137) := (blk_cell BK139.out 4).trans rfl
                 have hfz67_0 := blk_frozen BK139.out 0
                 have hfz67_1 := blk_frozen BK139.out 1
                 have hfz67_2 := blk_frozen BK139.out 2
                 have hfz67_3 := blk_frozen BK139.out 3
                 have hfz67_4 := blk_frozen BK139.out 4
                 have hcz68_0 : w66.cell? ⟨gb114, 0, none⟩ = some (.int .i64 x115000_1) := (blk_cell BK114.out 0).trans rfl
                 have hcz68_1 : w66.cell? ⟨gb114, 1, none⟩ = some (.int .i64 x115001_1) := (blk_cell BK114.out 1).trans rfl
                 have hcz68_2 : w66.cell? ⟨gb114, 2, none⟩ = some (.int .i64 x115002_1) := (blk_cell BK114.out 2).trans rfl
                 have hcz68_3 : w66.cell? ⟨gb114, 3, none⟩ = some (.bool x115003_1) := (blk_cell BK114.out 3).trans rfl
                 have hcz68_4 : w66.cell? ⟨gb114, 4, none⟩ = some (.int .i64 x115004_1) := (blk_cell BK114.out 4).trans rfl
                 have hfz68_0 := blk_frozen BK114.out 0
                 have hfz68_1 := blk_frozen BK114.out 1
                 have hfz68_2 := blk_frozen BK114.out 2
                 have hfz68_3 := blk_frozen BK114.out 3
                 have hfz68_4 := blk_frozen BK114.out 4
                 try go_wp2
                 go_roundg k1
                 case measure => have := HK1.out; omega
                 case rel => exact ⟨(wrap64 ((wrap64 ((wrap64 (x8_1 + t118)) + t122)) + t129)), (wrap64 (x33_1 + 1)), (t130), (t133), (t134), (t135), (t136), (t137), (by first | rfl | (simp; done) | (simp [*]; done)), (by first | rfl | (simp; done) | (simp [*]; done)), H', ⟨by have := HK1.out; omega⟩, ⟨by (with_reducible repeat (first | apply Kd.R_alloc | apply Kd.R_drewN | apply Kd.R_drew)); exact Kd.R_mono (Kd.R_far (p := ⟨gb114, 4, none⟩) (Kd.R_far (p := ⟨gb114, 3, none⟩) (Kd.R_far (p := ⟨gb114, 2, none⟩) (Kd.R_far (p := ⟨gb114, 1, none⟩) (Kd.R_far (p := ⟨gb114, 0, none⟩) (Kd.R_types HO_114002.out BK114.out (by decide)) (fun _ hk => hk.2) (.int .i64 t133)) (fun _ hk => hk.2) (.int .i64 t134)) (fun _ hk => hk.2) (.int .i64 t135)) (fun _ hk => hk.2) (.bool t136)) (fun _ hk => hk.2) (.int .i64 t137)) (fun _ hk => trivial)⟩, ⟨by (with_reducible repeat (first | refine blk_drewN ?_ _ | refine blk_drew ?_ | refine blk_alloc ?_ _)); refine blk_far ?_ NB113_114.out _; (with_reducible repeat (first | refine blk_drewN ?_ _ | refine blk_drew ?_ | refine blk_alloc ?_ _)); refine blk_far ?_ NB113_114.out _; (with_reducible repeat (first | refine blk_drewN ?_ _ | refine blk_drew ?_ | refine blk_alloc ?_ _)); refine blk_far ?_ NB113_114.out _; (with_reducible repeat (first | refine blk_drewN ?_ _ | refine blk_drew ?_ | refine blk_alloc ?_ _)); refine blk_far ?_ NB113_114.out _; (with_reducible repeat (first | refine blk_drewN ?_ _ | refine blk_drew ?_ | refine blk_alloc ?_ _)); refine blk_far ?_ NB113_114.out _; (with_reducible repeat (first | refine blk_drewN ?_ _ | refine blk_drew ?_ | refine blk_alloc ?_ _)); exact BK113.out⟩, ⟨by (with_reducible repeat (first | refine blk_drewN ?_ _ | refine blk_drew ?_ | refine blk_alloc ?_ _)); refine blk_put (cs := #[.int .i64 t133, .int .i64 t134, .int .i64 t135, .bool t136, .int .i64 x115004_1]) ?_ 4 _ rfl; (with_reducible repeat (first | refine blk_drewN ?_ _ | refine blk_drew ?_ | refine blk_alloc ?_ _)); refine blk_put (cs := #[.int .i64 t133, .int .i64 t134, .int .i64 t135, .bool x115003_1, .int .i64 x115004_1]) ?_ 3 _ rfl; (with_reducible repeat (first | refine blk_drewN ?_ _ | refine blk_drew ?_ | refine blk_alloc ?_ _)); refine blk_put (cs := #[.int .i64 t133, .int .i64 t134, .int .i64 x115002_1, .bool x115003_1, .int .i64 x115004_1]) ?_ 2 _ rfl; (with_reducible repeat (first | refine blk_drewN ?_ _ | refine blk_drew ?_ | refine blk_alloc ?_ _)); refine blk_put (cs := #[.int .i64 t133, .int .i64 x115001_1, .int .i64 x115002_1, .bool x115003_1, .int .i64 x115004_1]) ?_ 1 _ rfl; (with_reducible repeat (first | refine blk_drewN ?_ _ | refine blk_drew ?_ | refine blk_alloc ?_ _)); refine blk_put (cs := #[.int .i64 x115000_1, .int .i64 x115001_1, .int .i64 x115002_1, .bool x115003_1, .int .i64 x115004_1]) ?_ 0 _ rfl; (with_reducible repeat (first | refine blk_drewN ?_ _ | refine blk_drew ?_ | refine blk_alloc ?_ _)); exact BK114.out⟩, ⟨by repeat (first | (with_reducible first | exact HI101.out | apply IsS25.alloc | apply IsS25.drewN | apply IsS25.drew | apply IsS25.set_1 | refine IsS25.far ?_ NB101_113.out _ | refine IsS25.far ?_ NB101_114.out _ | refine IsS25.far ?_ NB101_128.out _ | refine IsS25.far ?_ NB101_139.out _) | exact HI101.out)⟩, ⟨by repeat (first | (with_reducible first | exact HB.out | apply below_alloc | apply pw_below_drewN | apply below_drew1 | refine below_set ?_ (IsS25.ge HI101.out) | refine below_set ?_ GE113.out | refine below_set ?_ GE114.out | refine below_set ?_ GE128.out | refine below_set ?_ GE139.out) | exact HB.out)⟩⟩
               · replace c35 := Bool.eq_false_iff.mpr c35
                 subst c35
                 have H1 : (none) = some r := by rw [if_neg (show ¬ (false = true) by decide)] at H; exact H
                 clear H
                 have H := H1
                 clear H1
                 exact absurd H (by simp)
             · replace c32 := Bool.eq_false_iff.mpr c32
               subst c32
               have H1 : (none) = some r := by rw [if_neg (show ¬ (false = true) by decide)] at H; exact H
               clear H
               have H := H1
               clear H1
               exact absurd H (by simp)
           · rw [if_neg c30] at H
             exact absurd H (by simp)
         · rw [if_neg c29] at H
           exact absurd H (by simp)
       · rw [if_neg c28] at H
         exact absurd H (by simp)
     · rw [if_neg c19] at H
       have c19b0 : decide (x33_1 < (wrap64 (t116 + 1))) = false := decide_eq_false c19
       clear c19
       replace H := Option.bind_eq_some_iff.mp H
       obtain ⟨t145, A690, H⟩ := H
       replace H : ((clock_Reads.f k1 t102 t103 t104 (wrap64 (x8_1 + t145))).bind fun bt146 => (if bt146.2 = 0 then ((clock_Uniform.f k1 x115000_1 x115001_1 x115002_1 x115003_1 x115004_1 bt146.1).bind fun bt148 => ((bound_Has_api_Tick.f k1 bt148.1 bt148.2.1 bt148.2.2 (wrap64 (x8_1 + t145))).bind fun t151 => (some t151))) else (none))) = some r := H
       have A69 := Aside0.mk A690
       clear A690
       replace H := Option.bind_eq_some_iff.mp H
       obtain ⟨⟨t146, t147⟩, A700, H⟩ := H
       replace H : (if t147 = 0 then ((clock_Uniform.f k1 x115000_1 x115001_1 x115002_1 x115003_1 x115004_1 t146).bind fun bt148 => ((bound_Has_api_Tick.f k1 bt148.1 bt148.2.1 bt148.2.2 (wrap64 (x8_1 + t145))).bind fun t151 => (some t151))) else (none)) = some r := H
       have A70 := Aside0.mk A700
       clear A700
       by_cases c71 : t147 = 0
       · rw [if_pos c71] at H
         have c71b0 : (t147 == 0) = true := beq_iff_eq.mpr c71
         have c71b1 : (t147 != 0) = false := bne_eq_false_iff_eq.mpr c71
         clear c71
         replace H := Option.bind_eq_some_iff.mp H
         obtain ⟨⟨t148, t149, t150⟩, A720, H⟩ := H
         replace H : ((bound_Has_api_Tick.f k1 t148 t149 t150 (wrap64 (x8_1 + t145))).bind fun t151 => (some t151)) = some r := H
         have A72 := Aside0.mk A720
         clear A720
         replace H := Option.bind_eq_some_iff.mp H
         obtain ⟨t151, A730, H⟩ := H
         replace H : (some t151) = some r := H
         have A73 := Aside0.mk A730
         clear A730
         obtain rfl := Option.some.inj H
         go_wp2_with (first | ((with_reducible refine gate_callee (f := 21) rfl ?_); refine goesL_ (some 106) rfl rfl Try.func21 (by kernel_rfl) rfl #[.int .i64 a1, .int .i64 5000] rfl (by (try simp only [List.map_toArray, List.map_cons, List.map_nil]); first | done | rfl | (simp only [List.length_drop, List.length_take]; rfl)) ?_; (with_reducible refine (spymake_Below.calls a1 5000 t145 _ A69.out).mono ?_); rintro e w' ⟨rfl, ⟨nd, rfl⟩⟩; refine ⟨_, rfl, ?_⟩; have hnb74 := NB113_114.out; have hnc74 := NB114_113.out; have hnb75 := NB113_101.out; have hnc75 := NB101_113.out; have hcz76_0 : wr.cell? ⟨gb113, 0, none⟩ = some (.int .i64 t102) := (blk_cell BK113.out 0).trans rfl; have hcz76_1 : wr.cell? ⟨gb113, 1, none⟩ = some (.int .i64 t103) := (blk_cell BK113.out 1).trans rfl; have hcz76_2 : wr.cell? ⟨gb113, 2, none⟩ = some (.slice Ao14 t104.length co14) := (blk_cell BK113.out 2).trans rfl; have hfz76_0 := blk_frozen BK113.out 0; have hfz76_1 := blk_frozen BK113.out 1; have hfz76_2 := blk_frozen BK113.out 2) | ((with_reducible refine gate_callee (f := 16) rfl ?_); refine goesL_ (some 111) rfl rfl Try.func16 (by kernel_rfl) rfl #[.agg #[.int .i64 t102, .int .i64 t103, .slice Ao14 t104.length co14], .int .i64 (wrap64 (x8_1 + t145))] rfl (by (try simp only [List.map_toArray, List.map_cons, List.map_nil]); first | done | rfl | (simp only [List.length_drop, List.length_take]; rfl)) ?_; (with_reducible refine (clock_Reads.calls k1 t102 t103 _ _ t104 (wrap64 (x8_1 + t145)) t146 t147 _ ?side1 ?side2 A70.out).mono ?_); (case side1 => repeat (first | exact (Kd.R_reads' HO_114002.out).2.2 | (with_reducible refine Kd.C_alloc ?_ _) | (with_reducible refine Kd.C_drewN ?_ _) | (with_reducible refine Kd.C_drew ?_))); (case side2 => exact (Kd.R_reads' HO_114002.out).2.1); rintro e w77 ⟨rfl, hb⟩; refine ⟨_, rfl, ?_⟩; have n0_ := Aside0.mk (Kd.R_below (by (with_reducible repeat (first | apply Kd.R_alloc | apply Kd.R_drewN | apply Kd.R_drew)); exact HO_114002.out) hb); have n1_ := bkb_ BK113 hb rfl; have n2_ := bkb_ BK114 hb rfl; have n3_ := Aside0.mk (IsS25.below (by repeat (first | (with_reducible first | exact HI101.out | apply IsS25.alloc | apply IsS25.drewN | apply IsS25.drew | apply IsS25.set_1 | refine IsS25.far ?_ NB101_113.out _ | refine IsS25.far ?_ NB101_114.out _) | exact HI101.out)) hb); have n4_ := Aside0.mk (below_step (by repeat (first | (with_reducible first | exact HB.out | apply below_alloc | apply pw_below_drewN | apply below_drew1 | refine below_set ?_ (IsS25.ge HI101.out) | refine below_set ?_ GE113.out | refine below_set ?_ GE114.out) | exact HB.out)) hb); clear HO_114002; clear BK113; clear BK114; clear HI101; clear HB; have HO_114002 := n0_; have BK113 := n1_; have BK114 := n2_; have HI101 := n3_; have HB := n4_; clear n0_ n1_ n2_ n3_ n4_; (try clear hb); (try clear hb2); (try clear hk); (try clear hi); have hnb78 := NB114_101.out; have hnc78 := NB101_114.out; have hcz79_0 : w77.cell? ⟨gb114, 0, none⟩ = some (.int .i64 x115000_1) := (blk_cell BK114.out 0).trans rfl; have hcz79_1 : w77.cell? ⟨gb114, 1, none⟩ = some (.int .i64 x115001_1) := (blk_cell BK114.out 1).trans rfl; have hcz79_2 : w77.cell? ⟨gb114, 2, none⟩ = some (.int .i64 x115002_1) := (blk_cell BK114.out 2).trans rfl; have hcz79_3 : w77.cell? ⟨gb114, 3, none⟩ = some (.bool x115003_1) := (blk_cell BK114.out 3).trans rfl; have hcz79_4 : w77.cell? ⟨gb114, 4, none⟩ = some (.int .i64 x115004_1) := (blk_cell BK114.out 4).trans rfl; have hfz79_0 := blk_frozen BK114.out 0; have hfz79_1 := blk_frozen BK114.out 1; have hfz79_2 := blk_frozen BK114.out 2; have hfz79_3 := blk_frozen BK114.out 3; have hfz79_4 := blk_frozen BK114.out 4) | (go_at_call 20; (with_reducible refine (clock_Uniform.calls k1 x115000_1 x115001_1 x115002_1 x115003_1 x115004_1 t146 t148 t149 t150 _ A72.out).mono ?_); rintro e w80 ⟨rfl, hb⟩; have n0_ := Aside0.mk (Kd.R_below (by (with_reducible repeat (first | apply Kd.R_alloc | apply Kd.R_drewN | apply Kd.R_drew)); exact HO_114002.out) hb); have n1_ := bkb_ BK113 hb rfl; have n2_ := bkb_ BK114 hb rfl; have n3_ := Aside0.mk (IsS25.below (by repeat (first | (with_reducible first | exact HI101.out | apply IsS25.alloc | apply IsS25.drewN | apply IsS25.drew | apply IsS25.set_1 | refine IsS25.far ?_ NB101_113.out _ | refine IsS25.far ?_ NB101_114.out _) | exact HI101.out)) hb); have n4_ := Aside0.mk (below_step (by repeat (first | (with_reducible first | exact HB.out | apply below_alloc | apply pw_below_drewN | apply below_drew1 | refine below_set ?_ (IsS25.ge HI101.out) | refine below_set ?_ GE113.out | refine below_set ?_ GE114.out) | exact HB.out)) hb); clear HO_114002; clear BK113; clear BK114; clear HI101; clear HB; have HO_114002 := n0_; have BK113 := n1_; have BK114 := n2_; have HI101 := n3_; have HB := n4_; clear n0_ n1_ n2_ n3_ n4_; (try clear hb); (try clear hb2); (try clear hk); (try clear hi)) | (go_at_call 18; (with_reducible refine (bound_Has_api_Tick.calls k1 t148 t149 t150 (wrap64 (x8_1 + t145)) t151 _ A73.out).mono ?_); rintro e w81 ⟨rfl, hb⟩; have n0_ := Aside0.mk (Kd.R_below (by (with_reducible repeat (first | apply Kd.R_alloc | apply Kd.R_drewN | apply Kd.R_drew)); exact HO_114002.out) hb); have n1_ := bkb_ BK113 hb rfl; have n2_ := bkb_ BK114 hb rfl; have n3_ := Aside0.mk (IsS25.below (by repeat (first | (with_reducible first | exact HI101.out | apply IsS25.alloc | apply IsS25.drewN | apply IsS25.drew | apply IsS25.set_1 | refine IsS25.far ?_ NB101_113.out _ | refine IsS25.far ?_ NB101_114.out _) | exact HI101.out)) hb); have n4_ := Aside0.mk (below_step (by repeat (first | (with_reducible first | exact HB.out | apply below_alloc | apply pw_below_drewN | apply below_drew1 | refine below_set ?_ (IsS25.ge HI101.out) | refine below_set ?_ GE113.out | refine below_set ?_ GE114.out) | exact HB.out)) hb); clear HO_114002; clear BK113; clear BK114; clear HI101; clear HB; have HO_114002 := n0_; have BK113 := n1_; have BK114 := n2_; have HI101 := n3_; have HB := n4_; clear n0_ n1_ n2_ n3_ n4_; (try clear hb); (try clear hb2); (try clear hk); (try clear hi)))
         go_ret
         exact ⟨by first | rfl | (simp [errW_none, errW_some] <;> rfl) | (simp [*, errW_none, errW_some] <;> rfl), by repeat (first | (with_reducible first | exact HB.out | apply below_alloc | apply pw_below_drewN | apply below_drew1 | refine below_set ?_ (IsS25.ge HI101.out) | refine below_set ?_ GE113.out | refine below_set ?_ GE114.out) | exact HB.out)⟩
       · rw [if_neg c71] at H
         exact absurd H (by simp)
 · replace c5 := Bool.eq_false_iff.mpr c5
   subst c5
   have H1 : (none) = some r := by rw [if_neg (show ¬ (false = true) by decide)] at H; exact H
   clear H
   have H := H1
   clear H1
   exact absurd H (by simp)

/-- THE ONE PURE STATEMENT of spykeep1_ClockSyncTruth: yours. -/
def spykeep1_ClockSyncTruth.Pure : Prop := ∀ (l0 : List Int) (a1 : Int), l0.length ≤ maxLen → l0.length * 8 ≤ 140737488351232 → (∀ x ∈ l0, (Lit.int .i64 x).wf = true) → (Lit.int .i64 a1).wf = true → ∃ k, spykeep1_ClockSyncTruth.f k l0 a1 = some true
theorem spykeep1_ClockSyncTruth.walk (P : spykeep1_ClockSyncTruth.Pure) (a0 : Option Addr) (len0 cap0 : Nat) (z0 : List Int) (a1 : Int) (w : World) (w0 : (a0 = none ∧ len0 = 0 ∧ cap0 = 0 ∧ z0 = []) ∨ ∃ x, a0 = some x ∧ len0 ≤ cap0 ∧ cap0 ≤ maxLen ∧ z0.length = cap0 ∧ (∀ i, i < z0.length → w.cell? (x.add i) = some (.int .i64 (z0.getD i 0))) ∧ ∀ n ∈ z0, (Lit.int .i64 n).wf = true) (y0 : len0 * 8 ≤ 140737488351232) (w1 : (Lit.int .i64 a1).wf = true) :
 Calls Try.prog 3 #[.slice a0 len0 cap0, .int .i64 a1] w fun e w' => e = .returned (.bool true) ∧ Below w.heap.size w w' := by
 obtain ⟨l0, rfl, hr0, hm0, hw0, hc0⟩ := ReadsInt.ofRowC w0
 obtain ⟨k, h⟩ := P l0 a1 hm0 y0 hw0 w1
 refine (spykeep1_ClockSyncTruth.calls k _ _ l0 a1 true w (Kd.C_of_reads (d := (0 : Int)) (h1 := fun _ => rfl) hr0) hc0 h).mono ?_
 rintro e w' ⟨rfl, hd⟩
 exact ⟨rfl, hd⟩

end Go.Proofs.Ytpophefonhpnmaa.Q
