/- Contracts of Go functions of the seat, one by one: each call returns what the Lean function of the same name says, wherever that is 'some'; no other condition. Written by a program of this session. -/
import Derived.Test.YtbaedcjophgiiaaKClockShowsTruthQx0
import Derived.Test.YtbaedcjophgiiaaKClockShowsTruthQx4
import Derived.Test.YtbaedcjophgiiaaKClockShowsTruthQx29
import Derived.Test.YtbaedcjophgiiaaKClockShowsTruthQx33
import Derived.Test.YtbaedcjophgiiaaKClockShowsTruthQx34
import Derived.Test.YtbaedcjophgiiaaKClockShowsTruthQx35
import Derived.Test.YtbaedcjophgiiaaKClockShowsTruthQx36
import Derived.Test.YtbaedcjophgiiaaKClockShowsTruthQx37
namespace Go.Proofs.Ytbaedcjophgiiaa.Q
open Go.RowKit Go.Proofs.YtbaedcjophgiiaaW.PrintWords Go.Proofs.YtbaedcjophgiiaaW.PrintLast Go.Proofs.YtbaedcjophgiiaaW.PrintMore
attribute [local go_sem] max2_int min2_int max_two min_two max_three min_three max_four min_four   -- for this text's walks alone
set_option linter.unusedVariables false
set_option linter.unusedSimpArgs false

/-! ### spykeep1_ClockShowsTruth: function 14 -/
def spykeep1_ClockShowsTruth.f (k : Nat) (l0 : List Int) (a1 : Int) : Option (Bool) := (spykeep1_running.f k l0 0).bind fun bt102 => ((spymake_Below.f a1 30000).bind fun t115 => ((clock_Reads.f k bt102.1 bt102.2.1 bt102.2.2.1 (wrap64 (bt102.2.1 + t115))).bind fun bt116 => ((spykeep1_clockFact.f k).bind fun t118 => (if t118 = true then (if bt116.2 = 0 then ((clock_Uniform.f k bt102.2.2.2.1 bt102.2.2.2.2.1 bt102.2.2.2.2.2.1 bt102.2.2.2.2.2.2.1 bt102.2.2.2.2.2.2.2.1 bt116.1).bind fun bt119 => ((bound_Has_api_Tick.f k bt119.1 bt119.2.1 bt119.2.2 (wrap64 (bt102.2.1 + t115))).bind fun t122 => (if t122 = true then ((clock_Show.f k bt102.2.2.2.1 bt102.2.2.2.2.1 bt102.2.2.2.2.2.1 bt102.2.2.2.2.2.2.1 bt102.2.2.2.2.2.2.2.1 (wrap64 (bt102.2.1 + t115))).bind fun bt123 => ((bound_Has_api_Tick.f k bt123.1 bt123.2.1 bt123.2.2 bt116.1).bind fun t126 => (if t126 = true then ((clock_Uniform.f k bt102.2.2.2.1 bt102.2.2.2.2.1 bt102.2.2.2.2.2.1 bt102.2.2.2.2.2.2.1 bt102.2.2.2.2.2.2.2.1 bt116.1).bind fun bt127 => (some (!bt119.2.2))) else (none)))) else (none)))) else (none)) else (none)))))
theorem spykeep1_ClockShowsTruth.mono : ∀ a0 a1 k, LeO (spykeep1_ClockShowsTruth.f k a0 a1) (spykeep1_ClockShowsTruth.f (k + 1) a0 a1) := by
  intro a0 a1 k
  unfold spykeep1_ClockShowsTruth.f
  repeat' first
      | (with_reducible exact bound_Has_api_Tick.mono _ _ _ _ _)
      | (with_reducible exact clock_Reads.mono _ _ _ _ _)
      | (with_reducible exact clock_Show.mono _ _ _ _ _ _ _)
      | (with_reducible exact clock_Uniform.mono _ _ _ _ _ _ _)
      | (with_reducible exact spykeep1_clockFact.mono _)
      | (with_reducible exact spykeep1_running.mono _ _ _)
      | (with_reducible exact LeO.refl _)
      | (with_reducible exact LeO.none _)
      | (with_reducible refine LeO.ite ?_ ?_)
      | (with_reducible refine LeO.bind ?_ (fun _ => ?_))
      | exact bound_Has_api_Tick.mono _ _ _ _ _
      | exact clock_Reads.mono _ _ _ _ _
      | exact clock_Show.mono _ _ _ _ _ _ _
      | exact clock_Uniform.mono _ _ _ _ _ _ _
      | exact spykeep1_clockFact.mono _
      | exact spykeep1_running.mono _ _ _
      | exact LeO.none _
      | refine LeO.ite ?_ ?_
      | refine LeO.bind ?_ (fun _ => ?_)
set_option maxHeartbeats 8000000 in
set_option maxRecDepth 100000 in
theorem spykeep1_ClockShowsTruth.calls (k : Nat) (A0 : Option Addr) (c0 : Nat) (l0 : List Int) (a1 : Int) (r : Bool) (w : World) (hr0 : Kd.C (Kd.int .i64) w A0 l0.length l0) (hc0 : l0.length ≤ c0) (h : spykeep1_ClockShowsTruth.f k l0 a1 = some r) :
    Calls Try.prog 14 #[.slice A0 l0.length c0, .int .i64 a1] w fun e w' => e = .returned (.bool r) ∧ Below w.heap.size w w' := by
  have hu55 := Try.underlying55
  have hu94 := Try.underlying94
  have hu98 := Try.underlying98
  have hfld96_2 := fld96_2
  have HR0 := Aside0.mk hr0
  have HC0 := Aside0.mk hc0
  clear hr0 hc0
  have HB := Aside0.mk (Below.refl w.heap.size w)
  have H : ((spykeep1_running.f k l0 0).bind fun bt102 => ((spymake_Below.f a1 30000).bind fun t115 => ((clock_Reads.f k bt102.1 bt102.2.1 bt102.2.2.1 (wrap64 (bt102.2.1 + t115))).bind fun bt116 => ((spykeep1_clockFact.f k).bind fun t118 => (if t118 = true then (if bt116.2 = 0 then ((clock_Uniform.f k bt102.2.2.2.1 bt102.2.2.2.2.1 bt102.2.2.2.2.2.1 bt102.2.2.2.2.2.2.1 bt102.2.2.2.2.2.2.2.1 bt116.1).bind fun bt119 => ((bound_Has_api_Tick.f k bt119.1 bt119.2.1 bt119.2.2 (wrap64 (bt102.2.1 + t115))).bind fun t122 => (if t122 = true then ((clock_Show.f k bt102.2.2.2.1 bt102.2.2.2.2.1 bt102.2.2.2.2.2.1 bt102.2.2.2.2.2.2.1 bt102.2.2.2.2.2.2.2.1 (wrap64 (bt102.2.1 + t115))).bind fun bt123 => ((bound_Has_api_Tick.f k bt123.1 bt123.2.1 bt123.2.2 bt116.1).bind fun t126 => (if t126 = true then ((clock_Uniform.f k bt102.2.2.2.1 bt102.2.2.2.2.1 bt102.2.2.2.2.2.1 bt102.2.2.2.2.2.2.1 bt102.2.2.2.2.2.2.2.1 bt116.1).bind fun bt127 => (some (!bt119.2.2))) else (none)))) else (none)))) else (none)) else (none)))))) = some r := h
  clear h
  replace H := Option.bind_eq_some_iff.mp H
  obtain ⟨⟨t102, t103, t104, t107, t108, t109, t110, t111, t112⟩, A30, H⟩ := H
  replace H : ((spymake_Below.f a1 30000).bind fun t115 => ((clock_Reads.f k t102 t103 t104 (wrap64 (t103 + t115))).bind fun bt116 => ((spykeep1_clockFact.f k).bind fun t118 => (if t118 = true then (if bt116.2 = 0 then ((clock_Uniform.f k t107 t108 t109 t110 t111 bt116.1).bind fun bt119 => ((bound_Has_api_Tick.f k bt119.1 bt119.2.1 bt119.2.2 (wrap64 (t103 + t115))).bind fun t122 => (if t122 = true then ((clock_Show.f k t107 t108 t109 t110 t111 (wrap64 (t103 + t115))).bind fun bt123 => ((bound_Has_api_Tick.f k bt123.1 bt123.2.1 bt123.2.2 bt116.1).bind fun t126 => (if t126 = true then ((clock_Uniform.f k t107 t108 t109 t110 t111 bt116.1).bind fun bt127 => (some (!bt119.2.2))) else (none)))) else (none)))) else (none)) else (none))))) = some r := H
  have A3 := Aside0.mk A30
  clear A30
  replace H := Option.bind_eq_some_iff.mp H
  obtain ⟨t115, A40, H⟩ := H
  replace H : ((clock_Reads.f k t102 t103 t104 (wrap64 (t103 + t115))).bind fun bt116 => ((spykeep1_clockFact.f k).bind fun t118 => (if t118 = true then (if bt116.2 = 0 then ((clock_Uniform.f k t107 t108 t109 t110 t111 bt116.1).bind fun bt119 => ((bound_Has_api_Tick.f k bt119.1 bt119.2.1 bt119.2.2 (wrap64 (t103 + t115))).bind fun t122 => (if t122 = true then ((clock_Show.f k t107 t108 t109 t110 t111 (wrap64 (t103 + t115))).bind fun bt123 => ((bound_Has_api_Tick.f k bt123.1 bt123.2.1 bt123.2.2 bt116.1).bind fun t126 => (if t126 = true then ((clock_Uniform.f k t107 t108 t109 t110 t111 bt116.1).bind fun bt127 => (some (!bt119.2.2))) else (none)))) else (none)))) else (none)) else (none)))) = some r := H
  have A4 := Aside0.mk A40
  clear A40
  replace H := Option.bind_eq_some_iff.mp H
  obtain ⟨⟨t116, t117⟩, A50, H⟩ := H
  replace H : ((spykeep1_clockFact.f k).bind fun t118 => (if t118 = true then (if t117 = 0 then ((clock_Uniform.f k t107 t108 t109 t110 t111 t116).bind fun bt119 => ((bound_Has_api_Tick.f k bt119.1 bt119.2.1 bt119.2.2 (wrap64 (t103 + t115))).bind fun t122 => (if t122 = true then ((clock_Show.f k t107 t108 t109 t110 t111 (wrap64 (t103 + t115))).bind fun bt123 => ((bound_Has_api_Tick.f k bt123.1 bt123.2.1 bt123.2.2 t116).bind fun t126 => (if t126 = true then ((clock_Uniform.f k t107 t108 t109 t110 t111 t116).bind fun bt127 => (some (!bt119.2.2))) else (none)))) else (none)))) else (none)) else (none))) = some r := H
  have A5 := Aside0.mk A50
  clear A50
  replace H := Option.bind_eq_some_iff.mp H
  obtain ⟨t118, A60, H⟩ := H
  replace H : (if t118 = true then (if t117 = 0 then ((clock_Uniform.f k t107 t108 t109 t110 t111 t116).bind fun bt119 => ((bound_Has_api_Tick.f k bt119.1 bt119.2.1 bt119.2.2 (wrap64 (t103 + t115))).bind fun t122 => (if t122 = true then ((clock_Show.f k t107 t108 t109 t110 t111 (wrap64 (t103 + t115))).bind fun bt123 => ((bound_Has_api_Tick.f k bt123.1 bt123.2.1 bt123.2.2 t116).bind fun t126 => (if t126 = true then ((clock_Uniform.f k t107 t108 t109 t110 t111 t116).bind fun bt127 => (some (!bt119.2.2))) else (none)))) else (none)))) else (none)) else (none)) = some r := H
  have A6 := Aside0.mk A60
  clear A60
  by_cases c7 : t118 = true
  · subst c7
    have H1 : (if t117 = 0 then ((clock_Uniform.f k t107 t108 t109 t110 t111 t116).bind fun bt119 => ((bound_Has_api_Tick.f k bt119.1 bt119.2.1 bt119.2.2 (wrap64 (t103 + t115))).bind fun t122 => (if t122 = true then ((clock_Show.f k t107 t108 t109 t110 t111 (wrap64 (t103 + t115))).bind fun bt123 => ((bound_Has_api_Tick.f k bt123.1 bt123.2.1 bt123.2.2 t116).bind fun t126 => (if t126 = true then ((clock_Uniform.f k t107 t108 t109 t110 t111 t116).bind fun bt127 => (some (!bt119.2.2))) else (none)))) else (none)))) else (none)) = some r := by rw [if_pos rfl] at H; exact H
    clear H
    have H := H1
    clear H1
    by_cases c8 : t117 = 0
    · rw [if_pos c8] at H
      have c8b0 : (t117 == 0) = true := beq_iff_eq.mpr c8
      have c8b1 : (t117 != 0) = false := bne_eq_false_iff_eq.mpr c8
      clear c8
      replace H := Option.bind_eq_some_iff.mp H
      obtain ⟨⟨t119, t120, t121⟩, A90, H⟩ := H
      replace H : ((bound_Has_api_Tick.f k t119 t120 t121 (wrap64 (t103 + t115))).bind fun t122 => (if t122 = true then ((clock_Show.f k t107 t108 t109 t110 t111 (wrap64 (t103 + t115))).bind fun bt123 => ((bound_Has_api_Tick.f k bt123.1 bt123.2.1 bt123.2.2 t116).bind fun t126 => (if t126 = true then ((clock_Uniform.f k t107 t108 t109 t110 t111 t116).bind fun bt127 => (some (!t121))) else (none)))) else (none))) = some r := H
      have A9 := Aside0.mk A90
      clear A90
      replace H := Option.bind_eq_some_iff.mp H
      obtain ⟨t122, A100, H⟩ := H
      replace H : (if t122 = true then ((clock_Show.f k t107 t108 t109 t110 t111 (wrap64 (t103 + t115))).bind fun bt123 => ((bound_Has_api_Tick.f k bt123.1 bt123.2.1 bt123.2.2 t116).bind fun t126 => (if t126 = true then ((clock_Uniform.f k t107 t108 t109 t110 t111 t116).bind fun bt127 => (some (!t121))) else (none)))) else (none)) = some r := H
      have A10 := Aside0.mk A100
      clear A100
      by_cases c11 : t122 = true
      · subst c11
        have H1 : ((clock_Show.f k t107 t108 t109 t110 t111 (wrap64 (t103 + t115))).bind fun bt123 => ((bound_Has_api_Tick.f k bt123.1 bt123.2.1 bt123.2.2 t116).bind fun t126 => (if t126 = true then ((clock_Uniform.f k t107 t108 t109 t110 t111 t116).bind fun bt127 => (some (!t121))) else (none)))) = some r := by rw [if_pos rfl] at H; exact H
        clear H
        have H := H1
        clear H1
        replace H := Option.bind_eq_some_iff.mp H
        obtain ⟨⟨t123, t124, t125⟩, A120, H⟩ := H
        replace H : ((bound_Has_api_Tick.f k t123 t124 t125 t116).bind fun t126 => (if t126 = true then ((clock_Uniform.f k t107 t108 t109 t110 t111 t116).bind fun bt127 => (some (!t121))) else (none))) = some r := H
        have A12 := Aside0.mk A120
        clear A120
        replace H := Option.bind_eq_some_iff.mp H
        obtain ⟨t126, A130, H⟩ := H
        replace H : (if t126 = true then ((clock_Uniform.f k t107 t108 t109 t110 t111 t116).bind fun bt127 => (some (!t121))) else (none)) = some r := H
        have A13 := Aside0.mk A130
        clear A130
        by_cases c14 : t126 = true
        · subst c14
          have H1 : ((clock_Uniform.f k t107 t108 t109 t110 t111 t116).bind fun bt127 => (some (!t121))) = some r := by rw [if_pos rfl] at H; exact H
          clear H
          have H := H1
          clear H1
          replace H := Option.bind_eq_some_iff.mp H
          obtain ⟨⟨t127, t128, t129⟩, A150, H⟩ := H
          replace H : (some (!t121)) = some r := H
          have E_ := Option.some.inj (A9.out.symm.trans A150)
          simp only [Prod.mk.injEq] at E_
          obtain ⟨E0_, E1_, E2_⟩ := E_
          subst E0_
          subst E1_
          subst E2_
          have A15 := Aside0.mk A150
          clear A150
          obtain rfl := Option.some.inj H
          go_enter Try.func14, Try.ntmps14
          try go_wp2_with (first | ((with_reducible refine gate_dst (N := 13) rfl ?_); refine box_event ?hg (N := 13) ?hd (cs := #[.slice A0 l0.length c0, .int .i64 0]) (t := 55) ?hr ?_; (case hd => rfl); (case hg => rfl); (case hr => first | (go_simp; done) | (go_simp; rfl)); intro gb101 hg w16 hbox hb; have n0_ := Aside0.mk (below_step (by repeat (first | (with_reducible first | exact HB.out | apply below_alloc | apply pw_below_drewN | apply below_drew1) | exact HB.out)) hb); have n1_ := Aside0.mk ((show IsS55 w _ gb101 l0 0 from ⟨_, _, hbox, (by rw [hg]; exact (below_size (by repeat (first | (with_reducible first | exact HB.out | apply below_alloc | apply pw_below_drewN | apply below_drew1) | exact HB.out))) : w.heap.size ≤ gb101), HR0.out⟩)); have n2_ := Aside0.mk ((by rw [hg]; exact (below_size (by repeat (first | (with_reducible first | exact HB.out | apply below_alloc | apply pw_below_drewN | apply below_drew1) | exact HB.out))) : w.heap.size ≤ gb101)); have n3_ := Aside0.mk ((by rw [hg]; exact (below_size (by repeat (first | (with_reducible first | exact HB.out | apply below_alloc | apply pw_below_drewN | apply below_drew1) | exact HB.out))) : w.heap.size ≤ gb101)); clear HB; have HB := n0_; have HI101 := n1_; have GW101 := n2_; have GE101 := n3_; clear n0_ n1_ n2_ n3_; clear hb hbox hg) | ((with_reducible refine gate_callee (f := 56) rfl ?_); refine goesL_ (some 16) rfl rfl Try.func56 (by kernel_rfl) rfl #[.pointer (some ⟨gb101, 0, none⟩)] rfl (by (try simp only [List.map_toArray, List.map_cons, List.map_nil]); first | done | rfl | (simp only [List.length_drop, List.length_take]; rfl)) ?_; (with_reducible refine (spykeep1_running.calls k gb101 l0 0 t102 t103 t104 t107 t108 t109 t110 t111 t112 w _ ?side1 ?side2 A3.out).mono ?_); (case side1 => repeat (first | (with_reducible first | exact HI101.out | apply IsS55.alloc | apply IsS55.drewN | apply IsS55.drew | apply IsS55.set_1) | exact HI101.out)); (case side2 => repeat (first | (with_reducible first | exact HB.out | apply below_alloc | apply pw_below_drewN | apply below_drew1 | refine below_set ?_ (IsS55.ge HI101.out)) | exact HB.out)); rintro e w17 ⟨v105, rfl, ho0, hi, hb, hk⟩; refine ⟨_, rfl, ?_⟩; have n0_ := Aside0.mk (Kd.R_lower ho0 (below_size (by repeat (first | (with_reducible first | exact HB.out | apply below_alloc | apply pw_below_drewN | apply below_drew1 | refine below_set ?_ (IsS55.ge HI101.out)) | exact HB.out)))); have n1_ := Aside0.mk (hb); have n2_ := Aside0.mk (hi); clear HB; clear HI101; have HO106 := n0_; have HB := n1_; have HI101 := n2_; clear n0_ n1_ n2_; (try clear hb); (try clear hb2); (try clear hk); (try clear hi); (try clear ho0)) | ((with_reducible refine gate_dst (N := 6) rfl ?_); refine box_event ?hg (N := 6) ?hd (cs := #[.int .i64 0, .int .i64 0, .slice none 0 0]) (t := 94) ?hr ?_; (case hd => rfl); (case hg => rfl); (case hr => first | (go_simp; done) | (go_simp; rfl)); intro gb113 hg w18 hbox hb; have n0_ := Aside0.mk (Kd.R_below (by (with_reducible repeat (first | apply Kd.R_alloc | apply Kd.R_drewN | apply Kd.R_drew)); exact HO106.out) hb); have n1_ := Aside0.mk (IsS55.below (by repeat (first | (with_reducible first | exact HI101.out | apply IsS55.alloc | apply IsS55.drewN | apply IsS55.drew | apply IsS55.set_1) | exact HI101.out)) hb); have n2_ := Aside0.mk (below_step (by repeat (first | (with_reducible first | exact HB.out | apply below_alloc | apply pw_below_drewN | apply below_drew1 | refine below_set ?_ (IsS55.ge HI101.out)) | exact HB.out)) hb); have n3_ := Aside0.mk (hbox); have n4_ := Aside0.mk ((by rw [hg]; exact (below_size (by repeat (first | (with_reducible first | exact HB.out | apply below_alloc | apply pw_below_drewN | apply below_drew1 | refine below_set ?_ (IsS55.ge HI101.out)) | exact HB.out))) : w.heap.size ≤ gb113)); have n5_ := Aside0.mk ((by rw [hg]; exact (below_size (by repeat (first | (with_reducible first | exact HB.out | apply below_alloc | apply pw_below_drewN | apply below_drew1 | refine below_set ?_ (IsS55.ge HI101.out)) | exact HB.out))) : w.heap.size ≤ gb113)); have n6_ := Aside0.mk ((by rw [hg]; exact Nat.ne_of_lt (IsS55.lt (show IsS55 w _ gb101 l0 t112 from by repeat (first | (with_reducible first | exact HI101.out | apply IsS55.alloc | apply IsS55.drewN | apply IsS55.drew | apply IsS55.set_1) | exact HI101.out))) : gb101 ≠ gb113)); have n7_ := Aside0.mk ((by rw [hg]; exact Nat.ne_of_gt (IsS55.lt (show IsS55 w _ gb101 l0 t112 from by repeat (first | (with_reducible first | exact HI101.out | apply IsS55.alloc | apply IsS55.drewN | apply IsS55.drew | apply IsS55.set_1) | exact HI101.out))) : gb113 ≠ gb101)); clear HO106; clear HI101; clear HB; have HO106 := n0_; have HI101 := n1_; have HB := n2_; have BK113 := n3_; have GW113 := n4_; have GE113 := n5_; have NB101_113 := n6_; have NB113_101 := n7_; clear n0_ n1_ n2_ n3_ n4_ n5_ n6_ n7_; clear hb hbox hg) | ((with_reducible refine gate_dst (N := 7) rfl ?_); refine box_event ?hg (N := 7) ?hd (cs := #[.int .i64 0, .int .i64 0, .int .i64 0, .bool false, .int .i64 0]) (t := 98) ?hr ?_; (case hd => rfl); (case hg => rfl); (case hr => first | (go_simp; done) | (go_simp; rfl)); intro gb114 hg w19 hbox hb; have n0_ := Aside0.mk (Kd.R_below (by (with_reducible repeat (first | apply Kd.R_alloc | apply Kd.R_drewN | apply Kd.R_drew)); exact HO106.out) hb); have n1_ := Aside0.mk (IsS55.below (by repeat (first | (with_reducible first | exact HI101.out | apply IsS55.alloc | apply IsS55.drewN | apply IsS55.drew | apply IsS55.set_1 | refine IsS55.far ?_ NB101_113.out _) | exact HI101.out)) hb); have n2_ := Aside0.mk (blk_below (g := gb113) (o := .cells #[.int .i64 0, .int .i64 0, .slice none 0 0] 94 (0, 0)) (by (with_reducible repeat (first | refine blk_drewN ?_ _ | refine blk_drew ?_ | refine blk_alloc ?_ _)); exact BK113.out) hb); have n3_ := Aside0.mk (below_step (by repeat (first | (with_reducible first | exact HB.out | apply below_alloc | apply pw_below_drewN | apply below_drew1 | refine below_set ?_ (IsS55.ge HI101.out) | refine below_set ?_ GE113.out) | exact HB.out)) hb); have n4_ := Aside0.mk (hbox); have n5_ := Aside0.mk ((by rw [hg]; exact (below_size (by repeat (first | (with_reducible first | exact HB.out | apply below_alloc | apply pw_below_drewN | apply below_drew1 | refine below_set ?_ (IsS55.ge HI101.out) | refine below_set ?_ GE113.out) | exact HB.out))) : w.heap.size ≤ gb114)); have n6_ := Aside0.mk ((by rw [hg]; exact (below_size (by repeat (first | (with_reducible first | exact HB.out | apply below_alloc | apply pw_below_drewN | apply below_drew1 | refine below_set ?_ (IsS55.ge HI101.out) | refine below_set ?_ GE113.out) | exact HB.out))) : w.heap.size ≤ gb114)); have n7_ := Aside0.mk ((by rw [hg]; exact Nat.ne_of_lt (blk_lt (g := gb113) (o := .cells #[.int .i64 0, .int .i64 0, .slice none 0 0] 94 (0, 0)) (by (with_reducible repeat (first | refine blk_drewN ?_ _ | refine blk_drew ?_ | refine blk_alloc ?_ _)); exact BK113.out)) : gb113 ≠ gb114)); have n8_ := Aside0.mk ((by rw [hg]; exact Nat.ne_of_gt (blk_lt (g := gb113) (o := .cells #[.int .i64 0, .int .i64 0, .slice none 0 0] 94 (0, 0)) (by (with_reducible repeat (first | refine blk_drewN ?_ _ | refine blk_drew ?_ | refine blk_alloc ?_ _)); exact BK113.out)) : gb114 ≠ gb113)); have n9_ := Aside0.mk ((by rw [hg]; exact Nat.ne_of_lt (IsS55.lt (show IsS55 w _ gb101 l0 t112 from by repeat (first | (with_reducible first | exact HI101.out | apply IsS55.alloc | apply IsS55.drewN | apply IsS55.drew | apply IsS55.set_1 | refine IsS55.far ?_ NB101_113.out _) | exact HI101.out))) : gb101 ≠ gb114)); have n10_ := Aside0.mk ((by rw [hg]; exact Nat.ne_of_gt (IsS55.lt (show IsS55 w _ gb101 l0 t112 from by repeat (first | (with_reducible first | exact HI101.out | apply IsS55.alloc | apply IsS55.drewN | apply IsS55.drew | apply IsS55.set_1 | refine IsS55.far ?_ NB101_113.out _) | exact HI101.out))) : gb114 ≠ gb101)); clear HO106; clear HI101; clear BK113; clear HB; have HO106 := n0_; have HI101 := n1_; have BK113 := n2_; have HB := n3_; have BK114 := n4_; have GW114 := n5_; have GE114 := n6_; have NB113_114 := n7_; have NB114_113 := n8_; have NB101_114 := n9_; have NB114_101 := n10_; clear n0_ n1_ n2_ n3_ n4_ n5_ n6_ n7_ n8_ n9_ n10_; clear hb hbox hg; have hnb20 := NB113_114.out; have hnc20 := NB114_113.out; have hnb21 := NB113_101.out; have hnc21 := NB101_113.out; have hcz22_0 : w19.cell? ⟨gb113, 0, none⟩ = some (.int .i64 0) := (blk_cell BK113.out 0).trans rfl; have hcz22_1 : w19.cell? ⟨gb113, 1, none⟩ = some (.int .i64 0) := (blk_cell BK113.out 1).trans rfl; have hcz22_2 : w19.cell? ⟨gb113, 2, none⟩ = some (.slice none 0 0) := (blk_cell BK113.out 2).trans rfl; have hfz22_0 := blk_frozen BK113.out 0; have hfz22_1 := blk_frozen BK113.out 1; have hfz22_2 := blk_frozen BK113.out 2; obtain ⟨Ao23, co23, eo23⟩ := Kd.R_slice HO106.out; subst eo23; have hnb24 := NB114_101.out; have hnc24 := NB101_114.out; have hcz25_0 : w19.cell? ⟨gb114, 0, none⟩ = some (.int .i64 0) := (blk_cell BK114.out 0).trans rfl; have hcz25_1 : w19.cell? ⟨gb114, 1, none⟩ = some (.int .i64 0) := (blk_cell BK114.out 1).trans rfl; have hcz25_2 : w19.cell? ⟨gb114, 2, none⟩ = some (.int .i64 0) := (blk_cell BK114.out 2).trans rfl; have hcz25_3 : w19.cell? ⟨gb114, 3, none⟩ = some (.bool false) := (blk_cell BK114.out 3).trans rfl; have hcz25_4 : w19.cell? ⟨gb114, 4, none⟩ = some (.int .i64 0) := (blk_cell BK114.out 4).trans rfl; have hfz25_0 := blk_frozen BK114.out 0; have hfz25_1 := blk_frozen BK114.out 1; have hfz25_2 := blk_frozen BK114.out 2; have hfz25_3 := blk_frozen BK114.out 3; have hfz25_4 := blk_frozen BK114.out 4))
          have n0_ : Aside0 (Kd.R k139 139 ((((((((w19.setCell ⟨gb113, 0, none⟩ (.int .i64 t102)).setCell ⟨gb113, 1, none⟩ (.int .i64 t103)).setCell ⟨gb113, 2, none⟩ (.slice Ao23 t104.length co23)).setCell ⟨gb114, 0, none⟩ (.int .i64 t107)).setCell ⟨gb114, 1, none⟩ (.int .i64 t108)).setCell ⟨gb114, 2, none⟩ (.int .i64 t109)).setCell ⟨gb114, 3, none⟩ (.bool t110)).setCell ⟨gb114, 4, none⟩ (.int .i64 t111)) w.heap.size (fun _ => True) (.slice Ao23 t104.length co23) t104) := ⟨by (with_reducible repeat (first | apply Kd.R_alloc | apply Kd.R_drewN | apply Kd.R_drew)); exact Kd.R_mono (Kd.R_far (p := ⟨gb114, 4, none⟩) (Kd.R_far (p := ⟨gb114, 3, none⟩) (Kd.R_far (p := ⟨gb114, 2, none⟩) (Kd.R_far (p := ⟨gb114, 1, none⟩) (Kd.R_far (p := ⟨gb114, 0, none⟩) (Kd.R_far (p := ⟨gb113, 2, none⟩) (Kd.R_far (p := ⟨gb113, 1, none⟩) (Kd.R_far (p := ⟨gb113, 0, none⟩) (Kd.R_types (Kd.R_types HO106.out BK113.out (by decide)) BK114.out (by decide)) (fun _ hk => hk.1.2) (.int .i64 t102)) (fun _ hk => hk.1.2) (.int .i64 t103)) (fun _ hk => hk.1.2) (.slice Ao23 t104.length co23)) (fun _ hk => hk.2) (.int .i64 t107)) (fun _ hk => hk.2) (.int .i64 t108)) (fun _ hk => hk.2) (.int .i64 t109)) (fun _ hk => hk.2) (.bool t110)) (fun _ hk => hk.2) (.int .i64 t111)) (fun _ hk => trivial)⟩
          have n1_ : Aside0 (((((((((w19.setCell ⟨gb113, 0, none⟩ (.int .i64 t102)).setCell ⟨gb113, 1, none⟩ (.int .i64 t103)).setCell ⟨gb113, 2, none⟩ (.slice Ao23 t104.length co23)).setCell ⟨gb114, 0, none⟩ (.int .i64 t107)).setCell ⟨gb114, 1, none⟩ (.int .i64 t108)).setCell ⟨gb114, 2, none⟩ (.int .i64 t109)).setCell ⟨gb114, 3, none⟩ (.bool t110)).setCell ⟨gb114, 4, none⟩ (.int .i64 t111)).heap[gb113]? = some (.cells #[.int .i64 t102, .int .i64 t103, .slice Ao23 t104.length co23] 94 (0, 0))) := ⟨by (with_reducible repeat (first | refine blk_drewN ?_ _ | refine blk_drew ?_ | refine blk_alloc ?_ _)); refine blk_far ?_ NB113_114.out _; (with_reducible repeat (first | refine blk_drewN ?_ _ | refine blk_drew ?_ | refine blk_alloc ?_ _)); refine blk_far ?_ NB113_114.out _; (with_reducible repeat (first | refine blk_drewN ?_ _ | refine blk_drew ?_ | refine blk_alloc ?_ _)); refine blk_far ?_ NB113_114.out _; (with_reducible repeat (first | refine blk_drewN ?_ _ | refine blk_drew ?_ | refine blk_alloc ?_ _)); refine blk_far ?_ NB113_114.out _; (with_reducible repeat (first | refine blk_drewN ?_ _ | refine blk_drew ?_ | refine blk_alloc ?_ _)); refine blk_far ?_ NB113_114.out _; (with_reducible repeat (first | refine blk_drewN ?_ _ | refine blk_drew ?_ | refine blk_alloc ?_ _)); refine blk_put (cs := #[.int .i64 t102, .int .i64 t103, .slice none 0 0]) ?_ 2 _ rfl; (with_reducible repeat (first | refine blk_drewN ?_ _ | refine blk_drew ?_ | refine blk_alloc ?_ _)); refine blk_put (cs := #[.int .i64 t102, .int .i64 0, .slice none 0 0]) ?_ 1 _ rfl; (with_reducible repeat (first | refine blk_drewN ?_ _ | refine blk_drew ?_ | refine blk_alloc ?_ _)); refine blk_put (cs := #[.int .i64 0, .int .i64 0, .slice none 0 0]) ?_ 0 _ rfl; (with_reducible repeat (first | refine blk_drewN ?_ _ | refine blk_drew ?_ | refine blk_alloc ?_ _)); exact BK113.out⟩
          have n2_ : Aside0 (((((((((w19.setCell ⟨gb113, 0, none⟩ (.int .i64 t102)).setCell ⟨gb113, 1, none⟩ (.int .i64 t103)).setCell ⟨gb113, 2, none⟩ (.slice Ao23 t104.length co23)).setCell ⟨gb114, 0, none⟩ (.int .i64 t107)).setCell ⟨gb114, 1, none⟩ (.int .i64 t108)).setCell ⟨gb114, 2, none⟩ (.int .i64 t109)).setCell ⟨gb114, 3, none⟩ (.bool t110)).setCell ⟨gb114, 4, none⟩ (.int .i64 t111)).heap[gb114]? = some (.cells #[.int .i64 t107, .int .i64 t108, .int .i64 t109, .bool t110, .int .i64 t111] 98 (0, 0))) := ⟨by (with_reducible repeat (first | refine blk_drewN ?_ _ | refine blk_drew ?_ | refine blk_alloc ?_ _)); refine blk_put (cs := #[.int .i64 t107, .int .i64 t108, .int .i64 t109, .bool t110, .int .i64 0]) ?_ 4 _ rfl; (with_reducible repeat (first | refine blk_drewN ?_ _ | refine blk_drew ?_ | refine blk_alloc ?_ _)); refine blk_put (cs := #[.int .i64 t107, .int .i64 t108, .int .i64 t109, .bool false, .int .i64 0]) ?_ 3 _ rfl; (with_reducible repeat (first | refine blk_drewN ?_ _ | refine blk_drew ?_ | refine blk_alloc ?_ _)); refine blk_put (cs := #[.int .i64 t107, .int .i64 t108, .int .i64 0, .bool false, .int .i64 0]) ?_ 2 _ rfl; (with_reducible repeat (first | refine blk_drewN ?_ _ | refine blk_drew ?_ | refine blk_alloc ?_ _)); refine blk_put (cs := #[.int .i64 t107, .int .i64 0, .int .i64 0, .bool false, .int .i64 0]) ?_ 1 _ rfl; (with_reducible repeat (first | refine blk_drewN ?_ _ | refine blk_drew ?_ | refine blk_alloc ?_ _)); refine blk_put (cs := #[.int .i64 0, .int .i64 0, .int .i64 0, .bool false, .int .i64 0]) ?_ 0 _ rfl; (with_reducible repeat (first | refine blk_drewN ?_ _ | refine blk_drew ?_ | refine blk_alloc ?_ _)); refine blk_far ?_ NB114_113.out _; (with_reducible repeat (first | refine blk_drewN ?_ _ | refine blk_drew ?_ | refine blk_alloc ?_ _)); refine blk_far ?_ NB114_113.out _; (with_reducible repeat (first | refine blk_drewN ?_ _ | refine blk_drew ?_ | refine blk_alloc ?_ _)); refine blk_far ?_ NB114_113.out _; (with_reducible repeat (first | refine blk_drewN ?_ _ | refine blk_drew ?_ | refine blk_alloc ?_ _)); exact BK114.out⟩
          have n3_ : Aside0 (IsS55 w ((((((((w19.setCell ⟨gb113, 0, none⟩ (.int .i64 t102)).setCell ⟨gb113, 1, none⟩ (.int .i64 t103)).setCell ⟨gb113, 2, none⟩ (.slice Ao23 t104.length co23)).setCell ⟨gb114, 0, none⟩ (.int .i64 t107)).setCell ⟨gb114, 1, none⟩ (.int .i64 t108)).setCell ⟨gb114, 2, none⟩ (.int .i64 t109)).setCell ⟨gb114, 3, none⟩ (.bool t110)).setCell ⟨gb114, 4, none⟩ (.int .i64 t111)) gb101 l0 t112) := ⟨by repeat (first | (with_reducible first | exact HI101.out | apply IsS55.alloc | apply IsS55.drewN | apply IsS55.drew | apply IsS55.set_1 | refine IsS55.far ?_ NB101_113.out _ | refine IsS55.far ?_ NB101_114.out _) | exact HI101.out)⟩
          have n4_ : Aside0 (Below w.heap.size w ((((((((w19.setCell ⟨gb113, 0, none⟩ (.int .i64 t102)).setCell ⟨gb113, 1, none⟩ (.int .i64 t103)).setCell ⟨gb113, 2, none⟩ (.slice Ao23 t104.length co23)).setCell ⟨gb114, 0, none⟩ (.int .i64 t107)).setCell ⟨gb114, 1, none⟩ (.int .i64 t108)).setCell ⟨gb114, 2, none⟩ (.int .i64 t109)).setCell ⟨gb114, 3, none⟩ (.bool t110)).setCell ⟨gb114, 4, none⟩ (.int .i64 t111))) := ⟨by repeat (first | (with_reducible first | exact HB.out | apply below_alloc | apply pw_below_drewN | apply below_drew1 | refine below_set ?_ (IsS55.ge HI101.out) | refine below_set ?_ GE113.out | refine below_set ?_ GE114.out) | exact HB.out)⟩
          (try clear HO106)
          (try clear BK113)
          (try clear BK114)
          (try clear HI101)
          (try clear HB)
          generalize ((((((((w19.setCell ⟨gb113, 0, none⟩ (.int .i64 t102)).setCell ⟨gb113, 1, none⟩ (.int .i64 t103)).setCell ⟨gb113, 2, none⟩ (.slice Ao23 t104.length co23)).setCell ⟨gb114, 0, none⟩ (.int .i64 t107)).setCell ⟨gb114, 1, none⟩ (.int .i64 t108)).setCell ⟨gb114, 2, none⟩ (.int .i64 t109)).setCell ⟨gb114, 3, none⟩ (.bool t110)).setCell ⟨gb114, 4, none⟩ (.int .i64 t111)) = w26 at n0_ n1_ n2_ n3_ n4_ ⊢
          have HO106 := n0_
          have BK113 := n1_
          have BK114 := n2_
          have HI101 := n3_
          have HB := n4_
          clear n0_ n1_ n2_ n3_ n4_
          have n0_ := Aside0.mk (Kd.R_drew HO106.out)
          have n1_ := Aside0.mk (blk_drew BK113.out)
          have n2_ := Aside0.mk (blk_drew BK114.out)
          have n3_ := Aside0.mk (IsS55.drew HI101.out)
          have n4_ := Aside0.mk (below_drew1 HB.out)
          clear HO106
          clear BK113
          clear BK114
          clear HI101
          clear HB
          have HO106 := n0_
          have BK113 := n1_
          have BK114 := n2_
          have HI101 := n3_
          have HB := n4_
          clear n0_ n1_ n2_ n3_ n4_
          refine start_ (n := 6) (S := fun w' => w'.cell? ⟨gb113, 0, none⟩ = some (.int .i64 t102) ∧ w'.cell? ⟨gb113, 1, none⟩ = some (.int .i64 t103) ∧ w'.cell? ⟨gb113, 2, none⟩ = some (.slice Ao23 t104.length co23)) (ds := []) #[false, false, false, false, false, false] (by kernel_rfl) rfl rfl ⟨(blk_cell BK113.out 0).trans rfl, (blk_cell BK113.out 1).trans rfl, (blk_cell BK113.out 2).trans rfl⟩ (fun hHeld => ?_)
          generalize w26.drew = w27 at HO106 BK113 BK114 HI101 HB hHeld ⊢
          refine pure_ (i := 0) (N := some 19) (v := ?_) (a' := ?_) #[true, false, false, false, false, false] rfl rfl (by kernel_rfl) (fun _ _ _ h => h) (Or.inl ⟨by rfl, ?_⟩) ?_ ?_
          rotate_left
          · intro w'
            go_simp
            with_reducible rfl
          rotate_left
          · simp only [Act.put, List.setIfInBounds_toArray, List.set_cons_zero, List.set_cons_succ, i64_w, i32_w]
            rfl
          refine pure_ (i := 2) (N := some 21) (v := ?_) (a' := ?_) #[true, false, true, false, false, false] rfl rfl (by kernel_rfl) (fun _ _ _ h => h) (Or.inl ⟨by rfl, ?_⟩) ?_ ?_
          rotate_left
          · intro w'
            go_simp
            with_reducible rfl
          rotate_left
          · simp only [Act.put, List.setIfInBounds_toArray, List.set_cons_zero, List.set_cons_succ, i64_w, i32_w]
            rfl
          refine take_ (i := 1) (N := some 20) (v := ?_) (a' := ?_) #[true, true, true, false, false, false] rfl rfl (by kernel_rfl) (fun _ _ _ h => h) (Or.inl ⟨by rfl, ?_⟩) hHeld ?_ ?_
          rotate_left
          · rintro w' ⟨s0, s1, s2⟩
            go_simp
            with_reducible rfl
          rotate_left
          · simp only [Act.put, List.setIfInBounds_toArray, List.set_cons_zero, List.set_cons_succ, i64_w, i32_w]
            rfl
          refine one_ (i := 3) (N := some 22) #[true, true, true, true, false, false] rfl rfl (by kernel_rfl) (by decide) (fun K hK => ?_)
          refine goes_ Try.func15 (by kernel_rfl) rfl #[.int .i64 a1, .int .i64 30000] (by rfl) rfl rfl (by (try simp only [List.map_toArray, List.map_cons, List.map_nil]); first | done | rfl | (simp only [List.length_drop, List.length_take]; rfl)) ?_
          with_reducible refine (spymake_Below.calls a1 30000 t115 _ A4.out).mono ?_
          rintro e w' ⟨rfl, ⟨nd, rfl⟩⟩
          refine ⟨_, rfl, ?_⟩
          refine hK.out _ _ ⟨(blk_cell BK113.out 0).trans rfl, (blk_cell BK113.out 1).trans rfl, (blk_cell BK113.out 2).trans rfl⟩ (fun hHeld => ?_)
          clear hK K
          refine norm_ (a' := ?_) ?_ ?_
          rotate_left
          · show Act.put _ (some 22) _ = _
            simp only [Act.put, List.setIfInBounds_toArray, List.set_cons_zero, List.set_cons_succ, i64_w, i32_w]
            rfl
          refine pure_ (i := 4) (N := some 23) (v := ?_) (a' := ?_) #[true, true, true, true, true, false] rfl rfl (by kernel_rfl) (fun _ _ _ h => h) (Or.inl ⟨by rfl, ?_⟩) ?_ ?_
          rotate_left
          · intro w'
            go_simp
            with_reducible rfl
          rotate_left
          · simp only [Act.put, List.setIfInBounds_toArray, List.set_cons_zero, List.set_cons_succ, i64_w, i32_w]
            rfl
          refine pure_ (i := 5) (N := some 8) (v := ?_) (a' := ?_) #[true, true, true, true, true, true] rfl rfl (by kernel_rfl) (fun _ _ _ h => h) (Or.inl ⟨by rfl, ?_⟩) ?_ ?_
          rotate_left
          · intro w'
            go_simp
            with_reducible rfl
          rotate_left
          · simp only [Act.put, List.setIfInBounds_toArray, List.set_cons_zero, List.set_cons_succ, i64_w, i32_w]
            rfl
          refine done_ (by kernel_rfl) ?_
          have hcz28_0 : w27.cell? ⟨gb113, 0, none⟩ = some (.int .i64 t102) := (blk_cell BK113.out 0).trans rfl
          have hcz28_1 : w27.cell? ⟨gb113, 1, none⟩ = some (.int .i64 t103) := (blk_cell BK113.out 1).trans rfl
          have hcz28_2 : w27.cell? ⟨gb113, 2, none⟩ = some (.slice Ao23 t104.length co23) := (blk_cell BK113.out 2).trans rfl
          have hfz28_0 := blk_frozen BK113.out 0
          have hfz28_1 := blk_frozen BK113.out 1
          have hfz28_2 := blk_frozen BK113.out 2
          try go_wp2_with (first | ((with_reducible refine gate_callee (f := 57) rfl ?_); refine goesL_ (some 27) rfl rfl Try.func57 (by kernel_rfl) rfl #[.agg #[.int .i64 t102, .int .i64 t103, .slice Ao23 t104.length co23], .int .i64 (wrap64 (t103 + t115))] rfl (by (try simp only [List.map_toArray, List.map_cons, List.map_nil]); first | done | rfl | (simp only [List.length_drop, List.length_take]; rfl)) ?_; (with_reducible refine (clock_Reads.calls k t102 t103 _ _ t104 (wrap64 (t103 + t115)) t116 t117 _ ?side1 ?side2 A5.out).mono ?_); (case side1 => repeat (first | exact (Kd.R_reads' HO106.out).2.2 | (with_reducible refine Kd.C_alloc ?_ _) | (with_reducible refine Kd.C_drewN ?_ _) | (with_reducible refine Kd.C_drew ?_))); (case side2 => exact (Kd.R_reads' HO106.out).2.1); rintro e w29 ⟨rfl, hb⟩; refine ⟨_, rfl, ?_⟩; have n0_ := Aside0.mk (Kd.R_below (by (with_reducible repeat (first | apply Kd.R_alloc | apply Kd.R_drewN | apply Kd.R_drew)); exact HO106.out) hb); have n1_ := Aside0.mk (IsS55.below (by repeat (first | (with_reducible first | exact HI101.out | apply IsS55.alloc | apply IsS55.drewN | apply IsS55.drew | apply IsS55.set_1 | refine IsS55.far ?_ NB101_113.out _ | refine IsS55.far ?_ NB101_114.out _) | exact HI101.out)) hb); have n2_ := Aside0.mk (blk_below (g := gb113) (o := .cells #[.int .i64 t102, .int .i64 t103, .slice Ao23 t104.length co23] 94 (0, 0)) (by (with_reducible repeat (first | refine blk_drewN ?_ _ | refine blk_drew ?_ | refine blk_alloc ?_ _)); exact BK113.out) hb); have n3_ := Aside0.mk (blk_below (g := gb114) (o := .cells #[.int .i64 t107, .int .i64 t108, .int .i64 t109, .bool t110, .int .i64 t111] 98 (0, 0)) (by (with_reducible repeat (first | refine blk_drewN ?_ _ | refine blk_drew ?_ | refine blk_alloc ?_ _)); exact BK114.out) hb); have n4_ := Aside0.mk (below_step (by repeat (first | (with_reducible first | exact HB.out | apply below_alloc | apply pw_below_drewN | apply below_drew1 | refine below_set ?_ (IsS55.ge HI101.out) | refine below_set ?_ GE113.out | refine below_set ?_ GE114.out) | exact HB.out)) hb); clear HO106; clear HI101; clear BK113; clear BK114; clear HB; have HO106 := n0_; have HI101 := n1_; have BK113 := n2_; have BK114 := n3_; have HB := n4_; clear n0_ n1_ n2_ n3_ n4_; (try clear hb); (try clear hb2); (try clear hk); (try clear hi)) | ((with_reducible refine gate_callee (f := 58) rfl ?_); refine goesL_ (some 30) rfl rfl Try.func58 (by kernel_rfl) rfl #[] rfl (by (try simp only [List.map_toArray, List.map_cons, List.map_nil]); first | done | rfl | (simp only [List.length_drop, List.length_take]; rfl)) ?_; (with_reducible refine (spykeep1_clockFact.calls k  true _ A6.out).mono ?_); rintro e w30 ⟨rfl, hb⟩; refine ⟨_, rfl, ?_⟩; have n0_ := Aside0.mk (Kd.R_below (by (with_reducible repeat (first | apply Kd.R_alloc | apply Kd.R_drewN | apply Kd.R_drew)); exact HO106.out) hb); have n1_ := Aside0.mk (IsS55.below (by repeat (first | (with_reducible first | exact HI101.out | apply IsS55.alloc | apply IsS55.drewN | apply IsS55.drew | apply IsS55.set_1 | refine IsS55.far ?_ NB101_113.out _ | refine IsS55.far ?_ NB101_114.out _) | exact HI101.out)) hb); have n2_ := Aside0.mk (blk_below (g := gb113) (o := .cells #[.int .i64 t102, .int .i64 t103, .slice Ao23 t104.length co23] 94 (0, 0)) (by (with_reducible repeat (first | refine blk_drewN ?_ _ | refine blk_drew ?_ | refine blk_alloc ?_ _)); exact BK113.out) hb); have n3_ := Aside0.mk (blk_below (g := gb114) (o := .cells #[.int .i64 t107, .int .i64 t108, .int .i64 t109, .bool t110, .int .i64 t111] 98 (0, 0)) (by (with_reducible repeat (first | refine blk_drewN ?_ _ | refine blk_drew ?_ | refine blk_alloc ?_ _)); exact BK114.out) hb); have n4_ := Aside0.mk (below_step (by repeat (first | (with_reducible first | exact HB.out | apply below_alloc | apply pw_below_drewN | apply below_drew1 | refine below_set ?_ (IsS55.ge HI101.out) | refine below_set ?_ GE113.out | refine below_set ?_ GE114.out) | exact HB.out)) hb); clear HO106; clear HI101; clear BK113; clear BK114; clear HB; have HO106 := n0_; have HI101 := n1_; have BK113 := n2_; have BK114 := n3_; have HB := n4_; clear n0_ n1_ n2_ n3_ n4_; (try clear hb); (try clear hb2); (try clear hk); (try clear hi); have hcz31_0 : w30.cell? ⟨gb114, 0, none⟩ = some (.int .i64 t107) := (blk_cell BK114.out 0).trans rfl; have hcz31_1 : w30.cell? ⟨gb114, 1, none⟩ = some (.int .i64 t108) := (blk_cell BK114.out 1).trans rfl; have hcz31_2 : w30.cell? ⟨gb114, 2, none⟩ = some (.int .i64 t109) := (blk_cell BK114.out 2).trans rfl; have hcz31_3 : w30.cell? ⟨gb114, 3, none⟩ = some (.bool t110) := (blk_cell BK114.out 3).trans rfl; have hcz31_4 : w30.cell? ⟨gb114, 4, none⟩ = some (.int .i64 t111) := (blk_cell BK114.out 4).trans rfl; have hfz31_0 := blk_frozen BK114.out 0; have hfz31_1 := blk_frozen BK114.out 1; have hfz31_2 := blk_frozen BK114.out 2; have hfz31_3 := blk_frozen BK114.out 3; have hfz31_4 := blk_frozen BK114.out 4) | (go_at_call 60; (with_reducible refine (clock_Uniform.calls k t107 t108 t109 t110 t111 t116 t119 t120 t121 _ A9.out).mono ?_); rintro e w32 ⟨rfl, hb⟩; have n0_ := Aside0.mk (Kd.R_below (by (with_reducible repeat (first | apply Kd.R_alloc | apply Kd.R_drewN | apply Kd.R_drew)); exact HO106.out) hb); have n1_ := Aside0.mk (IsS55.below (by repeat (first | (with_reducible first | exact HI101.out | apply IsS55.alloc | apply IsS55.drewN | apply IsS55.drew | apply IsS55.set_1 | refine IsS55.far ?_ NB101_113.out _ | refine IsS55.far ?_ NB101_114.out _) | exact HI101.out)) hb); have n2_ := Aside0.mk (blk_below (g := gb113) (o := .cells #[.int .i64 t102, .int .i64 t103, .slice Ao23 t104.length co23] 94 (0, 0)) (by (with_reducible repeat (first | refine blk_drewN ?_ _ | refine blk_drew ?_ | refine blk_alloc ?_ _)); exact BK113.out) hb); have n3_ := Aside0.mk (blk_below (g := gb114) (o := .cells #[.int .i64 t107, .int .i64 t108, .int .i64 t109, .bool t110, .int .i64 t111] 98 (0, 0)) (by (with_reducible repeat (first | refine blk_drewN ?_ _ | refine blk_drew ?_ | refine blk_alloc ?_ _)); exact BK114.out) hb); have n4_ := Aside0.mk (below_step (by repeat (first | (with_reducible first | exact HB.out | apply below_alloc | apply pw_below_drewN | apply below_drew1 | refine below_set ?_ (IsS55.ge HI101.out) | refine below_set ?_ GE113.out | refine below_set ?_ GE114.out) | exact HB.out)) hb); clear HO106; clear HI101; clear BK113; clear BK114; clear HB; have HO106 := n0_; have HI101 := n1_; have BK113 := n2_; have BK114 := n3_; have HB := n4_; clear n0_ n1_ n2_ n3_ n4_; (try clear hb); (try clear hb2); (try clear hk); (try clear hi)) | (go_at_call 59; (with_reducible refine (bound_Has_api_Tick.calls k t119 t120 t121 (wrap64 (t103 + t115)) true _ A10.out).mono ?_); rintro e w33 ⟨rfl, hb⟩; have n0_ := Aside0.mk (Kd.R_below (by (with_reducible repeat (first | apply Kd.R_alloc | apply Kd.R_drewN | apply Kd.R_drew)); exact HO106.out) hb); have n1_ := Aside0.mk (IsS55.below (by repeat (first | (with_reducible first | exact HI101.out | apply IsS55.alloc | apply IsS55.drewN | apply IsS55.drew | apply IsS55.set_1 | refine IsS55.far ?_ NB101_113.out _ | refine IsS55.far ?_ NB101_114.out _) | exact HI101.out)) hb); have n2_ := Aside0.mk (blk_below (g := gb113) (o := .cells #[.int .i64 t102, .int .i64 t103, .slice Ao23 t104.length co23] 94 (0, 0)) (by (with_reducible repeat (first | refine blk_drewN ?_ _ | refine blk_drew ?_ | refine blk_alloc ?_ _)); exact BK113.out) hb); have n3_ := Aside0.mk (blk_below (g := gb114) (o := .cells #[.int .i64 t107, .int .i64 t108, .int .i64 t109, .bool t110, .int .i64 t111] 98 (0, 0)) (by (with_reducible repeat (first | refine blk_drewN ?_ _ | refine blk_drew ?_ | refine blk_alloc ?_ _)); exact BK114.out) hb); have n4_ := Aside0.mk (below_step (by repeat (first | (with_reducible first | exact HB.out | apply below_alloc | apply pw_below_drewN | apply below_drew1 | refine below_set ?_ (IsS55.ge HI101.out) | refine below_set ?_ GE113.out | refine below_set ?_ GE114.out) | exact HB.out)) hb); clear HO106; clear HI101; clear BK113; clear BK114; clear HB; have HO106 := n0_; have HI101 := n1_; have BK113 := n2_; have BK114 := n3_; have HB := n4_; clear n0_ n1_ n2_ n3_ n4_; (try clear hb); (try clear hb2); (try clear hk); (try clear hi); have hcz34_0 : w33.cell? ⟨gb114, 0, none⟩ = some (.int .i64 t107) := (blk_cell BK114.out 0).trans rfl; have hcz34_1 : w33.cell? ⟨gb114, 1, none⟩ = some (.int .i64 t108) := (blk_cell BK114.out 1).trans rfl; have hcz34_2 : w33.cell? ⟨gb114, 2, none⟩ = some (.int .i64 t109) := (blk_cell BK114.out 2).trans rfl; have hcz34_3 : w33.cell? ⟨gb114, 3, none⟩ = some (.bool t110) := (blk_cell BK114.out 3).trans rfl; have hcz34_4 : w33.cell? ⟨gb114, 4, none⟩ = some (.int .i64 t111) := (blk_cell BK114.out 4).trans rfl; have hfz34_0 := blk_frozen BK114.out 0; have hfz34_1 := blk_frozen BK114.out 1; have hfz34_2 := blk_frozen BK114.out 2; have hfz34_3 := blk_frozen BK114.out 3; have hfz34_4 := blk_frozen BK114.out 4) | (go_at_call 61; (with_reducible refine (clock_Show.calls k t107 t108 t109 t110 t111 (wrap64 (t103 + t115)) t123 t124 t125 _ A12.out).mono ?_); rintro e w35 ⟨rfl, hb⟩; have n0_ := Aside0.mk (Kd.R_below (by (with_reducible repeat (first | apply Kd.R_alloc | apply Kd.R_drewN | apply Kd.R_drew)); exact HO106.out) hb); have n1_ := Aside0.mk (IsS55.below (by repeat (first | (with_reducible first | exact HI101.out | apply IsS55.alloc | apply IsS55.drewN | apply IsS55.drew | apply IsS55.set_1 | refine IsS55.far ?_ NB101_113.out _ | refine IsS55.far ?_ NB101_114.out _) | exact HI101.out)) hb); have n2_ := Aside0.mk (blk_below (g := gb113) (o := .cells #[.int .i64 t102, .int .i64 t103, .slice Ao23 t104.length co23] 94 (0, 0)) (by (with_reducible repeat (first | refine blk_drewN ?_ _ | refine blk_drew ?_ | refine blk_alloc ?_ _)); exact BK113.out) hb); have n3_ := Aside0.mk (blk_below (g := gb114) (o := .cells #[.int .i64 t107, .int .i64 t108, .int .i64 t109, .bool t110, .int .i64 t111] 98 (0, 0)) (by (with_reducible repeat (first | refine blk_drewN ?_ _ | refine blk_drew ?_ | refine blk_alloc ?_ _)); exact BK114.out) hb); have n4_ := Aside0.mk (below_step (by repeat (first | (with_reducible first | exact HB.out | apply below_alloc | apply pw_below_drewN | apply below_drew1 | refine below_set ?_ (IsS55.ge HI101.out) | refine below_set ?_ GE113.out | refine below_set ?_ GE114.out) | exact HB.out)) hb); clear HO106; clear HI101; clear BK113; clear BK114; clear HB; have HO106 := n0_; have HI101 := n1_; have BK113 := n2_; have BK114 := n3_; have HB := n4_; clear n0_ n1_ n2_ n3_ n4_; (try clear hb); (try clear hb2); (try clear hk); (try clear hi)) | (go_at_call 59; (with_reducible refine (bound_Has_api_Tick.calls k t123 t124 t125 t116 true _ A13.out).mono ?_); rintro e w36 ⟨rfl, hb⟩; have n0_ := Aside0.mk (Kd.R_below (by (with_reducible repeat (first | apply Kd.R_alloc | apply Kd.R_drewN | apply Kd.R_drew)); exact HO106.out) hb); have n1_ := Aside0.mk (IsS55.below (by repeat (first | (with_reducible first | exact HI101.out | apply IsS55.alloc | apply IsS55.drewN | apply IsS55.drew | apply IsS55.set_1 | refine IsS55.far ?_ NB101_113.out _ | refine IsS55.far ?_ NB101_114.out _) | exact HI101.out)) hb); have n2_ := Aside0.mk (blk_below (g := gb113) (o := .cells #[.int .i64 t102, .int .i64 t103, .slice Ao23 t104.length co23] 94 (0, 0)) (by (with_reducible repeat (first | refine blk_drewN ?_ _ | refine blk_drew ?_ | refine blk_alloc ?_ _)); exact BK113.out) hb); have n3_ := Aside0.mk (blk_below (g := gb114) (o := .cells #[.int .i64 t107, .int .i64 t108, .int .i64 t109, .bool t110, .int .i64 t111] 98 (0, 0)) (by (with_reducible repeat (first | refine blk_drewN ?_ _ | refine blk_drew ?_ | refine blk_alloc ?_ _)); exact BK114.out) hb); have n4_ := Aside0.mk (below_step (by repeat (first | (with_reducible first | exact HB.out | apply below_alloc | apply pw_below_drewN | apply below_drew1 | refine below_set ?_ (IsS55.ge HI101.out) | refine below_set ?_ GE113.out | refine below_set ?_ GE114.out) | exact HB.out)) hb); clear HO106; clear HI101; clear BK113; clear BK114; clear HB; have HO106 := n0_; have HI101 := n1_; have BK113 := n2_; have BK114 := n3_; have HB := n4_; clear n0_ n1_ n2_ n3_ n4_; (try clear hb); (try clear hb2); (try clear hk); (try clear hi); have hcz37_0 : w36.cell? ⟨gb114, 0, none⟩ = some (.int .i64 t107) := (blk_cell BK114.out 0).trans rfl; have hcz37_1 : w36.cell? ⟨gb114, 1, none⟩ = some (.int .i64 t108) := (blk_cell BK114.out 1).trans rfl; have hcz37_2 : w36.cell? ⟨gb114, 2, none⟩ = some (.int .i64 t109) := (blk_cell BK114.out 2).trans rfl; have hcz37_3 : w36.cell? ⟨gb114, 3, none⟩ = some (.bool t110) := (blk_cell BK114.out 3).trans rfl; have hcz37_4 : w36.cell? ⟨gb114, 4, none⟩ = some (.int .i64 t111) := (blk_cell BK114.out 4).trans rfl; have hfz37_0 := blk_frozen BK114.out 0; have hfz37_1 := blk_frozen BK114.out 1; have hfz37_2 := blk_frozen BK114.out 2; have hfz37_3 := blk_frozen BK114.out 3; have hfz37_4 := blk_frozen BK114.out 4) | (go_at_call 60; (with_reducible refine (clock_Uniform.calls k t107 t108 t109 t110 t111 t116 t119 t120 t121 _ A15.out).mono ?_); rintro e w38 ⟨rfl, hb⟩; have n0_ := Aside0.mk (Kd.R_below (by (with_reducible repeat (first | apply Kd.R_alloc | apply Kd.R_drewN | apply Kd.R_drew)); exact HO106.out) hb); have n1_ := Aside0.mk (IsS55.below (by repeat (first | (with_reducible first | exact HI101.out | apply IsS55.alloc | apply IsS55.drewN | apply IsS55.drew | apply IsS55.set_1 | refine IsS55.far ?_ NB101_113.out _ | refine IsS55.far ?_ NB101_114.out _) | exact HI101.out)) hb); have n2_ := Aside0.mk (blk_below (g := gb113) (o := .cells #[.int .i64 t102, .int .i64 t103, .slice Ao23 t104.length co23] 94 (0, 0)) (by (with_reducible repeat (first | refine blk_drewN ?_ _ | refine blk_drew ?_ | refine blk_alloc ?_ _)); exact BK113.out) hb); have n3_ := Aside0.mk (blk_below (g := gb114) (o := .cells #[.int .i64 t107, .int .i64 t108, .int .i64 t109, .bool t110, .int .i64 t111] 98 (0, 0)) (by (with_reducible repeat (first | refine blk_drewN ?_ _ | refine blk_drew ?_ | refine blk_alloc ?_ _)); exact BK114.out) hb); have n4_ := Aside0.mk (below_step (by repeat (first | (with_reducible first | exact HB.out | apply below_alloc | apply pw_below_drewN | apply below_drew1 | refine below_set ?_ (IsS55.ge HI101.out) | refine below_set ?_ GE113.out | refine below_set ?_ GE114.out) | exact HB.out)) hb); clear HO106; clear HI101; clear BK113; clear BK114; clear HB; have HO106 := n0_; have HI101 := n1_; have BK113 := n2_; have BK114 := n3_; have HB := n4_; clear n0_ n1_ n2_ n3_ n4_; (try clear hb); (try clear hb2); (try clear hk); (try clear hi)))
          go_ret
          exact ⟨by first | rfl | (simp [errW_none, errW_some] <;> rfl) | (simp [*, errW_none, errW_some] <;> rfl), by repeat (first | (with_reducible first | exact HB.out | apply below_alloc | apply pw_below_drewN | apply below_drew1 | refine below_set ?_ (IsS55.ge HI101.out) | refine below_set ?_ GE113.out | refine below_set ?_ GE114.out) | exact HB.out)⟩
        · replace c14 := Bool.eq_false_iff.mpr c14
          subst c14
          have H1 : (none) = some r := by rw [if_neg (show ¬ (false = true) by decide)] at H; exact H
          clear H
          have H := H1
          clear H1
          exact absurd H (by simp)
      · replace c11 := Bool.eq_false_iff.mpr c11
        subst c11
        have H1 : (none) = some r := by rw [if_neg (show ¬ (false = true) by decide)] at H; exact H
        clear H
        have H := H1
        clear H1
        exact absurd H (by simp)
    · rw [if_neg c8] at H
      exact absurd H (by simp)
  · replace c7 := Bool.eq_false_iff.mpr c7
    subst c7
    have H1 : (none) = some r := by rw [if_neg (show ¬ (false = true) by decide)] at H; exact H
    clear H
    have H := H1
    clear H1
    exact absurd H (by simp)

/-- THE ONE PURE STATEMENT of spykeep1_ClockShowsTruth: yours. -/
def spykeep1_ClockShowsTruth.Pure : Prop := ∀ (l0 : List Int) (a1 : Int), l0.length ≤ maxLen → l0.length * 8 ≤ 140737488351232 → (∀ x ∈ l0, (Lit.int .i64 x).wf = true) → (Lit.int .i64 a1).wf = true → ∃ k, spykeep1_ClockShowsTruth.f k l0 a1 = some true
theorem spykeep1_ClockShowsTruth.walk (P : spykeep1_ClockShowsTruth.Pure) (a0 : Option Addr) (len0 cap0 : Nat) (z0 : List Int) (a1 : Int) (w : World) (w0 : (a0 = none ∧ len0 = 0 ∧ cap0 = 0 ∧ z0 = []) ∨ ∃ x, a0 = some x ∧ len0 ≤ cap0 ∧ cap0 ≤ maxLen ∧ z0.length = cap0 ∧ (∀ i, i < z0.length → w.cell? (x.add i) = some (.int .i64 (z0.getD i 0))) ∧ ∀ n ∈ z0, (Lit.int .i64 n).wf = true) (y0 : len0 * 8 ≤ 140737488351232) (w1 : (Lit.int .i64 a1).wf = true) :
    Calls Try.prog 14 #[.slice a0 len0 cap0, .int .i64 a1] w fun e w' => e = .returned (.bool true) ∧ Below w.heap.size w w' := by
  obtain ⟨l0, rfl, hr0, hm0, hw0, hc0⟩ := ReadsInt.ofRowC w0
  obtain ⟨k, h⟩ := P l0 a1 hm0 y0 hw0 w1
  refine (spykeep1_ClockShowsTruth.calls k _ _ l0 a1 true w (Kd.C_of_reads (d := (0 : Int)) (h1 := fun _ => rfl) hr0) hc0 h).mono ?_
  rintro e w' ⟨rfl, hd⟩
  exact ⟨rfl, hd⟩

end Go.Proofs.Ytbaedcjophgiiaa.Q
