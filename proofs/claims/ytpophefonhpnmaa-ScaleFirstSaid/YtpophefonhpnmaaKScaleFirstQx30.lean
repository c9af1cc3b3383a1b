/- Contracts of Go functions of the seat, one by one: each call returns what the Lean function of the same name says, wherever that is 'some'; no other condition. Written by a program of this session. -/
import Derived.Test.YtpophefonhpnmaaKScaleFirstQx0
import Derived.Test.YtpophefonhpnmaaKScaleFirstQx14
import Derived.Test.YtpophefonhpnmaaKScaleFirstQx24
namespace Go.Proofs.Ytpophefonhpnmaa.Q
open Go.RowKit Go.Proofs.YtpophefonhpnmaaW.PrintWords Go.Proofs.YtpophefonhpnmaaW.PrintLast Go.Proofs.YtpophefonhpnmaaW.PrintMore
attribute [local go_sem] max2_int min2_int max_two min_two max_three min_three max_four min_four   -- for this text's walks alone
set_option linter.unusedVariables false
set_option linter.unusedSimpArgs false

/-! ### spykeep1_ScaleFirst_1: function 71 -/
def spykeep1_ScaleFirst_1.f (k : Nat) (a0 : Int) (l1 : List (S90)) : Option (Int) := if 0 < (l1.length : Int) then ((bound_Exact_api_Tick.f k a0).bind fun bt102 => ((scale_Sidereal.f k ((rd_T90 l1 0).f0) ((rd_T90 l1 0).f1) ((rd_T90 l1 0).f2.f0) ((rd_T90 l1 0).f2.f1) bt102.1 bt102.2.1 bt102.2.2).bind fun bt105 => (some bt105.1))) else (none)
theorem spykeep1_ScaleFirst_1.mono : ∀ a0 a1 k, LeO (spykeep1_ScaleFirst_1.f k a0 a1) (spykeep1_ScaleFirst_1.f (k + 1) a0 a1) := by
 intro a0 a1 k
 unfold spykeep1_ScaleFirst_1.f
 repeat' first
  | (with_reducible exact bound_Exact_api_Tick.mono _ _)
  | (with_reducible exact scale_Sidereal.mono _ _ _ _ _ _ _ _)
  | (with_reducible exact LeO.refl _)
  | (with_reducible exact LeO.none _)
  | (with_reducible refine LeO.ite ?_ ?_)
  | (with_reducible refine LeO.bind ?_ (fun _ => ?_))
  | exact bound_Exact_api_Tick.mono _ _
  | exact scale_Sidereal.mono _ _ _ _ _ _ _ _
  | exact LeO.none _
  | refine LeO.ite ?_ ?_
  | refine LeO.bind ?_ (fun _ => ?_)
set_option maxHeartbeats 8000000 in
set_option maxRecDepth 100000 in
theorem spykeep1_ScaleFirst_1.calls (k : Nat) (a0 : Int) (A1 : Option Addr) (c1 : Nat) (l1 : List (S90)) (r : Int) (w : World) (hr1 : Kd.C k90 w A1 l1.length l1) (hc1 : l1.length ≤ c1) (h : spykeep1_ScaleFirst_1.f k a0 l1 = some r) :
 Calls Try.prog 71 #[.int .i64 a0, .pointer A1] w fun e w' => e = .returned (.int .i64 r) ∧ Below w.heap.size w w' := by
 have hu90 := Try.underlying90
 have hfld96_0 := fld96_0
 have HR1 := Aside0.mk hr1
 have HC1 := Aside0.mk hc1
 clear hr1 hc1
 have HB := Aside0.mk (Below.refl w.heap.size w)
 have H : (if 0 < (l1.length : Int) then ((bound_Exact_api_Tick.f k a0).bind fun bt102 => ((scale_Sidereal.f k ((rd_T90 l1 0).f0) ((rd_T90 l1 0).f1) ((rd_T90 l1 0).f2.f0) ((rd_T90 l1 0).f2.f1) bt102.1 bt102.2.1 bt102.2.2).bind fun bt105 => (some bt105.1))) else (none)) = some r := h
 clear h
 by_cases c3 : 0 < (l1.length : Int)
 · rw [if_pos c3] at H
   have c3b0 : decide (0 < (l1.length : Int)) = true := decide_eq_true c3
   have c3b1 : decide (0 < l1.length) = true := decide_eq_true (by omega)
   clear c3
   replace H := Option.bind_eq_some_iff.mp H
   obtain ⟨⟨t102, t103, t104⟩, A40, H⟩ := H
   replace H : ((scale_Sidereal.f k ((rd_T90 l1 0).f0) ((rd_T90 l1 0).f1) ((rd_T90 l1 0).f2.f0) ((rd_T90 l1 0).f2.f1) t102 t103 t104).bind fun bt105 => (some bt105.1)) = some r := H
   have A4 := Aside0.mk A40
   clear A40
   replace H := Option.bind_eq_some_iff.mp H
   obtain ⟨⟨t105, t106, t107⟩, A50, H⟩ := H
   replace H : (some t105) = some r := H
   have A5 := Aside0.mk A50
   clear A50
   obtain rfl := Option.some.inj H
   go_enter Try.func71, Try.ntmps71
   try go_wp2
   have n0_ := Aside0.mk (below_drew1 HB.out)
   clear HB
   have HB := n0_
   clear n0_
   have p101 : 0 ≤ (0 : Int) := (by omega)
   have q101 : 0 < (l1.length : Int) := of_decide_eq_true (by first | (with_reducible assumption) | assumption)
   obtain ⟨ad101, e101, hx101_0, hx101_1, hx101_2, hx101_3⟩ := at_T90 HR1.out 0 p101 q101
   have hw101_3 := hx101_3
   (try rw [show ((0 : Int)).toNat = 0 from rfl] at hw101_3)
   (try rw [show 0 * 4 = 0 from rfl] at hw101_3)
   (try rw [Addr.add_zero'] at hw101_3)
   have hw101_2 := hx101_2
   (try rw [show ((0 : Int)).toNat = 0 from rfl] at hw101_2)
   (try rw [show 0 * 4 = 0 from rfl] at hw101_2)
   (try rw [Addr.add_zero'] at hw101_2)
   have hw101_1 := hx101_1
   (try rw [show ((0 : Int)).toNat = 0 from rfl] at hw101_1)
   (try rw [show 0 * 4 = 0 from rfl] at hw101_1)
   (try rw [Addr.add_zero'] at hw101_1)
   have hw101_0 := hx101_0
   (try rw [show ((0 : Int)).toNat = 0 from rfl] at hw101_0)
   (try rw [show 0 * 4 = 0 from rfl] at hw101_0)
   (try rw [Addr.add_zero'] at hw101_0)
   cases e101
   have qi101 : (0 < l1.length) = True := eq_true (by omega)
   (try rw [show ((0 : Int)).toNat = 0 from rfl] at hx101_0)
   (try rw [show 0 * 4 = 0 from rfl] at hx101_0)
   (try rw [Addr.add_zero'] at hx101_0)
   (try rw [show ((0 : Int)).toNat = 0 from rfl] at hx101_1)
   (try rw [show 0 * 4 = 0 from rfl] at hx101_1)
   (try rw [Addr.add_zero'] at hx101_1)
   (try rw [show ((0 : Int)).toNat = 0 from rfl] at hx101_2)
   (try rw [show 0 * 4 = 0 from rfl] at hx101_2)
   (try rw [Addr.add_zero'] at hx101_2)
   (try rw [show ((0 : Int)).toNat = 0 from rfl] at hx101_3)
   (try rw [show 0 * 4 = 0 from rfl] at hx101_3)
   (try rw [Addr.add_zero'] at hx101_3)
   replace hx101_0 := (HB.out.cell (World.block_lt_of_cell? w _ hx101_0)).trans hx101_0
   replace hx101_1 := (HB.out.cell (World.block_lt_of_cell? w _ hx101_1)).trans hx101_1
   replace hx101_2 := (HB.out.cell (World.block_lt_of_cell? w _ hx101_2)).trans hx101_2
   replace hx101_3 := (HB.out.cell (World.block_lt_of_cell? w _ hx101_3)).trans hx101_3
   replace p101 := eq_true p101
   replace q101 := eq_true q101
   refine start_ (n := 6) (S := fun w' => w'.cell? ad101 = some (.int .i64 ((rd_T90 l1 0).f0)) ∧ w'.cell? ⟨ad101.block, ad101.off + 1, none⟩ = some (.int .i64 ((rd_T90 l1 0).f1)) ∧ w'.cell? ⟨ad101.block, ad101.off + 2, none⟩ = some (.int .i64 ((rd_T90 l1 0).f2.f0)) ∧ w'.cell? ⟨ad101.block, ad101.off + 3, none⟩ = some (.int .i64 ((rd_T90 l1 0).f2.f1))) (ds := []) #[false, false, false, false, false, false] (by kernel_rfl) rfl rfl ⟨((HB.out.cell (World.block_lt_of_cell? w _ hw101_0)).trans hw101_0), ((HB.out.cell (World.block_lt_of_cell? w _ hw101_1)).trans hw101_1), ((HB.out.cell (World.block_lt_of_cell? w _ hw101_2)).trans hw101_2), ((HB.out.cell (World.block_lt_of_cell? w _ hw101_3)).trans hw101_3)⟩ (fun hHeld => ?_)
   generalize w.drew = w6 at HB hx101_0 hx101_1 hx101_2 hx101_3 hHeld ⊢
   refine pure_ (i := 1) (N := some 5) (v := ?_) (a' := ?_) #[false, true, false, false, false, false] rfl rfl (by kernel_rfl) (fun _ _ _ h => h) (Or.inl ⟨by rfl, ?_⟩) ?_ ?_
   rotate_left
   · intro w'
     go_simp
     with_reducible rfl
   rotate_left
   · simp only [Act.put, List.setIfInBounds_toArray, List.set_cons_zero, List.set_cons_succ, i64_w, i32_w]
     rfl
   refine take_ (i := 0) (N := some 4) (v := ?_) (a' := ?_) #[true, true, false, false, false, false] rfl rfl (by kernel_rfl) (fun _ _ _ h => h) (Or.inl ⟨by rfl, ?_⟩) hHeld ?_ ?_
   rotate_left
   · rintro w' ⟨s0, s1, s2, s3⟩
     go_simp
     with_reducible rfl
   rotate_left
   · simp only [Act.put, List.setIfInBounds_toArray, List.set_cons_zero, List.set_cons_succ, i64_w, i32_w]
     rfl
   refine one_ (i := 2) (N := some 6) #[true, true, true, false, false, false] rfl rfl (by kernel_rfl) (by decide) (fun K hK => ?_)
   refine goes_ Try.func72 (by kernel_rfl) rfl #[.int .i64 a0] (by rfl) rfl rfl (by (try simp only [List.map_toArray, List.map_cons, List.map_nil]); first | done | rfl | (simp only [List.length_drop, List.length_take]; rfl)) ?_
   with_reducible refine (bound_Exact_api_Tick.calls k a0 t102 t103 t104 _ A4.out).mono ?_
   rintro e w7 ⟨rfl, hb⟩
   refine ⟨_, rfl, ?_⟩
   have n0_ := Aside0.mk (below_step (by repeat (first | (with_reducible first | exact HB.out | apply below_alloc | apply pw_below_drewN | apply below_drew1) | exact HB.out)) hb)
   clear HB
   have HB := n0_
   clear n0_
   (try clear hb)
   (try clear hb2)
   (try clear hk)
   (try clear hi)
   refine hK.out _ _ ⟨((HB.out.cell (World.block_lt_of_cell? w _ hw101_0)).trans hw101_0), ((HB.out.cell (World.block_lt_of_cell? w _ hw101_1)).trans hw101_1), ((HB.out.cell (World.block_lt_of_cell? w _ hw101_2)).trans hw101_2), ((HB.out.cell (World.block_lt_of_cell? w _ hw101_3)).trans hw101_3)⟩ (fun hHeld => ?_)
   clear hK K
   refine norm_ (a' := ?_) ?_ ?_
   rotate_left
   · show Act.put _ (some 6) _ = _
     simp only [Act.put, List.setIfInBounds_toArray, List.set_cons_zero, List.set_cons_succ, i64_w, i32_w]
     rfl
   refine one_ (i := 3) (N := some 7) #[true, true, true, true, false, false] rfl rfl (by kernel_rfl) (by decide) (fun K hK => ?_)
   refine goes_ Try.func67 (by kernel_rfl) rfl #[.agg #[.int .i64 ((rd_T90 l1 0).f0), .int .i64 ((rd_T90 l1 0).f1), .int .i64 ((rd_T90 l1 0).f2.f0), .int .i64 ((rd_T90 l1 0).f2.f1)], .agg #[.int .i64 t102, .int .i64 t103, .bool t104]] (by rfl) rfl rfl (by (try simp only [List.map_toArray, List.map_cons, List.map_nil]); first | done | rfl | (simp only [List.length_drop, List.length_take]; rfl)) ?_
   with_reducible refine (scale_Sidereal.calls k ((rd_T90 l1 0).f0) ((rd_T90 l1 0).f1) ((rd_T90 l1 0).f2.f0) ((rd_T90 l1 0).f2.f1) t102 t103 t104 t105 t106 t107 _ A5.out).mono ?_
   rintro e w8 ⟨rfl, hb⟩
   refine ⟨_, rfl, ?_⟩
   have n0_ := Aside0.mk (below_step (by repeat (first | (with_reducible first | exact HB.out | apply below_alloc | apply pw_below_drewN | apply below_drew1) | exact HB.out)) hb)
   clear HB
   have HB := n0_
   clear n0_
   (try clear hb)
   (try clear hb2)
   (try clear hk)
   (try clear hi)
   refine hK.out _ _ ⟨((HB.out.cell (World.block_lt_of_cell? w _ hw101_0)).trans hw101_0), ((HB.out.cell (World.block_lt_of_cell? w _ hw101_1)).trans hw101_1), ((HB.out.cell (World.block_lt_of_cell? w _ hw101_2)).trans hw101_2), ((HB.out.cell (World.block_lt_of_cell? w _ hw101_3)).trans hw101_3)⟩ (fun hHeld => ?_)
   clear hK K
   refine norm_ (a' := ?_) ?_ ?_
   rotate_left
   · show Act.put _ (some 7) _ = _
     simp only [Act.put, List.setIfInBounds_toArray, List.set_cons_zero, List.set_cons_succ, i64_w, i32_w]
     rfl
   refine pure_ (i := 4) (N := some 8) (v := ?_) (a' := ?_) #[true, true, true, true, true, false] rfl rfl (by kernel_rfl) (fun _ _ _ h => h) (Or.inl ⟨by rfl, ?_⟩) ?_ ?_
   rotate_left
   · intro w'
     go_simp
     with_reducible rfl
   rotate_left
   · simp only [Act.put, List.setIfInBounds_toArray, List.set_cons_zero, List.set_cons_succ, i64_w, i32_w]
     rfl
   refine pure_ (i := 5) (N := some 3) (v := ?_) (a' := ?_) #[true, true, true, true, true, true] rfl rfl (by kernel_rfl) (fun _ _ _ h => h) (Or.inl ⟨by rfl, ?_⟩) ?_ ?_
   rotate_left
   · intro w'
     go_simp
     with_reducible rfl
   rotate_left
   · simp only [Act.put, List.setIfInBounds_toArray, List.set_cons_zero, List.set_cons_succ, i64_w, i32_w]
     rfl
   refine done_ (by kernel_rfl) ?_
   try go_wp2
   go_ret
   exact ⟨by first | rfl | (simp [errW_none, errW_some] <;> rfl) | (simp [*, errW_none, errW_some] <;> rfl), by repeat (first | (with_reducible first | exact HB.out | apply below_alloc | apply pw_below_drewN | apply below_drew1) | exact HB.out)⟩
 · rw [if_neg c3] at H
   exact absurd H (by simp)

end Go.Proofs.Ytpophefonhpnmaa.Q
