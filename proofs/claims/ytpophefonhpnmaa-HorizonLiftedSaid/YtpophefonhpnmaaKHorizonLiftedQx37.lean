/- Contracts of Go functions of the seat, one by one: each call returns what the Lean function of the same name says, wherever that is 'some'; no other condition. Written by a program of this session. -/
import Derived.Test.YtpophefonhpnmaaKHorizonLiftedQx0
import Derived.Test.YtpophefonhpnmaaKHorizonLiftedQx2
import Derived.Test.YtpophefonhpnmaaKHorizonLiftedQx16
import Derived.Test.YtpophefonhpnmaaKHorizonLiftedQx19
import Derived.Test.YtpophefonhpnmaaKHorizonLiftedQx25
import Derived.Test.YtpophefonhpnmaaKHorizonLiftedQx26
import Derived.Test.YtpophefonhpnmaaKHorizonLiftedQx27
import Derived.Test.YtpophefonhpnmaaKHorizonLiftedQx31
import Derived.Test.YtpophefonhpnmaaKHorizonLiftedQx36
namespace Go.Proofs.Ytpophefonhpnmaa.Q
open Go.RowKit Go.Proofs.YtpophefonhpnmaaW.PrintWords Go.Proofs.YtpophefonhpnmaaW.PrintLast Go.Proofs.YtpophefonhpnmaaW.PrintMore
attribute [local go_sem] max2_int min2_int max_two min_two max_three min_three max_four min_four   -- for this text's walks alone
set_option linter.unusedVariables false
set_option linter.unusedSimpArgs false

attribute [local go_sem high] eqA96
/-! ### spykeep1_HorizonLifted: function 12 -/
def spykeep1_HorizonLifted.l0 : Nat → List (S108) → Int → Int → Int → List Int → Int → Option (Bool)
 | 0, _, _, _, _, _, _ => none
 | k + 1, x4, x5, x16, x17, x102000, x102001 => if x17 < x16 then ((spymake_Bound_api_Arc.f x102000 x102001 500).bind fun bt106 => (if x4.length < 4398046511104 then ((spymake_Stream_Range.f x102000 bt106.2.2.2 1 400).bind fun bt113 => (spykeep1_HorizonLifted.l0 k (x4 ++ [(⟨x5, (⟨bt106.1, bt106.2.1, bt106.2.2.1⟩ : S96)⟩ : S108)]) (wrap64 (x5 + bt113.1)) x16 (wrap64 (x17 + 1)) x102000 bt113.2)) else (none))) else ((spymake_Stream_Range.f x102000 x102001 (-1000) 1500).bind fun bt115 => ((spymake_Stream_Next.f x102000 bt115.2 500).bind fun bt117 => ((spymake_Within_api_Arc.f x102000 bt117.2 bt115.1 (wrap64 (bt115.1 + bt117.1)) false).bind fun bt120 => (if 1 < (x4.length : Int) then ((bound_Exact_api_Arc.f k ((rd_T108 x4 1).f0)).bind fun bt126 => ((horizon_Refract.f k x4 bt126.1 bt126.2.1 bt126.2.2).bind fun bt129 => ((spykeep1_horizonFact.f k).bind fun t133 => (if t133 = true then ((horizon_Refract.f k x4 bt120.1 bt120.2.1 bt120.2.2.1).bind fun bt134 => ((horizon_Refract.f k x4 bt115.1 (wrap64 (bt115.1 + bt117.1)) false).bind fun bt137 => ((bound_Inside_api_Arc.f k bt134.1 bt134.2.1 bt134.2.2 bt137.1 bt137.2.1 bt137.2.2).bind fun t140 => (if t140 = true then ((bound_Exact_api_Arc.f k ((rd_T108 x4 1).f0)).bind fun bt143 => ((bound_Add_api_Arc.f k ((rd_T108 x4 1).f1.f0) ((rd_T108 x4 1).f1.f1) ((rd_T108 x4 1).f1.f2) bt126.1 bt126.2.1 bt126.2.2).bind fun bt146 => (some (bt129.1 == bt146.1 && (bt129.2.1 == bt146.2.1 && (bt129.2.2 == bt146.2.2)))))) else (none))))) else (none))))) else (none)))))
def spykeep1_HorizonLifted.f (k : Nat) (l0 : List Int) : Option (Bool) := (spymake_Stream_Range.f l0 0 (-1000) 0).bind fun bt102 => ((spymake_Stream_Range.f l0 bt102.2 2 8).bind fun bt104 => (spykeep1_HorizonLifted.l0 k ([] : List (S108)) bt102.1 bt104.1 0 l0 bt104.2))
theorem spykeep1_HorizonLifted.mono_l : ∀ k, (∀ y0 y1 y2 y3 y4 y5, LeO (spykeep1_HorizonLifted.l0 k y0 y1 y2 y3 y4 y5) (spykeep1_HorizonLifted.l0 (k + 1) y0 y1 y2 y3 y4 y5))
 | 0 => fun _ _ _ _ _ _ r h => by simp [spykeep1_HorizonLifted.l0] at h
 | k + 1 => by
  have ih0 := spykeep1_HorizonLifted.mono_l k
  · intro y0 y1 y2 y3 y4 y5
    unfold spykeep1_HorizonLifted.l0
    repeat' first
    | (with_reducible exact ih0 _ _ _ _ _ _)
    | (with_reducible exact bound_Add_api_Arc.mono _ _ _ _ _ _ _)
    | (with_reducible exact bound_Exact_api_Arc.mono _ _)
    | (with_reducible exact bound_Inside_api_Arc.mono _ _ _ _ _ _ _)
    | (with_reducible exact horizon_Refract.mono _ _ _ _ _)
    | (with_reducible exact spykeep1_horizonFact.mono _)
    | (with_reducible exact LeO.refl _)
    | (with_reducible exact LeO.none _)
    | (with_reducible refine LeO.ite ?_ ?_)
    | (with_reducible refine LeO.bind ?_ (fun _ => ?_))
    | exact ih0 _ _ _ _ _ _
    | exact bound_Add_api_Arc.mono _ _ _ _ _ _ _
    | exact bound_Exact_api_Arc.mono _ _
    | exact bound_Inside_api_Arc.mono _ _ _ _ _ _ _
    | exact horizon_Refract.mono _ _ _ _ _
    | exact spykeep1_horizonFact.mono _
    | exact LeO.none _
    | refine LeO.ite ?_ ?_
    | refine LeO.bind ?_ (fun _ => ?_)
theorem spykeep1_HorizonLifted.mono : ∀ a0 k, LeO (spykeep1_HorizonLifted.f k a0) (spykeep1_HorizonLifted.f (k + 1) a0) := by
 intro a0 k
 have ih0 := spykeep1_HorizonLifted.mono_l k
 unfold spykeep1_HorizonLifted.f
 repeat' first
  | (with_reducible exact ih0 _ _ _ _ _ _)
  | (with_reducible exact bound_Add_api_Arc.mono _ _ _ _ _ _ _)
  | (with_reducible exact bound_Exact_api_Arc.mono _ _)
  | (with_reducible exact bound_Inside_api_Arc.mono _ _ _ _ _ _ _)
  | (with_reducible exact horizon_Refract.mono _ _ _ _ _)
  | (with_reducible exact spykeep1_horizonFact.mono _)
  | (with_reducible exact LeO.refl _)
  | (with_reducible exact LeO.none _)
  | (with_reducible refine LeO.ite ?_ ?_)
  | (with_reducible refine LeO.bind ?_ (fun _ => ?_))
  | exact ih0 _ _ _ _ _ _
  | exact bound_Add_api_Arc.mono _ _ _ _ _ _ _
  | exact bound_Exact_api_Arc.mono _ _
  | exact bound_Inside_api_Arc.mono _ _ _ _ _ _ _
  | exact horizon_Refract.mono _ _ _ _ _
  | exact spykeep1_horizonFact.mono _
  | exact LeO.none _
  | refine LeO.ite ?_ ?_
  | refine LeO.bind ?_ (fun _ => ?_)
def spykeep1_HorizonLifted.T13 : Bool × List (List Nat × List Nat) := (true, [([], []), ([0, 0], [0]), ([1], [1]), ([1], [1]), ([2, 3, 1, 1], [1, 2, 3]), ([1], [1]), ([1], [1]), ([5, 6, 4, 1], [1, 5, 6]), ([4, 7, 7, 1], [1, 4, 7]), ([1, 8], [1, 8]), ([9, 8], [9]), ([10], [10]), ([10], [10]), ([12, 10], [10, 12]), ([13, 10], [10, 13]), ([14, 10], [10, 14]), ([10], [10]), ([16, 10], [10, 16]), ([17, 10], [10, 17]), ([18, 10], [10, 18]), ([19, 10, 10], [10, 19]), ([15, 20, 20, 10], [10, 15, 20]), ([11, 21, 10], [10, 11, 21]), ([10, 22], [10, 22]), ([23, 21, 0, 1, 2, 3, 4, 5, 6, 7, 8, 9, 10, 11, 12, 13, 14, 15, 16, 17, 18, 19, 20, 21, 22, 23], [23])])
def spykeep1_HorizonLifted.B13 : List Nat := [0, 1, 3, 3, 15, 3, 3, 127, 255, 511, 1023, 2047, 2047, 6143, 14335, 30719, 2047, 67583, 198655, 460799, 985087, 2095103, 4194303, 8388607, 16777215]
theorem spykeep1_HorizonLifted.tab13 : rtab .any (opsOf Try.f12 13) = spykeep1_HorizonLifted.T13 := by kernel_rfl
theorem spykeep1_HorizonLifted.bits13 : waitsOk spykeep1_HorizonLifted.T13.2 spykeep1_HorizonLifted.B13 = true := by kernel_rfl
set_option maxHeartbeats 8000000 in
set_option maxRecDepth 100000 in
theorem spykeep1_HorizonLifted.calls (k : Nat) (A0 : Option Addr) (c0 : Nat) (l0 : List Int) (r : Bool) (w : World) (hr0 : Kd.C (Kd.int .i64) w A0 l0.length l0) (hc0 : l0.length ≤ c0) (h : spykeep1_HorizonLifted.f k l0 = some r) :
 Calls Try.prog 12 #[.slice A0 l0.length c0] w fun e w' => e = .returned (.bool r) ∧ Below w.heap.size w w' := by
 have hu25 := Try.underlying25
 have hu108 := Try.underlying108
 have hu96 := Try.underlying96
 have HR0 := Aside0.mk hr0
 have HC0 := Aside0.mk hc0
 clear hr0 hc0
 have HB := Aside0.mk (Below.refl w.heap.size w)
 have H : ((spymake_Stream_Range.f l0 0 (-1000) 0).bind fun bt102 => ((spymake_Stream_Range.f l0 bt102.2 2 8).bind fun bt104 => (spykeep1_HorizonLifted.l0 k ([] : List (S108)) bt102.1 bt104.1 0 l0 bt104.2))) = some r := h
 clear h
 replace H := Option.bind_eq_some_iff.mp H
 obtain ⟨⟨t102, t103⟩, A20, H⟩ := H
 replace H : ((spymake_Stream_Range.f l0 t103 2 8).bind fun bt104 => (spykeep1_HorizonLifted.l0 k ([] : List (S108)) t102 bt104.1 0 l0 bt104.2)) = some r := H
 have A2 := Aside0.mk A20
 clear A20
 replace H := Option.bind_eq_some_iff.mp H
 obtain ⟨⟨t104, t105⟩, A30, H⟩ := H
 replace H : (spykeep1_HorizonLifted.l0 k ([] : List (S108)) t102 t104 0 l0 t105) = some r := H
 have A3 := Aside0.mk A30
 clear A30
 have H' := Aside0.mk H
 clear H
 go_enter Try.func12, Try.ntmps12
 go_wp2_with (first | ((with_reducible refine gate_dst (N := 12) rfl ?_); refine box_event ?hg (N := 12) ?hd (cs := #[.slice A0 l0.length c0, .int .i64 0]) (t := 25) ?hr ?_; (case hd => rfl); (case hg => rfl); (case hr => first | (go_simp; done) | (go_simp; rfl)); intro gb101 hg w4 hbox hb; have n0_ := Aside0.mk (below_step (by repeat (first | (with_reducible first | exact HB.out | apply below_alloc | apply pw_below_drewN | apply below_drew1) | exact HB.out)) hb); have n1_ := Aside0.mk ((show IsS25 w _ gb101 l0 0 from ⟨_, _, hbox, (by rw [hg]; exact (below_size (by repeat (first | (with_reducible first | exact HB.out | apply below_alloc | apply pw_below_drewN | apply below_drew1) | exact HB.out))) : w.heap.size ≤ gb101), HR0.out⟩)); have n2_ := Aside0.mk ((by rw [hg]; exact (below_size (by repeat (first | (with_reducible first | exact HB.out | apply below_alloc | apply pw_below_drewN | apply below_drew1) | exact HB.out))) : w.heap.size ≤ gb101)); have n3_ := Aside0.mk ((by rw [hg]; exact (below_size (by repeat (first | (with_reducible first | exact HB.out | apply below_alloc | apply pw_below_drewN | apply below_drew1) | exact HB.out))) : w.heap.size ≤ gb101)); clear HB; have HB := n0_; have HI101 := n1_; have GW101 := n2_; have GE101 := n3_; clear n0_ n1_ n2_ n3_; clear hb hbox hg) | ((with_reducible refine gate_callee (f := 23) rfl ?_); refine goesL_ (some 14) rfl rfl Try.func23 (by kernel_rfl) rfl #[.pointer (some ⟨gb101, 0, none⟩), .int .i64 (-1000), .int .i64 0] rfl (by (try simp only [List.map_toArray, List.map_cons, List.map_nil]); first | done | rfl | (simp only [List.length_drop, List.length_take]; rfl)) ?_; (with_reducible refine (spymake_Stream_Range.calls gb101 l0 0 (-1000) 0 t102 t103 w _ ?side1 ?side2 A2.out).mono ?_); (case side1 => repeat (first | (with_reducible first | exact HI101.out | apply IsS25.alloc | apply IsS25.drewN | apply IsS25.drew | apply IsS25.set_1) | exact HI101.out)); (case side2 => repeat (first | (with_reducible first | exact HB.out | apply below_alloc | apply pw_below_drewN | apply below_drew1 | refine below_set ?_ (IsS25.ge HI101.out)) | exact HB.out)); rintro e w5 ⟨rfl, hi, hb, hk⟩; refine ⟨_, rfl, ?_⟩; have n0_ := Aside0.mk (hb); have n1_ := Aside0.mk (hi); clear HB; clear HI101; have HB := n0_; have HI101 := n1_; clear n0_ n1_; (try clear hb); (try clear hb2); (try clear hk); (try clear hi)) | ((with_reducible refine gate_callee (f := 23) rfl ?_); refine goesL_ (some 16) rfl rfl Try.func23 (by kernel_rfl) rfl #[.pointer (some ⟨gb101, 0, none⟩), .int .i64 2, .int .i64 8] rfl (by (try simp only [List.map_toArray, List.map_cons, List.map_nil]); first | done | rfl | (simp only [List.length_drop, List.length_take]; rfl)) ?_; (with_reducible refine (spymake_Stream_Range.calls gb101 l0 t103 2 8 t104 t105 w _ ?side1 ?side2 A3.out).mono ?_); (case side1 => repeat (first | (with_reducible first | exact HI101.out | apply IsS25.alloc | apply IsS25.drewN | apply IsS25.drew | apply IsS25.set_1) | exact HI101.out)); (case side2 => repeat (first | (with_reducible first | exact HB.out | apply below_alloc | apply pw_below_drewN | apply below_drew1 | refine below_set ?_ (IsS25.ge HI101.out)) | exact HB.out)); rintro e w6 ⟨rfl, hi, hb, hk⟩; refine ⟨_, rfl, ?_⟩; have n0_ := Aside0.mk (hb); have n1_ := Aside0.mk (hi); clear HB; clear HI101; have HB := n0_; have HI101 := n1_; clear n0_ n1_; (try clear hb); (try clear hb2); (try clear hk); (try clear hi)))
 go_loopg [4, 5, 17] k (fun kq v4 v5 v17 w' => ∃ (x4_1 : List (S108)) (x5_1 : Int) (x17_1 : Int) (x102001_1 : Int), v5 = .int .i64 x5_1 ∧ v17 = .int .i64 x17_1 ∧ Aside0 (spykeep1_HorizonLifted.l0 kq x4_1 x5_1 t104 x17_1 l0 x102001_1 = some r) ∧ Aside0 (kq ≤ k) ∧ Aside0 (Kd.R k108 108 w' w.heap.size (fun _ => True) v4 x4_1) ∧ Aside0 (IsS25 w w' gb101 l0 x102001_1) ∧ Aside0 (Below w.heap.size w w'))
 case atStart => exact ⟨(([] : List (S108))), (t102), (0), (t105), (by first | rfl | (simp; done) | (simp [*]; done)), (by first | rfl | (simp; done) | (simp [*]; done)), H', ⟨Nat.le_refl _⟩, ⟨by first | exact Kd.R_nil _ _ _ _ _ | exact Kd.N_nil _ _ _ _ _ | exact Kd.V_nil _ _ _ _ _ | exact Kd.Q_nil _ _ _ _ _ | exact Kd.S_nil _ _ _ _ _⟩, ⟨by repeat (first | (with_reducible first | exact HI101.out | apply IsS25.alloc | apply IsS25.drewN | apply IsS25.drew | apply IsS25.set_1) | exact HI101.out)⟩, ⟨by repeat (first | (with_reducible first | exact HB.out | apply below_alloc | apply pw_below_drewN | apply below_drew1 | refine below_set ?_ (IsS25.ge HI101.out)) | exact HB.out)⟩⟩
 case round =>
  clear H'
  obtain ⟨x4_1, x5_1, x17_1, x102001_1, rfl, rfl, HA, HK1, HO_4, HI101, HB⟩ := hrel
  cases gk with
  | zero => exact absurd HA.out (by simp [spykeep1_HorizonLifted.l0])
  | succ k1 =>
   have H := HA.out
   clear HA
   simp only [spykeep1_HorizonLifted.l0] at H
   by_cases c7 : x17_1 < t104
   · rw [if_pos c7] at H
     have c7b0 : decide (x17_1 < t104) = true := decide_eq_true c7
     clear c7
     replace H := Option.bind_eq_some_iff.mp H
     obtain ⟨⟨t106, t107, t108, t109⟩, A80, H⟩ := H
     replace H : (if x4_1.length < 4398046511104 then ((spymake_Stream_Range.f l0 t109 1 400).bind fun bt113 => (spykeep1_HorizonLifted.l0 k1 (x4_1 ++ [(⟨x5_1, (⟨t106, t107, t108⟩ : S96)⟩ : S108)]) (wrap64 (x5_1 + bt113.1)) t104 (wrap64 (x17_1 + 1)) l0 bt113.2)) else (none)) = some r := H
     have A8 := Aside0.mk A80
     clear A80
     by_cases c9 : x4_1.length < 4398046511104
     · rw [if_pos c9] at H
       have LMc9 := Aside0.mk c9
       clear c9
       obtain ⟨y110, hy110⟩ : ∃ y_ : List (S108), y_ = (x4_1 ++ [(⟨x5_1, (⟨t106, t107, t108⟩ : S96)⟩ : S108)]) := ⟨_, rfl⟩
       replace H : ((spymake_Stream_Range.f l0 t109 1 400).bind fun bt113 => (spykeep1_HorizonLifted.l0 k1 y110 (wrap64 (x5_1 + bt113.1)) t104 (wrap64 (x17_1 + 1)) l0 bt113.2)) = some r := by first | (rw [hy110]; with_reducible exact H) | (have H2_ := (Option.bind_some _ _).symm.trans H; rw [hy110]; with_reducible exact H2_) | (have H2_ := (Option.bind_some _ _).symm.trans H; with_reducible exact H2_) | with_reducible exact H | (rw [hy110]; exact H) | exact H
       have Ny110 := Aside0.mk hy110
       clear hy110
       replace H := Option.bind_eq_some_iff.mp H
       obtain ⟨⟨t113, t114⟩, A100, H⟩ := H
       replace H : (spykeep1_HorizonLifted.l0 k1 y110 (wrap64 (x5_1 + t113)) t104 (wrap64 (x17_1 + 1)) l0 t114) = some r := H
       have A10 := Aside0.mk A100
       clear A100
       have H' := Aside0.mk H
       clear H
       go_wp2_with (first | ((with_reducible refine gate_callee (f := 75) rfl ?_); refine goesL_ (some 22) rfl rfl Try.func75 (by kernel_rfl) rfl #[.pointer (some ⟨gb101, 0, none⟩), .int .i64 500] rfl (by (try simp only [List.map_toArray, List.map_cons, List.map_nil]); first | done | rfl | (simp only [List.length_drop, List.length_take]; rfl)) ?_; (with_reducible refine (spymake_Bound_api_Arc.calls gb101 l0 x102001_1 500 t106 t107 t108 t109 w _ ?side1 ?side2 A8.out).mono ?_); (case side1 => repeat (first | (with_reducible first | exact HI101.out | apply IsS25.alloc | apply IsS25.drewN | apply IsS25.drew | apply IsS25.set_1) | exact HI101.out)); (case side2 => repeat (first | (with_reducible first | exact HB.out | apply below_alloc | apply pw_below_drewN | apply below_drew1 | refine below_set ?_ (IsS25.ge HI101.out)) | exact HB.out)); rintro e w11 ⟨rfl, hi, hb, hk⟩; refine ⟨_, rfl, ?_⟩; have n0_ := Aside0.mk (Kd.R_mono (Kd.R_keep (IsS25.apart (show IsS25 w _ gb101 l0 x102001_1 from by repeat (first | (with_reducible first | exact HI101.out | apply IsS25.alloc | apply IsS25.drewN | apply IsS25.drew | apply IsS25.set_1) | exact HI101.out)) (by (with_reducible repeat (first | apply Kd.R_alloc | apply Kd.R_drewN | apply Kd.R_drew)); exact HO_4.out) (by decide)) hk (fun _ h => h.2)) (fun _ h => h.1)); have n1_ := Aside0.mk (hb); have n2_ := Aside0.mk (hi); clear HO_4; clear HB; clear HI101; have HO_4 := n0_; have HB := n1_; have HI101 := n2_; clear n0_ n1_ n2_; (try clear hb); (try clear hb2); (try clear hk); (try clear hi)) | ((with_reducible refine gate_builtin (b := .append) (xs := #[.tmp 19, .tmp 24]) rfl ?_); at_builtin; refine Kd.R_append k108 (w0 := w) w.heap.size rfl (.tmp 19) (.tmp 24) 105 108 (.agg #[(.int .i64 0), (.int .i64 0), (.int .i64 0), (.bool false)]) 32 rfl Try.underlying105 info108 rfl (by decide) (by omega) u4 x4_1 (⟨x5_1, (⟨t106, t107, t108⟩ : S96)⟩ : S108) [.int .i64 x5_1, .int .i64 t106, .int .i64 t107, .bool t108] (fun _ => True) (fun _ => False) rfl rfl ?aP (fun _ hk => hk.elim) ?aF ?aO ?aB ?aS ?aL ?_; (case aP => exact k108_mkM _ _ _ (⟨x5_1, (⟨t106, t107, t108⟩ : S96)⟩ : S108)); (case aB => exact (by repeat (first | (with_reducible first | exact HB.out | apply below_alloc | apply pw_below_drewN | apply below_drew1 | refine below_set ?_ (IsS25.ge HI101.out)) | exact HB.out))); (case aF => exact (fun _ _ => trivial)); (case aO => exact (by (with_reducible repeat (first | apply Kd.R_alloc | apply Kd.R_drewN | apply Kd.R_drew)); exact HO_4.out)); (case aS => exact (below_size (by repeat (first | (with_reducible first | exact HB.out | apply below_alloc | apply pw_below_drewN | apply below_drew1 | refine below_set ?_ (IsS25.ge HI101.out)) | exact HB.out)))); (case aL => have := LMc9.out; omega); intro v111 w12 ho hb hg hat; rw [← Ny110.out] at ho; have n0_ := Aside0.mk (IsS25.grown (by repeat (first | (with_reducible first | exact HI101.out | apply IsS25.alloc | apply IsS25.drewN | apply IsS25.drew | apply IsS25.set_1) | exact HI101.out)) hg (IsS25.own_ne HI101.out HO_4.out (by decide))); have n1_ := Aside0.mk (hb); have n2_ := Aside0.mk (ho); clear HI101; clear HB; clear HO_4; have HI101 := n0_; have HB := n1_; have HO112 := n2_; clear n0_ n1_ n2_; clear ho hb hg hat) | ((with_reducible refine gate_callee (f := 23) rfl ?_); refine goesL_ (some 28) rfl rfl Try.func23 (by kernel_rfl) rfl #[.pointer (some ⟨gb101, 0, none⟩), .int .i64 1, .int .i64 400] rfl (by (try simp only [List.map_toArray, List.map_cons, List.map_nil]); first | done | rfl | (simp only [List.length_drop, List.length_take]; rfl)) ?_; (with_reducible refine (spymake_Stream_Range.calls gb101 l0 t109 1 400 t113 t114 w _ ?side1 ?side2 A10.out).mono ?_); (case side1 => repeat (first | (with_reducible first | exact HI101.out | apply IsS25.alloc | apply IsS25.drewN | apply IsS25.drew | apply IsS25.set_1) | exact HI101.out)); (case side2 => repeat (first | (with_reducible first | exact HB.out | apply below_alloc | apply pw_below_drewN | apply below_drew1 | refine below_set ?_ (IsS25.ge HI101.out)) | exact HB.out)); rintro e w13 ⟨rfl, hi, hb, hk⟩; refine ⟨_, rfl, ?_⟩; have n0_ := Aside0.mk (Kd.R_mono (Kd.R_keep (IsS25.apart (show IsS25 w _ gb101 l0 t109 from by repeat (first | (with_reducible first | exact HI101.out | apply IsS25.alloc | apply IsS25.drewN | apply IsS25.drew | apply IsS25.set_1) | exact HI101.out)) (by (with_reducible repeat (first | apply Kd.R_alloc | apply Kd.R_drewN | apply Kd.R_drew)); exact HO112.out) (by decide)) hk (fun _ h => h.2)) (fun _ h => h.1)); have n1_ := Aside0.mk (hb); have n2_ := Aside0.mk (hi); clear HO112; clear HB; clear HI101; have HO112 := n0_; have HB := n1_; have HI101 := n2_; clear n0_ n1_ n2_; (try clear hb); (try clear hb2); (try clear hk); (try clear hi)))
       go_roundg k1
       case measure => have := HK1.out; omega
       case rel => exact ⟨(y110), (wrap64 (x5_1 + t113)), (wrap64 (x17_1 + 1)), (t114), (by first | rfl | (simp; done) | (simp [*]; done)), (by first | rfl | (simp; done) | (simp [*]; done)), H', ⟨by have := HK1.out; omega⟩, ⟨by (with_reducible repeat (first | apply Kd.R_alloc | apply Kd.R_drewN | apply Kd.R_drew)); exact HO112.out⟩, ⟨by repeat (first | (with_reducible first | exact HI101.out | apply IsS25.alloc | apply IsS25.drewN | apply IsS25.drew | apply IsS25.set_1) | exact HI101.out)⟩, ⟨by repeat (first | (with_reducible first | exact HB.out | apply below_alloc | apply pw_below_drewN | apply below_drew1 | refine below_set ?_ (IsS25.ge HI101.out)) | exact HB.out)⟩⟩
     · rw [if_neg c9] at H
       exact absurd H (by simp)
   · rw [if_neg c7] at H
     have c7b0 : decide (x17_1 < t104) = false := decide_eq_false c7
     clear c7
     replace H := Option.bind_eq_some_iff.mp H
     obtain ⟨⟨t115, t116⟩, A140, H⟩ := H
     replace H : ((spymake_Stream_Next.f l0 t116 500).bind fun bt117 => ((spymake_Within_api_Arc.f l0 bt117.2 t115 (wrap64 (t115 + bt117.1)) false).bind fun bt120 => (if 1 < (x4_1.length : Int) then ((bound_Exact_api_Arc.f k1 ((rd_T108 x4_1 1).f0)).bind fun bt126 => ((horizon_Refract.f k1 x4_1 bt126.1 bt126.2.1 bt126.2.2).bind fun bt129 => ((spykeep1_horizonFact.f k1).bind fun t133 => (if t133 = true then ((horizon_Refract.f k1 x4_1 bt120.1 bt120.2.1 bt120.2.2.1).bind fun bt134 => ((horizon_Refract.f k1 x4_1 t115 (wrap64 (t115 + bt117.1)) false).bind fun bt137 => ((bound_Inside_api_Arc.f k1 bt134.1 bt134.2.1 bt134.2.2 bt137.1 bt137.2.1 bt137.2.2).bind fun t140 => (if t140 = true then ((bound_Exact_api_Arc.f k1 ((rd_T108 x4_1 1).f0)).bind fun bt143 => ((bound_Add_api_Arc.f k1 ((rd_T108 x4_1 1).f1.f0) ((rd_T108 x4_1 1).f1.f1) ((rd_T108 x4_1 1).f1.f2) bt126.1 bt126.2.1 bt126.2.2).bind fun bt146 => (some (bt129.1 == bt146.1 && (bt129.2.1 == bt146.2.1 && (bt129.2.2 == bt146.2.2)))))) else (none))))) else (none))))) else (none)))) = some r := H
     have A14 := Aside0.mk A140
     clear A140
     replace H := Option.bind_eq_some_iff.mp H
     obtain ⟨⟨t117, t118⟩, A150, H⟩ := H
     replace H : ((spymake_Within_api_Arc.f l0 t118 t115 (wrap64 (t115 + t117)) false).bind fun bt120 => (if 1 < (x4_1.length : Int) then ((bound_Exact_api_Arc.f k1 ((rd_T108 x4_1 1).f0)).bind fun bt126 => ((horizon_Refract.f k1 x4_1 bt126.1 bt126.2.1 bt126.2.2).bind fun bt129 => ((spykeep1_horizonFact.f k1).bind fun t133 => (if t133 = true then ((horizon_Refract.f k1 x4_1 bt120.1 bt120.2.1 bt120.2.2.1).bind fun bt134 => ((horizon_Refract.f k1 x4_1 t115 (wrap64 (t115 + t117)) false).bind fun bt137 => ((bound_Inside_api_Arc.f k1 bt134.1 bt134.2.1 bt134.2.2 bt137.1 bt137.2.1 bt137.2.2).bind fun t140 => (if t140 = true then ((bound_Exact_api_Arc.f k1 ((rd_T108 x4_1 1).f0)).bind fun bt143 => ((bound_Add_api_Arc.f k1 ((rd_T108 x4_1 1).f1.f0) ((rd_T108 x4_1 1).f1.f1) ((rd_T108 x4_1 1).f1.f2) bt126.1 bt126.2.1 bt126.2.2).bind fun bt146 => (some (bt129.1 == bt146.1 && (bt129.2.1 == bt146.2.1 && (bt129.2.2 == bt146.2.2)))))) else (none))))) else (none))))) else (none))) = some r := H
     have A15 := Aside0.mk A150
     clear A150
     replace H := Option.bind_eq_some_iff.mp H
     obtain ⟨⟨t120, t121, t122, t123⟩, A160, H⟩ := H
     replace H : (if 1 < (x4_1.length : Int) then ((bound_Exact_api_Arc.f k1 ((rd_T108 x4_1 1).f0)).bind fun bt126 => ((horizon_Refract.f k1 x4_1 bt126.1 bt126.2.1 bt126.2.2).bind fun bt129 => ((spykeep1_horizonFact.f k1).bind fun t133 => (if t133 = true then ((horizon_Refract.f k1 x4_1 t120 t121 t122).bind fun bt134 => ((horizon_Refract.f k1 x4_1 t115 (wrap64 (t115 + t117)) false).bind fun bt137 => ((bound_Inside_api_Arc.f k1 bt134.1 bt134.2.1 bt134.2.2 bt137.1 bt137.2.1 bt137.2.2).bind fun t140 => (if t140 = true then ((bound_Exact_api_Arc.f k1 ((rd_T108 x4_1 1).f0)).bind fun bt143 => ((bound_Add_api_Arc.f k1 ((rd_T108 x4_1 1).f1.f0) ((rd_T108 x4_1 1).f1.f1) ((rd_T108 x4_1 1).f1.f2) bt126.1 bt126.2.1 bt126.2.2).bind fun bt146 => (some (bt129.1 == bt146.1 && (bt129.2.1 == bt146.2.1 && (bt129.2.2 == bt146.2.2)))))) else (none))))) else (none))))) else (none)) = some r := H
     have A16 := Aside0.mk A160
     clear A160
     by_cases c17 : 1 < (x4_1.length : Int)
     · rw [if_pos c17] at H
       have c17b0 : decide (1 < (x4_1.length : Int)) = true := decide_eq_true c17
       have c17b1 : decide (1 < x4_1.length) = true := decide_eq_true (by omega)
       clear c17
       replace H := Option.bind_eq_some_iff.mp H
       obtain ⟨⟨t126, t127, t128⟩, A180, H⟩ := H
       replace H : ((horizon_Refract.f k1 x4_1 t126 t127 t128).bind fun bt129 => ((spykeep1_horizonFact.f k1).bind fun t133 => (if t133 = true then ((horizon_Refract.f k1 x4_1 t120 t121 t122).bind fun bt134 => ((horizon_Refract.f k1 x4_1 t115 (wrap64 (t115 + t117)) false).bind fun bt137 => ((bound_Inside_api_Arc.f k1 bt134.1 bt134.2.1 bt134.2.2 bt137.1 bt137.2.1 bt137.2.2).bind fun t140 => (if t140 = true then ((bound_Exact_api_Arc.f k1 ((rd_T108 x4_1 1).f0)).bind fun bt143 => ((bound_Add_api_Arc.f k1 ((rd_T108 x4_1 1).f1.f0) ((rd_T108 x4_1 1).f1.f1) ((rd_T108 x4_1 1).f1.f2) t126 t127 t128).bind fun bt146 => (some (bt129.1 == bt146.1 && (bt129.2.1 == bt146.2.1 && (bt129.2.2 == bt146.2.2)))))) else (none))))) else (none)))) = some r := H
       have A18 := Aside0.mk A180
       clear A180
       replace H := Option.bind_eq_some_iff.mp H
       obtain ⟨⟨t129, t130, t131⟩, A190, H⟩ := H
       replace H : ((spykeep1_horizonFact.f k1).bind fun t133 => (if t133 = true then ((horizon_Refract.f k1 x4_1 t120 t121 t122).bind fun bt134 => ((horizon_Refract.f k1 x4_1 t115 (wrap64 (t115 + t117)) false).bind fun bt137 => ((bound_Inside_api_Arc.f k1 bt134.1 bt134.2.1 bt134.2.2 bt137.1 bt137.2.1 bt137.2.2).bind fun t140 => (if t140 = true then ((bound_Exact_api_Arc.f k1 ((rd_T108 x4_1 1).f0)).bind fun bt143 => ((bound_Add_api_Arc.f k1 ((rd_T108 x4_1 1).f1.f0) ((rd_T108 x4_1 1).f1.f1) ((rd_T108 x4_1 1).f1.f2) t126 t127 t128).bind fun bt146 => (some (t129 == bt146.1 && (t130 == bt146.2.1 && (t131 == bt146.2.2)))))) else (none))))) else (none))) = some r := H
       have A19 := Aside0.mk A190
       clear A190
       replace H := Option.bind_eq_some_iff.mp H
       obtain ⟨t133, A200, H⟩ := H
       replace H : (if t133 = true then ((horizon_Refract.f k1 x4_1 t120 t121 t122).bind fun bt134 => ((horizon_Refract.f k1 x4_1 t115 (wrap64 (t115 + t117)) false).bind fun bt137 => ((bound_Inside_api_Arc.f k1 bt134.1 bt134.2.1 bt134.2.2 bt137.1 bt137.2.1 bt137.2.2).bind fun t140 => (if t140 = true then ((bound_Exact_api_Arc.f k1 ((rd_T108 x4_1 1).f0)).bind fun bt143 => ((bound_Add_api_Arc.f k1 ((rd_T108 x4_1 1).f1.f0) ((rd_T108 x4_1 1).f1.f1) ((rd_T108 x4_1 1).f1.f2) t126 t127 t128).bind fun bt146 => (some (t129 == bt146.1 && (t130 == bt146.2.1 && (t131 == bt146.2.2)))))) else (none))))) else (none)) = some r := H
       have A20 := Aside0.mk A200
       clear A200
       by_cases c21 : t133 = true
       · subst c21
         have H1 : ((horizon_Refract.f k1 x4_1 t120 t121 t122).bind fun bt134 => ((horizon_Refract.f k1 x4_1 t115 (wrap64 (t115 + t117)) false).bind fun bt137 => ((bound_Inside_api_Arc.f k1 bt134.1 bt134.2.1 bt134.2.2 bt137.1 bt137.2.1 bt137.2.2).bind fun t140 => (if t140 = true then ((bound_Exact_api_Arc.f k1 ((rd_T108 x4_1 1).f0)).bind fun bt143 => ((bound_Add_api_Arc.f k1 ((rd_T108 x4_1 1).f1.f0) ((rd_T108 x4_1 1).f1.f1) ((rd_T108 x4_1 1).f1.f2) t126 t127 t128).bind fun bt146 => (some (t129 == bt146.1 && (t130 == bt146.2.1 && (t131 == bt146.2.2)))))) else (none))))) = some r := by rw [if_pos rfl] at H; exact H
         clear H
         have H := H1
         clear H1
         replace H := Option.bind_eq_some_iff.mp H
         obtain ⟨⟨t134, t135, t136⟩, A220, H⟩ := H
         replace H : ((horizon_Refract.f k1 x4_1 t115 (wrap64 (t115 + t117)) false).bind fun bt137 => ((bound_Inside_api_Arc.f k1 t134 t135 t136 bt137.1 bt137.2.1 bt137.2.2).bind fun t140 => (if t140 = true then ((bound_Exact_api_Arc.f k1 ((rd_T108 x4_1 1).f0)).bind fun bt143 => ((bound_Add_api_Arc.f k1 ((rd_T108 x4_1 1).f1.f0) ((rd_T108 x4_1 1).f1.f1) ((rd_T108 x4_1 1).f1.f2) t126 t127 t128).bind fun bt146 => (some (t129 == bt146.1 && (t130 == bt146.2.1 && (t131 == bt146.2.2)))))) else (none)))) = some r := H
         have A22 := Aside0.mk A220
         clear A220
         replace H := Option.bind_eq_some_iff.mp H
         obtain ⟨⟨t137, t138, t139⟩, A230, H⟩ := H
         replace H : ((bound_Inside_api_Arc.f k1 t134 t135 t136 t137 t138 t139).bind fun t140 => (if t140 = true then ((bound_Exact_api_Arc.f k1 ((rd_T108 x4_1 1).f0)).bind fun bt143 => ((bound_Add_api_Arc.f k1 ((rd_T108 x4_1 1).f1.f0) ((rd_T108 x4_1 1).f1.f1) ((rd_T108 x4_1 1).f1.f2) t126 t127 t128).bind fun bt146 => (some (t129 == bt146.1 && (t130 == bt146.2.1 && (t131 == bt146.2.2)))))) else (none))) = some r := H
         have A23 := Aside0.mk A230
         clear A230
         replace H := Option.bind_eq_some_iff.mp H
         obtain ⟨t140, A240, H⟩ := H
         replace H : (if t140 = true then ((bound_Exact_api_Arc.f k1 ((rd_T108 x4_1 1).f0)).bind fun bt143 => ((bound_Add_api_Arc.f k1 ((rd_T108 x4_1 1).f1.f0) ((rd_T108 x4_1 1).f1.f1) ((rd_T108 x4_1 1).f1.f2) t126 t127 t128).bind fun bt146 => (some (t129 == bt146.1 && (t130 == bt146.2.1 && (t131 == bt146.2.2)))))) else (none)) = some r := H
         have A24 := Aside0.mk A240
         clear A240
         by_cases c25 : t140 = true
         · subst c25
           have H1 : ((bound_Exact_api_Arc.f k1 ((rd_T108 x4_1 1).f0)).bind fun bt143 => ((bound_Add_api_Arc.f k1 ((rd_T108 x4_1 1).f1.f0) ((rd_T108 x4_1 1).f1.f1) ((rd_T108 x4_1 1).f1.f2) t126 t127 t128).bind fun bt146 => (some (t129 == bt146.1 && (t130 == bt146.2.1 && (t131 == bt146.2.2)))))) = some r := by rw [if_pos rfl] at H; exact H
           clear H
           have H := H1
           clear H1
           replace H := Option.bind_eq_some_iff.mp H
           obtain ⟨⟨t143, t144, t145⟩, A260, H⟩ := H
           replace H : ((bound_Add_api_Arc.f k1 ((rd_T108 x4_1 1).f1.f0) ((rd_T108 x4_1 1).f1.f1) ((rd_T108 x4_1 1).f1.f2) t126 t127 t128).bind fun bt146 => (some (t129 == bt146.1 && (t130 == bt146.2.1 && (t131 == bt146.2.2))))) = some r := H
           have E_ := Option.some.inj (A18.out.symm.trans A260)
           simp only [Prod.mk.injEq] at E_
           obtain ⟨E0_, E1_, E2_⟩ := E_
           subst E0_
           subst E1_
           subst E2_
           have A26 := Aside0.mk A260
           clear A260
           replace H := Option.bind_eq_some_iff.mp H
           obtain ⟨⟨t146, t147, t148⟩, A270, H⟩ := H
           replace H : (some (t129 == t146 && (t130 == t147 && (t131 == t148)))) = some r := H
           have A27 := Aside0.mk A270
           clear A270
           obtain rfl := Option.some.inj H
           try go_wp2_with (first | ((with_reducible refine gate_callee (f := 23) rfl ?_); refine goesL_ (some 32) rfl rfl Try.func23 (by kernel_rfl) rfl #[.pointer (some ⟨gb101, 0, none⟩), .int .i64 (-1000), .int .i64 1500] rfl (by (try simp only [List.map_toArray, List.map_cons, List.map_nil]); first | done | rfl | (simp only [List.length_drop, List.length_take]; rfl)) ?_; (with_reducible refine (spymake_Stream_Range.calls gb101 l0 x102001_1 (-1000) 1500 t115 t116 w _ ?side1 ?side2 A14.out).mono ?_); (case side1 => repeat (first | (with_reducible first | exact HI101.out | apply IsS25.alloc | apply IsS25.drewN | apply IsS25.drew | apply IsS25.set_1) | exact HI101.out)); (case side2 => repeat (first | (with_reducible first | exact HB.out | apply below_alloc | apply pw_below_drewN | apply below_drew1 | refine below_set ?_ (IsS25.ge HI101.out)) | exact HB.out)); rintro e w28 ⟨rfl, hi, hb, hk⟩; refine ⟨_, rfl, ?_⟩; have n0_ := Aside0.mk (Kd.R_mono (Kd.R_keep (IsS25.apart (show IsS25 w _ gb101 l0 x102001_1 from by repeat (first | (with_reducible first | exact HI101.out | apply IsS25.alloc | apply IsS25.drewN | apply IsS25.drew | apply IsS25.set_1) | exact HI101.out)) (by (with_reducible repeat (first | apply Kd.R_alloc | apply Kd.R_drewN | apply Kd.R_drew)); exact HO_4.out) (by decide)) hk (fun _ h => h.2)) (fun _ h => h.1)); have n1_ := Aside0.mk (hb); have n2_ := Aside0.mk (hi); clear HO_4; clear HB; clear HI101; have HO_4 := n0_; have HB := n1_; have HI101 := n2_; clear n0_ n1_ n2_; (try clear hb); (try clear hb2); (try clear hk); (try clear hi)) | ((with_reducible refine gate_callee (f := 15) rfl ?_); refine goesL_ (some 36) rfl rfl Try.func15 (by kernel_rfl) rfl #[.pointer (some ⟨gb101, 0, none⟩), .int .i64 500] rfl (by (try simp only [List.map_toArray, List.map_cons, List.map_nil]); first | done | rfl | (simp only [List.length_drop, List.length_take]; rfl)) ?_; (with_reducible refine (spymake_Stream_Next.calls gb101 l0 t116 500 t117 t118 w _ ?side1 ?side2 A15.out).mono ?_); (case side1 => repeat (first | (with_reducible first | exact HI101.out | apply IsS25.alloc | apply IsS25.drewN | apply IsS25.drew | apply IsS25.set_1) | exact HI101.out)); (case side2 => repeat (first | (with_reducible first | exact HB.out | apply below_alloc | apply pw_below_drewN | apply below_drew1 | refine below_set ?_ (IsS25.ge HI101.out)) | exact HB.out)); rintro e w29 ⟨rfl, hi, hb, hk⟩; refine ⟨_, rfl, ?_⟩; have n0_ := Aside0.mk (Kd.R_mono (Kd.R_keep (IsS25.apart (show IsS25 w _ gb101 l0 t116 from by repeat (first | (with_reducible first | exact HI101.out | apply IsS25.alloc | apply IsS25.drewN | apply IsS25.drew | apply IsS25.set_1) | exact HI101.out)) (by (with_reducible repeat (first | apply Kd.R_alloc | apply Kd.R_drewN | apply Kd.R_drew)); exact HO_4.out) (by decide)) hk (fun _ h => h.2)) (fun _ h => h.1)); have n1_ := Aside0.mk (hb); have n2_ := Aside0.mk (hi); clear HO_4; clear HB; clear HI101; have HO_4 := n0_; have HB := n1_; have HI101 := n2_; clear n0_ n1_ n2_; (try clear hb); (try clear hb2); (try clear hk); (try clear hi)) | ((with_reducible refine gate_dst (N := 7) rfl ?_); refine box_event ?hg (N := 7) ?hd (cs := #[.int .i64 0, .int .i64 0, .bool false]) (t := 96) ?hr ?_; (case hd => rfl); (case hg => rfl); (case hr => first | (go_simp; done) | (go_simp; rfl)); intro gb119 hg w30 hbox hb; have n0_ := Aside0.mk (Kd.R_below (by (with_reducible repeat (first | apply Kd.R_alloc | apply Kd.R_drewN | apply Kd.R_drew)); exact HO_4.out) hb); have n1_ := Aside0.mk (IsS25.below (by repeat (first | (with_reducible first | exact HI101.out | apply IsS25.alloc | apply IsS25.drewN | apply IsS25.drew | apply IsS25.set_1) | exact HI101.out)) hb); have n2_ := Aside0.mk (below_step (by repeat (first | (with_reducible first | exact HB.out | apply below_alloc | apply pw_below_drewN | apply below_drew1 | refine below_set ?_ (IsS25.ge HI101.out)) | exact HB.out)) hb); have n3_ := Aside0.mk (hbox); have n4_ := Aside0.mk ((by rw [hg]; exact (below_size (by repeat (first | (with_reducible first | exact HB.out | apply below_alloc | apply pw_below_drewN | apply below_drew1 | refine below_set ?_ (IsS25.ge HI101.out)) | exact HB.out))) : w.heap.size ≤ gb119)); have n5_ := Aside0.mk ((by rw [hg]; exact (below_size (by repeat (first | (with_reducible first | exact HB.out | apply below_alloc | apply pw_below_drewN | apply below_drew1 | refine below_set ?_ (IsS25.ge HI101.out)) | exact HB.out))) : w.heap.size ≤ gb119)); have n6_ := Aside0.mk ((by rw [hg]; exact Nat.ne_of_lt (IsS25.lt (show IsS25 w _ gb101 l0 t118 from by repeat (first | (with_reducible first | exact HI101.out | apply IsS25.alloc | apply IsS25.drewN | apply IsS25.drew | apply IsS25.set_1) | exact HI101.out))) : gb101 ≠ gb119)); have n7_ := Aside0.mk ((by rw [hg]; exact Nat.ne_of_gt (IsS25.lt (show IsS25 w _ gb101 l0 t118 from by repeat (first | (with_reducible first | exact HI101.out | apply IsS25.alloc | apply IsS25.drewN | apply IsS25.drew | apply IsS25.set_1) | exact HI101.out))) : gb119 ≠ gb101)); clear HO_4; clear HI101; clear HB; have HO_4 := n0_; have HI101 := n1_; have HB := n2_; have BK119 := n3_; have GW119 := n4_; have GE119 := n5_; have NB101_119 := n6_; have NB119_101 := n7_; clear n0_ n1_ n2_ n3_ n4_ n5_ n6_ n7_; clear hb hbox hg; have hnb31 := NB119_101.out; have hnc31 := NB101_119.out; have hcz32_0 : w30.cell? ⟨gb119, 0, none⟩ = some (.int .i64 0) := (blk_cell BK119.out 0).trans rfl; have hcz32_1 : w30.cell? ⟨gb119, 1, none⟩ = some (.int .i64 0) := (blk_cell BK119.out 1).trans rfl; have hcz32_2 : w30.cell? ⟨gb119, 2, none⟩ = some (.bool false) := (blk_cell BK119.out 2).trans rfl; have hfz32_0 := blk_frozen BK119.out 0; have hfz32_1 := blk_frozen BK119.out 1; have hfz32_2 := blk_frozen BK119.out 2) | ((with_reducible refine gate_callee (f := 76) rfl ?_); refine goesL_ (some 41) rfl rfl Try.func76 (by kernel_rfl) rfl #[.pointer (some ⟨gb101, 0, none⟩), .agg #[.int .i64 t115, .int .i64 (wrap64 (t115 + t117)), .bool false]] rfl (by (try simp only [List.map_toArray, List.map_cons, List.map_nil]); first | done | rfl | (simp only [List.length_drop, List.length_take]; rfl)) ?_; (with_reducible refine (spymake_Within_api_Arc.calls gb101 l0 t118 t115 (wrap64 (t115 + t117)) false t120 t121 t122 t123 w _ ?side1 ?side2 A16.out).mono ?_); (case side1 => repeat (first | (with_reducible first | exact HI101.out | apply IsS25.alloc | apply IsS25.drewN | apply IsS25.drew | apply IsS25.set_1 | refine IsS25.far ?_ NB101_119.out _) | exact HI101.out)); (case side2 => repeat (first | (with_reducible first | exact HB.out | apply below_alloc | apply pw_below_drewN | apply below_drew1 | refine below_set ?_ (IsS25.ge HI101.out) | refine below_set ?_ GE119.out) | exact HB.out)); rintro e w33 ⟨rfl, hi, hb, hk⟩; refine ⟨_, rfl, ?_⟩; have n0_ := Aside0.mk (Kd.R_mono (Kd.R_keep (IsS25.apart (show IsS25 w _ gb101 l0 t118 from by repeat (first | (with_reducible first | exact HI101.out | apply IsS25.alloc | apply IsS25.drewN | apply IsS25.drew | apply IsS25.set_1 | refine IsS25.far ?_ NB101_119.out _) | exact HI101.out)) (by (with_reducible repeat (first | apply Kd.R_alloc | apply Kd.R_drewN | apply Kd.R_drew)); exact (Kd.R_mono (Kd.R_far (p := ⟨gb119, 2, none⟩) (Kd.R_far (p := ⟨gb119, 1, none⟩) (Kd.R_far (p := ⟨gb119, 0, none⟩) (Kd.R_types HO_4.out BK119.out (by decide)) (fun _ hk => hk.2) (.int .i64 t115)) (fun _ hk => hk.2) (.int .i64 (wrap64 (t115 + t117)))) (fun _ hk => hk.2) (.bool false)) (fun _ h_ => h_.1))) (by decide)) hk (fun _ h => h.2)) (fun _ h => h.1)); have n1_ := Aside0.mk (KeepBut.blk hk (g' := gb119) (o := .cells #[.int .i64 t115, .int .i64 (wrap64 (t115 + t117)), .bool false] 96 (0, 0)) (by (with_reducible repeat (first | refine blk_drewN ?_ _ | refine blk_drew ?_ | refine blk_alloc ?_ _)); refine blk_put (cs := #[.int .i64 t115, .int .i64 (wrap64 (t115 + t117)), .bool false]) ?_ 2 _ rfl; (with_reducible repeat (first | refine blk_drewN ?_ _ | refine blk_drew ?_ | refine blk_alloc ?_ _)); refine blk_put (cs := #[.int .i64 t115, .int .i64 0, .bool false]) ?_ 1 _ rfl; (with_reducible repeat (first | refine blk_drewN ?_ _ | refine blk_drew ?_ | refine blk_alloc ?_ _)); refine blk_put (cs := #[.int .i64 0, .int .i64 0, .bool false]) ?_ 0 _ rfl; (with_reducible repeat (first | refine blk_drewN ?_ _ | refine blk_drew ?_ | refine blk_alloc ?_ _)); exact BK119.out) NB119_101.out (by simp)); have n2_ := Aside0.mk (hb); have n3_ := Aside0.mk (hi); clear HO_4; clear BK119; clear HB; clear HI101; have HO_4 := n0_; have BK119 := n1_; have HB := n2_; have HI101 := n3_; clear n0_ n1_ n2_ n3_; (try clear hb); (try clear hb2); (try clear hk); (try clear hi)) | ((with_reducible refine gate_dst (N := 8) rfl ?_); refine box_event ?hg (N := 8) ?hd (cs := #[.int .i64 0, .int .i64 0, .bool false]) (t := 96) ?hr ?_; (case hd => rfl); (case hg => rfl); (case hr => first | (go_simp; done) | (go_simp; rfl)); intro gb124 hg w34 hbox hb; have n0_ := Aside0.mk (Kd.R_below (by (with_reducible repeat (first | apply Kd.R_alloc | apply Kd.R_drewN | apply Kd.R_drew)); exact HO_4.out) hb); have n1_ := Aside0.mk (IsS25.below (by repeat (first | (with_reducible first | exact HI101.out | apply IsS25.alloc | apply IsS25.drewN | apply IsS25.drew | apply IsS25.set_1 | refine IsS25.far ?_ NB101_119.out _) | exact HI101.out)) hb); have n2_ := Aside0.mk (blk_below (g := gb119) (o := .cells #[.int .i64 t115, .int .i64 (wrap64 (t115 + t117)), .bool false] 96 (0, 0)) (by (with_reducible repeat (first | refine blk_drewN ?_ _ | refine blk_drew ?_ | refine blk_alloc ?_ _)); exact BK119.out) hb); have n3_ := Aside0.mk (below_step (by repeat (first | (with_reducible first | exact HB.out | apply below_alloc | apply pw_below_drewN | apply below_drew1 | refine below_set ?_ (IsS25.ge HI101.out) | refine below_set ?_ GE119.out) | exact HB.out)) hb); have n4_ := Aside0.mk (hbox); have n5_ := Aside0.mk ((by rw [hg]; exact (below_size (by repeat (first | (with_reducible first | exact HB.out | apply below_alloc | apply pw_below_drewN | apply below_drew1 | refine below_set ?_ (IsS25.ge HI101.out) | refine below_set ?_ GE119.out) | exact HB.out))) : w.heap.size ≤ gb124)); have n6_ := Aside0.mk ((by rw [hg]; exact (below_size (by repeat (first | (with_reducible first | exact HB.out | apply below_alloc | apply pw_below_drewN | apply below_drew1 | refine below_set ?_ (IsS25.ge HI101.out) | refine below_set ?_ GE119.out) | exact HB.out))) : w.heap.size ≤ gb124)); have n7_ := Aside0.mk ((by rw [hg]; exact Nat.ne_of_lt (blk_lt (g := gb119) (o := .cells #[.int .i64 t115, .int .i64 (wrap64 (t115 + t117)), .bool false] 96 (0, 0)) (by (with_reducible repeat (first | refine blk_drewN ?_ _ | refine blk_drew ?_ | refine blk_alloc ?_ _)); exact BK119.out)) : gb119 ≠ gb124)); have n8_ := Aside0.mk ((by rw [hg]; exact Nat.ne_of_gt (blk_lt (g := gb119) (o := .cells #[.int .i64 t115, .int .i64 (wrap64 (t115 + t117)), .bool false] 96 (0, 0)) (by (with_reducible repeat (first | refine blk_drewN ?_ _ | refine blk_drew ?_ | refine blk_alloc ?_ _)); exact BK119.out)) : gb124 ≠ gb119)); have n9_ := Aside0.mk ((by rw [hg]; exact Nat.ne_of_lt (IsS25.lt (show IsS25 w _ gb101 l0 t123 from by repeat (first | (with_reducible first | exact HI101.out | apply IsS25.alloc | apply IsS25.drewN | apply IsS25.drew | apply IsS25.set_1 | refine IsS25.far ?_ NB101_119.out _) | exact HI101.out))) : gb101 ≠ gb124)); have n10_ := Aside0.mk ((by rw [hg]; exact Nat.ne_of_gt (IsS25.lt (show IsS25 w _ gb101 l0 t123 from by repeat (first | (with_reducible first | exact HI101.out | apply IsS25.alloc | apply IsS25.drewN | apply IsS25.drew | apply IsS25.set_1 | refine IsS25.far ?_ NB101_119.out _) | exact HI101.out))) : gb124 ≠ gb101)); clear HO_4; clear HI101; clear BK119; clear HB; have HO_4 := n0_; have HI101 := n1_; have BK119 := n2_; have HB := n3_; have BK124 := n4_; have GW124 := n5_; have GE124 := n6_; have NB119_124 := n7_; have NB124_119 := n8_; have NB101_124 := n9_; have NB124_101 := n10_; clear n0_ n1_ n2_ n3_ n4_ n5_ n6_ n7_ n8_ n9_ n10_; clear hb hbox hg; have hnb35 := NB124_119.out; have hnc35 := NB119_124.out; have hnb36 := NB124_101.out; have hnc36 := NB101_124.out; have hcz37_0 : w34.cell? ⟨gb124, 0, none⟩ = some (.int .i64 0) := (blk_cell BK124.out 0).trans rfl; have hcz37_1 : w34.cell? ⟨gb124, 1, none⟩ = some (.int .i64 0) := (blk_cell BK124.out 1).trans rfl; have hcz37_2 : w34.cell? ⟨gb124, 2, none⟩ = some (.bool false) := (blk_cell BK124.out 2).trans rfl; have hfz37_0 := blk_frozen BK124.out 0; have hfz37_1 := blk_frozen BK124.out 1; have hfz37_2 := blk_frozen BK124.out 2; obtain ⟨Ao38, co38, eo38⟩ := Kd.R_slice HO_4.out; subst eo38; have p125 : 0 ≤ (1 : Int) := (by omega); have q125 : 1 < (x4_1.length : Int) := of_decide_eq_true (by first | (with_reducible assumption) | assumption); obtain ⟨ad125, e125, hx125_0, hx125_1, hx125_2, hx125_3⟩ := at_T108 (Kd.R_reads' HO_4.out).2.2 1 p125 q125; cases e125; (try simp only [show (1 : Int).toNat = 1 from rfl, Nat.reduceMul, Nat.reduceEqDiff, Go.Addr.add, ↓reduceIte] at hx125_0); (try simp only [show (1 : Int).toNat = 1 from rfl, Nat.reduceMul, Nat.reduceEqDiff, Go.Addr.add, ↓reduceIte] at hx125_1); (try simp only [show (1 : Int).toNat = 1 from rfl, Nat.reduceMul, Nat.reduceEqDiff, Go.Addr.add, ↓reduceIte] at hx125_2); (try simp only [show (1 : Int).toNat = 1 from rfl, Nat.reduceMul, Nat.reduceEqDiff, Go.Addr.add, ↓reduceIte] at hx125_3); have qi125 : (1 < x4_1.length) = True := eq_true (by omega); (try rw [show ((1 : Int)).toNat = 1 from rfl] at hx125_0); (try rw [show 1 * 4 = 4 from rfl] at hx125_0); (try rw [show ((1 : Int)).toNat = 1 from rfl] at hx125_1); (try rw [show 1 * 4 = 4 from rfl] at hx125_1); (try rw [show ((1 : Int)).toNat = 1 from rfl] at hx125_2); (try rw [show 1 * 4 = 4 from rfl] at hx125_2); (try rw [show ((1 : Int)).toNat = 1 from rfl] at hx125_3); (try rw [show 1 * 4 = 4 from rfl] at hx125_3); have hn125_0 : ad125.block ≠ gb124 := Kd.own_blk (Kd.R_ne HO_4.out BK124.out (by decide)); have hn125_1 : ad125.block ≠ gb124 := Kd.own_blk (Kd.R_ne HO_4.out BK124.out (by decide)); have hn125_2 : ad125.block ≠ gb124 := Kd.own_blk (Kd.R_ne HO_4.out BK124.out (by decide)); replace hx125_0 := (cell_far (p := ⟨gb124, 0, none⟩) (by first | (rw [add_block]; exact hn125_0) | (show (Addr.add _ _).block ≠ _; rw [add_block]; exact hn125_0) | exact hn125_0) (.int .i64 t120)).trans hx125_0; replace hx125_1 := (cell_far (p := ⟨gb124, 0, none⟩) (by first | (rw [add_block]; exact hn125_0) | (show (Addr.add _ _).block ≠ _; rw [add_block]; exact hn125_0) | exact hn125_0) (.int .i64 t120)).trans hx125_1; replace hx125_2 := (cell_far (p := ⟨gb124, 0, none⟩) (by first | (rw [add_block]; exact hn125_0) | (show (Addr.add _ _).block ≠ _; rw [add_block]; exact hn125_0) | exact hn125_0) (.int .i64 t120)).trans hx125_2; replace hx125_3 := (cell_far (p := ⟨gb124, 0, none⟩) (by first | (rw [add_block]; exact hn125_0) | (show (Addr.add _ _).block ≠ _; rw [add_block]; exact hn125_0) | exact hn125_0) (.int .i64 t120)).trans hx125_3; replace hx125_0 := (cell_far (p := ⟨gb124, 1, none⟩) (by first | (rw [add_block]; exact hn125_1) | (show (Addr.add _ _).block ≠ _; rw [add_block]; exact hn125_1) | exact hn125_1) (.int .i64 t121)).trans hx125_0; replace hx125_1 := (cell_far (p := ⟨gb124, 1, none⟩) (by first | (rw [add_block]; exact hn125_1) | (show (Addr.add _ _).block ≠ _; rw [add_block]; exact hn125_1) | exact hn125_1) (.int .i64 t121)).trans hx125_1; replace hx125_2 := (cell_far (p := ⟨gb124, 1, none⟩) (by first | (rw [add_block]; exact hn125_1) | (show (Addr.add _ _).block ≠ _; rw [add_block]; exact hn125_1) | exact hn125_1) (.int .i64 t121)).trans hx125_2; replace hx125_3 := (cell_far (p := ⟨gb124, 1, none⟩) (by first | (rw [add_block]; exact hn125_1) | (show (Addr.add _ _).block ≠ _; rw [add_block]; exact hn125_1) | exact hn125_1) (.int .i64 t121)).trans hx125_3; replace hx125_0 := (cell_far (p := ⟨gb124, 2, none⟩) (by first | (rw [add_block]; exact hn125_2) | (show (Addr.add _ _).block ≠ _; rw [add_block]; exact hn125_2) | exact hn125_2) (.bool t122)).trans hx125_0; replace hx125_1 := (cell_far (p := ⟨gb124, 2, none⟩) (by first | (rw [add_block]; exact hn125_2) | (show (Addr.add _ _).block ≠ _; rw [add_block]; exact hn125_2) | exact hn125_2) (.bool t122)).trans hx125_1; replace hx125_2 := (cell_far (p := ⟨gb124, 2, none⟩) (by first | (rw [add_block]; exact hn125_2) | (show (Addr.add _ _).block ≠ _; rw [add_block]; exact hn125_2) | exact hn125_2) (.bool t122)).trans hx125_2; replace hx125_3 := (cell_far (p := ⟨gb124, 2, none⟩) (by first | (rw [add_block]; exact hn125_2) | (show (Addr.add _ _).block ≠ _; rw [add_block]; exact hn125_2) | exact hn125_2) (.bool t122)).trans hx125_3; clear hn125_0; clear hn125_1; clear hn125_2; replace p125 := eq_true p125; replace q125 := eq_true q125) | ((with_reducible refine gate_callee (f := 78) rfl ?_); refine goesL_ (some 47) rfl rfl Try.func78 (by kernel_rfl) rfl #[.int .i64 ((rd_T108 x4_1 1).f0)] rfl (by (try simp only [List.map_toArray, List.map_cons, List.map_nil]); first | done | rfl | (simp only [List.length_drop, List.length_take]; rfl)) ?_; (with_reducible refine (bound_Exact_api_Arc.calls k1 ((rd_T108 x4_1 1).f0) t126 t127 t128 _ A18.out).mono ?_); rintro e w39 ⟨rfl, hb⟩; refine ⟨_, rfl, ?_⟩; have n0_ := Aside0.mk (Kd.R_below (by (with_reducible repeat (first | apply Kd.R_alloc | apply Kd.R_drewN | apply Kd.R_drew)); exact (Kd.R_mono (Kd.R_far (p := ⟨gb124, 2, none⟩) (Kd.R_far (p := ⟨gb124, 1, none⟩) (Kd.R_far (p := ⟨gb124, 0, none⟩) (Kd.R_types HO_4.out BK124.out (by decide)) (fun _ hk => hk.2) (.int .i64 t120)) (fun _ hk => hk.2) (.int .i64 t121)) (fun _ hk => hk.2) (.bool t122)) (fun _ h_ => h_.1))) hb); have n1_ := Aside0.mk (IsS25.below (show IsS25 w (((w34.setCell ⟨gb124, 0, none⟩ (.int .i64 t120)).setCell ⟨gb124, 1, none⟩ (.int .i64 t121)).setCell ⟨gb124, 2, none⟩ (.bool t122)) gb101 l0 t123 from by repeat (first | (with_reducible first | exact HI101.out | apply IsS25.alloc | apply IsS25.drewN | apply IsS25.drew | apply IsS25.set_1 | refine IsS25.far ?_ NB101_119.out _ | refine IsS25.far ?_ NB101_124.out _) | exact HI101.out)) hb); have n2_ := Aside0.mk (blk_below (g := gb119) (o := .cells #[.int .i64 t115, .int .i64 (wrap64 (t115 + t117)), .bool false] 96 (0, 0)) (by (with_reducible repeat (first | refine blk_drewN ?_ _ | refine blk_drew ?_ | refine blk_alloc ?_ _)); refine blk_far ?_ NB119_124.out _; (with_reducible repeat (first | refine blk_drewN ?_ _ | refine blk_drew ?_ | refine blk_alloc ?_ _)); refine blk_far ?_ NB119_124.out _; (with_reducible repeat (first | refine blk_drewN ?_ _ | refine blk_drew ?_ | refine blk_alloc ?_ _)); refine blk_far ?_ NB119_124.out _; (with_reducible repeat (first | refine blk_drewN ?_ _ | refine blk_drew ?_ | refine blk_alloc ?_ _)); exact BK119.out) hb); have n3_ := Aside0.mk (blk_below (g := gb124) (o := .cells #[.int .i64 t120, .int .i64 t121, .bool t122] 96 (0, 0)) (by (with_reducible repeat (first | refine blk_drewN ?_ _ | refine blk_drew ?_ | refine blk_alloc ?_ _)); refine blk_put (cs := #[.int .i64 t120, .int .i64 t121, .bool false]) ?_ 2 _ rfl; (with_reducible repeat (first | refine blk_drewN ?_ _ | refine blk_drew ?_ | refine blk_alloc ?_ _)); refine blk_put (cs := #[.int .i64 t120, .int .i64 0, .bool false]) ?_ 1 _ rfl; (with_reducible repeat (first | refine blk_drewN ?_ _ | refine blk_drew ?_ | refine blk_alloc ?_ _)); refine blk_put (cs := #[.int .i64 0, .int .i64 0, .bool false]) ?_ 0 _ rfl; (with_reducible repeat (first | refine blk_drewN ?_ _ | refine blk_drew ?_ | refine blk_alloc ?_ _)); exact BK124.out) hb); have n4_ := Aside0.mk (below_step (by repeat (first | (with_reducible first | exact HB.out | apply below_alloc | apply pw_below_drewN | apply below_drew1 | refine below_set ?_ (IsS25.ge HI101.out) | refine below_set ?_ GE119.out | refine below_set ?_ GE124.out) | exact HB.out)) hb); clear HO_4; clear HI101; clear BK119; clear BK124; clear HB; have HO_4 := n0_; have HI101 := n1_; have BK119 := n2_; have BK124 := n3_; have HB := n4_; clear n0_ n1_ n2_ n3_ n4_; (try clear hb); (try clear hb2); (try clear hk); (try clear hi)) | ((with_reducible refine gate_callee (f := 77) rfl ?_); refine goesL_ (some 48) rfl rfl Try.func77 (by kernel_rfl) rfl #[.slice (some ad125) x4_1.length co38, .agg #[.int .i64 t126, .int .i64 t127, .bool t128]] rfl (by (try simp only [List.map_toArray, List.map_cons, List.map_nil]); first | done | rfl | (simp only [List.length_drop, List.length_take]; rfl)) ?_; (with_reducible refine (horizon_Refract.calls k1 _ _ x4_1 t126 t127 t128 t129 t130 t131 _ ?side1 ?side2 A19.out).mono ?_); (case side1 => repeat (first | exact (Kd.R_reads' HO_4.out).2.2 | (with_reducible refine Kd.C_alloc ?_ _) | (with_reducible refine Kd.C_drewN ?_ _) | (with_reducible refine Kd.C_drew ?_))); (case side2 => exact (Kd.R_reads' HO_4.out).2.1); rintro e w40 ⟨rfl, hb⟩; refine ⟨_, rfl, ?_⟩; have n0_ := Aside0.mk (Kd.R_below (by (with_reducible repeat (first | apply Kd.R_alloc | apply Kd.R_drewN | apply Kd.R_drew)); exact HO_4.out) hb); have n1_ := Aside0.mk (IsS25.below (by repeat (first | (with_reducible first | exact HI101.out | apply IsS25.alloc | apply IsS25.drewN | apply IsS25.drew | apply IsS25.set_1 | refine IsS25.far ?_ NB101_119.out _ | refine IsS25.far ?_ NB101_124.out _) | exact HI101.out)) hb); have n2_ := Aside0.mk (blk_below (g := gb119) (o := .cells #[.int .i64 t115, .int .i64 (wrap64 (t115 + t117)), .bool false] 96 (0, 0)) (by (with_reducible repeat (first | refine blk_drewN ?_ _ | refine blk_drew ?_ | refine blk_alloc ?_ _)); exact BK119.out) hb); have n3_ := Aside0.mk (blk_below (g := gb124) (o := .cells #[.int .i64 t120, .int .i64 t121, .bool t122] 96 (0, 0)) (by (with_reducible repeat (first | refine blk_drewN ?_ _ | refine blk_drew ?_ | refine blk_alloc ?_ _)); exact BK124.out) hb); have n4_ := Aside0.mk (below_step (by repeat (first | (with_reducible first | exact HB.out | apply below_alloc | apply pw_below_drewN | apply below_drew1 | refine below_set ?_ (IsS25.ge HI101.out) | refine below_set ?_ GE119.out | refine below_set ?_ GE124.out) | exact HB.out)) hb); clear HO_4; clear HI101; clear BK119; clear BK124; clear HB; have HO_4 := n0_; have HI101 := n1_; have BK119 := n2_; have BK124 := n3_; have HB := n4_; clear n0_ n1_ n2_ n3_ n4_; (try clear hb); (try clear hb2); (try clear hk); (try clear hi)) | ((with_reducible refine gate_dst (N := 9) rfl ?_); refine box_event ?hg (N := 9) ?hd (cs := #[.int .i64 0, .int .i64 0, .bool false]) (t := 96) ?hr ?_; (case hd => rfl); (case hg => rfl); (case hr => first | (go_simp; done) | (go_simp; rfl)); intro gb132 hg w41 hbox hb; have n0_ := Aside0.mk (Kd.R_below (by (with_reducible repeat (first | apply Kd.R_alloc | apply Kd.R_drewN | apply Kd.R_drew)); exact HO_4.out) hb); have n1_ := Aside0.mk (IsS25.below (by repeat (first | (with_reducible first | exact HI101.out | apply IsS25.alloc | apply IsS25.drewN | apply IsS25.drew | apply IsS25.set_1 | refine IsS25.far ?_ NB101_119.out _ | refine IsS25.far ?_ NB101_124.out _) | exact HI101.out)) hb); have n2_ := Aside0.mk (blk_below (g := gb119) (o := .cells #[.int .i64 t115, .int .i64 (wrap64 (t115 + t117)), .bool false] 96 (0, 0)) (by (with_reducible repeat (first | refine blk_drewN ?_ _ | refine blk_drew ?_ | refine blk_alloc ?_ _)); exact BK119.out) hb); have n3_ := Aside0.mk (blk_below (g := gb124) (o := .cells #[.int .i64 t120, .int .i64 t121, .bool t122] 96 (0, 0)) (by (with_reducible repeat (first | refine blk_drewN ?_ _ | refine blk_drew ?_ | refine blk_alloc ?_ _)); exact BK124.out) hb); have n4_ := Aside0.mk (below_step (by repeat (first | (with_reducible first | exact HB.out | apply below_alloc | apply pw_below_drewN | apply below_drew1 | refine below_set ?_ (IsS25.ge HI101.out) | refine below_set ?_ GE119.out | refine below_set ?_ GE124.out) | exact HB.out)) hb); have n5_ := Aside0.mk (hbox); have n6_ := Aside0.mk ((by rw [hg]; exact (below_size (by repeat (first | (with_reducible first | exact HB.out | apply below_alloc | apply pw_below_drewN | apply below_drew1 | refine below_set ?_ (IsS25.ge HI101.out) | refine below_set ?_ GE119.out | refine below_set ?_ GE124.out) | exact HB.out))) : w.heap.size ≤ gb132)); have n7_ := Aside0.mk ((by rw [hg]; exact (below_size (by repeat (first | (with_reducible first | exact HB.out | apply below_alloc | apply pw_below_drewN | apply below_drew1 | refine below_set ?_ (IsS25.ge HI101.out) | refine below_set ?_ GE119.out | refine below_set ?_ GE124.out) | exact HB.out))) : w.heap.size ≤ gb132)); have n8_ := Aside0.mk ((by rw [hg]; exact Nat.ne_of_lt (blk_lt (g := gb119) (o := .cells #[.int .i64 t115, .int .i64 (wrap64 (t115 + t117)), .bool false] 96 (0, 0)) (by (with_reducible repeat (first | refine blk_drewN ?_ _ | refine blk_drew ?_ | refine blk_alloc ?_ _)); exact BK119.out)) : gb119 ≠ gb132)); have n9_ := Aside0.mk ((by rw [hg]; exact Nat.ne_of_gt (blk_lt (g := gb119) (o := .cells #[.int .i64 t115, .int .i64 (wrap64 (t115 + t117)), .bool false] 96 (0, 0)) (by (with_reducible repeat (first | refine blk_drewN ?_ _ | refine blk_drew ?_ | refine blk_alloc ?_ _)); exact BK119.out)) : gb132 ≠ gb119)); have n10_ := Aside0.mk ((by rw [hg]; exact Nat.ne_of_lt (blk_lt (g := gb124) (o := .cells #[.int .i64 t120, .int .i64 t121, .bool t122] 96 (0, 0)) (by (with_reducible repeat (first | refine blk_drewN ?_ _ | refine blk_drew ?_ | refine blk_alloc ?_ _)); exact BK124.out)) : gb124 ≠ gb132)); have n11_ := Aside0.mk ((by rw [hg]; exact Nat.ne_of_gt (blk_lt (g := gb124) (o := .cells #[.int .i64 t120, .int .i64 t121, .bool t122] 96 (0, 0)) (by (with_reducible repeat (first | refine blk_drewN ?_ _ | refine blk_drew ?_ | refine blk_alloc ?_ _)); exact BK124.out)) : gb132 ≠ gb124)); have n12_ := Aside0.mk ((by rw [hg]; exact Nat.ne_of_lt (IsS25.lt (show IsS25 w _ gb101 l0 t123 from by repeat (first | (with_reducible first | exact HI101.out | apply IsS25.alloc | apply IsS25.drewN | apply IsS25.drew | apply IsS25.set_1 | refine IsS25.far ?_ NB101_119.out _ | refine IsS25.far ?_ NB101_124.out _) | exact HI101.out))) : gb101 ≠ gb132)); have n13_ := Aside0.mk ((by rw [hg]; exact Nat.ne_of_gt (IsS25.lt (show IsS25 w _ gb101 l0 t123 from by repeat (first | (with_reducible first | exact HI101.out | apply IsS25.alloc | apply IsS25.drewN | apply IsS25.drew | apply IsS25.set_1 | refine IsS25.far ?_ NB101_119.out _ | refine IsS25.far ?_ NB101_124.out _) | exact HI101.out))) : gb132 ≠ gb101)); clear HO_4; clear HI101; clear BK119; clear BK124; clear HB; have HO_4 := n0_; have HI101 := n1_; have BK119 := n2_; have BK124 := n3_; have HB := n4_; have BK132 := n5_; have GW132 := n6_; have GE132 := n7_; have NB119_132 := n8_; have NB132_119 := n9_; have NB124_132 := n10_; have NB132_124 := n11_; have NB101_132 := n12_; have NB132_101 := n13_; clear n0_ n1_ n2_ n3_ n4_ n5_ n6_ n7_ n8_ n9_ n10_ n11_ n12_ n13_; clear hb hbox hg; have hnb42 := NB132_119.out; have hnc42 := NB119_132.out; have hnb43 := NB132_124.out; have hnc43 := NB124_132.out; have hnb44 := NB132_101.out; have hnc44 := NB101_132.out; have hcz45_0 : w41.cell? ⟨gb132, 0, none⟩ = some (.int .i64 0) := (blk_cell BK132.out 0).trans rfl; have hcz45_1 : w41.cell? ⟨gb132, 1, none⟩ = some (.int .i64 0) := (blk_cell BK132.out 1).trans rfl; have hcz45_2 : w41.cell? ⟨gb132, 2, none⟩ = some (.bool false) := (blk_cell BK132.out 2).trans rfl; have hfz45_0 := blk_frozen BK132.out 0; have hfz45_1 := blk_frozen BK132.out 1; have hfz45_2 := blk_frozen BK132.out 2))
           have n0_ : Aside0 (Kd.R k108 108 (((w41.setCell ⟨gb132, 0, none⟩ (.int .i64 t129)).setCell ⟨gb132, 1, none⟩ (.int .i64 t130)).setCell ⟨gb132, 2, none⟩ (.bool t131)) w.heap.size (fun _ => True) (.slice (some ad125) x4_1.length co38) x4_1) := ⟨by (with_reducible repeat (first | apply Kd.R_alloc | apply Kd.R_drewN | apply Kd.R_drew)); exact Kd.R_mono (Kd.R_far (p := ⟨gb132, 2, none⟩) (Kd.R_far (p := ⟨gb132, 1, none⟩) (Kd.R_far (p := ⟨gb132, 0, none⟩) (Kd.R_types HO_4.out BK132.out (by decide)) (fun _ hk => hk.2) (.int .i64 t129)) (fun _ hk => hk.2) (.int .i64 t130)) (fun _ hk => hk.2) (.bool t131)) (fun _ hk => trivial)⟩
           have n1_ : Aside0 ((((w41.setCell ⟨gb132, 0, none⟩ (.int .i64 t129)).setCell ⟨gb132, 1, none⟩ (.int .i64 t130)).setCell ⟨gb132, 2, none⟩ (.bool t131)).heap[gb119]? = some (.cells #[.int .i64 t115, .int .i64 (wrap64 (t115 + t117)), .bool false] 96 (0, 0))) := ⟨by (with_reducible repeat (first | refine blk_drewN ?_ _ | refine blk_drew ?_ | refine blk_alloc ?_ _)); refine blk_far ?_ NB119_132.out _; (with_reducible repeat (first | refine blk_drewN ?_ _ | refine blk_drew ?_ | refine blk_alloc ?_ _)); refine blk_far ?_ NB119_132.out _; (with_reducible repeat (first | refine blk_drewN ?_ _ | refine blk_drew ?_ | refine blk_alloc ?_ _)); refine blk_far ?_ NB119_132.out _; (with_reducible repeat (first | refine blk_drewN ?_ _ | refine blk_drew ?_ | refine blk_alloc ?_ _)); exact BK119.out⟩
           have n2_ : Aside0 ((((w41.setCell ⟨gb132, 0, none⟩ (.int .i64 t129)).setCell ⟨gb132, 1, none⟩ (.int .i64 t130)).setCell ⟨gb132, 2, none⟩ (.bool t131)).heap[gb124]? = some (.cells #[.int .i64 t120, .int .i64 t121, .bool t122] 96 (0, 0))) := ⟨by (with_reducible repeat (first | refine blk_drewN ?_ _ | refine blk_drew ?_ | refine blk_alloc ?_ _)); refine blk_far ?_ NB124_132.out _; (with_reducible repeat (first | refine blk_drewN ?_ _ | refine blk_drew ?_ | refine blk_alloc ?_ _)); refine blk_far ?_ NB124_132.out _; (with_reducible repeat (first | refine blk_drewN ?_ _ | refine blk_drew ?_ | refine blk_alloc ?_ _)); refine blk_far ?_ NB124_132.out _; (with_reducible repeat (first | refine blk_drewN ?_ _ | refine blk_drew ?_ | refine blk_alloc ?_ _)); exact BK124.out⟩
           have n3_ : Aside0 ((((w41.setCell ⟨gb132, 0, none⟩ (.int .i64 t129)).setCell ⟨gb132, 1, none⟩ (.int .i64 t130)).setCell ⟨gb132, 2, none⟩ (.bool t131)).heap[gb132]? = some (.cells #[.int .i64 t129, .int .i64 t130, .bool t131] 96 (0, 0))) := ⟨by (with_reducible repeat (first | refine blk_drewN ?_ _ | refine blk_drew ?_ | refine blk_alloc ?_ _)); refine blk_put (cs := #[.int .i64 t129, .int .i64 t130, .bool false]) ?_ 2 _ rfl; (with_reducible repeat (first | refine blk_drewN ?_ _ | refine blk_drew ?_ | refine blk_alloc ?_ _)); refine blk_put (cs := #[.int .i64 t129, .int .i64 0, .bool false]) ?_ 1 _ rfl; (with_reducible repeat (first | refine blk_drewN ?_ _ | refine blk_drew ?_ | refine blk_alloc ?_ _)); refine blk_put (cs := #[.int .i64 0, .int .i64 0, .bool false]) ?_ 0 _ rfl; (with_reducible repeat (first | refine blk_drewN ?_ _ | refine blk_drew ?_ | refine blk_alloc ?_ _)); exact BK132.out⟩
           have n4_ : Aside0 (IsS25 w (((w41.setCell ⟨gb132, 0, none⟩ (.int .i64 t129)).setCell ⟨gb132, 1, none⟩ (.int .i64 t130)).setCell ⟨gb132, 2, none⟩ (.bool t131)) gb101 l0 t123) := ⟨by repeat (first | (with_reducible first | exact HI101.out | apply IsS25.alloc | apply IsS25.drewN | apply IsS25.drew | apply IsS25.set_1 | refine IsS25.far ?_ NB101_119.out _ | refine IsS25.far ?_ NB101_124.out _ | refine IsS25.far ?_ NB101_132.out _) | exact HI101.out)⟩
           have n5_ : Aside0 (Below w.heap.size w (((w41.setCell ⟨gb132, 0, none⟩ (.int .i64 t129)).setCell ⟨gb132, 1, none⟩ (.int .i64 t130)).setCell ⟨gb132, 2, none⟩ (.bool t131))) := ⟨by repeat (first | (with_reducible first | exact HB.out | apply below_alloc | apply pw_below_drewN | apply below_drew1 | refine below_set ?_ (IsS25.ge HI101.out) | refine below_set ?_ GE119.out | refine below_set ?_ GE124.out | refine below_set ?_ GE132.out) | exact HB.out)⟩
           (try clear HO_4)
           (try clear BK119)
           (try clear BK124)
           (try clear BK132)
           (try clear HI101)
           (try clear HB)
           generalize (((w41.setCell ⟨gb132, 0, none⟩ (.int .i64 t129)).setCell ⟨gb132, 1, none⟩ (.int .i64 t130)).setCell ⟨gb132, 2, none⟩ (.bool t131)) = w46 at n0_ n1_ n2_ n3_ n4_ n5_ ⊢
           have HO_4 := n0_
           have BK119 := n1_
           have BK124 := n2_
           have BK132 := n3_
           have HI101 := n4_
           have HB := n5_
           clear n0_ n1_ n2_ n3_ n4_ n5_
           have n0_ := Aside0.mk (Kd.R_drew HO_4.out)
           have n1_ := Aside0.mk (blk_drew BK119.out)
           have n2_ := Aside0.mk (blk_drew BK124.out)
           have n3_ := Aside0.mk (blk_drew BK132.out)
           have n4_ := Aside0.mk (IsS25.drew HI101.out)
           have n5_ := Aside0.mk (below_drew1 HB.out)
           clear HO_4
           clear BK119
           clear BK124
           clear BK132
           clear HI101
           clear HB
           have HO_4 := n0_
           have BK119 := n1_
           have BK124 := n2_
           have BK132 := n3_
           have HI101 := n4_
           have HB := n5_
           clear n0_ n1_ n2_ n3_ n4_ n5_
           have p141 : 0 ≤ (1 : Int) := (by omega)
           have q141 : 1 < (x4_1.length : Int) := of_decide_eq_true (by first | (with_reducible assumption) | assumption)
           obtain ⟨ad141, e141, hx141_0, hx141_1, hx141_2, hx141_3⟩ := at_T108 (Kd.R_reads' HO_4.out).2.2 1 p141 q141
           obtain rfl : ad125 = ad141 := (by injection e141)
           (try simp only [show (1 : Int).toNat = 1 from rfl, Nat.reduceMul, Nat.reduceEqDiff, Go.Addr.add, ↓reduceIte] at hx141_0)
           (try simp only [show (1 : Int).toNat = 1 from rfl, Nat.reduceMul, Nat.reduceEqDiff, Go.Addr.add, ↓reduceIte] at hx141_1)
           (try simp only [show (1 : Int).toNat = 1 from rfl, Nat.reduceMul, Nat.reduceEqDiff, Go.Addr.add, ↓reduceIte] at hx141_2)
           (try simp only [show (1 : Int).toNat = 1 from rfl, Nat.reduceMul, Nat.reduceEqDiff, Go.Addr.add, ↓reduceIte] at hx141_3)
           have qi141 : (1 < x4_1.length) = True := eq_true (by omega)
           (try rw [show ((1 : Int)).toNat = 1 from rfl] at hx141_0)
           (try rw [show 1 * 4 = 4 from rfl] at hx141_0)
           (try rw [show ((1 : Int)).toNat = 1 from rfl] at hx141_1)
           (try rw [show 1 * 4 = 4 from rfl] at hx141_1)
           (try rw [show ((1 : Int)).toNat = 1 from rfl] at hx141_2)
           (try rw [show 1 * 4 = 4 from rfl] at hx141_2)
           (try rw [show ((1 : Int)).toNat = 1 from rfl] at hx141_3)
           (try rw [show 1 * 4 = 4 from rfl] at hx141_3)
           replace p141 := eq_true p141
           replace q141 := eq_true q141
           have p142 : 0 ≤ (1 : Int) := (by omega)
           have q142 : 1 < (x4_1.length : Int) := of_decide_eq_true (by first | (with_reducible assumption) | assumption)
           obtain ⟨ad142, e142, hx142_0, hx142_1, hx142_2, hx142_3⟩ := at_T108 (Kd.R_reads' HO_4.out).2.2 1 p142 q142
           obtain rfl : ad125 = ad142 := (by injection e142)
           (try simp only [show (1 : Int).toNat = 1 from rfl, Nat.reduceMul, Nat.reduceEqDiff, Go.Addr.add, ↓reduceIte] at hx142_0)
           (try simp only [show (1 : Int).toNat = 1 from rfl, Nat.reduceMul, Nat.reduceEqDiff, Go.Addr.add, ↓reduceIte] at hx142_1)
           (try simp only [show (1 : Int).toNat = 1 from rfl, Nat.reduceMul, Nat.reduceEqDiff, Go.Addr.add, ↓reduceIte] at hx142_2)
           (try simp only [show (1 : Int).toNat = 1 from rfl, Nat.reduceMul, Nat.reduceEqDiff, Go.Addr.add, ↓reduceIte] at hx142_3)
           have qi142 : (1 < x4_1.length) = True := eq_true (by omega)
           (try rw [show ((1 : Int)).toNat = 1 from rfl] at hx142_0)
           (try rw [show 1 * 4 = 4 from rfl] at hx142_0)
           (try rw [show ((1 : Int)).toNat = 1 from rfl] at hx142_1)
           (try rw [show 1 * 4 = 4 from rfl] at hx142_1)
           (try rw [show ((1 : Int)).toNat = 1 from rfl] at hx142_2)
           (try rw [show 1 * 4 = 4 from rfl] at hx142_2)
           (try rw [show ((1 : Int)).toNat = 1 from rfl] at hx142_3)
           (try rw [show 1 * 4 = 4 from rfl] at hx142_3)
           replace p142 := eq_true p142
           replace q142 := eq_true q142
           refine start_ (n := 25) (S := fun w' => w'.cell? ⟨gb124, 0, none⟩ = some (.int .i64 t120) ∧ w'.cell? ⟨gb124, 1, none⟩ = some (.int .i64 t121) ∧ w'.cell? ⟨gb124, 2, none⟩ = some (.bool t122) ∧ w'.cell? ⟨gb119, 0, none⟩ = some (.int .i64 t115) ∧ w'.cell? ⟨gb119, 1, none⟩ = some (.int .i64 (wrap64 (t115 + t117))) ∧ w'.cell? ⟨gb119, 2, none⟩ = some (.bool false) ∧ w'.cell? ⟨gb132, 0, none⟩ = some (.int .i64 t129) ∧ w'.cell? ⟨gb132, 1, none⟩ = some (.int .i64 t130) ∧ w'.cell? ⟨gb132, 2, none⟩ = some (.bool t131) ∧ w'.cell? ⟨ad125.block, ad125.off + 4, none⟩ = some (.int .i64 ((rd_T108 x4_1 1).f0)) ∧ w'.cell? ⟨ad125.block, ad125.off + 4 + 1, none⟩ = some (.int .i64 ((rd_T108 x4_1 1).f1.f0)) ∧ w'.cell? ⟨ad125.block, ad125.off + 4 + 2, none⟩ = some (.int .i64 ((rd_T108 x4_1 1).f1.f1)) ∧ w'.cell? ⟨ad125.block, ad125.off + 4 + 3, none⟩ = some (.bool ((rd_T108 x4_1 1).f1.f2)) ∧ w'.cell? ⟨ad125.block, ad125.off + 4, none⟩ = some (.int .i64 ((rd_T108 x4_1 1).f0)) ∧ w'.cell? ⟨ad125.block, ad125.off + 4 + 1, none⟩ = some (.int .i64 ((rd_T108 x4_1 1).f1.f0)) ∧ w'.cell? ⟨ad125.block, ad125.off + 4 + 2, none⟩ = some (.int .i64 ((rd_T108 x4_1 1).f1.f1)) ∧ w'.cell? ⟨ad125.block, ad125.off + 4 + 3, none⟩ = some (.bool ((rd_T108 x4_1 1).f1.f2))) (ds := []) #[false, false, false, false, false, false, false, false, false, false, false, false, false, false, false, false, false, false, false, false, false, false, false, false, false] (by kernel_rfl) rfl rfl ⟨(blk_cell BK124.out 0).trans rfl, (blk_cell BK124.out 1).trans rfl, (blk_cell BK124.out 2).trans rfl, (blk_cell BK119.out 0).trans rfl, (blk_cell BK119.out 1).trans rfl, (blk_cell BK119.out 2).trans rfl, (blk_cell BK132.out 0).trans rfl, (blk_cell BK132.out 1).trans rfl, (blk_cell BK132.out 2).trans rfl, hx141_0, hx141_1, hx141_2, hx141_3, hx142_0, hx142_1, hx142_2, hx142_3⟩ (fun hHeld => ?_); refine with_tabW spykeep1_HorizonLifted.tab13 spykeep1_HorizonLifted.bits13 (fun HT_ HW_ => ?_)
           generalize w46.drew = w47 at HO_4 BK119 BK124 BK132 HI101 HB hx141_0 hx141_1 hx141_2 hx141_3 hx142_0 hx142_1 hx142_2 hx142_3 hHeld ⊢
           refine one_ (i := 0) (N := some 49) #[true, false, false, false, false, false, false, false, false, false, false, false, false, false, false, false, false, false, false, false, false, false, false, false, false] rfl rfl (one_of HT_.out (by kernel_rfl)) (by decide) (fun K hK => ?_)
           refine goes_ Try.func79 (by kernel_rfl) rfl #[] (by rfl) rfl rfl (by (try simp only [List.map_toArray, List.map_cons, List.map_nil]); first | done | rfl | (simp only [List.length_drop, List.length_take]; rfl)) ?_
           with_reducible refine (spykeep1_horizonFact.calls k1  true _ A20.out).mono ?_
           rintro e w48 ⟨rfl, hb⟩
           have HS9_ := (hb.cell (World.block_lt_of_cell? _ _ (hHeld.2.2.2.2.2.2.2.2.2.1))).trans (hHeld.2.2.2.2.2.2.2.2.2.1)
           have HS10_ := (hb.cell (World.block_lt_of_cell? _ _ (hHeld.2.2.2.2.2.2.2.2.2.2.1))).trans (hHeld.2.2.2.2.2.2.2.2.2.2.1)
           have HS11_ := (hb.cell (World.block_lt_of_cell? _ _ (hHeld.2.2.2.2.2.2.2.2.2.2.2.1))).trans (hHeld.2.2.2.2.2.2.2.2.2.2.2.1)
           have HS12_ := (hb.cell (World.block_lt_of_cell? _ _ (hHeld.2.2.2.2.2.2.2.2.2.2.2.2.1))).trans (hHeld.2.2.2.2.2.2.2.2.2.2.2.2.1)
           have HS13_ := (hb.cell (World.block_lt_of_cell? _ _ (hHeld.2.2.2.2.2.2.2.2.2.2.2.2.2.1))).trans (hHeld.2.2.2.2.2.2.2.2.2.2.2.2.2.1)
           have HS14_ := (hb.cell (World.block_lt_of_cell? _ _ (hHeld.2.2.2.2.2.2.2.2.2.2.2.2.2.2.1))).trans (hHeld.2.2.2.2.2.2.2.2.2.2.2.2.2.2.1)
           have HS15_ := (hb.cell (World.block_lt_of_cell? _ _ (hHeld.2.2.2.2.2.2.2.2.2.2.2.2.2.2.2.1))).trans (hHeld.2.2.2.2.2.2.2.2.2.2.2.2.2.2.2.1)
           have HS16_ := (hb.cell (World.block_lt_of_cell? _ _ (hHeld.2.2.2.2.2.2.2.2.2.2.2.2.2.2.2.2))).trans (hHeld.2.2.2.2.2.2.2.2.2.2.2.2.2.2.2.2)
           refine ⟨_, rfl, ?_⟩
           have n0_ := Aside0.mk (Kd.R_below (by (with_reducible repeat (first | apply Kd.R_alloc | apply Kd.R_drewN | apply Kd.R_drew)); exact HO_4.out) hb)
           have n1_ := Aside0.mk (IsS25.below (by repeat (first | (with_reducible first | exact HI101.out | apply IsS25.alloc | apply IsS25.drewN | apply IsS25.drew | apply IsS25.set_1 | refine IsS25.far ?_ NB101_119.out _ | refine IsS25.far ?_ NB101_124.out _ | refine IsS25.far ?_ NB101_132.out _) | exact HI101.out)) hb)
           have n2_ := Aside0.mk (blk_below (g := gb119) (o := .cells #[.int .i64 t115, .int .i64 (wrap64 (t115 + t117)), .bool false] 96 (0, 0)) (by (with_reducible repeat (first | refine blk_drewN ?_ _ | refine blk_drew ?_ | refine blk_alloc ?_ _)); exact BK119.out) hb)
           have n3_ := Aside0.mk (blk_below (g := gb124) (o := .cells #[.int .i64 t120, .int .i64 t121, .bool t122] 96 (0, 0)) (by (with_reducible repeat (first | refine blk_drewN ?_ _ | refine blk_drew ?_ | refine blk_alloc ?_ _)); exact BK124.out) hb)
           have n4_ := Aside0.mk (blk_below (g := gb132) (o := .cells #[.int .i64 t129, .int .i64 t130, .bool t131] 96 (0, 0)) (by (with_reducible repeat (first | refine blk_drewN ?_ _ | refine blk_drew ?_ | refine blk_alloc ?_ _)); exact BK132.out) hb)
           have n5_ := Aside0.mk (below_step (by repeat (first | (with_reducible first | exact HB.out | apply below_alloc | apply pw_below_drewN | apply below_drew1 | refine below_set ?_ (IsS25.ge HI101.out) | refine below_set ?_ GE119.out | refine below_set ?_ GE124.out | refine below_set ?_ GE132.out) | exact HB.out)) hb)
           clear HO_4
           clear HI101
           clear BK119
           clear BK124
           clear BK132
           clear HB
           have HO_4 := n0_
           have HI101 := n1_
           have BK119 := n2_
           have BK124 := n3_
           have BK132 := n4_
           have HB := n5_
           clear n0_ n1_ n2_ n3_ n4_ n5_
           (try clear hb)
           (try clear hb2)
           (try clear hk)
           (try clear hi)
           refine hK.out _ _ ⟨(blk_cell BK124.out 0).trans rfl, (blk_cell BK124.out 1).trans rfl, (blk_cell BK124.out 2).trans rfl, (blk_cell BK119.out 0).trans rfl, (blk_cell BK119.out 1).trans rfl, (blk_cell BK119.out 2).trans rfl, (blk_cell BK132.out 0).trans rfl, (blk_cell BK132.out 1).trans rfl, (blk_cell BK132.out 2).trans rfl, HS9_, HS10_, HS11_, HS12_, HS13_, HS14_, HS15_, HS16_⟩ (fun hHeld => ?_)
           clear hK K
           refine norm_ (a' := ?_) ?_ ?_
           rotate_left
           · show Act.put _ (some 49) _ = _
             simp only [Act.put, List.setIfInBounds_toArray, List.set_cons_zero, List.set_cons_succ, i64_w, i32_w]
             rfl
           refine pure_ (i := 1) (N := some 50) (v := ?_) (a' := ?_) #[true, true, false, false, false, false, false, false, false, false, false, false, false, false, false, false, false, false, false, false, false, false, false, false, false] rfl rfl (any_of HT_.out (by kernel_rfl)) (fun _ _ _ h => h) (Or.inl ⟨by rfl, ?_⟩) ?_ ?_
           rotate_left
           · intro w'
             go_simp
             with_reducible rfl
           rotate_left
           · simp only [Act.put, List.setIfInBounds_toArray, List.set_cons_zero, List.set_cons_succ, i64_w, i32_w]
             rfl
           refine pure_ (i := 2) (N := some 51) (v := ?_) (a' := ?_) #[true, true, true, false, false, false, false, false, false, false, false, false, false, false, false, false, false, false, false, false, false, false, false, false, false] rfl rfl (any_of HT_.out (by kernel_rfl)) (fun _ _ _ h => h) (Or.inl ⟨by rfl, ?_⟩) ?_ ?_
           rotate_left
           · intro w'
             go_simp
             with_reducible rfl
           rotate_left
           · simp only [Act.put, List.setIfInBounds_toArray, List.set_cons_zero, List.set_cons_succ, i64_w, i32_w]
             rfl
           refine pure_ (i := 5) (N := some 54) (v := ?_) (a' := ?_) #[true, true, true, false, false, true, false, false, false, false, false, false, false, false, false, false, false, false, false, false, false, false, false, false, false] rfl rfl (any_of HT_.out (by kernel_rfl)) (fun _ _ _ h => h) (Or.inl ⟨by rfl, ?_⟩) ?_ ?_
           rotate_left
           · intro w'
             go_simp
             with_reducible rfl
           rotate_left
           · simp only [Act.put, List.setIfInBounds_toArray, List.set_cons_zero, List.set_cons_succ, i64_w, i32_w]
             rfl
           refine take_ (i := 3) (N := some 52) (v := ?_) (a' := ?_) #[true, true, true, true, false, true, false, false, false, false, false, false, false, false, false, false, false, false, false, false, false, false, false, false, false] rfl rfl (take_ofW HT_.out HW_.out (by kernel_rfl)) (fun _ _ _ h => h) (Or.inl ⟨by rfl, ?_⟩) hHeld ?_ ?_
           rotate_left
           · rintro w' ⟨s0, s1, s2, s3, s4, s5, s6, s7, s8, s9, s10, s11, s12, s13, s14, s15, s16⟩
             go_simp
             with_reducible rfl
           rotate_left
           · simp only [Act.put, List.setIfInBounds_toArray, List.set_cons_zero, List.set_cons_succ, i64_w, i32_w]
             rfl
           refine take_ (i := 6) (N := some 55) (v := ?_) (a' := ?_) #[true, true, true, true, false, true, true, false, false, false, false, false, false, false, false, false, false, false, false, false, false, false, false, false, false] rfl rfl (take_ofW HT_.out HW_.out (by kernel_rfl)) (fun _ _ _ h => h) (Or.inl ⟨by rfl, ?_⟩) hHeld ?_ ?_
           rotate_left
           · rintro w' ⟨s0, s1, s2, s3, s4, s5, s6, s7, s8, s9, s10, s11, s12, s13, s14, s15, s16⟩
             go_simp
             with_reducible rfl
           rotate_left
           · simp only [Act.put, List.setIfInBounds_toArray, List.set_cons_zero, List.set_cons_succ, i64_w, i32_w]
             rfl
           refine one_ (i := 4) (N := some 53) #[true, true, true, true, true, true, true, false, false, false, false, false, false, false, false, false, false, false, false, false, false, false, false, false, false] rfl rfl (one_of HT_.out (by kernel_rfl)) (by decide) (fun K hK => ?_)
           refine goes_ Try.func77 (by kernel_rfl) rfl #[.slice (some ad125) x4_1.length co38, .agg #[.int .i64 t120, .int .i64 t121, .bool t122]] (by rfl) rfl rfl (by (try simp only [List.map_toArray, List.map_cons, List.map_nil]); first | done | rfl | (simp only [List.length_drop, List.length_take]; rfl)) ?_
           with_reducible refine (horizon_Refract.calls k1 _ _ x4_1 t120 t121 t122 t134 t135 t136 _ ?side1 ?side2 A22.out).mono ?_
           (case side1 => repeat (first | exact (Kd.R_reads' HO_4.out).2.2 | (with_reducible refine Kd.C_alloc ?_ _) | (with_reducible refine Kd.C_drewN ?_ _) | (with_reducible refine Kd.C_drew ?_)))
           (case side2 => exact (Kd.R_reads' HO_4.out).2.1)
           rintro e w49 ⟨rfl, hb⟩
           have HS9_ := (hb.cell (World.block_lt_of_cell? _ _ (hHeld.2.2.2.2.2.2.2.2.2.1))).trans (hHeld.2.2.2.2.2.2.2.2.2.1)
           have HS10_ := (hb.cell (World.block_lt_of_cell? _ _ (hHeld.2.2.2.2.2.2.2.2.2.2.1))).trans (hHeld.2.2.2.2.2.2.2.2.2.2.1)
           have HS11_ := (hb.cell (World.block_lt_of_cell? _ _ (hHeld.2.2.2.2.2.2.2.2.2.2.2.1))).trans (hHeld.2.2.2.2.2.2.2.2.2.2.2.1)
           have HS12_ := (hb.cell (World.block_lt_of_cell? _ _ (hHeld.2.2.2.2.2.2.2.2.2.2.2.2.1))).trans (hHeld.2.2.2.2.2.2.2.2.2.2.2.2.1)
           have HS13_ := (hb.cell (World.block_lt_of_cell? _ _ (hHeld.2.2.2.2.2.2.2.2.2.2.2.2.2.1))).trans (hHeld.2.2.2.2.2.2.2.2.2.2.2.2.2.1)
           have HS14_ := (hb.cell (World.block_lt_of_cell? _ _ (hHeld.2.2.2.2.2.2.2.2.2.2.2.2.2.2.1))).trans (hHeld.2.2.2.2.2.2.2.2.2.2.2.2.2.2.1)
           have HS15_ := (hb.cell (World.block_lt_of_cell? _ _ (hHeld.2.2.2.2.2.2.2.2.2.2.2.2.2.2.2.1))).trans (hHeld.2.2.2.2.2.2.2.2.2.2.2.2.2.2.2.1)
           have HS16_ := (hb.cell (World.block_lt_of_cell? _ _ (hHeld.2.2.2.2.2.2.2.2.2.2.2.2.2.2.2.2))).trans (hHeld.2.2.2.2.2.2.2.2.2.2.2.2.2.2.2.2)
           refine ⟨_, rfl, ?_⟩
           have n0_ := Aside0.mk (Kd.R_below (by (with_reducible repeat (first | apply Kd.R_alloc | apply Kd.R_drewN | apply Kd.R_drew)); exact HO_4.out) hb)
           have n1_ := Aside0.mk (IsS25.below (by repeat (first | (with_reducible first | exact HI101.out | apply IsS25.alloc | apply IsS25.drewN | apply IsS25.drew | apply IsS25.set_1 | refine IsS25.far ?_ NB101_119.out _ | refine IsS25.far ?_ NB101_124.out _ | refine IsS25.far ?_ NB101_132.out _) | exact HI101.out)) hb)
           have n2_ := Aside0.mk (blk_below (g := gb119) (o := .cells #[.int .i64 t115, .int .i64 (wrap64 (t115 + t117)), .bool false] 96 (0, 0)) (by (with_reducible repeat (first | refine blk_drewN ?_ _ | refine blk_drew ?_ | refine blk_alloc ?_ _)); exact BK119.out) hb)
           have n3_ := Aside0.mk (blk_below (g := gb124) (o := .cells #[.int .i64 t120, .int .i64 t121, .bool t122] 96 (0, 0)) (by (with_reducible repeat (first | refine blk_drewN ?_ _ | refine blk_drew ?_ | refine blk_alloc ?_ _)); exact BK124.out) hb)
           have n4_ := Aside0.mk (blk_below (g := gb132) (o := .cells #[.int .i64 t129, .int .i64 t130, .bool t131] 96 (0, 0)) (by (with_reducible repeat (first | refine blk_drewN ?_ _ | refine blk_drew ?_ | refine blk_alloc ?_ _)); exact BK132.out) hb)
           have n5_ := Aside0.mk (below_step (by repeat (first | (with_reducible first | exact HB.out | apply below_alloc | apply pw_below_drewN | apply below_drew1 | refine below_set ?_ (IsS25.ge HI101.out) | refine below_set ?_ GE119.out | refine below_set ?_ GE124.out | refine below_set ?_ GE132.out) | exact HB.out)) hb)
           clear HO_4
           clear HI101
           clear BK119
           clear BK124
           clear BK132
           clear HB
           have HO_4 := n0_
           have HI101 := n1_
           have BK119 := n2_
           have BK124 := n3_
           have BK132 := n4_
           have HB := n5_
           clear n0_ n1_ n2_ n3_ n4_ n5_
           (try clear hb)
           (try clear hb2)
           (try clear hk)
           (try clear hi)
           refine hK.out _ _ ⟨(blk_cell BK124.out 0).trans rfl, (blk_cell BK124.out 1).trans rfl, (blk_cell BK124.out 2).trans rfl, (blk_cell BK119.out 0).trans rfl, (blk_cell BK119.out 1).trans rfl, (blk_cell BK119.out 2).trans rfl, (blk_cell BK132.out 0).trans rfl, (blk_cell BK132.out 1).trans rfl, (blk_cell BK132.out 2).trans rfl, HS9_, HS10_, HS11_, HS12_, HS13_, HS14_, HS15_, HS16_⟩ (fun hHeld => ?_)
           clear hK K
           refine norm_ (a' := ?_) ?_ ?_
           rotate_left
           · show Act.put _ (some 53) _ = _
             simp only [Act.put, List.setIfInBounds_toArray, List.set_cons_zero, List.set_cons_succ, i64_w, i32_w]
             rfl
           refine one_ (i := 7) (N := some 56) #[true, true, true, true, true, true, true, true, false, false, false, false, false, false, false, false, false, false, false, false, false, false, false, false, false] rfl rfl (one_of HT_.out (by kernel_rfl)) (by decide) (fun K hK => ?_)
           refine goes_ Try.func77 (by kernel_rfl) rfl #[.slice (some ad125) x4_1.length co38, .agg #[.int .i64 t115, .int .i64 (wrap64 (t115 + t117)), .bool false]] (by rfl) rfl rfl (by (try simp only [List.map_toArray, List.map_cons, List.map_nil]); first | done | rfl | (simp only [List.length_drop, List.length_take]; rfl)) ?_
           with_reducible refine (horizon_Refract.calls k1 _ _ x4_1 t115 (wrap64 (t115 + t117)) false t137 t138 t139 _ ?side1 ?side2 A23.out).mono ?_
           (case side1 => repeat (first | exact (Kd.R_reads' HO_4.out).2.2 | (with_reducible refine Kd.C_alloc ?_ _) | (with_reducible refine Kd.C_drewN ?_ _) | (with_reducible refine Kd.C_drew ?_)))
           (case side2 => exact (Kd.R_reads' HO_4.out).2.1)
           rintro e w50 ⟨rfl, hb⟩
           have HS9_ := (hb.cell (World.block_lt_of_cell? _ _ (hHeld.2.2.2.2.2.2.2.2.2.1))).trans (hHeld.2.2.2.2.2.2.2.2.2.1)
           have HS10_ := (hb.cell (World.block_lt_of_cell? _ _ (hHeld.2.2.2.2.2.2.2.2.2.2.1))).trans (hHeld.2.2.2.2.2.2.2.2.2.2.1)
           have HS11_ := (hb.cell (World.block_lt_of_cell? _ _ (hHeld.2.2.2.2.2.2.2.2.2.2.2.1))).trans (hHeld.2.2.2.2.2.2.2.2.2.2.2.1)
           have HS12_ := (hb.cell (World.block_lt_of_cell? _ _ (hHeld.2.2.2.2.2.2.2.2.2.2.2.2.1))).trans (hHeld.2.2.2.2.2.2.2.2.2.2.2.2.1)
           have HS13_ := (hb.cell (World.block_lt_of_cell? _ _ (hHeld.2.2.2.2.2.2.2.2.2.2.2.2.2.1))).trans (hHeld.2.2.2.2.2.2.2.2.2.2.2.2.2.1)
           have HS14_ := (hb.cell (World.block_lt_of_cell? _ _ (hHeld.2.2.2.2.2.2.2.2.2.2.2.2.2.2.1))).trans (hHeld.2.2.2.2.2.2.2.2.2.2.2.2.2.2.1)
           have HS15_ := (hb.cell (World.block_lt_of_cell? _ _ (hHeld.2.2.2.2.2.2.2.2.2.2.2.2.2.2.2.1))).trans (hHeld.2.2.2.2.2.2.2.2.2.2.2.2.2.2.2.1)
           have HS16_ := (hb.cell (World.block_lt_of_cell? _ _ (hHeld.2.2.2.2.2.2.2.2.2.2.2.2.2.2.2.2))).trans (hHeld.2.2.2.2.2.2.2.2.2.2.2.2.2.2.2.2)
           refine ⟨_, rfl, ?_⟩
           have n0_ := Aside0.mk (Kd.R_below (by (with_reducible repeat (first | apply Kd.R_alloc | apply Kd.R_drewN | apply Kd.R_drew)); exact HO_4.out) hb)
           have n1_ := Aside0.mk (IsS25.below (by repeat (first | (with_reducible first | exact HI101.out | apply IsS25.alloc | apply IsS25.drewN | apply IsS25.drew | apply IsS25.set_1 | refine IsS25.far ?_ NB101_119.out _ | refine IsS25.far ?_ NB101_124.out _ | refine IsS25.far ?_ NB101_132.out _) | exact HI101.out)) hb)
           have n2_ := Aside0.mk (blk_below (g := gb119) (o := .cells #[.int .i64 t115, .int .i64 (wrap64 (t115 + t117)), .bool false] 96 (0, 0)) (by (with_reducible repeat (first | refine blk_drewN ?_ _ | refine blk_drew ?_ | refine blk_alloc ?_ _)); exact BK119.out) hb)
           have n3_ := Aside0.mk (blk_below (g := gb124) (o := .cells #[.int .i64 t120, .int .i64 t121, .bool t122] 96 (0, 0)) (by (with_reducible repeat (first | refine blk_drewN ?_ _ | refine blk_drew ?_ | refine blk_alloc ?_ _)); exact BK124.out) hb)
           have n4_ := Aside0.mk (blk_below (g := gb132) (o := .cells #[.int .i64 t129, .int .i64 t130, .bool t131] 96 (0, 0)) (by (with_reducible repeat (first | refine blk_drewN ?_ _ | refine blk_drew ?_ | refine blk_alloc ?_ _)); exact BK132.out) hb)
           have n5_ := Aside0.mk (below_step (by repeat (first | (with_reducible first | exact HB.out | apply below_alloc | apply pw_below_drewN | apply below_drew1 | refine below_set ?_ (IsS25.ge HI101.out) | refine below_set ?_ GE119.out | refine below_set ?_ GE124.out | refine below_set ?_ GE132.out) | exact HB.out)) hb)
           clear HO_4
           clear HI101
           clear BK119
           clear BK124
           clear BK132
           clear HB
           have HO_4 := n0_
           have HI101 := n1_
           have BK119 := n2_
           have BK124 := n3_
           have BK132 := n4_
           have HB := n5_
           clear n0_ n1_ n2_ n3_ n4_ n5_
           (try clear hb)
           (try clear hb2)
           (try clear hk)
           (try clear hi)
           refine hK.out _ _ ⟨(blk_cell BK124.out 0).trans rfl, (blk_cell BK124.out 1).trans rfl, (blk_cell BK124.out 2).trans rfl, (blk_cell BK119.out 0).trans rfl, (blk_cell BK119.out 1).trans rfl, (blk_cell BK119.out 2).trans rfl, (blk_cell BK132.out 0).trans rfl, (blk_cell BK132.out 1).trans rfl, (blk_cell BK132.out 2).trans rfl, HS9_, HS10_, HS11_, HS12_, HS13_, HS14_, HS15_, HS16_⟩ (fun hHeld => ?_)
           clear hK K
           refine norm_ (a' := ?_) ?_ ?_
           rotate_left
           · show Act.put _ (some 56) _ = _
             simp only [Act.put, List.setIfInBounds_toArray, List.set_cons_zero, List.set_cons_succ, i64_w, i32_w]
             rfl
           refine one_ (i := 8) (N := some 57) #[true, true, true, true, true, true, true, true, true, false, false, false, false, false, false, false, false, false, false, false, false, false, false, false, false] rfl rfl (one_of HT_.out (by kernel_rfl)) (by decide) (fun K hK => ?_)
           refine goes_ Try.func66 (by kernel_rfl) rfl #[.agg #[.int .i64 t134, .int .i64 t135, .bool t136], .agg #[.int .i64 t137, .int .i64 t138, .bool t139]] (by rfl) rfl rfl (by (try simp only [List.map_toArray, List.map_cons, List.map_nil]); first | done | rfl | (simp only [List.length_drop, List.length_take]; rfl)) ?_
           with_reducible refine (bound_Inside_api_Arc.calls k1 t134 t135 t136 t137 t138 t139 true _ A24.out).mono ?_
           rintro e w51 ⟨rfl, hb⟩
           have HS9_ := (hb.cell (World.block_lt_of_cell? _ _ (hHeld.2.2.2.2.2.2.2.2.2.1))).trans (hHeld.2.2.2.2.2.2.2.2.2.1)
           have HS10_ := (hb.cell (World.block_lt_of_cell? _ _ (hHeld.2.2.2.2.2.2.2.2.2.2.1))).trans (hHeld.2.2.2.2.2.2.2.2.2.2.1)
           have HS11_ := (hb.cell (World.block_lt_of_cell? _ _ (hHeld.2.2.2.2.2.2.2.2.2.2.2.1))).trans (hHeld.2.2.2.2.2.2.2.2.2.2.2.1)
           have HS12_ := (hb.cell (World.block_lt_of_cell? _ _ (hHeld.2.2.2.2.2.2.2.2.2.2.2.2.1))).trans (hHeld.2.2.2.2.2.2.2.2.2.2.2.2.1)
           have HS13_ := (hb.cell (World.block_lt_of_cell? _ _ (hHeld.2.2.2.2.2.2.2.2.2.2.2.2.2.1))).trans (hHeld.2.2.2.2.2.2.2.2.2.2.2.2.2.1)
           have HS14_ := (hb.cell (World.block_lt_of_cell? _ _ (hHeld.2.2.2.2.2.2.2.2.2.2.2.2.2.2.1))).trans (hHeld.2.2.2.2.2.2.2.2.2.2.2.2.2.2.1)
           have HS15_ := (hb.cell (World.block_lt_of_cell? _ _ (hHeld.2.2.2.2.2.2.2.2.2.2.2.2.2.2.2.1))).trans (hHeld.2.2.2.2.2.2.2.2.2.2.2.2.2.2.2.1)
           have HS16_ := (hb.cell (World.block_lt_of_cell? _ _ (hHeld.2.2.2.2.2.2.2.2.2.2.2.2.2.2.2.2))).trans (hHeld.2.2.2.2.2.2.2.2.2.2.2.2.2.2.2.2)
           refine ⟨_, rfl, ?_⟩
           have n0_ := Aside0.mk (Kd.R_below (by (with_reducible repeat (first | apply Kd.R_alloc | apply Kd.R_drewN | apply Kd.R_drew)); exact HO_4.out) hb)
           have n1_ := Aside0.mk (IsS25.below (by repeat (first | (with_reducible first | exact HI101.out | apply IsS25.alloc | apply IsS25.drewN | apply IsS25.drew | apply IsS25.set_1 | refine IsS25.far ?_ NB101_119.out _ | refine IsS25.far ?_ NB101_124.out _ | refine IsS25.far ?_ NB101_132.out _) | exact HI101.out)) hb)
           have n2_ := Aside0.mk (blk_below (g := gb119) (o := .cells #[.int .i64 t115, .int .i64 (wrap64 (t115 + t117)), .bool false] 96 (0, 0)) (by (with_reducible repeat (first | refine blk_drewN ?_ _ | refine blk_drew ?_ | refine blk_alloc ?_ _)); exact BK119.out) hb)
           have n3_ := Aside0.mk (blk_below (g := gb124) (o := .cells #[.int .i64 t120, .int .i64 t121, .bool t122] 96 (0, 0)) (by (with_reducible repeat (first | refine blk_drewN ?_ _ | refine blk_drew ?_ | refine blk_alloc ?_ _)); exact BK124.out) hb)
           have n4_ := Aside0.mk (blk_below (g := gb132) (o := .cells #[.int .i64 t129, .int .i64 t130, .bool t131] 96 (0, 0)) (by (with_reducible repeat (first | refine blk_drewN ?_ _ | refine blk_drew ?_ | refine blk_alloc ?_ _)); exact BK132.out) hb)
           have n5_ := Aside0.mk (below_step (by repeat (first | (with_reducible first | exact HB.out | apply below_alloc | apply pw_below_drewN | apply below_drew1 | refine below_set ?_ (IsS25.ge HI101.out) | refine below_set ?_ GE119.out | refine below_set ?_ GE124.out | refine below_set ?_ GE132.out) | exact HB.out)) hb)
           clear HO_4
           clear HI101
           clear BK119
           clear BK124
           clear BK132
           clear HB
           have HO_4 := n0_
           have HI101 := n1_
           have BK119 := n2_
           have BK124 := n3_
           have BK132 := n4_
           have HB := n5_
           clear n0_ n1_ n2_ n3_ n4_ n5_
           (try clear hb)
           (try clear hb2)
           (try clear hk)
           (try clear hi)
           refine hK.out _ _ ⟨(blk_cell BK124.out 0).trans rfl, (blk_cell BK124.out 1).trans rfl, (blk_cell BK124.out 2).trans rfl, (blk_cell BK119.out 0).trans rfl, (blk_cell BK119.out 1).trans rfl, (blk_cell BK119.out 2).trans rfl, (blk_cell BK132.out 0).trans rfl, (blk_cell BK132.out 1).trans rfl, (blk_cell BK132.out 2).trans rfl, HS9_, HS10_, HS11_, HS12_, HS13_, HS14_, HS15_, HS16_⟩ (fun hHeld => ?_)
           clear hK K
           refine norm_ (a' := ?_) ?_ ?_
           rotate_left
           · show Act.put _ (some 57) _ = _
             simp only [Act.put, List.setIfInBounds_toArray, List.set_cons_zero, List.set_cons_succ, i64_w, i32_w]
             rfl
           refine pure_ (i := 9) (N := some 58) (v := ?_) (a' := ?_) #[true, true, true, true, true, true, true, true, true, true, false, false, false, false, false, false, false, false, false, false, false, false, false, false, false] rfl rfl (any_of HT_.out (by kernel_rfl)) (fun _ _ _ h => h) (Or.inl ⟨by rfl, ?_⟩) ?_ ?_
           rotate_left
           · intro w'
             go_simp
             with_reducible rfl
           rotate_left
           · simp only [Act.put, List.setIfInBounds_toArray, List.set_cons_zero, List.set_cons_succ, i64_w, i32_w]
             rfl
           refine pure_ (i := 10) (N := some 59) (v := ?_) (a' := ?_) #[true, true, true, true, true, true, true, true, true, true, true, false, false, false, false, false, false, false, false, false, false, false, false, false, false] rfl rfl (any_of HT_.out (by kernel_rfl)) (fun _ _ _ h => h) (Or.inl ⟨by rfl, ?_⟩) ?_ ?_
           rotate_left
           · intro w'
             go_simp
             with_reducible rfl
           rotate_left
           · simp only [Act.put, List.setIfInBounds_toArray, List.set_cons_zero, List.set_cons_succ, i64_w, i32_w]
             rfl
           refine pure_ (i := 12) (N := some 61) (v := ?_) (a' := ?_) #[true, true, true, true, true, true, true, true, true, true, true, false, true, false, false, false, false, false, false, false, false, false, false, false, false] rfl rfl (any_of HT_.out (by kernel_rfl)) (fun _ _ _ h => h) (Or.inl ⟨by rfl, ?_⟩) ?_ ?_
           rotate_left
           · intro w'
             go_simp
             with_reducible rfl
           rotate_left
           · simp only [Act.put, List.setIfInBounds_toArray, List.set_cons_zero, List.set_cons_succ, i64_w, i32_w]
             rfl
           refine pure_ (i := 13) (N := some 62) (v := ?_) (a' := ?_) #[true, true, true, true, true, true, true, true, true, true, true, false, true, true, false, false, false, false, false, false, false, false, false, false, false] rfl rfl (any_of HT_.out (by kernel_rfl)) (fun _ _ _ h => h) (Or.inl ⟨by rfl, ?_⟩) ?_ ?_
           rotate_left
           · intro w'
             go_simp
             with_reducible rfl
           rotate_left
           · simp only [Act.put, List.setIfInBounds_toArray, List.set_cons_zero, List.set_cons_succ, i64_w, i32_w]
             rfl
           refine pure_ (i := 14) (N := some 63) (v := ?_) (a' := ?_) #[true, true, true, true, true, true, true, true, true, true, true, false, true, true, true, false, false, false, false, false, false, false, false, false, false] rfl rfl (any_of HT_.out (by kernel_rfl)) (fun _ _ _ h => h) (Or.inl ⟨by rfl, ?_⟩) ?_ ?_
           rotate_left
           · intro w'
             go_simp
             with_reducible rfl
           rotate_left
           · simp only [Act.put, List.setIfInBounds_toArray, List.set_cons_zero, List.set_cons_succ, i64_w, i32_w]
             rfl
           refine pure_ (i := 16) (N := some 65) (v := ?_) (a' := ?_) #[true, true, true, true, true, true, true, true, true, true, true, false, true, true, true, false, true, false, false, false, false, false, false, false, false] rfl rfl (any_of HT_.out (by kernel_rfl)) (fun _ _ _ h => h) (Or.inl ⟨by rfl, ?_⟩) ?_ ?_
           rotate_left
           · intro w'
             go_simp
             with_reducible rfl
           rotate_left
           · simp only [Act.put, List.setIfInBounds_toArray, List.set_cons_zero, List.set_cons_succ, i64_w, i32_w]
             rfl
           refine pure_ (i := 17) (N := some 66) (v := ?_) (a' := ?_) #[true, true, true, true, true, true, true, true, true, true, true, false, true, true, true, false, true, true, false, false, false, false, false, false, false] rfl rfl (any_of HT_.out (by kernel_rfl)) (fun _ _ _ h => h) (Or.inl ⟨by rfl, ?_⟩) ?_ ?_
           rotate_left
           · intro w'
             go_simp
             with_reducible rfl
           rotate_left
           · simp only [Act.put, List.setIfInBounds_toArray, List.set_cons_zero, List.set_cons_succ, i64_w, i32_w]
             rfl
           refine pure_ (i := 18) (N := some 67) (v := ?_) (a' := ?_) #[true, true, true, true, true, true, true, true, true, true, true, false, true, true, true, false, true, true, true, false, false, false, false, false, false] rfl rfl (any_of HT_.out (by kernel_rfl)) (fun _ _ _ h => h) (Or.inl ⟨by rfl, ?_⟩) ?_ ?_
           rotate_left
           · intro w'
             go_simp
             with_reducible rfl
           rotate_left
           · simp only [Act.put, List.setIfInBounds_toArray, List.set_cons_zero, List.set_cons_succ, i64_w, i32_w]
             rfl
           refine take_ (i := 11) (N := some 60) (v := ?_) (a' := ?_) #[true, true, true, true, true, true, true, true, true, true, true, true, true, true, true, false, true, true, true, false, false, false, false, false, false] rfl rfl (take_ofW HT_.out HW_.out (by kernel_rfl)) (fun _ _ _ h => h) (Or.inl ⟨by rfl, ?_⟩) hHeld ?_ ?_
           rotate_left
           · rintro w' ⟨s0, s1, s2, s3, s4, s5, s6, s7, s8, s9, s10, s11, s12, s13, s14, s15, s16⟩
             go_simp
             with_reducible rfl
           rotate_left
           · simp only [Act.put, List.setIfInBounds_toArray, List.set_cons_zero, List.set_cons_succ, i64_w, i32_w]
             rfl
           refine take_ (i := 15) (N := some 64) (v := ?_) (a' := ?_) #[true, true, true, true, true, true, true, true, true, true, true, true, true, true, true, true, true, true, true, false, false, false, false, false, false] rfl rfl (take_ofW HT_.out HW_.out (by kernel_rfl)) (fun _ _ _ h => h) (Or.inl ⟨by rfl, ?_⟩) hHeld ?_ ?_
           rotate_left
           · rintro w' ⟨s0, s1, s2, s3, s4, s5, s6, s7, s8, s9, s10, s11, s12, s13, s14, s15, s16⟩
             go_simp
             with_reducible rfl
           rotate_left
           · simp only [Act.put, List.setIfInBounds_toArray, List.set_cons_zero, List.set_cons_succ, i64_w, i32_w]
             rfl
           refine take_ (i := 19) (N := some 68) (v := ?_) (a' := ?_) #[true, true, true, true, true, true, true, true, true, true, true, true, true, true, true, true, true, true, true, true, false, false, false, false, false] rfl rfl (take_ofW HT_.out HW_.out (by kernel_rfl)) (fun _ _ _ h => h) (Or.inl ⟨by rfl, ?_⟩) hHeld ?_ ?_
           rotate_left
           · rintro w' ⟨s0, s1, s2, s3, s4, s5, s6, s7, s8, s9, s10, s11, s12, s13, s14, s15, s16⟩
             go_simp
             with_reducible rfl
           rotate_left
           · simp only [Act.put, List.setIfInBounds_toArray, List.set_cons_zero, List.set_cons_succ, i64_w, i32_w]
             rfl
           refine one_ (i := 20) (N := some 69) #[true, true, true, true, true, true, true, true, true, true, true, true, true, true, true, true, true, true, true, true, true, false, false, false, false] rfl rfl (one_of HT_.out (by kernel_rfl)) (by decide) (fun K hK => ?_)
           refine goes_ Try.func78 (by kernel_rfl) rfl #[.int .i64 ((rd_T108 x4_1 1).f0)] (by rfl) rfl rfl (by (try simp only [List.map_toArray, List.map_cons, List.map_nil]); first | done | rfl | (simp only [List.length_drop, List.length_take]; rfl)) ?_
           with_reducible refine (bound_Exact_api_Arc.calls k1 ((rd_T108 x4_1 1).f0) t126 t127 t128 _ A26.out).mono ?_
           rintro e w52 ⟨rfl, hb⟩
           have HS9_ := (hb.cell (World.block_lt_of_cell? _ _ (hHeld.2.2.2.2.2.2.2.2.2.1))).trans (hHeld.2.2.2.2.2.2.2.2.2.1)
           have HS10_ := (hb.cell (World.block_lt_of_cell? _ _ (hHeld.2.2.2.2.2.2.2.2.2.2.1))).trans (hHeld.2.2.2.2.2.2.2.2.2.2.1)
           have HS11_ := (hb.cell (World.block_lt_of_cell? _ _ (hHeld.2.2.2.2.2.2.2.2.2.2.2.1))).trans (hHeld.2.2.2.2.2.2.2.2.2.2.2.1)
           have HS12_ := (hb.cell (World.block_lt_of_cell? _ _ (hHeld.2.2.2.2.2.2.2.2.2.2.2.2.1))).trans (hHeld.2.2.2.2.2.2.2.2.2.2.2.2.1)
           have HS13_ := (hb.cell (World.block_lt_of_cell? _ _ (hHeld.2.2.2.2.2.2.2.2.2.2.2.2.2.1))).trans (hHeld.2.2.2.2.2.2.2.2.2.2.2.2.2.1)
           have HS14_ := (hb.cell (World.block_lt_of_cell? _ _ (hHeld.2.2.2.2.2.2.2.2.2.2.2.2.2.2.1))).trans (hHeld.2.2.2.2.2.2.2.2.2.2.2.2.2.2.1)
           have HS15_ := (hb.cell (World.block_lt_of_cell? _ _ (hHeld.2.2.2.2.2.2.2.2.2.2.2.2.2.2.2.1))).trans (hHeld.2.2.2.2.2.2.2.2.2.2.2.2.2.2.2.1)
           have HS16_ := (hb.cell (World.block_lt_of_cell? _ _ (hHeld.2.2.2.2.2.2.2.2.2.2.2.2.2.2.2.2))).trans (hHeld.2.2.2.2.2.2.2.2.2.2.2.2.2.2.2.2)
           refine ⟨_, rfl, ?_⟩
           have n0_ := Aside0.mk (Kd.R_below (by (with_reducible repeat (first | apply Kd.R_alloc | apply Kd.R_drewN | apply Kd.R_drew)); exact HO_4.out) hb)
           have n1_ := Aside0.mk (IsS25.below (by repeat (first | (with_reducible first | exact HI101.out | apply IsS25.alloc | apply IsS25.drewN | apply IsS25.drew | apply IsS25.set_1 | refine IsS25.far ?_ NB101_119.out _ | refine IsS25.far ?_ NB101_124.out _ | refine IsS25.far ?_ NB101_132.out _) | exact HI101.out)) hb)
           have n2_ := Aside0.mk (blk_below (g := gb119) (o := .cells #[.int .i64 t115, .int .i64 (wrap64 (t115 + t117)), .bool false] 96 (0, 0)) (by (with_reducible repeat (first | refine blk_drewN ?_ _ | refine blk_drew ?_ | refine blk_alloc ?_ _)); exact BK119.out) hb)
           have n3_ := Aside0.mk (blk_below (g := gb124) (o := .cells #[.int .i64 t120, .int .i64 t121, .bool t122] 96 (0, 0)) (by (with_reducible repeat (first | refine blk_drewN ?_ _ | refine blk_drew ?_ | refine blk_alloc ?_ _)); exact BK124.out) hb)
           have n4_ := Aside0.mk (blk_below (g := gb132) (o := .cells #[.int .i64 t129, .int .i64 t130, .bool t131] 96 (0, 0)) (by (with_reducible repeat (first | refine blk_drewN ?_ _ | refine blk_drew ?_ | refine blk_alloc ?_ _)); exact BK132.out) hb)
           have n5_ := Aside0.mk (below_step (by repeat (first | (with_reducible first | exact HB.out | apply below_alloc | apply pw_below_drewN | apply below_drew1 | refine below_set ?_ (IsS25.ge HI101.out) | refine below_set ?_ GE119.out | refine below_set ?_ GE124.out | refine below_set ?_ GE132.out) | exact HB.out)) hb)
           clear HO_4
           clear HI101
           clear BK119
           clear BK124
           clear BK132
           clear HB
           have HO_4 := n0_
           have HI101 := n1_
           have BK119 := n2_
           have BK124 := n3_
           have BK132 := n4_
           have HB := n5_
           clear n0_ n1_ n2_ n3_ n4_ n5_
           (try clear hb)
           (try clear hb2)
           (try clear hk)
           (try clear hi)
           refine hK.out _ _ ⟨(blk_cell BK124.out 0).trans rfl, (blk_cell BK124.out 1).trans rfl, (blk_cell BK124.out 2).trans rfl, (blk_cell BK119.out 0).trans rfl, (blk_cell BK119.out 1).trans rfl, (blk_cell BK119.out 2).trans rfl, (blk_cell BK132.out 0).trans rfl, (blk_cell BK132.out 1).trans rfl, (blk_cell BK132.out 2).trans rfl, HS9_, HS10_, HS11_, HS12_, HS13_, HS14_, HS15_, HS16_⟩ (fun hHeld => ?_)
           clear hK K
           refine norm_ (a' := ?_) ?_ ?_
           rotate_left
           · show Act.put _ (some 69) _ = _
             simp only [Act.put, List.setIfInBounds_toArray, List.set_cons_zero, List.set_cons_succ, i64_w, i32_w]
             rfl
           refine one_ (i := 21) (N := some 70) #[true, true, true, true, true, true, true, true, true, true, true, true, true, true, true, true, true, true, true, true, true, true, false, false, false] rfl rfl (one_of HT_.out (by kernel_rfl)) (by decide) (fun K hK => ?_)
           refine goes_ Try.func80 (by kernel_rfl) rfl #[.agg #[.int .i64 ((rd_T108 x4_1 1).f1.f0), .int .i64 ((rd_T108 x4_1 1).f1.f1), .bool ((rd_T108 x4_1 1).f1.f2)], .agg #[.int .i64 t126, .int .i64 t127, .bool t128]] (by rfl) rfl rfl (by (try simp only [List.map_toArray, List.map_cons, List.map_nil]); first | done | rfl | (simp only [List.length_drop, List.length_take]; rfl)) ?_
           with_reducible refine (bound_Add_api_Arc.calls k1 ((rd_T108 x4_1 1).f1.f0) ((rd_T108 x4_1 1).f1.f1) ((rd_T108 x4_1 1).f1.f2) t126 t127 t128 t146 t147 t148 _ A27.out).mono ?_
           rintro e w53 ⟨rfl, hb⟩
           have HS9_ := (hb.cell (World.block_lt_of_cell? _ _ (hHeld.2.2.2.2.2.2.2.2.2.1))).trans (hHeld.2.2.2.2.2.2.2.2.2.1)
           have HS10_ := (hb.cell (World.block_lt_of_cell? _ _ (hHeld.2.2.2.2.2.2.2.2.2.2.1))).trans (hHeld.2.2.2.2.2.2.2.2.2.2.1)
           have HS11_ := (hb.cell (World.block_lt_of_cell? _ _ (hHeld.2.2.2.2.2.2.2.2.2.2.2.1))).trans (hHeld.2.2.2.2.2.2.2.2.2.2.2.1)
           have HS12_ := (hb.cell (World.block_lt_of_cell? _ _ (hHeld.2.2.2.2.2.2.2.2.2.2.2.2.1))).trans (hHeld.2.2.2.2.2.2.2.2.2.2.2.2.1)
           have HS13_ := (hb.cell (World.block_lt_of_cell? _ _ (hHeld.2.2.2.2.2.2.2.2.2.2.2.2.2.1))).trans (hHeld.2.2.2.2.2.2.2.2.2.2.2.2.2.1)
           have HS14_ := (hb.cell (World.block_lt_of_cell? _ _ (hHeld.2.2.2.2.2.2.2.2.2.2.2.2.2.2.1))).trans (hHeld.2.2.2.2.2.2.2.2.2.2.2.2.2.2.1)
           have HS15_ := (hb.cell (World.block_lt_of_cell? _ _ (hHeld.2.2.2.2.2.2.2.2.2.2.2.2.2.2.2.1))).trans (hHeld.2.2.2.2.2.2.2.2.2.2.2.2.2.2.2.1)
           have HS16_ := (hb.cell (World.block_lt_of_cell? _ _ (hHeld.2.2.2.2.2.2.2.2.2.2.2.2.2.2.2.2))).trans (hHeld.2.2.2.2.2.2.2.2.2.2.2.2.2.2.2.2)
           refine ⟨_, rfl, ?_⟩
           have n0_ := Aside0.mk (Kd.R_below (by (with_reducible repeat (first | apply Kd.R_alloc | apply Kd.R_drewN | apply Kd.R_drew)); exact HO_4.out) hb)
           have n1_ := Aside0.mk (IsS25.below (by repeat (first | (with_reducible first | exact HI101.out | apply IsS25.alloc | apply IsS25.drewN | apply IsS25.drew | apply IsS25.set_1 | refine IsS25.far ?_ NB101_119.out _ | refine IsS25.far ?_ NB101_124.out _ | refine IsS25.far ?_ NB101_132.out _) | exact HI101.out)) hb)
           have n2_ := Aside0.mk (blk_below (g := gb119) (o := .cells #[.int .i64 t115, .int .i64 (wrap64 (t115 + t117)), .bool false] 96 (0, 0)) (by (with_reducible repeat (first | refine blk_drewN ?_ _ | refine blk_drew ?_ | refine blk_alloc ?_ _)); exact BK119.out) hb)
           have n3_ := Aside0.mk (blk_below (g := gb124) (o := .cells #[.int .i64 t120, .int .i64 t121, .bool t122] 96 (0, 0)) (by (with_reducible repeat (first | refine blk_drewN ?_ _ | refine blk_drew ?_ | refine blk_alloc ?_ _)); exact BK124.out) hb)
           have n4_ := Aside0.mk (blk_below (g := gb132) (o := .cells #[.int .i64 t129, .int .i64 t130, .bool t131] 96 (0, 0)) (by (with_reducible repeat (first | refine blk_drewN ?_ _ | refine blk_drew ?_ | refine blk_alloc ?_ _)); exact BK132.out) hb)
           have n5_ := Aside0.mk (below_step (by repeat (first | (with_reducible first | exact HB.out | apply below_alloc | apply pw_below_drewN | apply below_drew1 | refine below_set ?_ (IsS25.ge HI101.out) | refine below_set ?_ GE119.out | refine below_set ?_ GE124.out | refine below_set ?_ GE132.out) | exact HB.out)) hb)
           clear HO_4
           clear HI101
           clear BK119
           clear BK124
           clear BK132
           clear HB
           have HO_4 := n0_
           have HI101 := n1_
           have BK119 := n2_
           have BK124 := n3_
           have BK132 := n4_
           have HB := n5_
           clear n0_ n1_ n2_ n3_ n4_ n5_
           (try clear hb)
           (try clear hb2)
           (try clear hk)
           (try clear hi)
           refine hK.out _ _ ⟨(blk_cell BK124.out 0).trans rfl, (blk_cell BK124.out 1).trans rfl, (blk_cell BK124.out 2).trans rfl, (blk_cell BK119.out 0).trans rfl, (blk_cell BK119.out 1).trans rfl, (blk_cell BK119.out 2).trans rfl, (blk_cell BK132.out 0).trans rfl, (blk_cell BK132.out 1).trans rfl, (blk_cell BK132.out 2).trans rfl, HS9_, HS10_, HS11_, HS12_, HS13_, HS14_, HS15_, HS16_⟩ (fun hHeld => ?_)
           clear hK K
           refine norm_ (a' := ?_) ?_ ?_
           rotate_left
           · show Act.put _ (some 70) _ = _
             simp only [Act.put, List.setIfInBounds_toArray, List.set_cons_zero, List.set_cons_succ, i64_w, i32_w]
             rfl
           refine pure_ (i := 22) (N := some 71) (v := ?_) (a' := ?_) #[true, true, true, true, true, true, true, true, true, true, true, true, true, true, true, true, true, true, true, true, true, true, true, false, false] rfl rfl (any_of HT_.out (by kernel_rfl)) (fun _ _ _ h => h) (Or.inl ⟨by rfl, ?_⟩) ?_ ?_
           rotate_left
           · intro w'
             go_simp
             with_reducible rfl
           rotate_left
           · simp only [Act.put, List.setIfInBounds_toArray, List.set_cons_zero, List.set_cons_succ, i64_w, i32_w]
             rfl
           refine pure_ (i := 23) (N := some 72) (v := ?_) (a' := ?_) #[true, true, true, true, true, true, true, true, true, true, true, true, true, true, true, true, true, true, true, true, true, true, true, true, false] rfl rfl (any_of HT_.out (by kernel_rfl)) (fun _ _ _ h => h) (Or.inl ⟨by rfl, ?_⟩) ?_ ?_
           rotate_left
           · intro w'
             go_simp
             with_reducible rfl
           rotate_left
           · simp only [Act.put, List.setIfInBounds_toArray, List.set_cons_zero, List.set_cons_succ, i64_w, i32_w]
             rfl
           refine pure_ (i := 24) (N := some 2) (v := ?_) (a' := ?_) #[true, true, true, true, true, true, true, true, true, true, true, true, true, true, true, true, true, true, true, true, true, true, true, true, true] rfl rfl (any_of HT_.out (by kernel_rfl)) (fun _ _ _ h => h) (Or.inl ⟨by rfl, ?_⟩) ?_ ?_
           rotate_left
           · intro w'
             go_simp
             with_reducible rfl
           rotate_left
           · simp only [Act.put, List.setIfInBounds_toArray, List.set_cons_zero, List.set_cons_succ, i64_w, i32_w]
             rfl
           refine done_ (done_of HT_.out (by kernel_rfl)) ?_
           try go_wp2
           go_ret
           exact ⟨by first | rfl | (simp [errW_none, errW_some] <;> rfl) | (simp [*, errW_none, errW_some] <;> rfl), by repeat (first | (with_reducible first | exact HB.out | apply below_alloc | apply pw_below_drewN | apply below_drew1 | refine below_set ?_ (IsS25.ge HI101.out) | refine below_set ?_ GE119.out | refine below_set ?_ GE124.out | refine below_set ?_ GE132.out) | exact HB.out)⟩
         · replace c25 := Bool.eq_false_iff.mpr c25
           subst c25
           have H1 : (none) = some r := by rw [if_neg (show ¬ (false = true) by decide)] at H; exact H
           clear H
           have H := H1
           clear H1
           exact absurd H (by simp)
       · replace c21 := Bool.eq_false_iff.mpr c21
         subst c21
         have H1 : (none) = some r := by rw [if_neg (show ¬ (false = true) by decide)] at H; exact H
         clear H
         have H := H1
         clear H1
         exact absurd H (by simp)
     · rw [if_neg c17] at H
       exact absurd H (by simp)

/-- THE ONE PURE STATEMENT of spykeep1_HorizonLifted: yours. -/
def spykeep1_HorizonLifted.Pure : Prop := ∀ (l0 : List Int), l0.length ≤ maxLen → l0.length * 8 ≤ 140737488351232 → (∀ x ∈ l0, (Lit.int .i64 x).wf = true) → ∃ k, spykeep1_HorizonLifted.f k l0 = some true
theorem spykeep1_HorizonLifted.walk (P : spykeep1_HorizonLifted.Pure) (a0 : Option Addr) (len0 cap0 : Nat) (z0 : List Int) (w : World) (w0 : (a0 = none ∧ len0 = 0 ∧ cap0 = 0 ∧ z0 = []) ∨ ∃ x, a0 = some x ∧ len0 ≤ cap0 ∧ cap0 ≤ maxLen ∧ z0.length = cap0 ∧ (∀ i, i < z0.length → w.cell? (x.add i) = some (.int .i64 (z0.getD i 0))) ∧ ∀ n ∈ z0, (Lit.int .i64 n).wf = true) (y0 : len0 * 8 ≤ 140737488351232) :
 Calls Try.prog 12 #[.slice a0 len0 cap0] w fun e w' => e = .returned (.bool true) ∧ Below w.heap.size w w' := by
 obtain ⟨l0, rfl, hr0, hm0, hw0, hc0⟩ := ReadsInt.ofRowC w0
 obtain ⟨k, h⟩ := P l0 hm0 y0 hw0
 refine (spykeep1_HorizonLifted.calls k _ _ l0 true w (Kd.C_of_reads (d := (0 : Int)) (h1 := fun _ => rfl) hr0) hc0 h).mono ?_
 rintro e w' ⟨rfl, hd⟩
 exact ⟨rfl, hd⟩

end Go.Proofs.Ytpophefonhpnmaa.Q
