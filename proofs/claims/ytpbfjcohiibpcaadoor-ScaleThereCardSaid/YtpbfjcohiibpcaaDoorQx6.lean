/- Contracts of Go functions of the seat, one by one: each call returns what the Lean function of the same name says, wherever that is 'some'; no other condition. Written by a program of this session. -/
import Derived.Test.YtpbfjcohiibpcaaDoorQx0
import Derived.Test.YtpbfjcohiibpcaaDoorQx2
import Derived.Test.YtpbfjcohiibpcaaDoorQx3
namespace Go.Proofs.YtpbfjcohiibpcaaDoor.Q
open Go.RowKit Go.Proofs.YtpbfjcohiibpcaaDoorW.PrintWords Go.Proofs.YtpbfjcohiibpcaaDoorW.PrintLast Go.Proofs.YtpbfjcohiibpcaaDoorW.PrintMore
attribute [local go_sem] max2_int min2_int max_two min_two max_three min_three max_four min_four   -- for this text's walks alone
set_option linter.unusedVariables false
set_option linter.unusedSimpArgs false

/-! ### scale_ToUniform: function 10 -/
def scale_ToUniform.j0 : Nat → Int → Int → Bool → Int → Int → Int → Int → Int → Int → Int → Option (Int × Int)
 | 0, _, _, _, _, _, _, _, _, _, _ => none
 | k + 1, x8, x9, x49, x102000, x102001, x102002, x102003, x102004, x102005, x102006 => if x49 = true then (some (0, 8)) else (if (wrap64 ((wrap64 ((wrap64 ((wrap64 (x8 * 86400000)) + (wrap64 ((wrap64 ((wrap64 (x102003 * 60)) + x102004)) * 60000)))) + (wrap64 ((wrap64 (x102005 + x9)) * 1000)))) + x102006)) < (-17592186044416) then (some (0, 2)) else (if (wrap64 ((wrap64 ((wrap64 ((wrap64 (x8 * 86400000)) + (wrap64 ((wrap64 ((wrap64 (x102003 * 60)) + x102004)) * 60000)))) + (wrap64 ((wrap64 (x102005 + x9)) * 1000)))) + x102006)) > 17592186044416 then (some (0, 2)) else (some (wrap64 ((wrap64 ((wrap64 ((wrap64 (x8 * 86400000)) + (wrap64 ((wrap64 ((wrap64 (x102003 * 60)) + x102004)) * 60000)))) + (wrap64 ((wrap64 (x102005 + x9)) * 1000)))) + x102006), 0))))
def scale_ToUniform.f (k : Nat) (a0_0 : Int) (a0_1 : Int) (a0_2 : Int) (a0_3 : Int) (a0_4 : Int) (a0_5 : Int) (a0_6 : Int) (l1 : List (S45)) : Option (Int × Int) := (scale_Check.f k a0_0 a0_1 a0_2 a0_3 a0_4 a0_5 a0_6).bind fun t102 => (if t102 = 0 then ((scale_CheckLeaps.f k l1).bind fun t103 => (if t103 = 0 then ((scale_days.f a0_0 a0_1 a0_2).bind fun t104 => ((scale_before.f k l1 t104).bind fun bt105 => (if a0_3 = 23 then (if a0_4 = 59 then (scale_ToUniform.j0 k t104 bt105.1 (decide (a0_5 > (wrap64 (59 + bt105.2)))) a0_0 a0_1 a0_2 a0_3 a0_4 a0_5 a0_6) else (scale_ToUniform.j0 k t104 bt105.1 false a0_0 a0_1 a0_2 a0_3 a0_4 a0_5 a0_6)) else (scale_ToUniform.j0 k t104 bt105.1 false a0_0 a0_1 a0_2 a0_3 a0_4 a0_5 a0_6)))) else (some (0, t103)))) else (some (0, t102)))
theorem scale_ToUniform.mono_l : ∀ k, (∀ y0 y1 y2 y3 y4 y5 y6 y7 y8 y9, LeO (scale_ToUniform.j0 k y0 y1 y2 y3 y4 y5 y6 y7 y8 y9) (scale_ToUniform.j0 (k + 1) y0 y1 y2 y3 y4 y5 y6 y7 y8 y9))
 | 0 => fun _ _ _ _ _ _ _ _ _ _ r h => by simp [scale_ToUniform.j0] at h
 | k + 1 => by
  have ih0 := scale_ToUniform.mono_l k
  · intro y0 y1 y2 y3 y4 y5 y6 y7 y8 y9
    unfold scale_ToUniform.j0
    repeat' first
    | (with_reducible exact ih0 _ _ _ _ _ _ _ _ _ _)
    | (with_reducible exact scale_Check.mono _ _ _ _ _ _ _ _)
    | (with_reducible exact scale_CheckLeaps.mono _ _)
    | (with_reducible exact scale_before.mono _ _ _)
    | (with_reducible exact LeO.refl _)
    | (with_reducible exact LeO.none _)
    | (with_reducible refine LeO.ite ?_ ?_)
    | (with_reducible refine LeO.bind ?_ (fun _ => ?_))
    | exact ih0 _ _ _ _ _ _ _ _ _ _
    | exact scale_Check.mono _ _ _ _ _ _ _ _
    | exact scale_CheckLeaps.mono _ _
    | exact scale_before.mono _ _ _
    | exact LeO.none _
    | refine LeO.ite ?_ ?_
    | refine LeO.bind ?_ (fun _ => ?_)
theorem scale_ToUniform.mono : ∀ a0 a1 a2 a3 a4 a5 a6 a7 k, LeO (scale_ToUniform.f k a0 a1 a2 a3 a4 a5 a6 a7) (scale_ToUniform.f (k + 1) a0 a1 a2 a3 a4 a5 a6 a7) := by
 intro a0 a1 a2 a3 a4 a5 a6 a7 k
 have ih0 := scale_ToUniform.mono_l k
 unfold scale_ToUniform.f
 repeat' first
  | (with_reducible exact ih0 _ _ _ _ _ _ _ _ _ _)
  | (with_reducible exact scale_Check.mono _ _ _ _ _ _ _ _)
  | (with_reducible exact scale_CheckLeaps.mono _ _)
  | (with_reducible exact scale_before.mono _ _ _)
  | (with_reducible exact LeO.refl _)
  | (with_reducible exact LeO.none _)
  | (with_reducible refine LeO.ite ?_ ?_)
  | (with_reducible refine LeO.bind ?_ (fun _ => ?_))
  | exact ih0 _ _ _ _ _ _ _ _ _ _
  | exact scale_Check.mono _ _ _ _ _ _ _ _
  | exact scale_CheckLeaps.mono _ _
  | exact scale_before.mono _ _ _
  | exact LeO.none _
  | refine LeO.ite ?_ ?_
  | refine LeO.bind ?_ (fun _ => ?_)
set_option maxHeartbeats 8000000 in
set_option maxRecDepth 100000 in
theorem scale_ToUniform.calls (k : Nat) (a0_0 : Int) (a0_1 : Int) (a0_2 : Int) (a0_3 : Int) (a0_4 : Int) (a0_5 : Int) (a0_6 : Int) (A1 : Option Addr) (c1 : Nat) (l1 : List (S45)) (r1 : Int) (r2 : Int) (w : World) (hr1 : Kd.C k45 w A1 l1.length l1) (hc1 : l1.length ≤ c1) (h : scale_ToUniform.f k a0_0 a0_1 a0_2 a0_3 a0_4 a0_5 a0_6 l1 = some (r1, r2)) :
 Calls Tryd.prog 10 #[.agg #[.int .i64 a0_0, .int .i64 a0_1, .int .i64 a0_2, .int .i64 a0_3, .int .i64 a0_4, .int .i64 a0_5, .int .i64 a0_6], .slice A1 l1.length c1] w fun e w' => e = .returned (.tuple #[.int .i64 r1, .int .i64 r2]) ∧ Below w.heap.size w w' := by
  have hu32 := Tryd.underlying32
  have HR1 := Aside0.mk hr1
  have HC1 := Aside0.mk hc1
  clear hr1 hc1
  have HB := Aside0.mk (Below.refl w.heap.size w)
  have H : ((scale_Check.f k a0_0 a0_1 a0_2 a0_3 a0_4 a0_5 a0_6).bind fun t102 => (if t102 = 0 then ((scale_CheckLeaps.f k l1).bind fun t103 => (if t103 = 0 then ((scale_days.f a0_0 a0_1 a0_2).bind fun t104 => ((scale_before.f k l1 t104).bind fun bt105 => (if a0_3 = 23 then (if a0_4 = 59 then (scale_ToUniform.j0 k t104 bt105.1 (decide (a0_5 > (wrap64 (59 + bt105.2)))) a0_0 a0_1 a0_2 a0_3 a0_4 a0_5 a0_6) else (scale_ToUniform.j0 k t104 bt105.1 false a0_0 a0_1 a0_2 a0_3 a0_4 a0_5 a0_6)) else (scale_ToUniform.j0 k t104 bt105.1 false a0_0 a0_1 a0_2 a0_3 a0_4 a0_5 a0_6)))) else (some (0, t103)))) else (some (0, t102)))) = some (r1, r2) := h
  clear h
  replace H := Option.bind_eq_some_iff.mp H
  obtain ⟨t102, A30, H⟩ := H
  try dsimp -simprocs only at H
  have A3 := Aside0.mk A30
  clear A30
  by_cases c4 : t102 = 0
  rotate_left
  · rw [if_neg c4] at H
    have c4b0 : (t102 == 0) = false := beq_eq_false_iff_ne.mpr c4
    have c4b1 : (t102 != 0) = true := bne_iff_ne.mpr c4
    simp only [Option.some.injEq, Prod.mk.injEq] at H
    obtain ⟨rfl, rfl⟩ := H
    go_enter Tryd.func10, Tryd.ntmps10
    go_wp2_with (first | ((with_reducible refine gate_dst (N := 2) rfl ?_); refine bxq_ 2 #[.int .i64 a0_0, .int .i64 a0_1, .int .i64 a0_2, .int .i64 a0_3, .int .i64 a0_4, .int .i64 a0_5, .int .i64 a0_6] 32 ?_; intro gb101 hg w31 hbox hb; have BK101 := Aside0.mk (hbox); have GW101 := gwq_ HB hg rfl; have GE101 := GW101; replace HB := hbs_ HB hb rfl rfl rfl rfl; clear hb hbox hg; have hcz32_0 := bc_ BK101 0 rfl; have hcz32_1 := bc_ BK101 1 rfl; have hcz32_2 := bc_ BK101 2 rfl; have hcz32_3 := bc_ BK101 3 rfl; have hcz32_4 := bc_ BK101 4 rfl; have hcz32_5 := bc_ BK101 5 rfl; have hcz32_6 := bc_ BK101 6 rfl; have hfz32_0 := blk_frozen BK101.out 0; have hfz32_1 := blk_frozen BK101.out 1; have hfz32_2 := blk_frozen BK101.out 2; have hfz32_3 := blk_frozen BK101.out 3; have hfz32_4 := blk_frozen BK101.out 4; have hfz32_5 := blk_frozen BK101.out 5; have hfz32_6 := blk_frozen BK101.out 6) | ((with_reducible refine gate_callee (f := 18) rfl ?_); refine glq_ (some 13) Tryd.func18 #[.agg #[.int .i64 a0_0, .int .i64 a0_1, .int .i64 a0_2, .int .i64 a0_3, .int .i64 a0_4, .int .i64 a0_5, .int .i64 a0_6]] ?_; (with_reducible refine (scale_Check.calls k a0_0 a0_1 a0_2 a0_3 a0_4 a0_5 a0_6 t102 _ A3.out).mono ?_); rintro e w33 ⟨rfl, hb⟩; refine ⟨_, rfl, ?_⟩; replace BK101 := bkb_ BK101 hb rfl; replace HB := hbs_ HB hb rfl rfl rfl rfl; (try clear hb)))
    go_ret2
    exact ⟨by first | rfl | (simp [errW_none, errW_some] <;> rfl) | (simp [*, errW_none, errW_some] <;> rfl), by repeat (first | (with_reducible first | exact HB.out | apply below_alloc | apply pw_below_drewN | apply below_drew1 | refine below_set ?_ GE101.out) | exact HB.out)⟩
  rw [if_pos c4] at H
  have c4b0 : (t102 == 0) = true := beq_iff_eq.mpr c4
  have c4b1 : (t102 != 0) = false := bne_eq_false_iff_eq.mpr c4
  clear c4
  replace H := Option.bind_eq_some_iff.mp H
  obtain ⟨t103, A50, H⟩ := H
  try dsimp -simprocs only at H
  have A5 := Aside0.mk A50
  clear A50
  by_cases c6 : t103 = 0
  rotate_left
  · rw [if_neg c6] at H
    have c6b0 : (t103 == 0) = false := beq_eq_false_iff_ne.mpr c6
    have c6b1 : (t103 != 0) = true := bne_iff_ne.mpr c6
    simp only [Option.some.injEq, Prod.mk.injEq] at H
    obtain ⟨rfl, rfl⟩ := H
    go_enter Tryd.func10, Tryd.ntmps10
    go_wp2_with (first | ((with_reducible refine gate_dst (N := 2) rfl ?_); refine bxq_ 2 #[.int .i64 a0_0, .int .i64 a0_1, .int .i64 a0_2, .int .i64 a0_3, .int .i64 a0_4, .int .i64 a0_5, .int .i64 a0_6] 32 ?_; intro gb101 hg w27 hbox hb; have BK101 := Aside0.mk (hbox); have GW101 := gwq_ HB hg rfl; have GE101 := GW101; replace HB := hbs_ HB hb rfl rfl rfl rfl; clear hb hbox hg; have hcz28_0 := bc_ BK101 0 rfl; have hcz28_1 := bc_ BK101 1 rfl; have hcz28_2 := bc_ BK101 2 rfl; have hcz28_3 := bc_ BK101 3 rfl; have hcz28_4 := bc_ BK101 4 rfl; have hcz28_5 := bc_ BK101 5 rfl; have hcz28_6 := bc_ BK101 6 rfl; have hfz28_0 := blk_frozen BK101.out 0; have hfz28_1 := blk_frozen BK101.out 1; have hfz28_2 := blk_frozen BK101.out 2; have hfz28_3 := blk_frozen BK101.out 3; have hfz28_4 := blk_frozen BK101.out 4; have hfz28_5 := blk_frozen BK101.out 5; have hfz28_6 := blk_frozen BK101.out 6) | ((with_reducible refine gate_callee (f := 18) rfl ?_); refine glq_ (some 13) Tryd.func18 #[.agg #[.int .i64 a0_0, .int .i64 a0_1, .int .i64 a0_2, .int .i64 a0_3, .int .i64 a0_4, .int .i64 a0_5, .int .i64 a0_6]] ?_; (with_reducible refine (scale_Check.calls k a0_0 a0_1 a0_2 a0_3 a0_4 a0_5 a0_6 t102 _ A3.out).mono ?_); rintro e w29 ⟨rfl, hb⟩; refine ⟨_, rfl, ?_⟩; replace BK101 := bkb_ BK101 hb rfl; replace HB := hbs_ HB hb rfl rfl rfl rfl; (try clear hb)) | ((with_reducible refine gate_callee (f := 14) rfl ?_); refine glq_ (some 18) Tryd.func14 #[.slice A1 l1.length c1] ?_; (with_reducible refine (scale_CheckLeaps.calls k _ _ l1 t103 _ ?side1 ?side2 A5.out).mono ?_); (case side1 => repeat (first | exact (Kd.C_below HR1.out HB.out) | (with_reducible refine Kd.C_alloc ?_ _) | (with_reducible refine Kd.C_drewN ?_ _) | (with_reducible refine Kd.C_drew ?_))); (case side2 => exact HC1.out); rintro e w30 ⟨rfl, hb⟩; refine ⟨_, rfl, ?_⟩; replace BK101 := bkb_ BK101 hb rfl; replace HB := hbs_ HB hb rfl rfl rfl rfl; (try clear hb)))
    go_ret2
    exact ⟨by first | rfl | (simp [errW_none, errW_some] <;> rfl) | (simp [*, errW_none, errW_some] <;> rfl), by repeat (first | (with_reducible first | exact HB.out | apply below_alloc | apply pw_below_drewN | apply below_drew1 | refine below_set ?_ GE101.out) | exact HB.out)⟩
  rw [if_pos c6] at H
  have c6b0 : (t103 == 0) = true := beq_iff_eq.mpr c6
  have c6b1 : (t103 != 0) = false := bne_eq_false_iff_eq.mpr c6
  clear c6
  replace H := Option.bind_eq_some_iff.mp H
  obtain ⟨t104, A70, H⟩ := H
  try dsimp -simprocs only at H
  have A7 := Aside0.mk A70
  clear A70
  replace H := Option.bind_eq_some_iff.mp H
  obtain ⟨⟨t105, t106⟩, A80, H⟩ := H
  try dsimp -simprocs only at H
  have A8 := Aside0.mk A80
  clear A80
  have HC9 := Aside0.mk H
  clear H
  go_enter Tryd.func10, Tryd.ntmps10
  go_upto_region 9 with (first | ((with_reducible refine gate_dst (N := 2) rfl ?_); refine bxq_ 2 #[.int .i64 a0_0, .int .i64 a0_1, .int .i64 a0_2, .int .i64 a0_3, .int .i64 a0_4, .int .i64 a0_5, .int .i64 a0_6] 32 ?_; intro gb101 hg w10 hbox hb; have BK101 := Aside0.mk (hbox); have GW101 := gwq_ HB hg rfl; have GE101 := GW101; replace HB := hbs_ HB hb rfl rfl rfl rfl; clear hb hbox hg; have hcz11_0 := bc_ BK101 0 rfl; have hcz11_1 := bc_ BK101 1 rfl; have hcz11_2 := bc_ BK101 2 rfl; have hcz11_3 := bc_ BK101 3 rfl; have hcz11_4 := bc_ BK101 4 rfl; have hcz11_5 := bc_ BK101 5 rfl; have hcz11_6 := bc_ BK101 6 rfl; have hfz11_0 := blk_frozen BK101.out 0; have hfz11_1 := blk_frozen BK101.out 1; have hfz11_2 := blk_frozen BK101.out 2; have hfz11_3 := blk_frozen BK101.out 3; have hfz11_4 := blk_frozen BK101.out 4; have hfz11_5 := blk_frozen BK101.out 5; have hfz11_6 := blk_frozen BK101.out 6) | ((with_reducible refine gate_callee (f := 18) rfl ?_); refine glq_ (some 13) Tryd.func18 #[.agg #[.int .i64 a0_0, .int .i64 a0_1, .int .i64 a0_2, .int .i64 a0_3, .int .i64 a0_4, .int .i64 a0_5, .int .i64 a0_6]] ?_; (with_reducible refine (scale_Check.calls k a0_0 a0_1 a0_2 a0_3 a0_4 a0_5 a0_6 t102 _ A3.out).mono ?_); rintro e w12 ⟨rfl, hb⟩; refine ⟨_, rfl, ?_⟩; replace BK101 := bkb_ BK101 hb rfl; replace HB := hbs_ HB hb rfl rfl rfl rfl; (try clear hb)) | ((with_reducible refine gate_callee (f := 14) rfl ?_); refine glq_ (some 18) Tryd.func14 #[.slice A1 l1.length c1] ?_; (with_reducible refine (scale_CheckLeaps.calls k _ _ l1 t103 _ ?side1 ?side2 A5.out).mono ?_); (case side1 => repeat (first | exact (Kd.C_below HR1.out HB.out) | (with_reducible refine Kd.C_alloc ?_ _) | (with_reducible refine Kd.C_drewN ?_ _) | (with_reducible refine Kd.C_drew ?_))); (case side2 => exact HC1.out); rintro e w13 ⟨rfl, hb⟩; refine ⟨_, rfl, ?_⟩; replace BK101 := bkb_ BK101 hb rfl; replace HB := hbs_ HB hb rfl rfl rfl rfl; (try clear hb); have hcz14_0 := bc_ BK101 0 rfl; have hcz14_1 := bc_ BK101 1 rfl; have hcz14_2 := bc_ BK101 2 rfl; have hcz14_3 := bc_ BK101 3 rfl; have hcz14_4 := bc_ BK101 4 rfl; have hcz14_5 := bc_ BK101 5 rfl; have hcz14_6 := bc_ BK101 6 rfl; have hfz14_0 := blk_frozen BK101.out 0; have hfz14_1 := blk_frozen BK101.out 1; have hfz14_2 := blk_frozen BK101.out 2; have hfz14_3 := blk_frozen BK101.out 3; have hfz14_4 := blk_frozen BK101.out 4; have hfz14_5 := blk_frozen BK101.out 5; have hfz14_6 := blk_frozen BK101.out 6) | ((with_reducible refine gate_callee (f := 20) rfl ?_); refine glq_ (some 28) Tryd.func20 #[.int .i64 a0_0, .int .i64 a0_1, .int .i64 a0_2] ?_; (with_reducible refine (scale_days.calls a0_0 a0_1 a0_2 t104 _ A7.out).mono ?_); rintro e w' ⟨rfl, ⟨nd, rfl⟩⟩; refine ⟨_, rfl, ?_⟩) | ((with_reducible refine gate_callee (f := 16) rfl ?_); refine glq_ (some 32) Tryd.func16 #[.slice A1 l1.length c1, .int .i64 t104] ?_; (with_reducible refine (scale_before.calls k _ _ l1 t104 t105 t106 _ ?side1 ?side2 A8.out).mono ?_); (case side1 => repeat (first | exact (Kd.C_below HR1.out (by repeat (first | (with_reducible first | exact HB.out | apply below_alloc | apply pw_below_drewN | apply below_drew1 | refine below_set ?_ GE101.out) | exact HB.out))) | (with_reducible refine Kd.C_alloc ?_ _) | (with_reducible refine Kd.C_drewN ?_ _) | (with_reducible refine Kd.C_drew ?_))); (case side2 => exact HC1.out); rintro e w15 ⟨rfl, hb⟩; refine ⟨_, rfl, ?_⟩; replace BK101 := bkb_ BK101 hb rfl; replace HB := hbs_ HB hb rfl rfl rfl rfl; (try clear hb)))
  (try simp only [Act.put, List.setIfInBounds_toArray, List.set_cons_zero, List.set_cons_succ])
  go_cut [49] (fun v49 wc => ∃ (kq : Nat) (x49_8 : Bool), v49 = .bool x49_8 ∧ Aside0 (scale_ToUniform.j0 kq t104 t105 x49_8 a0_0 a0_1 a0_2 a0_3 a0_4 a0_5 a0_6 = some (r1, r2)) ∧ Aside0 (kq ≤ k) ∧ Aside0 (wc.heap[gb101]? = some (.cells #[.int .i64 a0_0, .int .i64 a0_1, .int .i64 a0_2, .int .i64 a0_3, .int .i64 a0_4, .int .i64 a0_5, .int .i64 a0_6] 32 (0, 0))) ∧ Aside0 (Below w.heap.size w wc))
  case first =>
   have H := HC9.out
   clear HC9
   by_cases c16 : a0_3 = 23
   · rw [if_pos c16] at H
     have c16b0 : (a0_3 == 23) = true := beq_iff_eq.mpr c16
     have c16b1 : (a0_3 != 23) = false := bne_eq_false_iff_eq.mpr c16
     clear c16
     (first | rw [c16b0] | (simp only [i64_w, i32_w]; rw [c16b0]) | skip)
     by_cases c17 : a0_4 = 59
     · rw [if_pos c17] at H
       have c17b0 : (a0_4 == 59) = true := beq_iff_eq.mpr c17
       have c17b1 : (a0_4 != 59) = false := bne_eq_false_iff_eq.mpr c17
       clear c17
       have H' := Aside0.mk H
       clear H
       have hcz18_0 := bc_ BK101 0 rfl
       have hcz18_1 := bc_ BK101 1 rfl
       have hcz18_2 := bc_ BK101 2 rfl
       have hcz18_3 := bc_ BK101 3 rfl
       have hcz18_4 := bc_ BK101 4 rfl
       have hcz18_5 := bc_ BK101 5 rfl
       have hcz18_6 := bc_ BK101 6 rfl
       have hfz18_0 := blk_frozen BK101.out 0
       have hfz18_1 := blk_frozen BK101.out 1
       have hfz18_2 := blk_frozen BK101.out 2
       have hfz18_3 := blk_frozen BK101.out 3
       have hfz18_4 := blk_frozen BK101.out 4
       have hfz18_5 := blk_frozen BK101.out 5
       have hfz18_6 := blk_frozen BK101.out 6
       go_wp2
       go_meet
       case rel => exact ⟨_, (decide (a0_5 > (wrap64 (59 + t106)))), (by first | rfl | (simp; done) | (simp [*]; done)), H', ⟨by first | omega | exact Nat.le_refl _⟩, ⟨by (with_reducible repeat (first | refine blk_drewN ?_ _ | refine blk_drew ?_ | refine blk_alloc ?_ _)); exact BK101.out⟩, ⟨by repeat (first | (with_reducible first | exact HB.out | apply below_alloc | apply pw_below_drewN | apply below_drew1 | refine below_set ?_ GE101.out) | exact HB.out)⟩⟩
     rw [if_neg c17] at H
     have c17b0 : (a0_4 == 59) = false := beq_eq_false_iff_ne.mpr c17
     have c17b1 : (a0_4 != 59) = true := bne_iff_ne.mpr c17
     have H' := Aside0.mk H
     clear H
     have hcz19_0 := bc_ BK101 0 rfl
     have hcz19_1 := bc_ BK101 1 rfl
     have hcz19_2 := bc_ BK101 2 rfl
     have hcz19_3 := bc_ BK101 3 rfl
     have hcz19_4 := bc_ BK101 4 rfl
     have hcz19_5 := bc_ BK101 5 rfl
     have hcz19_6 := bc_ BK101 6 rfl
     have hfz19_0 := blk_frozen BK101.out 0
     have hfz19_1 := blk_frozen BK101.out 1
     have hfz19_2 := blk_frozen BK101.out 2
     have hfz19_3 := blk_frozen BK101.out 3
     have hfz19_4 := blk_frozen BK101.out 4
     have hfz19_5 := blk_frozen BK101.out 5
     have hfz19_6 := blk_frozen BK101.out 6
     go_wp2
     go_meet
     case rel => exact ⟨_, (false), (by first | rfl | (simp; done) | (simp [*]; done)), H', ⟨by first | omega | exact Nat.le_refl _⟩, ⟨by (with_reducible repeat (first | refine blk_drewN ?_ _ | refine blk_drew ?_ | refine blk_alloc ?_ _)); exact BK101.out⟩, ⟨by repeat (first | (with_reducible first | exact HB.out | apply below_alloc | apply pw_below_drewN | apply below_drew1 | refine below_set ?_ GE101.out) | exact HB.out)⟩⟩
   rw [if_neg c16] at H
   have c16b0 : (a0_3 == 23) = false := beq_eq_false_iff_ne.mpr c16
   have c16b1 : (a0_3 != 23) = true := bne_iff_ne.mpr c16
   (first | rw [c16b0] | (simp only [i64_w, i32_w]; rw [c16b0]) | skip)
   have H' := Aside0.mk H
   clear H
   have hcz20_0 := bc_ BK101 0 rfl
   have hcz20_1 := bc_ BK101 1 rfl
   have hcz20_2 := bc_ BK101 2 rfl
   have hcz20_3 := bc_ BK101 3 rfl
   have hcz20_4 := bc_ BK101 4 rfl
   have hcz20_5 := bc_ BK101 5 rfl
   have hcz20_6 := bc_ BK101 6 rfl
   have hfz20_0 := blk_frozen BK101.out 0
   have hfz20_1 := blk_frozen BK101.out 1
   have hfz20_2 := blk_frozen BK101.out 2
   have hfz20_3 := blk_frozen BK101.out 3
   have hfz20_4 := blk_frozen BK101.out 4
   have hfz20_5 := blk_frozen BK101.out 5
   have hfz20_6 := blk_frozen BK101.out 6
   go_wp2
   go_meet
   case rel => exact ⟨_, (false), (by first | rfl | (simp; done) | (simp [*]; done)), H', ⟨by first | omega | exact Nat.le_refl _⟩, ⟨by (with_reducible repeat (first | refine blk_drewN ?_ _ | refine blk_drew ?_ | refine blk_alloc ?_ _)); exact BK101.out⟩, ⟨by repeat (first | (with_reducible first | exact HB.out | apply below_alloc | apply pw_below_drewN | apply below_drew1 | refine below_set ?_ GE101.out) | exact HB.out)⟩⟩
  case rest =>
   clear HC9
   obtain ⟨kq, x49_8, rfl, HA, HJ8, BK101, HB⟩ := hcut
   cases kq with
   | zero => exact absurd HA.out (by simp [scale_ToUniform.j0])
   | succ kj8 =>
    have H := HA.out
    clear HA
    simp only [scale_ToUniform.j0] at H
    by_cases c21 : x49_8 = true
    · subst c21
      rw [if_pos rfl] at H
      simp only [Option.some.injEq, Prod.mk.injEq] at H
      obtain ⟨rfl, rfl⟩ := H
      go_wp2
      go_ret2
      exact ⟨by first | rfl | (simp [errW_none, errW_some] <;> rfl) | (simp [*, errW_none, errW_some] <;> rfl), by repeat (first | (with_reducible first | exact HB.out | apply below_alloc | apply pw_below_drewN | apply below_drew1 | refine below_set ?_ GE101.out) | exact HB.out)⟩
    replace c21 := Bool.eq_false_iff.mpr c21
    subst c21
    rw [if_neg (show ¬ (false = true) by decide)] at H
    by_cases c22 : (wrap64 ((wrap64 ((wrap64 ((wrap64 (t104 * 86400000)) + (wrap64 ((wrap64 ((wrap64 (a0_3 * 60)) + a0_4)) * 60000)))) + (wrap64 ((wrap64 (a0_5 + t105)) * 1000)))) + a0_6)) < (-17592186044416)
    · rw [if_pos c22] at H
      have c22b0 : decide ((wrap64 ((wrap64 ((wrap64 ((wrap64 (t104 * 86400000)) + (wrap64 ((wrap64 ((wrap64 (a0_3 * 60)) + a0_4)) * 60000)))) + (wrap64 ((wrap64 (a0_5 + t105)) * 1000)))) + a0_6)) < (-17592186044416)) = true := decide_eq_true c22
      clear c22
      simp only [Option.some.injEq, Prod.mk.injEq] at H
      obtain ⟨rfl, rfl⟩ := H
      have hcz23_0 := bc_ BK101 0 rfl
      have hcz23_1 := bc_ BK101 1 rfl
      have hcz23_2 := bc_ BK101 2 rfl
      have hcz23_3 := bc_ BK101 3 rfl
      have hcz23_4 := bc_ BK101 4 rfl
      have hcz23_5 := bc_ BK101 5 rfl
      have hcz23_6 := bc_ BK101 6 rfl
      have hfz23_0 := blk_frozen BK101.out 0
      have hfz23_1 := blk_frozen BK101.out 1
      have hfz23_2 := blk_frozen BK101.out 2
      have hfz23_3 := blk_frozen BK101.out 3
      have hfz23_4 := blk_frozen BK101.out 4
      have hfz23_5 := blk_frozen BK101.out 5
      have hfz23_6 := blk_frozen BK101.out 6
      go_wp2
      go_ret2
      exact ⟨by first | rfl | (simp [errW_none, errW_some] <;> rfl) | (simp [*, errW_none, errW_some] <;> rfl), by repeat (first | (with_reducible first | exact HB.out | apply below_alloc | apply pw_below_drewN | apply below_drew1 | refine below_set ?_ GE101.out) | exact HB.out)⟩
    rw [if_neg c22] at H
    have c22b0 : decide ((wrap64 ((wrap64 ((wrap64 ((wrap64 (t104 * 86400000)) + (wrap64 ((wrap64 ((wrap64 (a0_3 * 60)) + a0_4)) * 60000)))) + (wrap64 ((wrap64 (a0_5 + t105)) * 1000)))) + a0_6)) < (-17592186044416)) = false := decide_eq_false c22
    clear c22
    by_cases c24 : (wrap64 ((wrap64 ((wrap64 ((wrap64 (t104 * 86400000)) + (wrap64 ((wrap64 ((wrap64 (a0_3 * 60)) + a0_4)) * 60000)))) + (wrap64 ((wrap64 (a0_5 + t105)) * 1000)))) + a0_6)) > 17592186044416
    · rw [if_pos c24] at H
      have c24b0 : decide (17592186044416 < (wrap64 ((wrap64 ((wrap64 ((wrap64 (t104 * 86400000)) + (wrap64 ((wrap64 ((wrap64 (a0_3 * 60)) + a0_4)) * 60000)))) + (wrap64 ((wrap64 (a0_5 + t105)) * 1000)))) + a0_6))) = true := decide_eq_true c24
      clear c24
      simp only [Option.some.injEq, Prod.mk.injEq] at H
      obtain ⟨rfl, rfl⟩ := H
      have hcz25_0 := bc_ BK101 0 rfl
      have hcz25_1 := bc_ BK101 1 rfl
      have hcz25_2 := bc_ BK101 2 rfl
      have hcz25_3 := bc_ BK101 3 rfl
      have hcz25_4 := bc_ BK101 4 rfl
      have hcz25_5 := bc_ BK101 5 rfl
      have hcz25_6 := bc_ BK101 6 rfl
      have hfz25_0 := blk_frozen BK101.out 0
      have hfz25_1 := blk_frozen BK101.out 1
      have hfz25_2 := blk_frozen BK101.out 2
      have hfz25_3 := blk_frozen BK101.out 3
      have hfz25_4 := blk_frozen BK101.out 4
      have hfz25_5 := blk_frozen BK101.out 5
      have hfz25_6 := blk_frozen BK101.out 6
      go_wp2
      go_ret2
      exact ⟨by first | rfl | (simp [errW_none, errW_some] <;> rfl) | (simp [*, errW_none, errW_some] <;> rfl), by repeat (first | (with_reducible first | exact HB.out | apply below_alloc | apply pw_below_drewN | apply below_drew1 | refine below_set ?_ GE101.out) | exact HB.out)⟩
    rw [if_neg c24] at H
    have c24b0 : decide (17592186044416 < (wrap64 ((wrap64 ((wrap64 ((wrap64 (t104 * 86400000)) + (wrap64 ((wrap64 ((wrap64 (a0_3 * 60)) + a0_4)) * 60000)))) + (wrap64 ((wrap64 (a0_5 + t105)) * 1000)))) + a0_6))) = false := decide_eq_false c24
    clear c24
    simp only [Option.some.injEq, Prod.mk.injEq] at H
    obtain ⟨rfl, rfl⟩ := H
    have hcz26_0 := bc_ BK101 0 rfl
    have hcz26_1 := bc_ BK101 1 rfl
    have hcz26_2 := bc_ BK101 2 rfl
    have hcz26_3 := bc_ BK101 3 rfl
    have hcz26_4 := bc_ BK101 4 rfl
    have hcz26_5 := bc_ BK101 5 rfl
    have hcz26_6 := bc_ BK101 6 rfl
    have hfz26_0 := blk_frozen BK101.out 0
    have hfz26_1 := blk_frozen BK101.out 1
    have hfz26_2 := blk_frozen BK101.out 2
    have hfz26_3 := blk_frozen BK101.out 3
    have hfz26_4 := blk_frozen BK101.out 4
    have hfz26_5 := blk_frozen BK101.out 5
    have hfz26_6 := blk_frozen BK101.out 6
    go_wp2
    go_ret2
    exact ⟨by first | rfl | (simp [errW_none, errW_some] <;> rfl) | (simp [*, errW_none, errW_some] <;> rfl), by repeat (first | (with_reducible first | exact HB.out | apply below_alloc | apply pw_below_drewN | apply below_drew1 | refine below_set ?_ GE101.out) | exact HB.out)⟩

end Go.Proofs.YtpbfjcohiibpcaaDoor.Q
