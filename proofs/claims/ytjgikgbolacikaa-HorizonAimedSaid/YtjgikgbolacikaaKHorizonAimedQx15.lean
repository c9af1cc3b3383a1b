/- Contracts, as in the first text; no condition. -/
import Derived.Test.YtjgikgbolacikaaKHorizonAimedQx0
import Derived.Test.YtjgikgbolacikaaKHorizonAimedQx5
import Derived.Test.YtjgikgbolacikaaKHorizonAimedQx8
import Derived.Test.YtjgikgbolacikaaKHorizonAimedQx9
import Derived.Test.YtjgikgbolacikaaKHorizonAimedQx10
import Derived.Test.YtjgikgbolacikaaKHorizonAimedQx12
import Derived.Test.YtjgikgbolacikaaKHorizonAimedQx13
import Derived.Test.YtjgikgbolacikaaKHorizonAimedQx14
namespace Go.Proofs.Ytjgikgbolacikaa.Q
open Go.RowKit Go.Proofs.YtjgikgbolacikaaW.PrintWords Go.Proofs.YtjgikgbolacikaaW.PrintLast Go.Proofs.YtjgikgbolacikaaW.PrintMore
attribute [local go_sem] max2_int min2_int max_two min_two max_three min_three max_four min_four
set_option linter.unusedVariables false
set_option linter.unusedSimpArgs false

def horizon_Aim.j0 : Nat → Int → Int → Option (Int × Int × Int)
 | 0, _, _ => none
 | k + 1, x17, x19 => some (x17, x19, 0)
def horizon_Aim.f (k : Nat) (a0_0 : Int) (a0_1 : Int) (a1 : Int) (a2_0 : Int) (a2_1 : Int) (a2_2 : Int) : Option (Int × Int × Int) := (horizon_CheckSite.f a0_0 a0_1).bind fun t104 => ((sphere_Check.f k a2_0 a2_1 a2_2).bind fun t105 => ((cmp_Or_api_Errno.f k (([t104, t105] : List Int))).bind fun t109 => (if t109 = 0 then ((sphere_Grow.f k a2_0 a2_1 a2_2).bind fun bt110 => ((horizon_Aim_1__trig_Cos.f k 0 (wrap64 ((Go.bits .and .i64 a1 4294967295) + a0_1))).bind fun t113 => ((horizon_Aim_1__trig_Sin.f k 0 (wrap64 ((Go.bits .and .i64 a1 4294967295) + a0_1))).bind fun t114 => ((num_RoundDiv.f k (wrap64 ((wrap64 (bt110.1 * t113)) + (wrap64 (bt110.2.1 * t114)))) 1048576).bind fun t115 => ((num_RoundDiv.f k (wrap64 ((wrap64 (bt110.2.1 * t113)) - (wrap64 (bt110.1 * t114)))) 1048576).bind fun t116 => ((horizon_Aim_1__trig_Cos.f k 0 a0_0).bind fun t117 => ((horizon_Aim_1__trig_Sin.f k 0 a0_0).bind fun t118 => ((num_RoundDiv.f k (wrap64 ((wrap64 ((wrap64 (bt110.2.2 * 1024)) * t118)) + (wrap64 (t115 * t117)))) 1073741824).bind fun t119 => ((num_RoundDiv.f k (wrap64 ((wrap64 ((wrap64 (bt110.2.2 * 1024)) * t117)) - (wrap64 (t115 * t118)))) 1073741824).bind fun t120 => ((trig_Atan2.f k t116 t120).bind fun bt121 => ((num_Sqrt.f k (wrap64 ((wrap64 (t120 * t120)) + (wrap64 (t116 * t116))))).bind fun t123 => ((trig_Atan2.f k t119 t123).bind fun bt124 => (if bt124.1 > 2147483648 then (horizon_Aim.j0 k bt121.1 (wrap64 (bt124.1 - 4294967296))) else (horizon_Aim.j0 k bt121.1 bt124.1)))))))))))))) else (some (0, 0, t109)))))
theorem horizon_Aim.mono_l : ∀ k, (∀ y0 y1, LeO (horizon_Aim.j0 k y0 y1) (horizon_Aim.j0 (k + 1) y0 y1))
 | 0 => fun _ _ r h => by simp [horizon_Aim.j0] at h
 | k + 1 => by
  have ih0 := horizon_Aim.mono_l k
  · intro y0 y1
    unfold horizon_Aim.j0
    repeat' first
    | (with_reducible exact ih0 _ _)
    | (with_reducible exact cmp_Or_api_Errno.mono _ _)
    | (with_reducible exact horizon_Aim_1__trig_Cos.mono _ _ _)
    | (with_reducible exact horizon_Aim_1__trig_Sin.mono _ _ _)
    | (with_reducible exact num_RoundDiv.mono _ _ _)
    | (with_reducible exact num_Sqrt.mono _ _)
    | (with_reducible exact sphere_Check.mono _ _ _ _)
    | (with_reducible exact sphere_Grow.mono _ _ _ _)
    | (with_reducible exact trig_Atan2.mono _ _ _)
    | (with_reducible exact LeO.refl _)
    | (with_reducible exact LeO.none _)
    | (with_reducible refine LeO.ite ?_ ?_)
    | (with_reducible refine LeO.bind ?_ (fun _ => ?_))
theorem horizon_Aim.mono : ∀ a0 a1 a2 a3 a4 a5 k, LeO (horizon_Aim.f k a0 a1 a2 a3 a4 a5) (horizon_Aim.f (k + 1) a0 a1 a2 a3 a4 a5) := by
 intro a0 a1 a2 a3 a4 a5 k
 have ih0 := horizon_Aim.mono_l k
 unfold horizon_Aim.f
 repeat' first
  | (with_reducible exact ih0 _ _)
  | (with_reducible exact cmp_Or_api_Errno.mono _ _)
  | (with_reducible exact horizon_Aim_1__trig_Cos.mono _ _ _)
  | (with_reducible exact horizon_Aim_1__trig_Sin.mono _ _ _)
  | (with_reducible exact num_RoundDiv.mono _ _ _)
  | (with_reducible exact num_Sqrt.mono _ _)
  | (with_reducible exact sphere_Check.mono _ _ _ _)
  | (with_reducible exact sphere_Grow.mono _ _ _ _)
  | (with_reducible exact trig_Atan2.mono _ _ _)
  | (with_reducible exact LeO.refl _)
  | (with_reducible exact LeO.none _)
  | (with_reducible refine LeO.ite ?_ ?_)
  | (with_reducible refine LeO.bind ?_ (fun _ => ?_))
def horizon_Aim.T10 : Bool × List (List Nat × List Nat) := (true, [([], []), ([], []), ([1], [1]), ([0, 2], [0, 2]), ([], []), ([], []), ([5], [5]), ([4, 6, 3], [4, 6]), ([3, 7, 0, 1, 2, 3], [3]), ([7, 8, 0, 1, 2, 3, 4, 5, 6, 7, 8], [7])])
def horizon_Aim.B10 : List Nat := [0, 0, 2, 7, 0, 0, 32, 127, 255, 511]
theorem horizon_Aim.tab10 : rtab .any (opsOf Try.f7 10) = horizon_Aim.T10 := by kernel_rfl
theorem horizon_Aim.bits10 : waitsOk horizon_Aim.T10.2 horizon_Aim.B10 = true := by kernel_rfl
set_option maxHeartbeats 8000000 in
set_option maxRecDepth 100000 in
theorem horizon_Aim.calls (k : Nat) (a0_0 : Int) (a0_1 : Int) (a1 : Int) (a2_0 : Int) (a2_1 : Int) (a2_2 : Int) (r1 : Int) (r2 : Int) (r3 : Int) (w : World) (h : horizon_Aim.f k a0_0 a0_1 a1 a2_0 a2_1 a2_2 = some (r1, r2, r3)) :
 Calls Try.prog 7 #[.agg #[.int .i64 a0_0, .int .i64 a0_1], .int .i64 a1, .agg #[.int .i64 a2_0, .int .i64 a2_1, .int .i64 a2_2]] w fun e w' => e = .returned (.tuple #[.agg #[.int .i64 r1, .int .i64 r2], .int .i64 r3]) ∧ Below w.heap.size w w' := by
  have hu28 := Try.underlying28
  have hu32 := Try.underlying32
  have hu35 := Try.underlying35
  have HB := Aside0.mk (Below.refl w.heap.size w)
  have H : ((horizon_CheckSite.f a0_0 a0_1).bind fun t104 => ((sphere_Check.f k a2_0 a2_1 a2_2).bind fun t105 => ((cmp_Or_api_Errno.f k (([t104, t105] : List Int))).bind fun t109 => (if t109 = 0 then ((sphere_Grow.f k a2_0 a2_1 a2_2).bind fun bt110 => ((horizon_Aim_1__trig_Cos.f k 0 (wrap64 ((Go.bits .and .i64 a1 4294967295) + a0_1))).bind fun t113 => ((horizon_Aim_1__trig_Sin.f k 0 (wrap64 ((Go.bits .and .i64 a1 4294967295) + a0_1))).bind fun t114 => ((num_RoundDiv.f k (wrap64 ((wrap64 (bt110.1 * t113)) + (wrap64 (bt110.2.1 * t114)))) 1048576).bind fun t115 => ((num_RoundDiv.f k (wrap64 ((wrap64 (bt110.2.1 * t113)) - (wrap64 (bt110.1 * t114)))) 1048576).bind fun t116 => ((horizon_Aim_1__trig_Cos.f k 0 a0_0).bind fun t117 => ((horizon_Aim_1__trig_Sin.f k 0 a0_0).bind fun t118 => ((num_RoundDiv.f k (wrap64 ((wrap64 ((wrap64 (bt110.2.2 * 1024)) * t118)) + (wrap64 (t115 * t117)))) 1073741824).bind fun t119 => ((num_RoundDiv.f k (wrap64 ((wrap64 ((wrap64 (bt110.2.2 * 1024)) * t117)) - (wrap64 (t115 * t118)))) 1073741824).bind fun t120 => ((trig_Atan2.f k t116 t120).bind fun bt121 => ((num_Sqrt.f k (wrap64 ((wrap64 (t120 * t120)) + (wrap64 (t116 * t116))))).bind fun t123 => ((trig_Atan2.f k t119 t123).bind fun bt124 => (if bt124.1 > 2147483648 then (horizon_Aim.j0 k bt121.1 (wrap64 (bt124.1 - 4294967296))) else (horizon_Aim.j0 k bt121.1 bt124.1)))))))))))))) else (some (0, 0, t109)))))) = some (r1, r2, r3) := h
  clear h
  replace H := bso_ H
  obtain ⟨t104, A40, H⟩ := H
  try dsimp -simprocs only at H
  have A4 := Aside0.mk A40
  clear A40
  replace H := bso_ H
  obtain ⟨t105, A50, H⟩ := H
  try dsimp -simprocs only at H
  have A5 := Aside0.mk A50
  clear A50
  obtain ⟨y106, hy106⟩ : ∃ y_ : List Int, y_ = (([t104, t105] : List Int)) := ⟨_, rfl⟩
  replace H : ((cmp_Or_api_Errno.f k y106).bind fun t109 => (if t109 = 0 then ((sphere_Grow.f k a2_0 a2_1 a2_2).bind fun bt110 => ((horizon_Aim_1__trig_Cos.f k 0 (wrap64 ((Go.bits .and .i64 a1 4294967295) + a0_1))).bind fun t113 => ((horizon_Aim_1__trig_Sin.f k 0 (wrap64 ((Go.bits .and .i64 a1 4294967295) + a0_1))).bind fun t114 => ((num_RoundDiv.f k (wrap64 ((wrap64 (bt110.1 * t113)) + (wrap64 (bt110.2.1 * t114)))) 1048576).bind fun t115 => ((num_RoundDiv.f k (wrap64 ((wrap64 (bt110.2.1 * t113)) - (wrap64 (bt110.1 * t114)))) 1048576).bind fun t116 => ((horizon_Aim_1__trig_Cos.f k 0 a0_0).bind fun t117 => ((horizon_Aim_1__trig_Sin.f k 0 a0_0).bind fun t118 => ((num_RoundDiv.f k (wrap64 ((wrap64 ((wrap64 (bt110.2.2 * 1024)) * t118)) + (wrap64 (t115 * t117)))) 1073741824).bind fun t119 => ((num_RoundDiv.f k (wrap64 ((wrap64 ((wrap64 (bt110.2.2 * 1024)) * t117)) - (wrap64 (t115 * t118)))) 1073741824).bind fun t120 => ((trig_Atan2.f k t116 t120).bind fun bt121 => ((num_Sqrt.f k (wrap64 ((wrap64 (t120 * t120)) + (wrap64 (t116 * t116))))).bind fun t123 => ((trig_Atan2.f k t119 t123).bind fun bt124 => (if bt124.1 > 2147483648 then (horizon_Aim.j0 k bt121.1 (wrap64 (bt124.1 - 4294967296))) else (horizon_Aim.j0 k bt121.1 bt124.1)))))))))))))) else (some (0, 0, t109)))) = some (r1, r2, r3) := by first | (rw [hy106]; with_reducible exact H) | (have H2_ := (Option.bind_some _ _).symm.trans H; rw [hy106]; with_reducible exact H2_) | (have H2_ := (Option.bind_some _ _).symm.trans H; with_reducible exact H2_) | with_reducible exact H | (rw [hy106]; exact H) | exact H
  have Ny106 := Aside0.mk hy106
  clear hy106
  replace H := bso_ H
  obtain ⟨t109, A60, H⟩ := H
  try dsimp -simprocs only at H
  have A6 := Aside0.mk A60
  clear A60
  by_cases c7 : t109 = 0
  · rw [if_pos c7] at H
    have c7b0 : (t109 == 0) = true := beq_iff_eq.mpr c7
    have c7b1 : (t109 != 0) = false := bne_eq_false_iff_eq.mpr c7
    clear c7
    replace H := bso_ H
    obtain ⟨⟨t110, t111, t112⟩, A80, H⟩ := H
    try dsimp -simprocs only at H
    have A8 := Aside0.mk A80
    clear A80
    replace H := bso_ H
    obtain ⟨t113, A90, H⟩ := H
    try dsimp -simprocs only at H
    have A9 := Aside0.mk A90
    clear A90
    replace H := bso_ H
    obtain ⟨t114, A100, H⟩ := H
    try dsimp -simprocs only at H
    have A10 := Aside0.mk A100
    clear A100
    replace H := bso_ H
    obtain ⟨t115, A110, H⟩ := H
    try dsimp -simprocs only at H
    have A11 := Aside0.mk A110
    clear A110
    replace H := bso_ H
    obtain ⟨t116, A120, H⟩ := H
    try dsimp -simprocs only at H
    have A12 := Aside0.mk A120
    clear A120
    replace H := bso_ H
    obtain ⟨t117, A130, H⟩ := H
    try dsimp -simprocs only at H
    have A13 := Aside0.mk A130
    clear A130
    replace H := bso_ H
    obtain ⟨t118, A140, H⟩ := H
    try dsimp -simprocs only at H
    have A14 := Aside0.mk A140
    clear A140
    replace H := bso_ H
    obtain ⟨t119, A150, H⟩ := H
    try dsimp -simprocs only at H
    have A15 := Aside0.mk A150
    clear A150
    replace H := bso_ H
    obtain ⟨t120, A160, H⟩ := H
    try dsimp -simprocs only at H
    have A16 := Aside0.mk A160
    clear A160
    replace H := bso_ H
    obtain ⟨⟨t121, t122⟩, A170, H⟩ := H
    try dsimp -simprocs only at H
    have A17 := Aside0.mk A170
    clear A170
    replace H := bso_ H
    obtain ⟨t123, A180, H⟩ := H
    try dsimp -simprocs only at H
    have A18 := Aside0.mk A180
    clear A180
    replace H := bso_ H
    obtain ⟨⟨t124, t125⟩, A190, H⟩ := H
    try dsimp -simprocs only at H
    have A19 := Aside0.mk A190
    clear A190
    have HC20 := Aside0.mk H
    clear H
    go_enter Try.func7, Try.ntmps7
    try go_wp2_with (first | ((with_reducible refine gate_dst (N := 3) rfl ?_); refine bxq_ 3 #[.int .i64 a0_0, .int .i64 a0_1] 28 ?_; intro gb101 hg w21 hbox hb; have BK101 := Aside0.mk (hbox); have GW101 := gwq_ HB hg rfl; have GE101 := GW101; replace HB := hbs_ HB hb rfl rfl rfl rfl; clear hb hbox hg) | ((with_reducible refine gate_dst (N := 5) rfl ?_); refine bxq_ 5 #[.int .i64 a2_0, .int .i64 a2_1, .int .i64 a2_2] 32 ?_; intro gb102 hg w22 hbox hb; have BK102 := Aside0.mk (hbox); have GW102 := gwq_ HB hg rfl; have GE102 := GW102; have NB101_102 := nbl_ BK101 hg rfl; have NB102_101 := nbg_ BK101 hg rfl; replace BK101 := bkb_ BK101 hb rfl; replace HB := hbs_ HB hb rfl rfl rfl rfl; clear hb hbox hg) | ((with_reducible refine gate_dst (N := 6) rfl ?_); refine bxq_ 6 #[.int .i64 0, .int .i64 0] 35 ?_; intro gb103 hg w23 hbox hb; have BK103 := Aside0.mk (hbox); have GW103 := gwq_ HB hg rfl; have GE103 := GW103; have NB101_103 := nbl_ BK101 hg rfl; have NB103_101 := nbg_ BK101 hg rfl; have NB102_103 := nbl_ BK102 hg rfl; have NB103_102 := nbg_ BK102 hg rfl; replace BK101 := bkb_ BK101 hb rfl; replace BK102 := bkb_ BK102 hb rfl; replace HB := hbs_ HB hb rfl rfl rfl rfl; clear hb hbox hg))
    replace BK101 := Aside0.mk (blk_drew BK101.out)
    replace BK102 := Aside0.mk (blk_drew BK102.out)
    replace BK103 := Aside0.mk (blk_drew BK103.out)
    replace HB := Aside0.mk (below_drew1 HB.out)
    refine start_ (n := 7) (S := fun w' => w'.cell? ⟨gb101, 0, none⟩ = some (.int .i64 a0_0) ∧ w'.cell? ⟨gb101, 1, none⟩ = some (.int .i64 a0_1) ∧ w'.cell? ⟨gb102, 0, none⟩ = some (.int .i64 a2_0) ∧ w'.cell? ⟨gb102, 1, none⟩ = some (.int .i64 a2_1) ∧ w'.cell? ⟨gb102, 2, none⟩ = some (.int .i64 a2_2)) (ds := []) #[false, false, false, false, false, false, false] (by kernel_rfl) rfl rfl ⟨bc_ BK101 0 rfl, bc_ BK101 1 rfl, bc_ BK102 0 rfl, bc_ BK102 1 rfl, bc_ BK102 2 rfl⟩ (fun hHeld => ?_)
    generalize w23.drew = w24 at BK101 BK102 BK103 HB hHeld ⊢
    refine take_ (i := 0) (N := some 21) (v := ?_) (a' := ?_) #[true, false, false, false, false, false, false] rfl rfl (by kernel_rfl) (fun _ _ _ h => h) (Or.inl ⟨by rfl, ?_⟩) hHeld ?_ ?_
    rotate_left
    · rintro w' ⟨s0, s1, s2, s3, s4⟩
      go_simp
      with_reducible rfl
    rotate_left
    · simp only [Act.put, List.setIfInBounds_toArray, List.set_cons_zero, List.set_cons_succ, i64_w, i32_w]
      rfl
    refine take_ (i := 2) (N := some 23) (v := ?_) (a' := ?_) #[true, false, true, false, false, false, false] rfl rfl (by kernel_rfl) (fun _ _ _ h => h) (Or.inl ⟨by rfl, ?_⟩) hHeld ?_ ?_
    rotate_left
    · rintro w' ⟨s0, s1, s2, s3, s4⟩
      go_simp
      with_reducible rfl
    rotate_left
    · simp only [Act.put, List.setIfInBounds_toArray, List.set_cons_zero, List.set_cons_succ, i64_w, i32_w]
      rfl
    refine one_ (i := 1) (N := some 22) #[true, true, true, false, false, false, false] rfl rfl (by kernel_rfl) (by decide) (fun K hK => ?_)
    refine gq_ Try.func16 #[.agg #[.int .i64 a0_0, .int .i64 a0_1]] ?_
    with_reducible refine (horizon_CheckSite.calls a0_0 a0_1 t104 _ A4.out).mono ?_
    rintro e w25 ⟨rfl, hb⟩
    refine ⟨_, rfl, ?_⟩
    replace BK101 := bkb_ BK101 hb rfl
    replace BK102 := bkb_ BK102 hb rfl
    replace BK103 := bkb_ BK103 hb rfl
    replace HB := hbs_ HB hb rfl rfl rfl rfl
    (try clear hb)
    refine hK.out _ _ ⟨bc_ BK101 0 rfl, bc_ BK101 1 rfl, bc_ BK102 0 rfl, bc_ BK102 1 rfl, bc_ BK102 2 rfl⟩ (fun hHeld => ?_)
    clear hK K
    refine nq_ 22 ?_
    refine one_ (i := 3) (N := some 24) #[true, true, true, true, false, false, false] rfl rfl (by kernel_rfl) (by decide) (fun K hK => ?_)
    refine gq_ Try.func17 #[.agg #[.int .i64 a2_0, .int .i64 a2_1, .int .i64 a2_2]] ?_
    with_reducible refine (sphere_Check.calls k a2_0 a2_1 a2_2 t105 _ A5.out).mono ?_
    rintro e w26 ⟨rfl, hb⟩
    refine ⟨_, rfl, ?_⟩
    replace BK101 := bkb_ BK101 hb rfl
    replace BK102 := bkb_ BK102 hb rfl
    replace BK103 := bkb_ BK103 hb rfl
    replace HB := hbs_ HB hb rfl rfl rfl rfl
    (try clear hb)
    refine hK.out _ _ ⟨bc_ BK101 0 rfl, bc_ BK101 1 rfl, bc_ BK102 0 rfl, bc_ BK102 1 rfl, bc_ BK102 2 rfl⟩ (fun hHeld => ?_)
    clear hK K
    refine nq_ 24 ?_
    refine one_ (i := 4) (N := some 25) #[true, true, true, true, true, false, false] rfl rfl (by kernel_rfl) (by decide) (fun K hK => ?_)
    refine Kd.R_lit_step (Kd.int .i64) _ 36 ?hg (N := 25) ?hd (xs := ([t104, t105] : List Int)) (inner := [.int .i64 t104, .int .i64 t105]) (ok := fun _ => True) (okp := fun _ => True) ?hr ?hp (fun _ hk => hk) trivial (Below.refl _ _) (Nat.le_refl _) (by simp) ?_; (case hd => rfl); (case hg => rfl); (case hr => first | (go_simp; done) | (go_simp; rfl)); (case hp => exact (Reps.one (show Kd.M (Kd.int .i64) _ _ _ t104 [.int .i64 t104] from rfl) (Reps.one (show Kd.M (Kd.int .i64) _ _ _ t105 [.int .i64 t105] from rfl) (Reps.none _ _))))
    intro v107 w27 ho28 hb hg_ hnew_
    clear hg_ hnew_
    (first | rw [← Ny106.out] at ho28 | (simp only [Int.reduceToNat] at ho28; rw [← Ny106.out] at ho28))
    have HO108 := Aside0.mk (Kd.R_lower ho28 (below_size (by repeat (first | exact HB.out | apply below_alloc | apply pw_below_drewN | refine below_set ?_ GE101.out | refine below_set ?_ GE102.out | refine below_set ?_ GE103.out))))
    replace BK101 := bkb_ BK101 hb rfl
    replace BK102 := bkb_ BK102 hb rfl
    replace BK103 := bkb_ BK103 hb rfl
    replace HB := hbs_ HB hb rfl rfl rfl rfl
    clear hb ho28
    obtain ⟨Ao29, co29, eo29⟩ := Kd.R_slice HO108.out
    (first | subst eo29 | (injection eo29 with f1_ f2_ f3_; have f4_ := f1_.symm; have f5_ := f3_.symm; clear f1_ f2_ f3_; subst f4_; subst f5_))
    refine hK.out _ _ ⟨bc_ BK101 0 rfl, bc_ BK101 1 rfl, bc_ BK102 0 rfl, bc_ BK102 1 rfl, bc_ BK102 2 rfl⟩ (fun hHeld => ?_)
    clear hK K
    refine nq_ 25 ?_
    refine one_ (i := 5) (N := some 26) #[true, true, true, true, true, true, false] rfl rfl (by kernel_rfl) (by decide) (fun K hK => ?_)
    refine gq_ Try.func15 #[.slice Ao29 y106.length co29] ?_
    with_reducible refine (cmp_Or_api_Errno.calls k _ _ y106 t109 _ ?side1 ?side2 A6.out).mono ?_
    (case side1 => repeat (first | exact (Kd.R_reads' HO108.out).2.2 | (with_reducible refine Kd.C_alloc ?_ _) | (with_reducible refine Kd.C_drewN ?_ _) | (with_reducible refine Kd.C_drew ?_)))
    (case side2 => exact (Kd.R_reads' HO108.out).2.1)
    rintro e w' ⟨rfl, ⟨nd, rfl⟩⟩
    refine ⟨_, rfl, ?_⟩
    refine hK.out _ _ ⟨bc_ BK101 0 rfl, bc_ BK101 1 rfl, bc_ BK102 0 rfl, bc_ BK102 1 rfl, bc_ BK102 2 rfl⟩ (fun hHeld => ?_)
    clear hK K
    refine nq_ 26 ?_
    refine pure_ (i := 6) (N := some 8) (v := ?_) (a' := ?_) #[true, true, true, true, true, true, true] rfl rfl (by kernel_rfl) (fun _ _ _ h => h) (Or.inl ⟨by rfl, ?_⟩) ?_ ?_
    rotate_left
    · intro w'
      go_simp
      with_reducible rfl
    rotate_left
    · simp only [Act.put, List.setIfInBounds_toArray, List.set_cons_zero, List.set_cons_succ, i64_w, i32_w]
      rfl
    refine done_ (by kernel_rfl) ?_
    have hnb30 := NB102_101.out
    have hnc30 := NB101_102.out
    have hnb31 := NB102_103.out
    have hnc31 := NB103_102.out
    have hcz32_0 := bc_ BK102 0 rfl
    have hcz32_1 := bc_ BK102 1 rfl
    have hcz32_2 := bc_ BK102 2 rfl
    have hfz32 := blk_frozen BK102.out
    try go_wp2_with (first | ((with_reducible refine gate_callee (f := 18) rfl ?_); refine glq_ (some 32) Try.func18 #[.agg #[.int .i64 a2_0, .int .i64 a2_1, .int .i64 a2_2]] ?_; (with_reducible refine (sphere_Grow.calls k a2_0 a2_1 a2_2 t110 t111 t112 _ A8.out).mono ?_); rintro e w33 ⟨rfl, hb⟩; refine ⟨_, rfl, ?_⟩; replace HO108 := Aside0.mk (Kd.R_below (by exact HO108.out) hb); replace BK101 := bkb_ BK101 hb rfl; replace BK102 := bkb_ BK102 hb rfl; replace BK103 := bkb_ BK103 hb rfl; replace HB := hbs_ HB hb rfl rfl rfl rfl; (try clear hb); have hcz34_0 := bc_ BK102 0 rfl; have hcz34_1 := bc_ BK102 1 rfl; have hcz34_2 := bc_ BK102 2 rfl; have hfz34 := blk_frozen BK102.out; have hnb35 := NB101_103.out; have hnc35 := NB103_101.out; have hcz36_0 := bc_ BK101 0 rfl; have hcz36_1 := bc_ BK101 1 rfl; have hfz36 := blk_frozen BK101.out) | ((with_reducible refine gatev_ (t := 38) rfl ?_); refine goesvL_ (some 40) rfl rfl Try.func19 (by kernel_rfl) rfl #[.func (.func 20) #[] #[], .int .i64 (wrap64 ((Go.bits .and .i64 a1 4294967295) + a0_1))] rfl (by first | rfl | (simp [Act.eval, Act.put] <;> rfl)) (by (try simp only [List.map_toArray, List.map_cons, List.map_nil]); first | done | rfl | (simp only [List.length_drop, List.length_take]; rfl)) ?_; (with_reducible refine (horizon_Aim_1__trig_Cos.calls k 0 (wrap64 ((Go.bits .and .i64 a1 4294967295) + a0_1)) t113 _ A9.out).mono ?_); rintro e w37 ⟨rfl, hb⟩; refine ⟨_, rfl, ?_⟩; have n0_ := Aside0.mk (Kd.R_below (by exact (Kd.R_mono (Kd.R_far (p := ⟨gb102, 2, none⟩) (Kd.R_far (p := ⟨gb102, 1, none⟩) (Kd.R_far (p := ⟨gb102, 0, none⟩) (Kd.R_types HO108.out BK102.out (by decide)) (fun _ hk => hk.2) (.int .i64 t110)) (fun _ hk => hk.2) (.int .i64 t111)) (fun _ hk => hk.2) (.int .i64 t112)) (fun _ h_ => h_.1))) hb); have n1_ := Aside0.mk (blk_below (g := gb101) (o := .cells #[.int .i64 a0_0, .int .i64 a0_1] 28 (0, 0)) (by exact blk_far (blk_far (blk_far BK101.out NB101_102.out _) NB101_102.out _) NB101_102.out _) hb); have n2_ := Aside0.mk (blk_below (g := gb102) (o := .cells #[.int .i64 t110, .int .i64 t111, .int .i64 t112] 32 (0, 0)) (by exact blk_put (blk_put (blk_put BK102.out 0 _ rfl) 1 _ rfl) 2 _ rfl) hb); have n3_ := Aside0.mk (blk_below (g := gb103) (o := .cells #[.int .i64 0, .int .i64 0] 35 (0, 0)) (by exact blk_far (blk_far (blk_far BK103.out NB103_102.out _) NB103_102.out _) NB103_102.out _) hb); have n4_ := Aside0.mk (below_step (by repeat (first | exact HB.out | apply below_alloc | apply pw_below_drewN | refine below_set ?_ GE101.out | refine below_set ?_ GE102.out | refine below_set ?_ GE103.out)) hb); clear HO108; clear BK101; clear BK102; clear BK103; clear HB; have HO108 := n0_; have BK101 := n1_; have BK102 := n2_; have BK103 := n3_; have HB := n4_; clear n0_ n1_ n2_ n3_ n4_; (try clear hb); (try clear hb2); (try clear hk); (try clear hi)) | ((with_reducible refine gatev_ (t := 41) rfl ?_); refine goesvL_ (some 43) rfl rfl Try.func19 (by kernel_rfl) rfl #[.func (.func 10) #[] #[], .int .i64 (wrap64 ((Go.bits .and .i64 a1 4294967295) + a0_1))] rfl (by first | rfl | (simp [Act.eval, Act.put] <;> rfl)) (by (try simp only [List.map_toArray, List.map_cons, List.map_nil]); first | done | rfl | (simp only [List.length_drop, List.length_take]; rfl)) ?_; (with_reducible refine (horizon_Aim_1__trig_Sin.calls k 0 (wrap64 ((Go.bits .and .i64 a1 4294967295) + a0_1)) t114 _ A10.out).mono ?_); rintro e w38 ⟨rfl, hb⟩; refine ⟨_, rfl, ?_⟩; have n0_ := Aside0.mk (Kd.R_below (by exact HO108.out) hb); have n1_ := bkb_ BK101 hb rfl; have n2_ := bkb_ BK102 hb rfl; have n3_ := bkb_ BK103 hb rfl; have n4_ := hbs_ HB hb rfl rfl rfl rfl; clear HO108; clear BK101; clear BK102; clear BK103; clear HB; have HO108 := n0_; have BK101 := n1_; have BK102 := n2_; have BK103 := n3_; have HB := n4_; clear n0_ n1_ n2_ n3_ n4_; (try clear hb); (try clear hb2); (try clear hk); (try clear hi); have hcz39_0 : w38.cell? ⟨gb102, 0, none⟩ = some (.int .i64 t110) := bc_ BK102 0 rfl; have hcz39_1 : w38.cell? ⟨gb102, 1, none⟩ = some (.int .i64 t111) := bc_ BK102 1 rfl; have hcz39_2 : w38.cell? ⟨gb102, 2, none⟩ = some (.int .i64 t112) := bc_ BK102 2 rfl; have hfz39 := blk_frozen BK102.out) | ((with_reducible refine gate_callee (f := 21) rfl ?_); refine glq_ (some 53) Try.func21 #[.int .i64 (wrap64 ((wrap64 (t110 * t113)) + (wrap64 (t111 * t114)))), .int .i64 1048576] ?_; (with_reducible refine (num_RoundDiv.calls k (wrap64 ((wrap64 (t110 * t113)) + (wrap64 (t111 * t114)))) 1048576 t115 _ A11.out).mono ?_); rintro e w' ⟨rfl, ⟨nd, rfl⟩⟩; refine ⟨_, rfl, ?_⟩) | ((with_reducible refine gate_callee (f := 21) rfl ?_); refine glq_ (some 63) Try.func21 #[.int .i64 (wrap64 ((wrap64 (t111 * t113)) - (wrap64 (t110 * t114)))), .int .i64 1048576] ?_; (with_reducible refine (num_RoundDiv.calls k (wrap64 ((wrap64 (t111 * t113)) - (wrap64 (t110 * t114)))) 1048576 t116 _ A12.out).mono ?_); rintro e w' ⟨rfl, ⟨nd, rfl⟩⟩; refine ⟨_, rfl, ?_⟩))
    (repeat (rw [drewN_self w38]; generalize hq_ : World.drewN w38 _ = w38; have n0_ : Aside0 (Kd.R (Kd.int .i64) 36 w38 w.heap.size (fun _ => True) (.slice Ao29 y106.length co29) y106) := ⟨by rw [← hq_]; exact (by exact HO108.out)⟩; have n1_ : Aside0 (w38.heap[gb101]? = some (.cells #[.int .i64 a0_0, .int .i64 a0_1] 28 (0, 0))) := ⟨by rw [← hq_]; exact BK101.out⟩; have n2_ : Aside0 (w38.heap[gb102]? = some (.cells #[.int .i64 t110, .int .i64 t111, .int .i64 t112] 32 (0, 0))) := ⟨by rw [← hq_]; exact BK102.out⟩; have n3_ : Aside0 (w38.heap[gb103]? = some (.cells #[.int .i64 0, .int .i64 0] 35 (0, 0))) := ⟨by rw [← hq_]; exact BK103.out⟩; have n4_ : Aside0 (Below w.heap.size w w38) := ⟨by rw [← hq_]; exact (by repeat (first | (with_reducible first | exact HB.out | apply below_alloc | apply pw_below_drewN | refine below_set ?_ GE101.out | refine below_set ?_ GE102.out | refine below_set ?_ GE103.out) | exact HB.out))⟩; clear HO108 BK101 BK102 BK103 HB hq_; have HO108 := n0_; have BK101 := n1_; have BK102 := n2_; have BK103 := n3_; have HB := n4_; clear n0_ n1_ n2_ n3_ n4_))
    (try (have hcz39_0 : w38.cell? ⟨gb102, 0, none⟩ = some (.int .i64 t110) := bc_ BK102 0 rfl; have hcz39_1 : w38.cell? ⟨gb102, 1, none⟩ = some (.int .i64 t111) := bc_ BK102 1 rfl; have hcz39_2 : w38.cell? ⟨gb102, 2, none⟩ = some (.int .i64 t112) := bc_ BK102 2 rfl; have hfz39 := blk_frozen BK102.out))
    replace HO108 := Aside0.mk (Kd.R_drew HO108.out)
    replace BK101 := Aside0.mk (blk_drew BK101.out)
    replace BK102 := Aside0.mk (blk_drew BK102.out)
    replace BK103 := Aside0.mk (blk_drew BK103.out)
    replace HB := Aside0.mk (below_drew1 HB.out)
    refine start_ (n := 10) (S := fun w' => w'.cell? ⟨gb101, 0, none⟩ = some (.int .i64 a0_0) ∧ w'.cell? ⟨gb101, 1, none⟩ = some (.int .i64 a0_1)) (ds := []) (bm_ [0, 10]) (by kernel_rfl) rfl rfl ⟨bc_ BK101 0 rfl, bc_ BK101 1 rfl⟩ (fun hHeld => ?_); refine with_tabW horizon_Aim.tab10 horizon_Aim.bits10 (fun HT_ HW_ => ?_)
    generalize w38.drew = w40 at HO108 BK101 BK102 BK103 HB hHeld ⊢
    refine pq_ 0 64 (bm_ [1, 9]) HT_ ?_
    refine pq_ 1 65 (bm_ [2, 8]) HT_ ?_
    refine pq_ 4 68 (bm_ [2, 2, 1, 5]) HT_ ?_
    refine pq_ 5 69 (bm_ [2, 2, 2, 4]) HT_ ?_
    refine tq_ 2 66 (bm_ [3, 1, 2, 4]) HT_ HW_ hHeld ?_
    refine tq_ 6 70 (bm_ [3, 1, 3, 3]) HT_ HW_ hHeld ?_
    refine oq_ 3 (some 67) (bm_ [7, 3]) HT_ (fun K hK => ?_)
    refine goesv_ Try.func19 (by kernel_rfl) rfl #[.func (.func 20) #[] #[], .int .i64 a0_0] (by rfl) rfl rfl (by first | rfl | (simp [Act.eval, Act.put] <;> rfl)) (by (try simp only [List.map_toArray, List.map_cons, List.map_nil]); first | done | rfl | (simp only [List.length_drop, List.length_take]; rfl)) ?_
    with_reducible refine (horizon_Aim_1__trig_Cos.calls k 0 a0_0 t117 _ A13.out).mono ?_
    rintro e w41 ⟨rfl, hb⟩
    refine ⟨_, rfl, ?_⟩
    replace HO108 := Aside0.mk (Kd.R_below (by exact HO108.out) hb)
    replace BK101 := bkb_ BK101 hb rfl
    replace BK102 := bkb_ BK102 hb rfl
    replace BK103 := bkb_ BK103 hb rfl
    replace HB := hbs_ HB hb rfl rfl rfl rfl
    (try clear hb)
    refine hK.out _ _ ⟨bc_ BK101 0 rfl, bc_ BK101 1 rfl⟩ (fun hHeld => ?_)
    clear hK K
    refine nq_ 67 ?_
    refine oq_ 7 (some 71) (bm_ [8, 2]) HT_ (fun K hK => ?_)
    refine goesv_ Try.func19 (by kernel_rfl) rfl #[.func (.func 10) #[] #[], .int .i64 a0_0] (by rfl) rfl rfl (by first | rfl | (simp [Act.eval, Act.put] <;> rfl)) (by (try simp only [List.map_toArray, List.map_cons, List.map_nil]); first | done | rfl | (simp only [List.length_drop, List.length_take]; rfl)) ?_
    with_reducible refine (horizon_Aim_1__trig_Sin.calls k 0 a0_0 t118 _ A14.out).mono ?_
    rintro e w42 ⟨rfl, hb⟩
    refine ⟨_, rfl, ?_⟩
    replace HO108 := Aside0.mk (Kd.R_below (by exact HO108.out) hb)
    replace BK101 := bkb_ BK101 hb rfl
    replace BK102 := bkb_ BK102 hb rfl
    replace BK103 := bkb_ BK103 hb rfl
    replace HB := hbs_ HB hb rfl rfl rfl rfl
    (try clear hb)
    refine hK.out _ _ ⟨bc_ BK101 0 rfl, bc_ BK101 1 rfl⟩ (fun hHeld => ?_)
    clear hK K
    refine nq_ 71 ?_
    refine pq_ 8 11 (bm_ [9, 1]) HT_ ?_
    refine pq_ 9 12 (bm_ [10]) HT_ ?_
    refine done_ (done_of HT_.out (by kernel_rfl)) ?_
    have hcz43_0 := bc_ BK102 0 rfl
    have hcz43_1 := bc_ BK102 1 rfl
    have hcz43_2 := bc_ BK102 2 rfl
    have hfz43 := blk_frozen BK102.out
    go_upto_if 112 with (first | ((with_reducible refine gate_callee (f := 21) rfl ?_); refine glq_ (some 81) Try.func21 #[.int .i64 (wrap64 ((wrap64 ((wrap64 (t112 * 1024)) * t118)) + (wrap64 (t115 * t117)))), .int .i64 1073741824] ?_; (with_reducible refine (num_RoundDiv.calls k (wrap64 ((wrap64 ((wrap64 (t112 * 1024)) * t118)) + (wrap64 (t115 * t117)))) 1073741824 t119 _ A15.out).mono ?_); rintro e w' ⟨rfl, ⟨nd, rfl⟩⟩; refine ⟨_, rfl, ?_⟩) | ((with_reducible refine gate_callee (f := 21) rfl ?_); refine glq_ (some 91) Try.func21 #[.int .i64 (wrap64 ((wrap64 ((wrap64 (t112 * 1024)) * t117)) - (wrap64 (t115 * t118)))), .int .i64 1073741824] ?_; (with_reducible refine (num_RoundDiv.calls k (wrap64 ((wrap64 ((wrap64 (t112 * 1024)) * t117)) - (wrap64 (t115 * t118)))) 1073741824 t120 _ A16.out).mono ?_); rintro e w' ⟨rfl, ⟨nd, rfl⟩⟩; refine ⟨_, rfl, ?_⟩) | ((with_reducible refine gate_callee (f := 22) rfl ?_); refine glq_ (some 95) Try.func22 #[.int .i64 t116, .int .i64 t120] ?_; (with_reducible refine (trig_Atan2.calls k t116 t120 t121 t122 _ A17.out).mono ?_); rintro e w44 ⟨rfl, hb⟩; refine ⟨_, rfl, ?_⟩; replace HO108 := Aside0.mk (Kd.R_below (by exact HO108.out) hb); replace BK101 := bkb_ BK101 hb rfl; replace BK102 := bkb_ BK102 hb rfl; replace BK103 := bkb_ BK103 hb rfl; replace HB := hbs_ HB hb rfl rfl rfl rfl; (try clear hb)) | ((with_reducible refine gate_callee (f := 23) rfl ?_); refine glq_ (some 107) Try.func23 #[.int .i64 (wrap64 ((wrap64 (t120 * t120)) + (wrap64 (t116 * t116))))] ?_; (with_reducible refine (num_Sqrt.calls k (wrap64 ((wrap64 (t120 * t120)) + (wrap64 (t116 * t116)))) t123 _ A18.out).mono ?_); rintro e w' ⟨rfl, ⟨nd, rfl⟩⟩; refine ⟨_, rfl, ?_⟩) | ((with_reducible refine gate_callee (f := 22) rfl ?_); refine glq_ (some 108) Try.func22 #[.int .i64 t119, .int .i64 t123] ?_; (with_reducible refine (trig_Atan2.calls k t119 t123 t124 t125 _ A19.out).mono ?_); rintro e w45 ⟨rfl, hb⟩; refine ⟨_, rfl, ?_⟩; replace HO108 := Aside0.mk (Kd.R_below (by exact HO108.out) hb); replace BK101 := bkb_ BK101 hb rfl; replace BK102 := bkb_ BK102 hb rfl; replace BK103 := bkb_ BK103 hb rfl; replace HB := hbs_ HB hb rfl rfl rfl rfl; (try clear hb)))
    (try simp only [Act.put, List.setIfInBounds_toArray, List.set_cons_zero, List.set_cons_succ])
    go_cut [19] (fun v19 wc => ∃ (kq : Nat) (x19_19 : Int), v19 = .int .i64 x19_19 ∧ Aside0 (horizon_Aim.j0 kq t121 x19_19 = some (r1, r2, r3)) ∧ Aside0 (kq ≤ k) ∧ Aside0 (wc.heap[gb101]? = some (.cells #[.int .i64 a0_0, .int .i64 a0_1] 28 (0, 0))) ∧ Aside0 (wc.heap[gb102]? = some (.cells #[.int .i64 t110, .int .i64 t111, .int .i64 t112] 32 (0, 0))) ∧ Aside0 (wc.heap[gb103]? = some (.cells #[.int .i64 0, .int .i64 0] 35 (0, 0))) ∧ Aside0 (Below w.heap.size w wc))
    case first =>
     have H := HC20.out
     clear HC20
     by_cases c46 : t124 > 2147483648
     · rw [if_pos c46] at H
       have c46b0 : decide (2147483648 < t124) = true := decide_eq_true c46
       clear c46
       (first | rw [c46b0] | (simp only [i64_w, i32_w]; rw [c46b0]) | skip)
       have H' := Aside0.mk H
       clear H
       go_wp2
       go_meet
       case rel => exact ⟨_, (wrap64 (t124 - 4294967296)), (by first | rfl | (simp; done) | (simp [*]; done)), H', ⟨by first | omega | exact Nat.le_refl _⟩, ⟨by exact BK101.out⟩, ⟨by exact BK102.out⟩, ⟨by exact BK103.out⟩, ⟨by repeat (first | exact HB.out | apply below_alloc | apply pw_below_drewN | refine below_set ?_ GE101.out | refine below_set ?_ GE102.out | refine below_set ?_ GE103.out)⟩⟩
     rw [if_neg c46] at H
     have c46b0 : decide (2147483648 < t124) = false := decide_eq_false c46
     clear c46
     (first | rw [c46b0] | (simp only [i64_w, i32_w]; rw [c46b0]) | skip)
     have H' := Aside0.mk H
     clear H
     go_wp2
     go_meet
     case rel => exact ⟨_, (t124), (by first | rfl | (simp; done) | (simp [*]; done)), H', ⟨by first | omega | exact Nat.le_refl _⟩, ⟨by exact BK101.out⟩, ⟨by exact BK102.out⟩, ⟨by exact BK103.out⟩, ⟨by repeat (first | exact HB.out | apply below_alloc | apply pw_below_drewN | refine below_set ?_ GE101.out | refine below_set ?_ GE102.out | refine below_set ?_ GE103.out)⟩⟩
    case rest =>
     clear HC20
     obtain ⟨kq, x19_19, rfl, HA, HJ19, BK101, BK102, BK103, HB⟩ := hcut
     cases kq with
     | zero => exact absurd HA.out (by simp [horizon_Aim.j0])
     | succ kj19 =>
      have H := HA.out
      clear HA
      simp only [horizon_Aim.j0] at H
      simp only [Option.some.injEq, Prod.mk.injEq] at H
      obtain ⟨rfl, rfl, rfl⟩ := H
      have hnb47 := NB103_101.out
      have hnc47 := NB101_103.out
      have hnb48 := NB103_102.out
      have hnc48 := NB102_103.out
      have hcz49_0 := bc_ BK103 0 rfl
      have hcz49_1 := bc_ BK103 1 rfl
      have hfz49 := blk_frozen BK103.out
      go_wp2
      refine bodyPost_ret (results_ct rfl _ _ gb103 35 #[.int .i64 t121, .int .i64 x19_19] (0, 0) _ rfl (by exact blk_put (blk_put BK103.out 0 _ rfl) 1 _ rfl) Try.underlying35 rfl (by kernel_rfl)) rfl ?_
      exact ⟨by first | rfl | (simp [errW_none, errW_some] <;> rfl), by repeat (first | exact HB.out | apply below_alloc | apply pw_below_drewN | refine below_set ?_ GE101.out | refine below_set ?_ GE102.out | refine below_set ?_ GE103.out)⟩
  rw [if_neg c7] at H
  have c7b0 : (t109 == 0) = false := beq_eq_false_iff_ne.mpr c7
  have c7b1 : (t109 != 0) = true := bne_iff_ne.mpr c7
  simp only [Option.some.injEq, Prod.mk.injEq] at H
  obtain ⟨rfl, rfl, rfl⟩ := H
  go_enter Try.func7, Try.ntmps7
  try go_wp2_with (first | ((with_reducible refine gate_dst (N := 3) rfl ?_); refine bxq_ 3 #[.int .i64 a0_0, .int .i64 a0_1] 28 ?_; intro gb101 hg w50 hbox hb; have BK101 := Aside0.mk (hbox); have GW101 := gwq_ HB hg rfl; have GE101 := GW101; replace HB := hbs_ HB hb rfl rfl rfl rfl; clear hb hbox hg) | ((with_reducible refine gate_dst (N := 5) rfl ?_); refine bxq_ 5 #[.int .i64 a2_0, .int .i64 a2_1, .int .i64 a2_2] 32 ?_; intro gb102 hg w51 hbox hb; have BK102 := Aside0.mk (hbox); have GW102 := gwq_ HB hg rfl; have GE102 := GW102; have NB101_102 := nbl_ BK101 hg rfl; have NB102_101 := nbg_ BK101 hg rfl; replace BK101 := bkb_ BK101 hb rfl; replace HB := hbs_ HB hb rfl rfl rfl rfl; clear hb hbox hg) | ((with_reducible refine gate_dst (N := 6) rfl ?_); refine bxq_ 6 #[.int .i64 0, .int .i64 0] 35 ?_; intro gb103 hg w52 hbox hb; have BK103 := Aside0.mk (hbox); have GW103 := gwq_ HB hg rfl; have GE103 := GW103; have NB101_103 := nbl_ BK101 hg rfl; have NB103_101 := nbg_ BK101 hg rfl; have NB102_103 := nbl_ BK102 hg rfl; have NB103_102 := nbg_ BK102 hg rfl; replace BK101 := bkb_ BK101 hb rfl; replace BK102 := bkb_ BK102 hb rfl; replace HB := hbs_ HB hb rfl rfl rfl rfl; clear hb hbox hg))
  replace BK101 := Aside0.mk (blk_drew BK101.out)
  replace BK102 := Aside0.mk (blk_drew BK102.out)
  replace BK103 := Aside0.mk (blk_drew BK103.out)
  replace HB := Aside0.mk (below_drew1 HB.out)
  refine start_ (n := 7) (S := fun w' => w'.cell? ⟨gb101, 0, none⟩ = some (.int .i64 a0_0) ∧ w'.cell? ⟨gb101, 1, none⟩ = some (.int .i64 a0_1) ∧ w'.cell? ⟨gb102, 0, none⟩ = some (.int .i64 a2_0) ∧ w'.cell? ⟨gb102, 1, none⟩ = some (.int .i64 a2_1) ∧ w'.cell? ⟨gb102, 2, none⟩ = some (.int .i64 a2_2)) (ds := []) #[false, false, false, false, false, false, false] (by kernel_rfl) rfl rfl ⟨bc_ BK101 0 rfl, bc_ BK101 1 rfl, bc_ BK102 0 rfl, bc_ BK102 1 rfl, bc_ BK102 2 rfl⟩ (fun hHeld => ?_)
  generalize w52.drew = w53 at BK101 BK102 BK103 HB hHeld ⊢
  refine take_ (i := 0) (N := some 21) (v := ?_) (a' := ?_) #[true, false, false, false, false, false, false] rfl rfl (by kernel_rfl) (fun _ _ _ h => h) (Or.inl ⟨by rfl, ?_⟩) hHeld ?_ ?_
  rotate_left
  · rintro w' ⟨s0, s1, s2, s3, s4⟩
    go_simp
    with_reducible rfl
  rotate_left
  · simp only [Act.put, List.setIfInBounds_toArray, List.set_cons_zero, List.set_cons_succ, i64_w, i32_w]
    rfl
  refine take_ (i := 2) (N := some 23) (v := ?_) (a' := ?_) #[true, false, true, false, false, false, false] rfl rfl (by kernel_rfl) (fun _ _ _ h => h) (Or.inl ⟨by rfl, ?_⟩) hHeld ?_ ?_
  rotate_left
  · rintro w' ⟨s0, s1, s2, s3, s4⟩
    go_simp
    with_reducible rfl
  rotate_left
  · simp only [Act.put, List.setIfInBounds_toArray, List.set_cons_zero, List.set_cons_succ, i64_w, i32_w]
    rfl
  refine one_ (i := 1) (N := some 22) #[true, true, true, false, false, false, false] rfl rfl (by kernel_rfl) (by decide) (fun K hK => ?_)
  refine gq_ Try.func16 #[.agg #[.int .i64 a0_0, .int .i64 a0_1]] ?_
  with_reducible refine (horizon_CheckSite.calls a0_0 a0_1 t104 _ A4.out).mono ?_
  rintro e w54 ⟨rfl, hb⟩
  refine ⟨_, rfl, ?_⟩
  replace BK101 := bkb_ BK101 hb rfl
  replace BK102 := bkb_ BK102 hb rfl
  replace BK103 := bkb_ BK103 hb rfl
  replace HB := hbs_ HB hb rfl rfl rfl rfl
  (try clear hb)
  refine hK.out _ _ ⟨bc_ BK101 0 rfl, bc_ BK101 1 rfl, bc_ BK102 0 rfl, bc_ BK102 1 rfl, bc_ BK102 2 rfl⟩ (fun hHeld => ?_)
  clear hK K
  refine nq_ 22 ?_
  refine one_ (i := 3) (N := some 24) #[true, true, true, true, false, false, false] rfl rfl (by kernel_rfl) (by decide) (fun K hK => ?_)
  refine gq_ Try.func17 #[.agg #[.int .i64 a2_0, .int .i64 a2_1, .int .i64 a2_2]] ?_
  with_reducible refine (sphere_Check.calls k a2_0 a2_1 a2_2 t105 _ A5.out).mono ?_
  rintro e w55 ⟨rfl, hb⟩
  refine ⟨_, rfl, ?_⟩
  replace BK101 := bkb_ BK101 hb rfl
  replace BK102 := bkb_ BK102 hb rfl
  replace BK103 := bkb_ BK103 hb rfl
  replace HB := hbs_ HB hb rfl rfl rfl rfl
  (try clear hb)
  refine hK.out _ _ ⟨bc_ BK101 0 rfl, bc_ BK101 1 rfl, bc_ BK102 0 rfl, bc_ BK102 1 rfl, bc_ BK102 2 rfl⟩ (fun hHeld => ?_)
  clear hK K
  refine nq_ 24 ?_
  refine one_ (i := 4) (N := some 25) #[true, true, true, true, true, false, false] rfl rfl (by kernel_rfl) (by decide) (fun K hK => ?_)
  refine Kd.R_lit_step (Kd.int .i64) _ 36 ?hg (N := 25) ?hd (xs := ([t104, t105] : List Int)) (inner := [.int .i64 t104, .int .i64 t105]) (ok := fun _ => True) (okp := fun _ => True) ?hr ?hp (fun _ hk => hk) trivial (Below.refl _ _) (Nat.le_refl _) (by simp) ?_; (case hd => rfl); (case hg => rfl); (case hr => first | (go_simp; done) | (go_simp; rfl)); (case hp => exact (Reps.one (show Kd.M (Kd.int .i64) _ _ _ t104 [.int .i64 t104] from rfl) (Reps.one (show Kd.M (Kd.int .i64) _ _ _ t105 [.int .i64 t105] from rfl) (Reps.none _ _))))
  intro v107 w56 ho57 hb hg_ hnew_
  clear hg_ hnew_
  (first | rw [← Ny106.out] at ho57 | (simp only [Int.reduceToNat] at ho57; rw [← Ny106.out] at ho57))
  have HO108 := Aside0.mk (Kd.R_lower ho57 (below_size (by repeat (first | exact HB.out | apply below_alloc | apply pw_below_drewN | refine below_set ?_ GE101.out | refine below_set ?_ GE102.out | refine below_set ?_ GE103.out))))
  replace BK101 := bkb_ BK101 hb rfl
  replace BK102 := bkb_ BK102 hb rfl
  replace BK103 := bkb_ BK103 hb rfl
  replace HB := hbs_ HB hb rfl rfl rfl rfl
  clear hb ho57
  obtain ⟨Ao58, co58, eo58⟩ := Kd.R_slice HO108.out
  (first | subst eo58 | (injection eo58 with f1_ f2_ f3_; have f4_ := f1_.symm; have f5_ := f3_.symm; clear f1_ f2_ f3_; subst f4_; subst f5_))
  refine hK.out _ _ ⟨bc_ BK101 0 rfl, bc_ BK101 1 rfl, bc_ BK102 0 rfl, bc_ BK102 1 rfl, bc_ BK102 2 rfl⟩ (fun hHeld => ?_)
  clear hK K
  refine nq_ 25 ?_
  refine one_ (i := 5) (N := some 26) #[true, true, true, true, true, true, false] rfl rfl (by kernel_rfl) (by decide) (fun K hK => ?_)
  refine gq_ Try.func15 #[.slice Ao58 y106.length co58] ?_
  with_reducible refine (cmp_Or_api_Errno.calls k _ _ y106 t109 _ ?side1 ?side2 A6.out).mono ?_
  (case side1 => repeat (first | exact (Kd.R_reads' HO108.out).2.2 | (with_reducible refine Kd.C_alloc ?_ _) | (with_reducible refine Kd.C_drewN ?_ _) | (with_reducible refine Kd.C_drew ?_)))
  (case side2 => exact (Kd.R_reads' HO108.out).2.1)
  rintro e w' ⟨rfl, ⟨nd, rfl⟩⟩
  refine ⟨_, rfl, ?_⟩
  refine hK.out _ _ ⟨bc_ BK101 0 rfl, bc_ BK101 1 rfl, bc_ BK102 0 rfl, bc_ BK102 1 rfl, bc_ BK102 2 rfl⟩ (fun hHeld => ?_)
  clear hK K
  refine nq_ 26 ?_
  refine pure_ (i := 6) (N := some 8) (v := ?_) (a' := ?_) #[true, true, true, true, true, true, true] rfl rfl (by kernel_rfl) (fun _ _ _ h => h) (Or.inl ⟨by rfl, ?_⟩) ?_ ?_
  rotate_left
  · intro w'
    go_simp
    with_reducible rfl
  rotate_left
  · simp only [Act.put, List.setIfInBounds_toArray, List.set_cons_zero, List.set_cons_succ, i64_w, i32_w]
    rfl
  refine done_ (by kernel_rfl) ?_
  have hnb59 := NB103_101.out
  have hnc59 := NB101_103.out
  have hnb60 := NB103_102.out
  have hnc60 := NB102_103.out
  have hcz61_0 := bc_ BK103 0 rfl
  have hcz61_1 := bc_ BK103 1 rfl
  have hfz61 := blk_frozen BK103.out
  try go_wp2
  refine bodyPost_ret (results_ct rfl _ _ gb103 35 #[.int .i64 0, .int .i64 0] (0, 0) _ rfl (by exact blk_put (blk_put BK103.out 0 _ rfl) 1 _ rfl) Try.underlying35 rfl (by kernel_rfl)) rfl ?_
  exact ⟨by first | rfl | (simp [errW_none, errW_some] <;> rfl), by repeat (first | exact HB.out | apply below_alloc | apply pw_below_drewN | refine below_set ?_ GE101.out | refine below_set ?_ GE102.out | refine below_set ?_ GE103.out)⟩

end Go.Proofs.Ytjgikgbolacikaa.Q
