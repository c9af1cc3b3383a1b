/- Contracts, as in the first text; no condition. -/
import Derived.Test.YtjgikgbolacikaaKHorizonAimedQx0
import Derived.Test.YtjgikgbolacikaaKHorizonAimedQx9
import Derived.Test.YtjgikgbolacikaaKHorizonAimedQx10
import Derived.Test.YtjgikgbolacikaaKHorizonAimedQx12
import Derived.Test.YtjgikgbolacikaaKHorizonAimedQx16
import Derived.Test.YtjgikgbolacikaaKHorizonAimedQx17
import Derived.Test.YtjgikgbolacikaaKHorizonAimedQx18
import Derived.Test.YtjgikgbolacikaaKHorizonAimedQx23
import Derived.Test.YtjgikgbolacikaaKHorizonAimedQx25
import Derived.Test.YtjgikgbolacikaaKHorizonAimedQx27
import Derived.Test.YtjgikgbolacikaaKHorizonAimedQx31
namespace Go.Proofs.Ytjgikgbolacikaa.Q
open Go.RowKit Go.Proofs.YtjgikgbolacikaaW.PrintWords Go.Proofs.YtjgikgbolacikaaW.PrintLast Go.Proofs.YtjgikgbolacikaaW.PrintMore
attribute [local go_sem] max2_int min2_int max_two min_two max_three min_three max_four min_four
set_option linter.unusedVariables false
set_option linter.unusedSimpArgs false

def horizon_Height.f (k : Nat) (a0_0 : Int) (a0_1 : Int) (a1_0 : Int) (a1_1 : Int) (a1_2 : Bool) (a2_0 : Int) (a2_1 : Int) (a2_2 : Int) : Option (Int × Int × Bool) := (horizon_CheckSite.f a0_0 a0_1).bind fun t105 => ((sphere_Check.f k a2_0 a2_1 a2_2).bind fun t106 => ((cmp_Or_api_Errno.f k (([t105, t106] : List Int))).bind fun t110 => (if t110 = 0 then ((sphere_Grow.f k a2_0 a2_1 a2_2).bind fun bt114 => ((bound_Exact_api_Arc.f k a0_1).bind fun bt117 => ((bound_Add_api_Arc.f k a1_0 a1_1 a1_2 bt117.1 bt117.2.1 bt117.2.2).bind fun bt120 => ((bound_Exact_api_Arc.f k a0_0).bind fun bt124 => ((trig_CosBound.f k bt120.1 bt120.2.1 bt120.2.2).bind fun bt128 => ((bound_Scale_api_Fix.f k bt128.1 bt128.2.1 bt128.2.2 bt114.1 1).bind fun bt131 => ((trig_SinBound.f k bt120.1 bt120.2.1 bt120.2.2).bind fun bt134 => ((bound_Scale_api_Fix.f k bt134.1 bt134.2.1 bt134.2.2 bt114.2.1 1).bind fun bt137 => ((bound_Add_api_Fix.f k bt131.1 bt131.2.1 bt131.2.2 bt137.1 bt137.2.1 bt137.2.2).bind fun bt140 => ((trig_SinBound.f k bt124.1 bt124.2.1 bt124.2.2).bind fun bt144 => ((bound_Scale_api_Fix.f k bt144.1 bt144.2.1 bt144.2.2 bt114.2.2 1).bind fun bt147 => ((trig_CosBound.f k bt124.1 bt124.2.1 bt124.2.2).bind fun bt150 => ((bound_Mul_api_Fix.f k bt150.1 bt150.2.1 bt150.2.2 bt140.1 bt140.2.1 bt140.2.2 1073741824).bind fun bt153 => ((bound_Add_api_Fix.f k bt147.1 bt147.2.1 bt147.2.2 bt153.1 bt153.2.1 bt153.2.2).bind fun bt156 => ((bound_Exact_api_Fix.f k (wrap64 ((wrap64 ((wrap64 (bt114.1 * bt114.1)) + (wrap64 (bt114.2.1 * bt114.2.1)))) + (wrap64 (bt114.2.2 * bt114.2.2))))).bind fun bt160 => ((bound_Root_api_Fix.f k bt160.1 bt160.2.1 bt160.2.2 1099511627776).bind fun bt163 => ((bound_Div_api_Fix.f k bt156.1 bt156.2.1 bt156.2.2 bt163.1 bt163.2.1 bt163.2.2 1048576).bind fun bt167 => (if bt167.2.2 = true then (none) else ((bound_Of_api_Fix.f k (-1073741824) 1073741824).bind fun bt171 => ((bound_Meet_api_Fix.f k bt167.1 bt167.2.1 bt167.2.2 bt171.1 bt171.2.1 bt171.2.2).bind fun bt174 => (some (bt174.1, bt174.2.1, bt174.2.2.1)))))))))))))))))))))) else (none))))
theorem horizon_Height.mono : ∀ a0 a1 a2 a3 a4 a5 a6 a7 k, LeO (horizon_Height.f k a0 a1 a2 a3 a4 a5 a6 a7) (horizon_Height.f (k + 1) a0 a1 a2 a3 a4 a5 a6 a7) := by
 intro a0 a1 a2 a3 a4 a5 a6 a7 k
 unfold horizon_Height.f
 repeat' first
  | (with_reducible exact bound_Add_api_Arc.mono _ _ _ _ _ _ _)
  | (with_reducible exact bound_Add_api_Fix.mono _ _ _ _ _ _ _)
  | (with_reducible exact bound_Div_api_Fix.mono _ _ _ _ _ _ _ _)
  | (with_reducible exact bound_Exact_api_Arc.mono _ _)
  | (with_reducible exact bound_Exact_api_Fix.mono _ _)
  | (with_reducible exact bound_Meet_api_Fix.mono _ _ _ _ _ _ _)
  | (with_reducible exact bound_Mul_api_Fix.mono _ _ _ _ _ _ _ _)
  | (with_reducible exact bound_Of_api_Fix.mono _ _ _)
  | (with_reducible exact bound_Root_api_Fix.mono _ _ _ _ _)
  | (with_reducible exact bound_Scale_api_Fix.mono _ _ _ _ _ _)
  | (with_reducible exact cmp_Or_api_Errno.mono _ _)
  | (with_reducible exact sphere_Check.mono _ _ _ _)
  | (with_reducible exact sphere_Grow.mono _ _ _ _)
  | (with_reducible exact trig_CosBound.mono _ _ _ _)
  | (with_reducible exact trig_SinBound.mono _ _ _ _)
  | (with_reducible exact LeO.refl _)
  | (with_reducible exact LeO.none _)
  | (with_reducible refine LeO.ite ?_ ?_)
  | (with_reducible refine LeO.bind ?_ (fun _ => ?_))
def horizon_Height.T4 : Bool × List (List Nat × List Nat) := (true, [([], []), ([], []), ([1], [1]), ([2], [2]), ([0, 3, 3], [0, 3]), ([], []), ([5, 4, 4, 0, 1, 2, 3, 4, 5], [4, 5])])
def horizon_Height.B4 : List Nat := [0, 0, 2, 6, 15, 0, 63]
theorem horizon_Height.tab4 : rtab .any (opsOf Try.f8 4) = horizon_Height.T4 := by kernel_rfl
theorem horizon_Height.bits4 : waitsOk horizon_Height.T4.2 horizon_Height.B4 = true := by kernel_rfl
def horizon_Height.T6 : Bool × List (List Nat × List Nat) := (true, [([], []), ([0], [0]), ([], []), ([2], [2]), ([1, 3, 1], [1, 3]), ([], []), ([5, 4], [5]), ([], []), ([7], [7]), ([6, 8, 6], [6, 8]), ([4, 9, 9], [4, 9]), ([], []), ([11, 10, 10, 0, 1, 2, 3, 4, 5, 6, 7, 8, 9, 10, 11], [10, 11])])
def horizon_Height.B6 : List Nat := [0, 1, 0, 4, 15, 0, 63, 0, 128, 511, 1023, 0, 4095]
theorem horizon_Height.tab6 : rtab .any (opsOf Try.f8 6) = horizon_Height.T6 := by kernel_rfl
theorem horizon_Height.bits6 : waitsOk horizon_Height.T6.2 horizon_Height.B6 = true := by kernel_rfl
def horizon_Height.T7 : Bool × List (List Nat × List Nat) := (true, [([], []), ([0], [0]), ([], []), ([2], [2]), ([1, 3, 1], [1, 3]), ([], []), ([5, 4], [5]), ([], []), ([6, 7, 6], [6, 7]), ([4, 8, 8], [4, 8]), ([], []), ([10, 9, 9, 0, 1, 2, 3, 4, 5, 6, 7, 8, 9, 10], [9, 10])])
def horizon_Height.B7 : List Nat := [0, 1, 0, 4, 15, 0, 63, 0, 255, 511, 0, 2047]
theorem horizon_Height.tab7 : rtab .any (opsOf Try.f8 7) = horizon_Height.T7 := by kernel_rfl
theorem horizon_Height.bits7 : waitsOk horizon_Height.T7.2 horizon_Height.B7 = true := by kernel_rfl
set_option maxHeartbeats 8000000 in
set_option maxRecDepth 100000 in
theorem horizon_Height.calls (k : Nat) (a0_0 : Int) (a0_1 : Int) (a1_0 : Int) (a1_1 : Int) (a1_2 : Bool) (a2_0 : Int) (a2_1 : Int) (a2_2 : Int) (r1 : Int) (r2 : Int) (r3 : Bool) (w : World) (h : horizon_Height.f k a0_0 a0_1 a1_0 a1_1 a1_2 a2_0 a2_1 a2_2 = some (r1, r2, r3)) :
 Calls Try.prog 8 #[.agg #[.int .i64 a0_0, .int .i64 a0_1], .agg #[.int .i64 a1_0, .int .i64 a1_1, .bool a1_2], .agg #[.int .i64 a2_0, .int .i64 a2_1, .int .i64 a2_2]] w fun e w' => e = .returned (.agg #[.int .i64 r1, .int .i64 r2, .bool r3]) ∧ Below w.heap.size w w' := by
  have hu28 := Try.underlying28
  have hu44 := Try.underlying44
  have hu32 := Try.underlying32
  have hu41 := Try.underlying41
  have HB := Aside0.mk (Below.refl w.heap.size w)
  have H : ((horizon_CheckSite.f a0_0 a0_1).bind fun t105 => ((sphere_Check.f k a2_0 a2_1 a2_2).bind fun t106 => ((cmp_Or_api_Errno.f k (([t105, t106] : List Int))).bind fun t110 => (if t110 = 0 then ((sphere_Grow.f k a2_0 a2_1 a2_2).bind fun bt114 => ((bound_Exact_api_Arc.f k a0_1).bind fun bt117 => ((bound_Add_api_Arc.f k a1_0 a1_1 a1_2 bt117.1 bt117.2.1 bt117.2.2).bind fun bt120 => ((bound_Exact_api_Arc.f k a0_0).bind fun bt124 => ((trig_CosBound.f k bt120.1 bt120.2.1 bt120.2.2).bind fun bt128 => ((bound_Scale_api_Fix.f k bt128.1 bt128.2.1 bt128.2.2 bt114.1 1).bind fun bt131 => ((trig_SinBound.f k bt120.1 bt120.2.1 bt120.2.2).bind fun bt134 => ((bound_Scale_api_Fix.f k bt134.1 bt134.2.1 bt134.2.2 bt114.2.1 1).bind fun bt137 => ((bound_Add_api_Fix.f k bt131.1 bt131.2.1 bt131.2.2 bt137.1 bt137.2.1 bt137.2.2).bind fun bt140 => ((trig_SinBound.f k bt124.1 bt124.2.1 bt124.2.2).bind fun bt144 => ((bound_Scale_api_Fix.f k bt144.1 bt144.2.1 bt144.2.2 bt114.2.2 1).bind fun bt147 => ((trig_CosBound.f k bt124.1 bt124.2.1 bt124.2.2).bind fun bt150 => ((bound_Mul_api_Fix.f k bt150.1 bt150.2.1 bt150.2.2 bt140.1 bt140.2.1 bt140.2.2 1073741824).bind fun bt153 => ((bound_Add_api_Fix.f k bt147.1 bt147.2.1 bt147.2.2 bt153.1 bt153.2.1 bt153.2.2).bind fun bt156 => ((bound_Exact_api_Fix.f k (wrap64 ((wrap64 ((wrap64 (bt114.1 * bt114.1)) + (wrap64 (bt114.2.1 * bt114.2.1)))) + (wrap64 (bt114.2.2 * bt114.2.2))))).bind fun bt160 => ((bound_Root_api_Fix.f k bt160.1 bt160.2.1 bt160.2.2 1099511627776).bind fun bt163 => ((bound_Div_api_Fix.f k bt156.1 bt156.2.1 bt156.2.2 bt163.1 bt163.2.1 bt163.2.2 1048576).bind fun bt167 => (if bt167.2.2 = true then (none) else ((bound_Of_api_Fix.f k (-1073741824) 1073741824).bind fun bt171 => ((bound_Meet_api_Fix.f k bt167.1 bt167.2.1 bt167.2.2 bt171.1 bt171.2.1 bt171.2.2).bind fun bt174 => (some (bt174.1, bt174.2.1, bt174.2.2.1)))))))))))))))))))))) else (none))))) = some (r1, r2, r3) := h
  clear h
  replace H := bso_ H
  obtain ⟨t105, A40, H⟩ := H
  try dsimp -simprocs only at H
  have A4 := Aside0.mk A40
  clear A40
  replace H := bso_ H
  obtain ⟨t106, A50, H⟩ := H
  try dsimp -simprocs only at H
  have A5 := Aside0.mk A50
  clear A50
  obtain ⟨y107, hy107⟩ : ∃ y_ : List Int, y_ = (([t105, t106] : List Int)) := ⟨_, rfl⟩
  replace H : ((cmp_Or_api_Errno.f k y107).bind fun t110 => (if t110 = 0 then ((sphere_Grow.f k a2_0 a2_1 a2_2).bind fun bt114 => ((bound_Exact_api_Arc.f k a0_1).bind fun bt117 => ((bound_Add_api_Arc.f k a1_0 a1_1 a1_2 bt117.1 bt117.2.1 bt117.2.2).bind fun bt120 => ((bound_Exact_api_Arc.f k a0_0).bind fun bt124 => ((trig_CosBound.f k bt120.1 bt120.2.1 bt120.2.2).bind fun bt128 => ((bound_Scale_api_Fix.f k bt128.1 bt128.2.1 bt128.2.2 bt114.1 1).bind fun bt131 => ((trig_SinBound.f k bt120.1 bt120.2.1 bt120.2.2).bind fun bt134 => ((bound_Scale_api_Fix.f k bt134.1 bt134.2.1 bt134.2.2 bt114.2.1 1).bind fun bt137 => ((bound_Add_api_Fix.f k bt131.1 bt131.2.1 bt131.2.2 bt137.1 bt137.2.1 bt137.2.2).bind fun bt140 => ((trig_SinBound.f k bt124.1 bt124.2.1 bt124.2.2).bind fun bt144 => ((bound_Scale_api_Fix.f k bt144.1 bt144.2.1 bt144.2.2 bt114.2.2 1).bind fun bt147 => ((trig_CosBound.f k bt124.1 bt124.2.1 bt124.2.2).bind fun bt150 => ((bound_Mul_api_Fix.f k bt150.1 bt150.2.1 bt150.2.2 bt140.1 bt140.2.1 bt140.2.2 1073741824).bind fun bt153 => ((bound_Add_api_Fix.f k bt147.1 bt147.2.1 bt147.2.2 bt153.1 bt153.2.1 bt153.2.2).bind fun bt156 => ((bound_Exact_api_Fix.f k (wrap64 ((wrap64 ((wrap64 (bt114.1 * bt114.1)) + (wrap64 (bt114.2.1 * bt114.2.1)))) + (wrap64 (bt114.2.2 * bt114.2.2))))).bind fun bt160 => ((bound_Root_api_Fix.f k bt160.1 bt160.2.1 bt160.2.2 1099511627776).bind fun bt163 => ((bound_Div_api_Fix.f k bt156.1 bt156.2.1 bt156.2.2 bt163.1 bt163.2.1 bt163.2.2 1048576).bind fun bt167 => (if bt167.2.2 = true then (none) else ((bound_Of_api_Fix.f k (-1073741824) 1073741824).bind fun bt171 => ((bound_Meet_api_Fix.f k bt167.1 bt167.2.1 bt167.2.2 bt171.1 bt171.2.1 bt171.2.2).bind fun bt174 => (some (bt174.1, bt174.2.1, bt174.2.2.1)))))))))))))))))))))) else (none))) = some (r1, r2, r3) := by first | (rw [hy107]; with_reducible exact H) | (have H2_ := (Option.bind_some _ _).symm.trans H; rw [hy107]; with_reducible exact H2_) | (have H2_ := (Option.bind_some _ _).symm.trans H; with_reducible exact H2_) | with_reducible exact H | (rw [hy107]; exact H) | exact H
  have Ny107 := Aside0.mk hy107
  clear hy107
  replace H := bso_ H
  obtain ⟨t110, A60, H⟩ := H
  try dsimp -simprocs only at H
  have A6 := Aside0.mk A60
  clear A60
  by_cases c7 : t110 = 0
  rotate_left
  · rw [if_neg c7] at H
    exact absurd H (by simp)
  rw [if_pos c7] at H
  have c7b0 : (t110 == 0) = true := beq_iff_eq.mpr c7
  have c7b1 : (t110 != 0) = false := bne_eq_false_iff_eq.mpr c7
  clear c7
  replace H := bso_ H
  obtain ⟨⟨t114, t115, t116⟩, A80, H⟩ := H
  try dsimp -simprocs only at H
  have A8 := Aside0.mk A80
  clear A80
  replace H := bso_ H
  obtain ⟨⟨t117, t118, t119⟩, A90, H⟩ := H
  try dsimp -simprocs only at H
  have A9 := Aside0.mk A90
  clear A90
  replace H := bso_ H
  obtain ⟨⟨t120, t121, t122⟩, A100, H⟩ := H
  try dsimp -simprocs only at H
  have A10 := Aside0.mk A100
  clear A100
  replace H := bso_ H
  obtain ⟨⟨t124, t125, t126⟩, A110, H⟩ := H
  try dsimp -simprocs only at H
  have A11 := Aside0.mk A110
  clear A110
  replace H := bso_ H
  obtain ⟨⟨t128, t129, t130⟩, A120, H⟩ := H
  try dsimp -simprocs only at H
  have A12 := Aside0.mk A120
  clear A120
  replace H := bso_ H
  obtain ⟨⟨t131, t132, t133⟩, A130, H⟩ := H
  try dsimp -simprocs only at H
  have A13 := Aside0.mk A130
  clear A130
  replace H := bso_ H
  obtain ⟨⟨t134, t135, t136⟩, A140, H⟩ := H
  try dsimp -simprocs only at H
  have A14 := Aside0.mk A140
  clear A140
  replace H := bso_ H
  obtain ⟨⟨t137, t138, t139⟩, A150, H⟩ := H
  try dsimp -simprocs only at H
  have A15 := Aside0.mk A150
  clear A150
  replace H := bso_ H
  obtain ⟨⟨t140, t141, t142⟩, A160, H⟩ := H
  try dsimp -simprocs only at H
  have A16 := Aside0.mk A160
  clear A160
  replace H := bso_ H
  obtain ⟨⟨t144, t145, t146⟩, A170, H⟩ := H
  try dsimp -simprocs only at H
  have A17 := Aside0.mk A170
  clear A170
  replace H := bso_ H
  obtain ⟨⟨t147, t148, t149⟩, A180, H⟩ := H
  try dsimp -simprocs only at H
  have A18 := Aside0.mk A180
  clear A180
  replace H := bso_ H
  obtain ⟨⟨t150, t151, t152⟩, A190, H⟩ := H
  try dsimp -simprocs only at H
  have A19 := Aside0.mk A190
  clear A190
  replace H := bso_ H
  obtain ⟨⟨t153, t154, t155⟩, A200, H⟩ := H
  try dsimp -simprocs only at H
  have A20 := Aside0.mk A200
  clear A200
  replace H := bso_ H
  obtain ⟨⟨t156, t157, t158⟩, A210, H⟩ := H
  try dsimp -simprocs only at H
  have A21 := Aside0.mk A210
  clear A210
  replace H := bso_ H
  obtain ⟨⟨t160, t161, t162⟩, A220, H⟩ := H
  try dsimp -simprocs only at H
  have A22 := Aside0.mk A220
  clear A220
  replace H := bso_ H
  obtain ⟨⟨t163, t164, t165⟩, A230, H⟩ := H
  try dsimp -simprocs only at H
  have A23 := Aside0.mk A230
  clear A230
  replace H := bso_ H
  obtain ⟨⟨t167, t168, t169⟩, A240, H⟩ := H
  try dsimp -simprocs only at H
  have A24 := Aside0.mk A240
  clear A240
  by_cases c25 : t169 = true
  · subst c25
    rw [if_pos rfl] at H
    exact absurd H (by simp)
  replace c25 := Bool.eq_false_iff.mpr c25
  subst c25
  rw [if_neg (show ¬ (false = true) by decide)] at H
  replace H := bso_ H
  obtain ⟨⟨t171, t172, t173⟩, A260, H⟩ := H
  try dsimp -simprocs only at H
  have A26 := Aside0.mk A260
  clear A260
  replace H := bso_ H
  obtain ⟨⟨t174, t175, t176, t177⟩, A270, H⟩ := H
  try dsimp -simprocs only at H
  have A27 := Aside0.mk A270
  clear A270
  simp only [Option.some.injEq, Prod.mk.injEq] at H
  obtain ⟨rfl, rfl, rfl⟩ := H
  go_enter Try.func8, Try.ntmps8
  try go_wp2_with (first | ((with_reducible refine gate_dst (N := 3) rfl ?_); refine bxq_ 3 #[.int .i64 a0_0, .int .i64 a0_1] 28 ?_; intro gb101 hg w28 hbox hb; have BK101 := Aside0.mk (hbox); have GW101 := gwq_ HB hg rfl; have GE101 := GW101; replace HB := hbs_ HB hb rfl rfl rfl rfl; clear hb hbox hg) | ((with_reducible refine gate_dst (N := 4) rfl ?_); refine bxq_ 4 #[.int .i64 a1_0, .int .i64 a1_1, .bool a1_2] 44 ?_; intro gb102 hg w29 hbox hb; have BK102 := Aside0.mk (hbox); have GW102 := gwq_ HB hg rfl; have GE102 := GW102; have NB101_102 := nbl_ BK101 hg rfl; have NB102_101 := nbg_ BK101 hg rfl; replace BK101 := bkb_ BK101 hb rfl; replace HB := hbs_ HB hb rfl rfl rfl rfl; clear hb hbox hg) | ((with_reducible refine gate_dst (N := 5) rfl ?_); refine bxq_ 5 #[.int .i64 a2_0, .int .i64 a2_1, .int .i64 a2_2] 32 ?_; intro gb103 hg w30 hbox hb; have BK103 := Aside0.mk (hbox); have GW103 := gwq_ HB hg rfl; have GE103 := GW103; have NB101_103 := nbl_ BK101 hg rfl; have NB103_101 := nbg_ BK101 hg rfl; have NB102_103 := nbl_ BK102 hg rfl; have NB103_102 := nbg_ BK102 hg rfl; replace BK101 := bkb_ BK101 hb rfl; replace BK102 := bkb_ BK102 hb rfl; replace HB := hbs_ HB hb rfl rfl rfl rfl; clear hb hbox hg) | ((with_reducible refine gate_dst (N := 6) rfl ?_); refine bxq_ 6 #[.int .i64 0, .int .i64 0, .bool false] 41 ?_; intro gb104 hg w31 hbox hb; have BK104 := Aside0.mk (hbox); have GW104 := gwq_ HB hg rfl; have GE104 := GW104; have NB101_104 := nbl_ BK101 hg rfl; have NB104_101 := nbg_ BK101 hg rfl; have NB102_104 := nbl_ BK102 hg rfl; have NB104_102 := nbg_ BK102 hg rfl; have NB103_104 := nbl_ BK103 hg rfl; have NB104_103 := nbg_ BK103 hg rfl; replace BK101 := bkb_ BK101 hb rfl; replace BK102 := bkb_ BK102 hb rfl; replace BK103 := bkb_ BK103 hb rfl; replace HB := hbs_ HB hb rfl rfl rfl rfl; clear hb hbox hg))
  replace BK101 := Aside0.mk (blk_drew BK101.out)
  replace BK102 := Aside0.mk (blk_drew BK102.out)
  replace BK103 := Aside0.mk (blk_drew BK103.out)
  replace BK104 := Aside0.mk (blk_drew BK104.out)
  replace HB := Aside0.mk (below_drew1 HB.out)
  refine start_ (n := 7) (S := fun w' => w'.cell? ⟨gb101, 0, none⟩ = some (.int .i64 a0_0) ∧ w'.cell? ⟨gb101, 1, none⟩ = some (.int .i64 a0_1) ∧ w'.cell? ⟨gb103, 0, none⟩ = some (.int .i64 a2_0) ∧ w'.cell? ⟨gb103, 1, none⟩ = some (.int .i64 a2_1) ∧ w'.cell? ⟨gb103, 2, none⟩ = some (.int .i64 a2_2)) (ds := []) #[false, false, false, false, false, false, false] (by kernel_rfl) rfl rfl ⟨bc_ BK101 0 rfl, bc_ BK101 1 rfl, bc_ BK103 0 rfl, bc_ BK103 1 rfl, bc_ BK103 2 rfl⟩ (fun hHeld => ?_)
  generalize w31.drew = w32 at BK101 BK102 BK103 BK104 HB hHeld ⊢
  refine take_ (i := 0) (N := some 13) (v := ?_) (a' := ?_) #[true, false, false, false, false, false, false] rfl rfl (by kernel_rfl) (fun _ _ _ h => h) (Or.inl ⟨by rfl, ?_⟩) hHeld ?_ ?_
  rotate_left
  · rintro w' ⟨s0, s1, s2, s3, s4⟩
    go_simp
    with_reducible rfl
  rotate_left
  · simp only [Act.put, List.setIfInBounds_toArray, List.set_cons_zero, List.set_cons_succ, i64_w, i32_w]
    rfl
  refine take_ (i := 2) (N := some 15) (v := ?_) (a' := ?_) #[true, false, true, false, false, false, false] rfl rfl (by kernel_rfl) (fun _ _ _ h => h) (Or.inl ⟨by rfl, ?_⟩) hHeld ?_ ?_
  rotate_left
  · rintro w' ⟨s0, s1, s2, s3, s4⟩
    go_simp
    with_reducible rfl
  rotate_left
  · simp only [Act.put, List.setIfInBounds_toArray, List.set_cons_zero, List.set_cons_succ, i64_w, i32_w]
    rfl
  refine one_ (i := 1) (N := some 14) #[true, true, true, false, false, false, false] rfl rfl (by kernel_rfl) (by decide) (fun K hK => ?_)
  refine gq_ Try.func16 #[.agg #[.int .i64 a0_0, .int .i64 a0_1]] ?_
  with_reducible refine (horizon_CheckSite.calls a0_0 a0_1 t105 _ A4.out).mono ?_
  rintro e w33 ⟨rfl, hb⟩
  refine ⟨_, rfl, ?_⟩
  replace BK101 := bkb_ BK101 hb rfl
  replace BK102 := bkb_ BK102 hb rfl
  replace BK103 := bkb_ BK103 hb rfl
  replace BK104 := bkb_ BK104 hb rfl
  replace HB := hbs_ HB hb rfl rfl rfl rfl
  (try clear hb)
  refine hK.out _ _ ⟨bc_ BK101 0 rfl, bc_ BK101 1 rfl, bc_ BK103 0 rfl, bc_ BK103 1 rfl, bc_ BK103 2 rfl⟩ (fun hHeld => ?_)
  clear hK K
  refine nq_ 14 ?_
  refine one_ (i := 3) (N := some 16) #[true, true, true, true, false, false, false] rfl rfl (by kernel_rfl) (by decide) (fun K hK => ?_)
  refine gq_ Try.func17 #[.agg #[.int .i64 a2_0, .int .i64 a2_1, .int .i64 a2_2]] ?_
  with_reducible refine (sphere_Check.calls k a2_0 a2_1 a2_2 t106 _ A5.out).mono ?_
  rintro e w34 ⟨rfl, hb⟩
  refine ⟨_, rfl, ?_⟩
  replace BK101 := bkb_ BK101 hb rfl
  replace BK102 := bkb_ BK102 hb rfl
  replace BK103 := bkb_ BK103 hb rfl
  replace BK104 := bkb_ BK104 hb rfl
  replace HB := hbs_ HB hb rfl rfl rfl rfl
  (try clear hb)
  refine hK.out _ _ ⟨bc_ BK101 0 rfl, bc_ BK101 1 rfl, bc_ BK103 0 rfl, bc_ BK103 1 rfl, bc_ BK103 2 rfl⟩ (fun hHeld => ?_)
  clear hK K
  refine nq_ 16 ?_
  refine one_ (i := 4) (N := some 17) #[true, true, true, true, true, false, false] rfl rfl (by kernel_rfl) (by decide) (fun K hK => ?_)
  refine Kd.R_lit_step (Kd.int .i64) _ 36 ?hg (N := 17) ?hd (xs := ([t105, t106] : List Int)) (inner := [.int .i64 t105, .int .i64 t106]) (ok := fun _ => True) (okp := fun _ => True) ?hr ?hp (fun _ hk => hk) trivial (Below.refl _ _) (Nat.le_refl _) (by simp) ?_; (case hd => rfl); (case hg => rfl); (case hr => first | (go_simp; done) | (go_simp; rfl)); (case hp => exact (Reps.one (show Kd.M (Kd.int .i64) _ _ _ t105 [.int .i64 t105] from rfl) (Reps.one (show Kd.M (Kd.int .i64) _ _ _ t106 [.int .i64 t106] from rfl) (Reps.none _ _))))
  intro v108 w35 ho36 hb hg_ hnew_
  clear hg_ hnew_
  (first | rw [← Ny107.out] at ho36 | (simp only [Int.reduceToNat] at ho36; rw [← Ny107.out] at ho36))
  have HO109 := Aside0.mk (Kd.R_lower ho36 (below_size (by repeat (first | exact HB.out | apply below_alloc | refine below_set ?_ GE101.out | refine below_set ?_ GE102.out | refine below_set ?_ GE103.out | refine below_set ?_ GE104.out))))
  replace BK101 := bkb_ BK101 hb rfl
  replace BK102 := bkb_ BK102 hb rfl
  replace BK103 := bkb_ BK103 hb rfl
  replace BK104 := bkb_ BK104 hb rfl
  replace HB := hbs_ HB hb rfl rfl rfl rfl
  clear hb ho36
  obtain ⟨Ao37, co37, eo37⟩ := Kd.R_slice HO109.out
  (first | subst eo37 | (injection eo37 with f1_ f2_ f3_; have f4_ := f1_.symm; have f5_ := f3_.symm; clear f1_ f2_ f3_; subst f4_; subst f5_))
  refine hK.out _ _ ⟨bc_ BK101 0 rfl, bc_ BK101 1 rfl, bc_ BK103 0 rfl, bc_ BK103 1 rfl, bc_ BK103 2 rfl⟩ (fun hHeld => ?_)
  clear hK K
  refine nq_ 17 ?_
  refine one_ (i := 5) (N := some 18) #[true, true, true, true, true, true, false] rfl rfl (by kernel_rfl) (by decide) (fun K hK => ?_)
  refine gq_ Try.func15 #[.slice Ao37 y107.length co37] ?_
  with_reducible refine (cmp_Or_api_Errno.calls k _ _ y107 t110 _ ?side1 ?side2 A6.out).mono ?_
  (case side1 => repeat (first | exact (Kd.R_reads' HO109.out).2.2 | (with_reducible refine Kd.C_alloc ?_ _) | (with_reducible refine Kd.C_drewN ?_ _) | (with_reducible refine Kd.C_drew ?_)))
  (case side2 => exact (Kd.R_reads' HO109.out).2.1)
  rintro e w' ⟨rfl, ⟨nd, rfl⟩⟩
  refine ⟨_, rfl, ?_⟩
  refine hK.out _ _ ⟨bc_ BK101 0 rfl, bc_ BK101 1 rfl, bc_ BK103 0 rfl, bc_ BK103 1 rfl, bc_ BK103 2 rfl⟩ (fun hHeld => ?_)
  clear hK K
  refine nq_ 18 ?_
  refine pure_ (i := 6) (N := some 19) (v := ?_) (a' := ?_) #[true, true, true, true, true, true, true] rfl rfl (by kernel_rfl) (fun _ _ _ h => h) (Or.inl ⟨by rfl, ?_⟩) ?_ ?_
  rotate_left
  · intro w'
    go_simp
    with_reducible rfl
  rotate_left
  · simp only [Act.put, List.setIfInBounds_toArray, List.set_cons_zero, List.set_cons_succ, i64_w, i32_w]
    rfl
  refine done_ (by kernel_rfl) ?_
  have hnb38 := NB103_101.out
  have hnc38 := NB101_103.out
  have hnb39 := NB103_102.out
  have hnc39 := NB102_103.out
  have hnb40 := NB103_104.out
  have hnc40 := NB104_103.out
  have hcz41_0 := bc_ BK103 0 rfl
  have hcz41_1 := bc_ BK103 1 rfl
  have hcz41_2 := bc_ BK103 2 rfl
  have hfz41 := blk_frozen BK103.out
  try go_wp2_with (first | ((with_reducible refine gate_callee (f := 18) rfl ?_); refine glq_ (some 22) Try.func18 #[.agg #[.int .i64 a2_0, .int .i64 a2_1, .int .i64 a2_2]] ?_; (with_reducible refine (sphere_Grow.calls k a2_0 a2_1 a2_2 t114 t115 t116 _ A8.out).mono ?_); rintro e w42 ⟨rfl, hb⟩; refine ⟨_, rfl, ?_⟩; replace HO109 := Aside0.mk (Kd.R_below (by exact HO109.out) hb); replace BK101 := bkb_ BK101 hb rfl; replace BK102 := bkb_ BK102 hb rfl; replace BK103 := bkb_ BK103 hb rfl; replace BK104 := bkb_ BK104 hb rfl; replace HB := hbs_ HB hb rfl rfl rfl rfl; (try clear hb); have hcz43_0 := bc_ BK103 0 rfl; have hcz43_1 := bc_ BK103 1 rfl; have hcz43_2 := bc_ BK103 2 rfl; have hfz43 := blk_frozen BK103.out))
  have n0_ : Aside0 (Kd.R (Kd.int .i64) 36 (((w42.setCell ⟨gb103, 0, none⟩ (.int .i64 t114)).setCell ⟨gb103, 1, none⟩ (.int .i64 t115)).setCell ⟨gb103, 2, none⟩ (.int .i64 t116)) w.heap.size (fun _ => True) (.slice Ao37 y107.length co37) y107) := ⟨by exact Kd.R_mono (Kd.R_far (p := ⟨gb103, 2, none⟩) (Kd.R_far (p := ⟨gb103, 1, none⟩) (Kd.R_far (p := ⟨gb103, 0, none⟩) (Kd.R_types HO109.out BK103.out (by decide)) (fun _ hk => hk.2) (.int .i64 t114)) (fun _ hk => hk.2) (.int .i64 t115)) (fun _ hk => hk.2) (.int .i64 t116)) (fun _ hk => trivial)⟩
  have n1_ : Aside0 ((((w42.setCell ⟨gb103, 0, none⟩ (.int .i64 t114)).setCell ⟨gb103, 1, none⟩ (.int .i64 t115)).setCell ⟨gb103, 2, none⟩ (.int .i64 t116)).heap[gb101]? = some (.cells #[.int .i64 a0_0, .int .i64 a0_1] 28 (0, 0))) := ⟨by refine blk_far ?_ NB101_103.out _; refine blk_far ?_ NB101_103.out _; refine blk_far ?_ NB101_103.out _; exact BK101.out⟩
  have n2_ : Aside0 ((((w42.setCell ⟨gb103, 0, none⟩ (.int .i64 t114)).setCell ⟨gb103, 1, none⟩ (.int .i64 t115)).setCell ⟨gb103, 2, none⟩ (.int .i64 t116)).heap[gb102]? = some (.cells #[.int .i64 a1_0, .int .i64 a1_1, .bool a1_2] 44 (0, 0))) := ⟨by refine blk_far ?_ NB102_103.out _; refine blk_far ?_ NB102_103.out _; refine blk_far ?_ NB102_103.out _; exact BK102.out⟩
  have n3_ : Aside0 ((((w42.setCell ⟨gb103, 0, none⟩ (.int .i64 t114)).setCell ⟨gb103, 1, none⟩ (.int .i64 t115)).setCell ⟨gb103, 2, none⟩ (.int .i64 t116)).heap[gb103]? = some (.cells #[.int .i64 t114, .int .i64 t115, .int .i64 t116] 32 (0, 0))) := ⟨by refine blk_put (cs := #[.int .i64 t114, .int .i64 t115, .int .i64 a2_2]) ?_ 2 _ rfl; refine blk_put (cs := #[.int .i64 t114, .int .i64 a2_1, .int .i64 a2_2]) ?_ 1 _ rfl; refine blk_put (cs := #[.int .i64 a2_0, .int .i64 a2_1, .int .i64 a2_2]) ?_ 0 _ rfl; exact BK103.out⟩
  have n4_ : Aside0 ((((w42.setCell ⟨gb103, 0, none⟩ (.int .i64 t114)).setCell ⟨gb103, 1, none⟩ (.int .i64 t115)).setCell ⟨gb103, 2, none⟩ (.int .i64 t116)).heap[gb104]? = some (.cells #[.int .i64 0, .int .i64 0, .bool false] 41 (0, 0))) := ⟨by refine blk_far ?_ NB104_103.out _; refine blk_far ?_ NB104_103.out _; refine blk_far ?_ NB104_103.out _; exact BK104.out⟩
  have n5_ : Aside0 (Below w.heap.size w (((w42.setCell ⟨gb103, 0, none⟩ (.int .i64 t114)).setCell ⟨gb103, 1, none⟩ (.int .i64 t115)).setCell ⟨gb103, 2, none⟩ (.int .i64 t116))) := ⟨by repeat (first | exact HB.out | apply below_alloc | refine below_set ?_ GE101.out | refine below_set ?_ GE102.out | refine below_set ?_ GE103.out | refine below_set ?_ GE104.out)⟩
  (try clear HO109)
  (try clear BK101)
  (try clear BK102)
  (try clear BK103)
  (try clear BK104)
  (try clear HB)
  generalize (((w42.setCell ⟨gb103, 0, none⟩ (.int .i64 t114)).setCell ⟨gb103, 1, none⟩ (.int .i64 t115)).setCell ⟨gb103, 2, none⟩ (.int .i64 t116)) = w44 at n0_ n1_ n2_ n3_ n4_ n5_ ⊢
  have HO109 := n0_
  have BK101 := n1_
  have BK102 := n2_
  have BK103 := n3_
  have BK104 := n4_
  have HB := n5_
  clear n0_ n1_ n2_ n3_ n4_ n5_
  replace HO109 := Aside0.mk (Kd.R_drew HO109.out)
  replace BK101 := Aside0.mk (blk_drew BK101.out)
  replace BK102 := Aside0.mk (blk_drew BK102.out)
  replace BK103 := Aside0.mk (blk_drew BK103.out)
  replace BK104 := Aside0.mk (blk_drew BK104.out)
  replace HB := Aside0.mk (below_drew1 HB.out)
  refine start_ (n := 7) (S := fun w' => True) (ds := []) #[false, false, false, false, false, false, false] (by kernel_rfl) rfl rfl trivial (fun hHeld => ?_); refine with_tabW horizon_Height.tab4 horizon_Height.bits4 (fun HT_ HW_ => ?_)
  generalize w44.drew = w45 at HO109 BK101 BK102 BK103 BK104 HB hHeld ⊢
  refine pq_ 1 24 #[false, true, false, false, false, false, false] HT_ ?_
  refine inv_at [0, 2, 3, 4, 5, 6] (fun a0_ b a w' => ∃ (gb123 : Nat) (m5_ : Value), a = putSel a0_ b [(0, 23, .agg #[.int .i64 a1_0, .int .i64 a1_1, .bool a1_2]), (2, 25, .int .i64 a0_1), (3, 26, .agg #[.int .i64 t117, .int .i64 t118, .bool t119]), (4, 27, .agg #[.int .i64 t120, .int .i64 t121, .bool t122]), (5, 7, m5_)] ∧ (Kd.R (Kd.int .i64) 36 w' w.heap.size (fun _ => True) (.slice Ao37 y107.length co37) y107) ∧ (w'.heap[gb101]? = some (.cells #[.int .i64 a0_0, .int .i64 a0_1] 28 (0, 0))) ∧ (w'.heap[gb102]? = some (.cells #[.int .i64 a1_0, .int .i64 a1_1, .bool a1_2] 44 (0, 0))) ∧ (w'.heap[gb103]? = some (.cells #[.int .i64 t114, .int .i64 t115, .int .i64 t116] 32 (0, 0))) ∧ (w'.heap[gb104]? = some (.cells #[.int .i64 0, .int .i64 0, .bool false] 41 (0, 0))) ∧ (Below w.heap.size w w') ∧ (b 5 = true → b 6 = false → w'.heap[gb123]? = some (.cells #[.int .i64 0, .int .i64 0, .bool false] 44 (0, 0))) ∧ (b 5 = true → w.heap.size ≤ gb123) ∧ (b 5 = true → w.heap.size ≤ gb123) ∧ (b 5 = true → gb101 ≠ gb123) ∧ (b 5 = true → gb123 ≠ gb101) ∧ (b 5 = true → gb102 ≠ gb123) ∧ (b 5 = true → gb123 ≠ gb102) ∧ (b 5 = true → gb103 ≠ gb123) ∧ (b 5 = true → gb123 ≠ gb103) ∧ (b 5 = true → gb104 ≠ gb123) ∧ (b 5 = true → gb123 ≠ gb104) ∧ (b 6 = true → w'.heap[gb123]? = some (.cells #[.int .i64 t120, .int .i64 t121, .bool t122] 44 (0, 0))) ∧ (b 5 = true → (m5_ : Value) = .pointer (some ⟨gb123, 0, none⟩))) HT_.out HW_.out (by kernel_rfl) (by kernel_rfl) ?_ ?_ ?_
  · exact ⟨0, .bool false, by simp only [putSel, Bool.false_eq_true, if_false], HO109.out, BK101.out, BK102.out, BK103.out, BK104.out, HB.out, fun h_ => absurd h_ (by decide), fun h_ => absurd h_ (by decide), fun h_ => absurd h_ (by decide), fun h_ => absurd h_ (by decide), fun h_ => absurd h_ (by decide), fun h_ => absurd h_ (by decide), fun h_ => absurd h_ (by decide), fun h_ => absurd h_ (by decide), fun h_ => absurd h_ (by decide), fun h_ => absurd h_ (by decide), fun h_ => absurd h_ (by decide), fun h_ => absurd h_ (by decide), fun h_ => absurd h_ (by decide)⟩
  · skip
    clear BK101 BK102 BK103 BK104 HB HO109
    refine steps_cons ?_ ?_
    · rintro b a w' ⟨gb123, m5_, ha, Q_HO109, Q_BK101, Q_BK102, Q_BK103, Q_BK104, Q_HB, Q_BK123, Q_GW123, Q_GE123, Q_NB101_123, Q_NB123_101, Q_NB102_123, Q_NB123_102, Q_NB103_123, Q_NB123_103, Q_NB104_123, Q_NB123_104, Q_BK123_e6, Q_X5_⟩ hb_ hon hoff
      refine ⟨_, rfl, fun K hK => ?_⟩
      have e4 : a.tmps[4]? = some (.pointer (some ⟨gb102, 0, none⟩)) := by rw [ha]; exact (putSel_off rfl).trans rfl
      replace ha := Aside0.mk ha
      have HO109 := Aside0.mk Q_HO109
      have BK101 := Aside0.mk Q_BK101
      have BK102 := Aside0.mk Q_BK102
      have BK103 := Aside0.mk Q_BK103
      have BK104 := Aside0.mk Q_BK104
      have HB := Aside0.mk Q_HB
      have hc0_ : w'.cell? ⟨gb102, 0, none⟩ = some (.int .i64 a1_0) := bc_ BK102 0 rfl
      have hc1_ : w'.cell? ⟨gb102, 1, none⟩ = some (.int .i64 a1_1) := bc_ BK102 1 rfl
      have hc2_ : w'.cell? ⟨gb102, 2, none⟩ = some (.bool a1_2) := bc_ BK102 2 rfl
      refine value_ (w1 := w') (v := .agg #[.int .i64 a1_0, .int .i64 a1_1, .bool a1_2]) (by rfl) rfl ?_ ?_
      · go_simp
        (try simp only [i64_w])
        try rfl
      refine hK.out _ _ ⟨gb123, m5_, (by rw [ha.out]; exact putSel_upk 0 hb_ rfl rfl rfl), Q_HO109, Q_BK101, Q_BK102, Q_BK103, Q_BK104, Q_HB, Q_BK123, Q_GW123, Q_GE123, Q_NB101_123, Q_NB123_101, Q_NB102_123, Q_NB123_102, Q_NB103_123, Q_NB123_103, Q_NB104_123, Q_NB123_104, fun h0_ => absurd ((hoff 6 (by kernel_rfl)).symm.trans h0_) (by decide), Q_X5_⟩
    refine steps_cons ?_ ?_
    · rintro b a w' ⟨gb123, m5_, ha, Q_HO109, Q_BK101, Q_BK102, Q_BK103, Q_BK104, Q_HB, Q_BK123, Q_GW123, Q_GE123, Q_NB101_123, Q_NB123_101, Q_NB102_123, Q_NB123_102, Q_NB103_123, Q_NB123_103, Q_NB104_123, Q_NB123_104, Q_BK123_e6, Q_X5_⟩ hb_ hon hoff
      refine ⟨_, rfl, fun K hK => ?_⟩
      have e24 : a.tmps[24]? = some (.pointer (some ⟨gb101, 1, none⟩)) := by rw [ha]; exact (putSel_off rfl).trans rfl
      replace ha := Aside0.mk ha
      have HO109 := Aside0.mk Q_HO109
      have BK101 := Aside0.mk Q_BK101
      have BK102 := Aside0.mk Q_BK102
      have BK103 := Aside0.mk Q_BK103
      have BK104 := Aside0.mk Q_BK104
      have HB := Aside0.mk Q_HB
      have hc0_ : w'.cell? ⟨gb101, 0, none⟩ = some (.int .i64 a0_0) := bc_ BK101 0 rfl
      have hc1_ : w'.cell? ⟨gb101, 1, none⟩ = some (.int .i64 a0_1) := bc_ BK101 1 rfl
      refine value_ (w1 := w') (v := .int .i64 a0_1) (by rfl) rfl ?_ ?_
      · go_simp
        (try simp only [i64_w])
        try rfl
      refine hK.out _ _ ⟨gb123, m5_, (by rw [ha.out]; exact putSel_upk 1 hb_ rfl rfl rfl), Q_HO109, Q_BK101, Q_BK102, Q_BK103, Q_BK104, Q_HB, Q_BK123, Q_GW123, Q_GE123, Q_NB101_123, Q_NB123_101, Q_NB102_123, Q_NB123_102, Q_NB103_123, Q_NB123_103, Q_NB104_123, Q_NB123_104, fun h0_ => absurd ((hoff 6 (by kernel_rfl)).symm.trans h0_) (by decide), Q_X5_⟩
    refine steps_cons ?_ ?_
    · rintro b a w' ⟨gb123, m5_, ha, Q_HO109, Q_BK101, Q_BK102, Q_BK103, Q_BK104, Q_HB, Q_BK123, Q_GW123, Q_GE123, Q_NB101_123, Q_NB123_101, Q_NB102_123, Q_NB123_102, Q_NB103_123, Q_NB123_103, Q_NB104_123, Q_NB123_104, Q_BK123_e6, Q_X5_⟩ hb_ hon hoff
      refine ⟨_, rfl, fun K hK => ?_⟩
      have e25 : a.tmps[25]? = some (.int .i64 a0_1) := by rw [ha]; exact putSel_on (e := (2, 25, .int .i64 a0_1)) 1 rfl rfl (hon 2 (by kernel_rfl)) rfl
      replace ha := Aside0.mk ha
      have HO109 := Aside0.mk Q_HO109
      have BK101 := Aside0.mk Q_BK101
      have BK102 := Aside0.mk Q_BK102
      have BK103 := Aside0.mk Q_BK103
      have BK104 := Aside0.mk Q_BK104
      have HB := Aside0.mk Q_HB
      refine goes_ Try.func9 (by kernel_rfl) rfl #[.int .i64 a0_1] (by rfl) rfl rfl (by first | (simp only [List.map_toArray, List.map_cons, List.map_nil, Act.eval, Array.getD_eq_getD_getElem?, Option.getD_some, e25]; done) | (simp only [List.map_toArray, List.map_cons, List.map_nil, Act.eval, Array.getD_eq_getD_getElem?, Option.getD_some, e25]; rfl)) ?_
      with_reducible refine (bound_Exact_api_Arc.calls k a0_1 t117 t118 t119 _ A9.out).mono ?_
      rintro e w46 ⟨rfl, hb⟩
      refine ⟨_, rfl, ?_⟩
      have n0_ := Aside0.mk (Kd.R_below (by exact HO109.out) hb)
      have n1_ := bkb_ BK101 hb rfl
      have n2_ := bkb_ BK102 hb rfl
      have n3_ := bkb_ BK103 hb rfl
      have n4_ := bkb_ BK104 hb rfl
      have n5_ := hbs_ HB hb rfl rfl rfl rfl
      have z_BK123 := fun (h0_ : b 5 = true) (h1_ : b 6 = false) => (show w46.heap[gb123]? = some (.cells #[.int .i64 0, .int .i64 0, .bool false] 44 (0, 0)) from by first | exact (blk_below (g := gb123) (o := .cells #[.int .i64 0, .int .i64 0, .bool false] 44 (0, 0)) (by exact (Q_BK123 h0_ h1_)) hb))
      clear HO109
      clear BK101
      clear BK102
      clear BK103
      clear BK104
      clear HB
      have HO109 := n0_
      have BK101 := n1_
      have BK102 := n2_
      have BK103 := n3_
      have BK104 := n4_
      have HB := n5_
      clear n0_ n1_ n2_ n3_ n4_ n5_
      (try clear hb)
      refine hK.out _ _ ⟨gb123, m5_, (by rw [ha.out]; exact putSel_upk 2 hb_ rfl rfl rfl), (by exact HO109.out), BK101.out, BK102.out, BK103.out, BK104.out, (by repeat (first | exact HB.out | apply below_alloc | refine below_set ?_ GE101.out | refine below_set ?_ GE102.out | refine below_set ?_ GE103.out | refine below_set ?_ GE104.out)), z_BK123, Q_GW123, Q_GE123, Q_NB101_123, Q_NB123_101, Q_NB102_123, Q_NB123_102, Q_NB103_123, Q_NB123_103, Q_NB104_123, Q_NB123_104, fun h0_ => absurd ((hoff 6 (by kernel_rfl)).symm.trans h0_) (by decide), Q_X5_⟩
    refine steps_cons ?_ ?_
    · rintro b a w' ⟨gb123, m5_, ha, Q_HO109, Q_BK101, Q_BK102, Q_BK103, Q_BK104, Q_HB, Q_BK123, Q_GW123, Q_GE123, Q_NB101_123, Q_NB123_101, Q_NB102_123, Q_NB123_102, Q_NB103_123, Q_NB123_103, Q_NB104_123, Q_NB123_104, Q_BK123_e6, Q_X5_⟩ hb_ hon hoff
      refine ⟨_, rfl, fun K hK => ?_⟩
      have e23 : a.tmps[23]? = some (.agg #[.int .i64 a1_0, .int .i64 a1_1, .bool a1_2]) := by rw [ha]; exact putSel_on (e := (0, 23, .agg #[.int .i64 a1_0, .int .i64 a1_1, .bool a1_2])) 0 rfl rfl (hon 0 (by kernel_rfl)) rfl
      have e26 : a.tmps[26]? = some (.agg #[.int .i64 t117, .int .i64 t118, .bool t119]) := by rw [ha]; exact putSel_on (e := (3, 26, .agg #[.int .i64 t117, .int .i64 t118, .bool t119])) 2 rfl rfl (hon 3 (by kernel_rfl)) rfl
      replace ha := Aside0.mk ha
      have HO109 := Aside0.mk Q_HO109
      have BK101 := Aside0.mk Q_BK101
      have BK102 := Aside0.mk Q_BK102
      have BK103 := Aside0.mk Q_BK103
      have BK104 := Aside0.mk Q_BK104
      have HB := Aside0.mk Q_HB
      refine goes_ Try.func25 (by kernel_rfl) rfl #[.agg #[.int .i64 a1_0, .int .i64 a1_1, .bool a1_2], .agg #[.int .i64 t117, .int .i64 t118, .bool t119]] (by rfl) rfl rfl (by first | (simp only [List.map_toArray, List.map_cons, List.map_nil, Act.eval, Array.getD_eq_getD_getElem?, Option.getD_some, e23, e26]; done) | (simp only [List.map_toArray, List.map_cons, List.map_nil, Act.eval, Array.getD_eq_getD_getElem?, Option.getD_some, e23, e26]; rfl)) ?_
      with_reducible refine (bound_Add_api_Arc.calls k a1_0 a1_1 a1_2 t117 t118 t119 t120 t121 t122 _ A10.out).mono ?_
      rintro e w48 ⟨rfl, hb⟩
      refine ⟨_, rfl, ?_⟩
      have n0_ := Aside0.mk (Kd.R_below (by exact HO109.out) hb)
      have n1_ := bkb_ BK101 hb rfl
      have n2_ := bkb_ BK102 hb rfl
      have n3_ := bkb_ BK103 hb rfl
      have n4_ := bkb_ BK104 hb rfl
      have n5_ := hbs_ HB hb rfl rfl rfl rfl
      have z_BK123 := fun (h0_ : b 5 = true) (h1_ : b 6 = false) => (show w48.heap[gb123]? = some (.cells #[.int .i64 0, .int .i64 0, .bool false] 44 (0, 0)) from by first | exact (blk_below (g := gb123) (o := .cells #[.int .i64 0, .int .i64 0, .bool false] 44 (0, 0)) (by exact (Q_BK123 h0_ h1_)) hb))
      clear HO109
      clear BK101
      clear BK102
      clear BK103
      clear BK104
      clear HB
      have HO109 := n0_
      have BK101 := n1_
      have BK102 := n2_
      have BK103 := n3_
      have BK104 := n4_
      have HB := n5_
      clear n0_ n1_ n2_ n3_ n4_ n5_
      (try clear hb)
      refine hK.out _ _ ⟨gb123, m5_, (by rw [ha.out]; exact putSel_upk 3 hb_ rfl rfl rfl), (by exact HO109.out), BK101.out, BK102.out, BK103.out, BK104.out, (by repeat (first | exact HB.out | apply below_alloc | refine below_set ?_ GE101.out | refine below_set ?_ GE102.out | refine below_set ?_ GE103.out | refine below_set ?_ GE104.out)), z_BK123, Q_GW123, Q_GE123, Q_NB101_123, Q_NB123_101, Q_NB102_123, Q_NB123_102, Q_NB103_123, Q_NB123_103, Q_NB104_123, Q_NB123_104, fun h0_ => absurd ((hoff 6 (by kernel_rfl)).symm.trans h0_) (by decide), Q_X5_⟩
    refine steps_cons ?_ ?_
    · rintro b a w' ⟨gb123, m5_, ha, Q_HO109, Q_BK101, Q_BK102, Q_BK103, Q_BK104, Q_HB, Q_BK123, Q_GW123, Q_GE123, Q_NB101_123, Q_NB123_101, Q_NB102_123, Q_NB123_102, Q_NB103_123, Q_NB123_103, Q_NB104_123, Q_NB123_104, Q_BK123_e6, Q_X5_⟩ hb_ hon hoff
      refine ⟨_, rfl, fun K hK => ?_⟩
      replace ha := Aside0.mk ha
      have HO109 := Aside0.mk Q_HO109
      have BK101 := Aside0.mk Q_BK101
      have BK102 := Aside0.mk Q_BK102
      have BK103 := Aside0.mk Q_BK103
      have BK104 := Aside0.mk Q_BK104
      have HB := Aside0.mk Q_HB
      refine bsq_ 7 #[.int .i64 0, .int .i64 0, .bool false] 44 ?_
      intro gb123 hg w46 hbox hb
      have BK123 := Aside0.mk (hbox)
      have GW123 := gwq_ HB hg rfl
      have GE123 := GW123
      have NB101_123 := nbl_ BK101 hg rfl
      have NB123_101 := nbg_ BK101 hg rfl
      have NB102_123 := nbl_ BK102 hg rfl
      have NB123_102 := nbg_ BK102 hg rfl
      have NB103_123 := nbl_ BK103 hg rfl
      have NB123_103 := nbg_ BK103 hg rfl
      have NB104_123 := nbl_ BK104 hg rfl
      have NB123_104 := nbg_ BK104 hg rfl
      replace HO109 := Aside0.mk (Kd.R_below (by exact HO109.out) hb)
      replace BK101 := bkb_ BK101 hb rfl
      replace BK102 := bkb_ BK102 hb rfl
      replace BK103 := bkb_ BK103 hb rfl
      replace BK104 := bkb_ BK104 hb rfl
      replace HB := hbs_ HB hb rfl rfl rfl rfl
      clear hb hbox hg
      refine hK.out _ _ ⟨gb123, (.pointer (some ⟨gb123, 0, none⟩)), (by rw [ha.out]; exact putSel_upk 4 hb_ rfl rfl rfl), (by exact HO109.out), BK101.out, BK102.out, BK103.out, BK104.out, (by repeat (first | exact HB.out | apply below_alloc | refine below_set ?_ GE101.out | refine below_set ?_ GE102.out | refine below_set ?_ GE103.out | refine below_set ?_ GE104.out | refine below_set ?_ GE123.out)), fun _ _ => BK123.out, fun _ => GW123.out, fun _ => GE123.out, fun _ => NB101_123.out, fun _ => NB123_101.out, fun _ => NB102_123.out, fun _ => NB123_102.out, fun _ => NB103_123.out, fun _ => NB123_103.out, fun _ => NB104_123.out, fun _ => NB123_104.out, fun h0_ => absurd ((hoff 6 (by kernel_rfl)).symm.trans h0_) (by decide), fun _ => rfl⟩
    refine steps_cons ?_ ?_
    · rintro b a w' ⟨gb123, m5_, ha, Q_HO109, Q_BK101, Q_BK102, Q_BK103, Q_BK104, Q_HB, Q_BK123, Q_GW123, Q_GE123, Q_NB101_123, Q_NB123_101, Q_NB102_123, Q_NB123_102, Q_NB103_123, Q_NB123_103, Q_NB104_123, Q_NB123_104, Q_BK123_e6, Q_X5_⟩ hb_ hon hoff
      refine ⟨_, rfl, fun K hK => ?_⟩
      have e7 : a.tmps[7]? = some (m5_) := by rw [ha]; exact putSel_on (e := (5, 7, m5_)) 4 rfl rfl (hon 5 (by kernel_rfl)) rfl
      rw [Q_X5_ (hon 5 (by kernel_rfl))] at e7
      have e27 : a.tmps[27]? = some (.agg #[.int .i64 t120, .int .i64 t121, .bool t122]) := by rw [ha]; exact putSel_on (e := (4, 27, .agg #[.int .i64 t120, .int .i64 t121, .bool t122])) 3 rfl rfl (hon 4 (by kernel_rfl)) rfl
      replace ha := Aside0.mk ha
      have HO109 := Aside0.mk Q_HO109
      have BK101 := Aside0.mk Q_BK101
      have BK102 := Aside0.mk Q_BK102
      have BK103 := Aside0.mk Q_BK103
      have BK104 := Aside0.mk Q_BK104
      have HB := Aside0.mk Q_HB
      have BK123 := Aside0.mk (Q_BK123 (hon 5 (by kernel_rfl)) hb_)
      have GW123 := Aside0.mk (Q_GW123 (hon 5 (by kernel_rfl)))
      have GE123 := Aside0.mk (Q_GE123 (hon 5 (by kernel_rfl)))
      have NB101_123 := Aside0.mk (Q_NB101_123 (hon 5 (by kernel_rfl)))
      have NB123_101 := Aside0.mk (Q_NB123_101 (hon 5 (by kernel_rfl)))
      have NB102_123 := Aside0.mk (Q_NB102_123 (hon 5 (by kernel_rfl)))
      have NB123_102 := Aside0.mk (Q_NB123_102 (hon 5 (by kernel_rfl)))
      have NB103_123 := Aside0.mk (Q_NB103_123 (hon 5 (by kernel_rfl)))
      have NB123_103 := Aside0.mk (Q_NB123_103 (hon 5 (by kernel_rfl)))
      have NB104_123 := Aside0.mk (Q_NB104_123 (hon 5 (by kernel_rfl)))
      have NB123_104 := Aside0.mk (Q_NB123_104 (hon 5 (by kernel_rfl)))
      have hs50 : w'.cell? ⟨gb123, 0, none⟩ = some (.int .i64 0) := bc_ BK123 0 rfl
      have hfs50 := blk_frozen BK123.out 0
      have hns50_0 := NB101_123.out
      have hns50_1 := NB102_123.out
      have hns50_2 := NB103_123.out
      have hns50_3 := NB104_123.out
      have hms50_0 := NB123_101.out
      have hms50_1 := NB123_102.out
      have hms50_2 := NB123_103.out
      have hms50_3 := NB123_104.out
      have hs51 : w'.cell? ⟨gb123, 1, none⟩ = some (.int .i64 0) := bc_ BK123 1 rfl
      have hfs51 := blk_frozen BK123.out 1
      have hns51_0 := NB101_123.out
      have hns51_1 := NB102_123.out
      have hns51_2 := NB103_123.out
      have hns51_3 := NB104_123.out
      have hms51_0 := NB123_101.out
      have hms51_1 := NB123_102.out
      have hms51_2 := NB123_103.out
      have hms51_3 := NB123_104.out
      have hs52 : w'.cell? ⟨gb123, 2, none⟩ = some (.bool false) := bc_ BK123 2 rfl
      have hfs52 := blk_frozen BK123.out 2
      have hns52_0 := NB101_123.out
      have hns52_1 := NB102_123.out
      have hns52_2 := NB103_123.out
      have hns52_3 := NB104_123.out
      have hms52_0 := NB123_101.out
      have hms52_1 := NB123_102.out
      have hms52_2 := NB123_103.out
      have hms52_3 := NB123_104.out
      refine skip_ (w1 := ?_) (by rfl) rfl ?_ ?_
      rotate_left
      · go_simp
        rfl
      refine hK.out _ _ ⟨gb123, m5_, (by rw [ha.out]; exact putSel_none (v := undef) rfl), (by exact Kd.R_mono (Kd.R_far (p := ⟨gb123, 2, none⟩) (Kd.R_far (p := ⟨gb123, 1, none⟩) (Kd.R_far (p := ⟨gb123, 0, none⟩) (Kd.R_types HO109.out BK123.out (by decide)) (fun _ hk => hk.2) (.int .i64 t120)) (fun _ hk => hk.2) (.int .i64 t121)) (fun _ hk => hk.2) (.bool t122)) (fun _ hk => trivial)), (by exact blk_far (blk_far (blk_far BK101.out NB101_123.out _) NB101_123.out _) NB101_123.out _), (by exact blk_far (blk_far (blk_far BK102.out NB102_123.out _) NB102_123.out _) NB102_123.out _), (by exact blk_far (blk_far (blk_far BK103.out NB103_123.out _) NB103_123.out _) NB103_123.out _), (by exact blk_far (blk_far (blk_far BK104.out NB104_123.out _) NB104_123.out _) NB104_123.out _), (by repeat (first | exact HB.out | apply below_alloc | refine below_set ?_ GE101.out | refine below_set ?_ GE102.out | refine below_set ?_ GE103.out | refine below_set ?_ GE104.out | refine below_set ?_ GE123.out)), fun _ h1_ => absurd ((up_self b 6).symm.trans h1_) (by decide), fun _ => GW123.out, fun _ => GE123.out, fun _ => NB101_123.out, fun _ => NB123_101.out, fun _ => NB102_123.out, fun _ => NB123_102.out, fun _ => NB103_123.out, fun _ => NB123_103.out, fun _ => NB104_123.out, fun _ => NB123_104.out, fun _ => (by exact blk_put (blk_put (blk_put BK123.out 0 _ rfl) 1 _ rfl) 2 _ rfl), Q_X5_⟩
    exact steps_nil
  rintro b a w52 hall ⟨gb123, m5_, ha, Q_HO109, Q_BK101, Q_BK102, Q_BK103, Q_BK104, Q_HB, Q_BK123, Q_GW123, Q_GE123, Q_NB101_123, Q_NB123_101, Q_NB102_123, Q_NB123_102, Q_NB103_123, Q_NB123_103, Q_NB104_123, Q_NB123_104, Q_BK123_e6, Q_X5_⟩
  clear BK101 BK102 BK103 BK104 HB HO109
  have hb0_ := hall 0 (by kernel_rfl)
  have hb2_ := hall 2 (by kernel_rfl)
  have hb3_ := hall 3 (by kernel_rfl)
  have hb4_ := hall 4 (by kernel_rfl)
  have hb5_ := hall 5 (by kernel_rfl)
  have hb6_ := hall 6 (by kernel_rfl)
  subst ha
  obtain rfl := Q_X5_ hb5_
  simp only [putSel, hb0_, hb2_, hb3_, hb4_, hb5_, hb6_, if_true, Act.put, List.setIfInBounds_toArray, List.set_cons_zero, List.set_cons_succ]
  have HO109 := Aside0.mk Q_HO109
  clear Q_HO109
  have BK101 := Aside0.mk Q_BK101
  clear Q_BK101
  have BK102 := Aside0.mk Q_BK102
  clear Q_BK102
  have BK103 := Aside0.mk Q_BK103
  clear Q_BK103
  have BK104 := Aside0.mk Q_BK104
  clear Q_BK104
  have HB := Aside0.mk Q_HB
  clear Q_HB
  clear Q_BK123
  have GW123 := Aside0.mk (Q_GW123 hb5_)
  clear Q_GW123
  have GE123 := Aside0.mk (Q_GE123 hb5_)
  clear Q_GE123
  have NB101_123 := Aside0.mk (Q_NB101_123 hb5_)
  clear Q_NB101_123
  have NB123_101 := Aside0.mk (Q_NB123_101 hb5_)
  clear Q_NB123_101
  have NB102_123 := Aside0.mk (Q_NB102_123 hb5_)
  clear Q_NB102_123
  have NB123_102 := Aside0.mk (Q_NB123_102 hb5_)
  clear Q_NB123_102
  have NB103_123 := Aside0.mk (Q_NB103_123 hb5_)
  clear Q_NB103_123
  have NB123_103 := Aside0.mk (Q_NB123_103 hb5_)
  clear Q_NB123_103
  have NB104_123 := Aside0.mk (Q_NB104_123 hb5_)
  clear Q_NB104_123
  have NB123_104 := Aside0.mk (Q_NB123_104 hb5_)
  clear Q_NB123_104
  have BK123 := Aside0.mk (Q_BK123_e6 hb6_)
  clear Q_BK123_e6
  clear hall hb0_ hb2_ hb3_ hb4_ hb5_ hb6_
  have hnb53 := NB101_102.out
  have hnc53 := NB102_101.out
  have hnb54 := NB101_104.out
  have hnc54 := NB104_101.out
  have hnb55 := NB101_123.out
  have hnc55 := NB123_101.out
  have hcz56_0 := bc_ BK101 0 rfl
  have hcz56_1 := bc_ BK101 1 rfl
  have hfz56 := blk_frozen BK101.out
  try go_wp2_with (first | ((with_reducible refine gate_callee (f := 9) rfl ?_); refine glq_ (some 30) Try.func9 #[.int .i64 a0_0] ?_; (with_reducible refine (bound_Exact_api_Arc.calls k a0_0 t124 t125 t126 _ A11.out).mono ?_); rintro e w57 ⟨rfl, hb⟩; refine ⟨_, rfl, ?_⟩; replace HO109 := Aside0.mk (Kd.R_below (by exact HO109.out) hb); replace BK101 := bkb_ BK101 hb rfl; replace BK102 := bkb_ BK102 hb rfl; replace BK103 := bkb_ BK103 hb rfl; replace BK104 := bkb_ BK104 hb rfl; replace BK123 := bkb_ BK123 hb rfl; replace HB := hbs_ HB hb rfl rfl rfl rfl; (try clear hb)) | ((with_reducible refine gate_dst (N := 8) rfl ?_); refine bxq_ 8 #[.int .i64 0, .int .i64 0, .bool false] 44 ?_; intro gb127 hg w58 hbox hb; have BK127 := Aside0.mk (hbox); have GW127 := gwq_ HB hg rfl; have GE127 := GW127; have NB101_127 := nbl_ BK101 hg rfl; have NB127_101 := nbg_ BK101 hg rfl; have NB102_127 := nbl_ BK102 hg rfl; have NB127_102 := nbg_ BK102 hg rfl; have NB103_127 := nbl_ BK103 hg rfl; have NB127_103 := nbg_ BK103 hg rfl; have NB104_127 := nbl_ BK104 hg rfl; have NB127_104 := nbg_ BK104 hg rfl; have NB123_127 := nbl_ BK123 hg rfl; have NB127_123 := nbg_ BK123 hg rfl; replace HO109 := Aside0.mk (Kd.R_below (by exact HO109.out) hb); replace BK101 := bkb_ BK101 hb rfl; replace BK102 := bkb_ BK102 hb rfl; replace BK103 := bkb_ BK103 hb rfl; replace BK104 := bkb_ BK104 hb rfl; replace BK123 := bkb_ BK123 hb rfl; replace HB := hbs_ HB hb rfl rfl rfl rfl; clear hb hbox hg; have hnb59 := NB127_101.out; have hnc59 := NB101_127.out; have hnb60 := NB127_102.out; have hnc60 := NB102_127.out; have hnb61 := NB127_103.out; have hnc61 := NB103_127.out; have hnb62 := NB127_104.out; have hnc62 := NB104_127.out; have hnb63 := NB127_123.out; have hnc63 := NB123_127.out; have hcz64_0 := bc_ BK127 0 rfl; have hcz64_1 := bc_ BK127 1 rfl; have hcz64_2 := bc_ BK127 2 rfl; have hfz64 := blk_frozen BK127.out))
  have n0_ : Aside0 (Kd.R (Kd.int .i64) 36 (((w58.setCell ⟨gb127, 0, none⟩ (.int .i64 t124)).setCell ⟨gb127, 1, none⟩ (.int .i64 t125)).setCell ⟨gb127, 2, none⟩ (.bool t126)) w.heap.size (fun _ => True) (.slice Ao37 y107.length co37) y107) := ⟨by exact Kd.R_mono (Kd.R_far (p := ⟨gb127, 2, none⟩) (Kd.R_far (p := ⟨gb127, 1, none⟩) (Kd.R_far (p := ⟨gb127, 0, none⟩) (Kd.R_types HO109.out BK127.out (by decide)) (fun _ hk => hk.2) (.int .i64 t124)) (fun _ hk => hk.2) (.int .i64 t125)) (fun _ hk => hk.2) (.bool t126)) (fun _ hk => trivial)⟩
  have n1_ : Aside0 ((((w58.setCell ⟨gb127, 0, none⟩ (.int .i64 t124)).setCell ⟨gb127, 1, none⟩ (.int .i64 t125)).setCell ⟨gb127, 2, none⟩ (.bool t126)).heap[gb101]? = some (.cells #[.int .i64 a0_0, .int .i64 a0_1] 28 (0, 0))) := ⟨by refine blk_far ?_ NB101_127.out _; refine blk_far ?_ NB101_127.out _; refine blk_far ?_ NB101_127.out _; exact BK101.out⟩
  have n2_ : Aside0 ((((w58.setCell ⟨gb127, 0, none⟩ (.int .i64 t124)).setCell ⟨gb127, 1, none⟩ (.int .i64 t125)).setCell ⟨gb127, 2, none⟩ (.bool t126)).heap[gb102]? = some (.cells #[.int .i64 a1_0, .int .i64 a1_1, .bool a1_2] 44 (0, 0))) := ⟨by refine blk_far ?_ NB102_127.out _; refine blk_far ?_ NB102_127.out _; refine blk_far ?_ NB102_127.out _; exact BK102.out⟩
  have n3_ : Aside0 ((((w58.setCell ⟨gb127, 0, none⟩ (.int .i64 t124)).setCell ⟨gb127, 1, none⟩ (.int .i64 t125)).setCell ⟨gb127, 2, none⟩ (.bool t126)).heap[gb103]? = some (.cells #[.int .i64 t114, .int .i64 t115, .int .i64 t116] 32 (0, 0))) := ⟨by refine blk_far ?_ NB103_127.out _; refine blk_far ?_ NB103_127.out _; refine blk_far ?_ NB103_127.out _; exact BK103.out⟩
  have n4_ : Aside0 ((((w58.setCell ⟨gb127, 0, none⟩ (.int .i64 t124)).setCell ⟨gb127, 1, none⟩ (.int .i64 t125)).setCell ⟨gb127, 2, none⟩ (.bool t126)).heap[gb104]? = some (.cells #[.int .i64 0, .int .i64 0, .bool false] 41 (0, 0))) := ⟨by refine blk_far ?_ NB104_127.out _; refine blk_far ?_ NB104_127.out _; refine blk_far ?_ NB104_127.out _; exact BK104.out⟩
  have n5_ : Aside0 ((((w58.setCell ⟨gb127, 0, none⟩ (.int .i64 t124)).setCell ⟨gb127, 1, none⟩ (.int .i64 t125)).setCell ⟨gb127, 2, none⟩ (.bool t126)).heap[gb123]? = some (.cells #[.int .i64 t120, .int .i64 t121, .bool t122] 44 (0, 0))) := ⟨by refine blk_far ?_ NB123_127.out _; refine blk_far ?_ NB123_127.out _; refine blk_far ?_ NB123_127.out _; exact BK123.out⟩
  have n6_ : Aside0 ((((w58.setCell ⟨gb127, 0, none⟩ (.int .i64 t124)).setCell ⟨gb127, 1, none⟩ (.int .i64 t125)).setCell ⟨gb127, 2, none⟩ (.bool t126)).heap[gb127]? = some (.cells #[.int .i64 t124, .int .i64 t125, .bool t126] 44 (0, 0))) := ⟨by refine blk_put (cs := #[.int .i64 t124, .int .i64 t125, .bool false]) ?_ 2 _ rfl; refine blk_put (cs := #[.int .i64 t124, .int .i64 0, .bool false]) ?_ 1 _ rfl; refine blk_put (cs := #[.int .i64 0, .int .i64 0, .bool false]) ?_ 0 _ rfl; exact BK127.out⟩
  have n7_ : Aside0 (Below w.heap.size w (((w58.setCell ⟨gb127, 0, none⟩ (.int .i64 t124)).setCell ⟨gb127, 1, none⟩ (.int .i64 t125)).setCell ⟨gb127, 2, none⟩ (.bool t126))) := ⟨by repeat (first | exact HB.out | apply below_alloc | refine below_set ?_ GE101.out | refine below_set ?_ GE102.out | refine below_set ?_ GE103.out | refine below_set ?_ GE104.out | refine below_set ?_ GE123.out | refine below_set ?_ GE127.out)⟩
  (try clear HO109)
  (try clear BK101)
  (try clear BK102)
  (try clear BK103)
  (try clear BK104)
  (try clear BK123)
  (try clear BK127)
  (try clear HB)
  generalize (((w58.setCell ⟨gb127, 0, none⟩ (.int .i64 t124)).setCell ⟨gb127, 1, none⟩ (.int .i64 t125)).setCell ⟨gb127, 2, none⟩ (.bool t126)) = w65 at n0_ n1_ n2_ n3_ n4_ n5_ n6_ n7_ ⊢
  have HO109 := n0_
  have BK101 := n1_
  have BK102 := n2_
  have BK103 := n3_
  have BK104 := n4_
  have BK123 := n5_
  have BK127 := n6_
  have HB := n7_
  clear n0_ n1_ n2_ n3_ n4_ n5_ n6_ n7_
  replace HO109 := Aside0.mk (Kd.R_drew HO109.out)
  replace BK101 := Aside0.mk (blk_drew BK101.out)
  replace BK102 := Aside0.mk (blk_drew BK102.out)
  replace BK103 := Aside0.mk (blk_drew BK103.out)
  replace BK104 := Aside0.mk (blk_drew BK104.out)
  replace BK123 := Aside0.mk (blk_drew BK123.out)
  replace BK127 := Aside0.mk (blk_drew BK127.out)
  replace HB := Aside0.mk (below_drew1 HB.out)
  refine start_ (n := 13) (S := fun w' => True) (ds := []) (bm_ [0, 13]) (by kernel_rfl) rfl rfl trivial (fun hHeld => ?_); refine with_tabW horizon_Height.tab6 horizon_Height.bits6 (fun HT_ HW_ => ?_)
  generalize w65.drew = w66 at HO109 BK101 BK102 BK103 BK104 BK123 BK127 HB hHeld ⊢
  refine pq_ 2 33 (bm_ [0, 2, 1, 10]) HT_ ?_
  refine pq_ 7 38 (bm_ [0, 2, 1, 4, 1, 5]) HT_ ?_
  refine inv_at [0, 1, 3, 4, 5, 6, 8, 9, 10, 11, 12] (fun a0_ b a w' => ∃ (gb143 : Nat) (m11_ : Value), a = putSel a0_ b [(0, 31, .agg #[.int .i64 t120, .int .i64 t121, .bool t122]), (1, 32, .agg #[.int .i64 t128, .int .i64 t129, .bool t130]), (3, 34, .int .i64 t114), (4, 35, .agg #[.int .i64 t131, .int .i64 t132, .bool t133]), (5, 36, .agg #[.int .i64 t120, .int .i64 t121, .bool t122]), (6, 37, .agg #[.int .i64 t134, .int .i64 t135, .bool t136]), (8, 39, .int .i64 t115), (9, 40, .agg #[.int .i64 t137, .int .i64 t138, .bool t139]), (10, 41, .agg #[.int .i64 t140, .int .i64 t141, .bool t142]), (11, 9, m11_)] ∧ (Kd.R (Kd.int .i64) 36 w' w.heap.size (fun _ => True) (.slice Ao37 y107.length co37) y107) ∧ (w'.heap[gb101]? = some (.cells #[.int .i64 a0_0, .int .i64 a0_1] 28 (0, 0))) ∧ (w'.heap[gb102]? = some (.cells #[.int .i64 a1_0, .int .i64 a1_1, .bool a1_2] 44 (0, 0))) ∧ (w'.heap[gb103]? = some (.cells #[.int .i64 t114, .int .i64 t115, .int .i64 t116] 32 (0, 0))) ∧ (w'.heap[gb104]? = some (.cells #[.int .i64 0, .int .i64 0, .bool false] 41 (0, 0))) ∧ (w'.heap[gb123]? = some (.cells #[.int .i64 t120, .int .i64 t121, .bool t122] 44 (0, 0))) ∧ (w'.heap[gb127]? = some (.cells #[.int .i64 t124, .int .i64 t125, .bool t126] 44 (0, 0))) ∧ (Below w.heap.size w w') ∧ (b 11 = true → b 12 = false → w'.heap[gb143]? = some (.cells #[.int .i64 0, .int .i64 0, .bool false] 41 (0, 0))) ∧ (b 11 = true → w.heap.size ≤ gb143) ∧ (b 11 = true → w.heap.size ≤ gb143) ∧ (b 11 = true → gb101 ≠ gb143) ∧ (b 11 = true → gb143 ≠ gb101) ∧ (b 11 = true → gb102 ≠ gb143) ∧ (b 11 = true → gb143 ≠ gb102) ∧ (b 11 = true → gb103 ≠ gb143) ∧ (b 11 = true → gb143 ≠ gb103) ∧ (b 11 = true → gb104 ≠ gb143) ∧ (b 11 = true → gb143 ≠ gb104) ∧ (b 11 = true → gb123 ≠ gb143) ∧ (b 11 = true → gb143 ≠ gb123) ∧ (b 11 = true → gb127 ≠ gb143) ∧ (b 11 = true → gb143 ≠ gb127) ∧ (b 12 = true → w'.heap[gb143]? = some (.cells #[.int .i64 t140, .int .i64 t141, .bool t142] 41 (0, 0))) ∧ (b 11 = true → (m11_ : Value) = .pointer (some ⟨gb143, 0, none⟩))) HT_.out HW_.out (by kernel_rfl) (by kernel_rfl) ?_ ?_ ?_
  · exact ⟨0, .bool false, by simp only [putSel, Bool.false_eq_true, if_false], HO109.out, BK101.out, BK102.out, BK103.out, BK104.out, BK123.out, BK127.out, HB.out, fun h_ => absurd h_ (by decide), fun h_ => absurd h_ (by decide), fun h_ => absurd h_ (by decide), fun h_ => absurd h_ (by decide), fun h_ => absurd h_ (by decide), fun h_ => absurd h_ (by decide), fun h_ => absurd h_ (by decide), fun h_ => absurd h_ (by decide), fun h_ => absurd h_ (by decide), fun h_ => absurd h_ (by decide), fun h_ => absurd h_ (by decide), fun h_ => absurd h_ (by decide), fun h_ => absurd h_ (by decide), fun h_ => absurd h_ (by decide), fun h_ => absurd h_ (by decide), fun h_ => absurd h_ (by decide), fun h_ => absurd h_ (by decide)⟩
  · skip
    clear BK101 BK102 BK103 BK104 BK123 BK127 HB HO109
    refine steps_cons ?_ ?_
    · rintro b a w' ⟨gb143, m11_, ha, Q_HO109, Q_BK101, Q_BK102, Q_BK103, Q_BK104, Q_BK123, Q_BK127, Q_HB, Q_BK143, Q_GW143, Q_GE143, Q_NB101_143, Q_NB143_101, Q_NB102_143, Q_NB143_102, Q_NB103_143, Q_NB143_103, Q_NB104_143, Q_NB143_104, Q_NB123_143, Q_NB143_123, Q_NB127_143, Q_NB143_127, Q_BK143_e12, Q_X11_⟩ hb_ hon hoff
      refine ⟨_, rfl, fun K hK => ?_⟩
      have e7 : a.tmps[7]? = some (.pointer (some ⟨gb123, 0, none⟩)) := by rw [ha]; exact (putSel_off rfl).trans rfl
      replace ha := Aside0.mk ha
      have HO109 := Aside0.mk Q_HO109
      have BK101 := Aside0.mk Q_BK101
      have BK102 := Aside0.mk Q_BK102
      have BK103 := Aside0.mk Q_BK103
      have BK104 := Aside0.mk Q_BK104
      have BK123 := Aside0.mk Q_BK123
      have BK127 := Aside0.mk Q_BK127
      have HB := Aside0.mk Q_HB
      have hc0_ : w'.cell? ⟨gb123, 0, none⟩ = some (.int .i64 t120) := bc_ BK123 0 rfl
      have hc1_ : w'.cell? ⟨gb123, 1, none⟩ = some (.int .i64 t121) := bc_ BK123 1 rfl
      have hc2_ : w'.cell? ⟨gb123, 2, none⟩ = some (.bool t122) := bc_ BK123 2 rfl
      refine value_ (w1 := w') (v := .agg #[.int .i64 t120, .int .i64 t121, .bool t122]) (by rfl) rfl ?_ ?_
      · go_simp
        (try simp only [i64_w])
        try rfl
      refine hK.out _ _ ⟨gb143, m11_, (by rw [ha.out]; exact putSel_upk 0 hb_ rfl rfl rfl), Q_HO109, Q_BK101, Q_BK102, Q_BK103, Q_BK104, Q_BK123, Q_BK127, Q_HB, Q_BK143, Q_GW143, Q_GE143, Q_NB101_143, Q_NB143_101, Q_NB102_143, Q_NB143_102, Q_NB103_143, Q_NB143_103, Q_NB104_143, Q_NB143_104, Q_NB123_143, Q_NB143_123, Q_NB127_143, Q_NB143_127, fun h0_ => absurd ((hoff 12 (by kernel_rfl)).symm.trans h0_) (by decide), Q_X11_⟩
    refine steps_cons ?_ ?_
    · rintro b a w' ⟨gb143, m11_, ha, Q_HO109, Q_BK101, Q_BK102, Q_BK103, Q_BK104, Q_BK123, Q_BK127, Q_HB, Q_BK143, Q_GW143, Q_GE143, Q_NB101_143, Q_NB143_101, Q_NB102_143, Q_NB143_102, Q_NB103_143, Q_NB143_103, Q_NB104_143, Q_NB143_104, Q_NB123_143, Q_NB143_123, Q_NB127_143, Q_NB143_127, Q_BK143_e12, Q_X11_⟩ hb_ hon hoff
      refine ⟨_, rfl, fun K hK => ?_⟩
      have e31 : a.tmps[31]? = some (.agg #[.int .i64 t120, .int .i64 t121, .bool t122]) := by rw [ha]; exact putSel_on (e := (0, 31, .agg #[.int .i64 t120, .int .i64 t121, .bool t122])) 0 rfl rfl (hon 0 (by kernel_rfl)) rfl
      replace ha := Aside0.mk ha
      have HO109 := Aside0.mk Q_HO109
      have BK101 := Aside0.mk Q_BK101
      have BK102 := Aside0.mk Q_BK102
      have BK103 := Aside0.mk Q_BK103
      have BK104 := Aside0.mk Q_BK104
      have BK123 := Aside0.mk Q_BK123
      have BK127 := Aside0.mk Q_BK127
      have HB := Aside0.mk Q_HB
      refine goes_ Try.func28 (by kernel_rfl) rfl #[.agg #[.int .i64 t120, .int .i64 t121, .bool t122]] (by rfl) rfl rfl (by first | (simp only [List.map_toArray, List.map_cons, List.map_nil, Act.eval, Array.getD_eq_getD_getElem?, Option.getD_some, e31]; done) | (simp only [List.map_toArray, List.map_cons, List.map_nil, Act.eval, Array.getD_eq_getD_getElem?, Option.getD_some, e31]; rfl)) ?_
      with_reducible refine (trig_CosBound.calls k t120 t121 t122 t128 t129 t130 _ A12.out).mono ?_
      rintro e w67 ⟨rfl, hb⟩
      refine ⟨_, rfl, ?_⟩
      have n0_ := Aside0.mk (Kd.R_below (by exact HO109.out) hb)
      have n1_ := bkb_ BK101 hb rfl
      have n2_ := bkb_ BK102 hb rfl
      have n3_ := bkb_ BK103 hb rfl
      have n4_ := bkb_ BK104 hb rfl
      have n5_ := bkb_ BK123 hb rfl
      have n6_ := bkb_ BK127 hb rfl
      have n7_ := hbs_ HB hb rfl rfl rfl rfl
      have z_BK143 := fun (h0_ : b 11 = true) (h1_ : b 12 = false) => (show w67.heap[gb143]? = some (.cells #[.int .i64 0, .int .i64 0, .bool false] 41 (0, 0)) from by first | exact (blk_below (g := gb143) (o := .cells #[.int .i64 0, .int .i64 0, .bool false] 41 (0, 0)) (by exact (Q_BK143 h0_ h1_)) hb))
      clear HO109
      clear BK101
      clear BK102
      clear BK103
      clear BK104
      clear BK123
      clear BK127
      clear HB
      have HO109 := n0_
      have BK101 := n1_
      have BK102 := n2_
      have BK103 := n3_
      have BK104 := n4_
      have BK123 := n5_
      have BK127 := n6_
      have HB := n7_
      clear n0_ n1_ n2_ n3_ n4_ n5_ n6_ n7_
      (try clear hb)
      refine hK.out _ _ ⟨gb143, m11_, (by rw [ha.out]; exact putSel_upk 1 hb_ rfl rfl rfl), (by exact HO109.out), BK101.out, BK102.out, BK103.out, BK104.out, BK123.out, BK127.out, (by repeat (first | exact HB.out | apply below_alloc | refine below_set ?_ GE101.out | refine below_set ?_ GE102.out | refine below_set ?_ GE103.out | refine below_set ?_ GE104.out | refine below_set ?_ GE123.out | refine below_set ?_ GE127.out)), z_BK143, Q_GW143, Q_GE143, Q_NB101_143, Q_NB143_101, Q_NB102_143, Q_NB143_102, Q_NB103_143, Q_NB143_103, Q_NB104_143, Q_NB143_104, Q_NB123_143, Q_NB143_123, Q_NB127_143, Q_NB143_127, fun h0_ => absurd ((hoff 12 (by kernel_rfl)).symm.trans h0_) (by decide), Q_X11_⟩
    refine steps_cons ?_ ?_
    · rintro b a w' ⟨gb143, m11_, ha, Q_HO109, Q_BK101, Q_BK102, Q_BK103, Q_BK104, Q_BK123, Q_BK127, Q_HB, Q_BK143, Q_GW143, Q_GE143, Q_NB101_143, Q_NB143_101, Q_NB102_143, Q_NB143_102, Q_NB103_143, Q_NB143_103, Q_NB104_143, Q_NB143_104, Q_NB123_143, Q_NB143_123, Q_NB127_143, Q_NB143_127, Q_BK143_e12, Q_X11_⟩ hb_ hon hoff
      refine ⟨_, rfl, fun K hK => ?_⟩
      have e33 : a.tmps[33]? = some (.pointer (some ⟨gb103, 0, none⟩)) := by rw [ha]; exact (putSel_off rfl).trans rfl
      replace ha := Aside0.mk ha
      have HO109 := Aside0.mk Q_HO109
      have BK101 := Aside0.mk Q_BK101
      have BK102 := Aside0.mk Q_BK102
      have BK103 := Aside0.mk Q_BK103
      have BK104 := Aside0.mk Q_BK104
      have BK123 := Aside0.mk Q_BK123
      have BK127 := Aside0.mk Q_BK127
      have HB := Aside0.mk Q_HB
      have hc0_ : w'.cell? ⟨gb103, 0, none⟩ = some (.int .i64 t114) := bc_ BK103 0 rfl
      have hc1_ : w'.cell? ⟨gb103, 1, none⟩ = some (.int .i64 t115) := bc_ BK103 1 rfl
      have hc2_ : w'.cell? ⟨gb103, 2, none⟩ = some (.int .i64 t116) := bc_ BK103 2 rfl
      refine value_ (w1 := w') (v := .int .i64 t114) (by rfl) rfl ?_ ?_
      · go_simp
        (try simp only [i64_w])
        try rfl
      refine hK.out _ _ ⟨gb143, m11_, (by rw [ha.out]; exact putSel_upk 2 hb_ rfl rfl rfl), Q_HO109, Q_BK101, Q_BK102, Q_BK103, Q_BK104, Q_BK123, Q_BK127, Q_HB, Q_BK143, Q_GW143, Q_GE143, Q_NB101_143, Q_NB143_101, Q_NB102_143, Q_NB143_102, Q_NB103_143, Q_NB143_103, Q_NB104_143, Q_NB143_104, Q_NB123_143, Q_NB143_123, Q_NB127_143, Q_NB143_127, fun h0_ => absurd ((hoff 12 (by kernel_rfl)).symm.trans h0_) (by decide), Q_X11_⟩
    refine steps_cons ?_ ?_
    · rintro b a w' ⟨gb143, m11_, ha, Q_HO109, Q_BK101, Q_BK102, Q_BK103, Q_BK104, Q_BK123, Q_BK127, Q_HB, Q_BK143, Q_GW143, Q_GE143, Q_NB101_143, Q_NB143_101, Q_NB102_143, Q_NB143_102, Q_NB103_143, Q_NB143_103, Q_NB104_143, Q_NB143_104, Q_NB123_143, Q_NB143_123, Q_NB127_143, Q_NB143_127, Q_BK143_e12, Q_X11_⟩ hb_ hon hoff
      refine ⟨_, rfl, fun K hK => ?_⟩
      have e32 : a.tmps[32]? = some (.agg #[.int .i64 t128, .int .i64 t129, .bool t130]) := by rw [ha]; exact putSel_on (e := (1, 32, .agg #[.int .i64 t128, .int .i64 t129, .bool t130])) 1 rfl rfl (hon 1 (by kernel_rfl)) rfl
      have e34 : a.tmps[34]? = some (.int .i64 t114) := by rw [ha]; exact putSel_on (e := (3, 34, .int .i64 t114)) 2 rfl rfl (hon 3 (by kernel_rfl)) rfl
      replace ha := Aside0.mk ha
      have HO109 := Aside0.mk Q_HO109
      have BK101 := Aside0.mk Q_BK101
      have BK102 := Aside0.mk Q_BK102
      have BK103 := Aside0.mk Q_BK103
      have BK104 := Aside0.mk Q_BK104
      have BK123 := Aside0.mk Q_BK123
      have BK127 := Aside0.mk Q_BK127
      have HB := Aside0.mk Q_HB
      refine goes_ Try.func27 (by kernel_rfl) rfl #[.agg #[.int .i64 t128, .int .i64 t129, .bool t130], .int .i64 t114, .int .i64 1] (by rfl) rfl rfl (by first | (simp only [List.map_toArray, List.map_cons, List.map_nil, Act.eval, Array.getD_eq_getD_getElem?, Option.getD_some, e32, e34]; done) | (simp only [List.map_toArray, List.map_cons, List.map_nil, Act.eval, Array.getD_eq_getD_getElem?, Option.getD_some, e32, e34]; rfl)) ?_
      with_reducible refine (bound_Scale_api_Fix.calls k t128 t129 t130 t114 1 t131 t132 t133 _ A13.out).mono ?_
      rintro e w69 ⟨rfl, hb⟩
      refine ⟨_, rfl, ?_⟩
      have n0_ := Aside0.mk (Kd.R_below (by exact HO109.out) hb)
      have n1_ := bkb_ BK101 hb rfl
      have n2_ := bkb_ BK102 hb rfl
      have n3_ := bkb_ BK103 hb rfl
      have n4_ := bkb_ BK104 hb rfl
      have n5_ := bkb_ BK123 hb rfl
      have n6_ := bkb_ BK127 hb rfl
      have n7_ := hbs_ HB hb rfl rfl rfl rfl
      have z_BK143 := fun (h0_ : b 11 = true) (h1_ : b 12 = false) => (show w69.heap[gb143]? = some (.cells #[.int .i64 0, .int .i64 0, .bool false] 41 (0, 0)) from by first | exact (blk_below (g := gb143) (o := .cells #[.int .i64 0, .int .i64 0, .bool false] 41 (0, 0)) (by exact (Q_BK143 h0_ h1_)) hb))
      clear HO109
      clear BK101
      clear BK102
      clear BK103
      clear BK104
      clear BK123
      clear BK127
      clear HB
      have HO109 := n0_
      have BK101 := n1_
      have BK102 := n2_
      have BK103 := n3_
      have BK104 := n4_
      have BK123 := n5_
      have BK127 := n6_
      have HB := n7_
      clear n0_ n1_ n2_ n3_ n4_ n5_ n6_ n7_
      (try clear hb)
      refine hK.out _ _ ⟨gb143, m11_, (by rw [ha.out]; exact putSel_upk 3 hb_ rfl rfl rfl), (by exact HO109.out), BK101.out, BK102.out, BK103.out, BK104.out, BK123.out, BK127.out, (by repeat (first | exact HB.out | apply below_alloc | refine below_set ?_ GE101.out | refine below_set ?_ GE102.out | refine below_set ?_ GE103.out | refine below_set ?_ GE104.out | refine below_set ?_ GE123.out | refine below_set ?_ GE127.out)), z_BK143, Q_GW143, Q_GE143, Q_NB101_143, Q_NB143_101, Q_NB102_143, Q_NB143_102, Q_NB103_143, Q_NB143_103, Q_NB104_143, Q_NB143_104, Q_NB123_143, Q_NB143_123, Q_NB127_143, Q_NB143_127, fun h0_ => absurd ((hoff 12 (by kernel_rfl)).symm.trans h0_) (by decide), Q_X11_⟩
    refine steps_cons ?_ ?_
    · rintro b a w' ⟨gb143, m11_, ha, Q_HO109, Q_BK101, Q_BK102, Q_BK103, Q_BK104, Q_BK123, Q_BK127, Q_HB, Q_BK143, Q_GW143, Q_GE143, Q_NB101_143, Q_NB143_101, Q_NB102_143, Q_NB143_102, Q_NB103_143, Q_NB143_103, Q_NB104_143, Q_NB143_104, Q_NB123_143, Q_NB143_123, Q_NB127_143, Q_NB143_127, Q_BK143_e12, Q_X11_⟩ hb_ hon hoff
      refine ⟨_, rfl, fun K hK => ?_⟩
      have e7 : a.tmps[7]? = some (.pointer (some ⟨gb123, 0, none⟩)) := by rw [ha]; exact (putSel_off rfl).trans rfl
      replace ha := Aside0.mk ha
      have HO109 := Aside0.mk Q_HO109
      have BK101 := Aside0.mk Q_BK101
      have BK102 := Aside0.mk Q_BK102
      have BK103 := Aside0.mk Q_BK103
      have BK104 := Aside0.mk Q_BK104
      have BK123 := Aside0.mk Q_BK123
      have BK127 := Aside0.mk Q_BK127
      have HB := Aside0.mk Q_HB
      have hc0_ : w'.cell? ⟨gb123, 0, none⟩ = some (.int .i64 t120) := bc_ BK123 0 rfl
      have hc1_ : w'.cell? ⟨gb123, 1, none⟩ = some (.int .i64 t121) := bc_ BK123 1 rfl
      have hc2_ : w'.cell? ⟨gb123, 2, none⟩ = some (.bool t122) := bc_ BK123 2 rfl
      refine value_ (w1 := w') (v := .agg #[.int .i64 t120, .int .i64 t121, .bool t122]) (by rfl) rfl ?_ ?_
      · go_simp
        (try simp only [i64_w])
        try rfl
      refine hK.out _ _ ⟨gb143, m11_, (by rw [ha.out]; exact putSel_upk 4 hb_ rfl rfl rfl), Q_HO109, Q_BK101, Q_BK102, Q_BK103, Q_BK104, Q_BK123, Q_BK127, Q_HB, Q_BK143, Q_GW143, Q_GE143, Q_NB101_143, Q_NB143_101, Q_NB102_143, Q_NB143_102, Q_NB103_143, Q_NB143_103, Q_NB104_143, Q_NB143_104, Q_NB123_143, Q_NB143_123, Q_NB127_143, Q_NB143_127, fun h0_ => absurd ((hoff 12 (by kernel_rfl)).symm.trans h0_) (by decide), Q_X11_⟩
    refine steps_cons ?_ ?_
    · rintro b a w' ⟨gb143, m11_, ha, Q_HO109, Q_BK101, Q_BK102, Q_BK103, Q_BK104, Q_BK123, Q_BK127, Q_HB, Q_BK143, Q_GW143, Q_GE143, Q_NB101_143, Q_NB143_101, Q_NB102_143, Q_NB143_102, Q_NB103_143, Q_NB143_103, Q_NB104_143, Q_NB143_104, Q_NB123_143, Q_NB143_123, Q_NB127_143, Q_NB143_127, Q_BK143_e12, Q_X11_⟩ hb_ hon hoff
      refine ⟨_, rfl, fun K hK => ?_⟩
      have e36 : a.tmps[36]? = some (.agg #[.int .i64 t120, .int .i64 t121, .bool t122]) := by rw [ha]; exact putSel_on (e := (5, 36, .agg #[.int .i64 t120, .int .i64 t121, .bool t122])) 4 rfl rfl (hon 5 (by kernel_rfl)) rfl
      replace ha := Aside0.mk ha
      have HO109 := Aside0.mk Q_HO109
      have BK101 := Aside0.mk Q_BK101
      have BK102 := Aside0.mk Q_BK102
      have BK103 := Aside0.mk Q_BK103
      have BK104 := Aside0.mk Q_BK104
      have BK123 := Aside0.mk Q_BK123
      have BK127 := Aside0.mk Q_BK127
      have HB := Aside0.mk Q_HB
      refine goes_ Try.func29 (by kernel_rfl) rfl #[.agg #[.int .i64 t120, .int .i64 t121, .bool t122]] (by rfl) rfl rfl (by first | (simp only [List.map_toArray, List.map_cons, List.map_nil, Act.eval, Array.getD_eq_getD_getElem?, Option.getD_some, e36]; done) | (simp only [List.map_toArray, List.map_cons, List.map_nil, Act.eval, Array.getD_eq_getD_getElem?, Option.getD_some, e36]; rfl)) ?_
      with_reducible refine (trig_SinBound.calls k t120 t121 t122 t134 t135 t136 _ A14.out).mono ?_
      rintro e w70 ⟨rfl, hb⟩
      refine ⟨_, rfl, ?_⟩
      have n0_ := Aside0.mk (Kd.R_below (by exact HO109.out) hb)
      have n1_ := bkb_ BK101 hb rfl
      have n2_ := bkb_ BK102 hb rfl
      have n3_ := bkb_ BK103 hb rfl
      have n4_ := bkb_ BK104 hb rfl
      have n5_ := bkb_ BK123 hb rfl
      have n6_ := bkb_ BK127 hb rfl
      have n7_ := hbs_ HB hb rfl rfl rfl rfl
      have z_BK143 := fun (h0_ : b 11 = true) (h1_ : b 12 = false) => (show w70.heap[gb143]? = some (.cells #[.int .i64 0, .int .i64 0, .bool false] 41 (0, 0)) from by first | exact (blk_below (g := gb143) (o := .cells #[.int .i64 0, .int .i64 0, .bool false] 41 (0, 0)) (by exact (Q_BK143 h0_ h1_)) hb))
      clear HO109
      clear BK101
      clear BK102
      clear BK103
      clear BK104
      clear BK123
      clear BK127
      clear HB
      have HO109 := n0_
      have BK101 := n1_
      have BK102 := n2_
      have BK103 := n3_
      have BK104 := n4_
      have BK123 := n5_
      have BK127 := n6_
      have HB := n7_
      clear n0_ n1_ n2_ n3_ n4_ n5_ n6_ n7_
      (try clear hb)
      refine hK.out _ _ ⟨gb143, m11_, (by rw [ha.out]; exact putSel_upk 5 hb_ rfl rfl rfl), (by exact HO109.out), BK101.out, BK102.out, BK103.out, BK104.out, BK123.out, BK127.out, (by repeat (first | exact HB.out | apply below_alloc | refine below_set ?_ GE101.out | refine below_set ?_ GE102.out | refine below_set ?_ GE103.out | refine below_set ?_ GE104.out | refine below_set ?_ GE123.out | refine below_set ?_ GE127.out)), z_BK143, Q_GW143, Q_GE143, Q_NB101_143, Q_NB143_101, Q_NB102_143, Q_NB143_102, Q_NB103_143, Q_NB143_103, Q_NB104_143, Q_NB143_104, Q_NB123_143, Q_NB143_123, Q_NB127_143, Q_NB143_127, fun h0_ => absurd ((hoff 12 (by kernel_rfl)).symm.trans h0_) (by decide), Q_X11_⟩
    refine steps_cons ?_ ?_
    · rintro b a w' ⟨gb143, m11_, ha, Q_HO109, Q_BK101, Q_BK102, Q_BK103, Q_BK104, Q_BK123, Q_BK127, Q_HB, Q_BK143, Q_GW143, Q_GE143, Q_NB101_143, Q_NB143_101, Q_NB102_143, Q_NB143_102, Q_NB103_143, Q_NB143_103, Q_NB104_143, Q_NB143_104, Q_NB123_143, Q_NB143_123, Q_NB127_143, Q_NB143_127, Q_BK143_e12, Q_X11_⟩ hb_ hon hoff
      refine ⟨_, rfl, fun K hK => ?_⟩
      have e38 : a.tmps[38]? = some (.pointer (some ⟨gb103, 1, none⟩)) := by rw [ha]; exact (putSel_off rfl).trans rfl
      replace ha := Aside0.mk ha
      have HO109 := Aside0.mk Q_HO109
      have BK101 := Aside0.mk Q_BK101
      have BK102 := Aside0.mk Q_BK102
      have BK103 := Aside0.mk Q_BK103
      have BK104 := Aside0.mk Q_BK104
      have BK123 := Aside0.mk Q_BK123
      have BK127 := Aside0.mk Q_BK127
      have HB := Aside0.mk Q_HB
      have hc0_ : w'.cell? ⟨gb103, 0, none⟩ = some (.int .i64 t114) := bc_ BK103 0 rfl
      have hc1_ : w'.cell? ⟨gb103, 1, none⟩ = some (.int .i64 t115) := bc_ BK103 1 rfl
      have hc2_ : w'.cell? ⟨gb103, 2, none⟩ = some (.int .i64 t116) := bc_ BK103 2 rfl
      refine value_ (w1 := w') (v := .int .i64 t115) (by rfl) rfl ?_ ?_
      · go_simp
        (try simp only [i64_w])
        try rfl
      refine hK.out _ _ ⟨gb143, m11_, (by rw [ha.out]; exact putSel_upk 6 hb_ rfl rfl rfl), Q_HO109, Q_BK101, Q_BK102, Q_BK103, Q_BK104, Q_BK123, Q_BK127, Q_HB, Q_BK143, Q_GW143, Q_GE143, Q_NB101_143, Q_NB143_101, Q_NB102_143, Q_NB143_102, Q_NB103_143, Q_NB143_103, Q_NB104_143, Q_NB143_104, Q_NB123_143, Q_NB143_123, Q_NB127_143, Q_NB143_127, fun h0_ => absurd ((hoff 12 (by kernel_rfl)).symm.trans h0_) (by decide), Q_X11_⟩
    refine steps_cons ?_ ?_
    · rintro b a w' ⟨gb143, m11_, ha, Q_HO109, Q_BK101, Q_BK102, Q_BK103, Q_BK104, Q_BK123, Q_BK127, Q_HB, Q_BK143, Q_GW143, Q_GE143, Q_NB101_143, Q_NB143_101, Q_NB102_143, Q_NB143_102, Q_NB103_143, Q_NB143_103, Q_NB104_143, Q_NB143_104, Q_NB123_143, Q_NB143_123, Q_NB127_143, Q_NB143_127, Q_BK143_e12, Q_X11_⟩ hb_ hon hoff
      refine ⟨_, rfl, fun K hK => ?_⟩
      have e37 : a.tmps[37]? = some (.agg #[.int .i64 t134, .int .i64 t135, .bool t136]) := by rw [ha]; exact putSel_on (e := (6, 37, .agg #[.int .i64 t134, .int .i64 t135, .bool t136])) 5 rfl rfl (hon 6 (by kernel_rfl)) rfl
      have e39 : a.tmps[39]? = some (.int .i64 t115) := by rw [ha]; exact putSel_on (e := (8, 39, .int .i64 t115)) 6 rfl rfl (hon 8 (by kernel_rfl)) rfl
      replace ha := Aside0.mk ha
      have HO109 := Aside0.mk Q_HO109
      have BK101 := Aside0.mk Q_BK101
      have BK102 := Aside0.mk Q_BK102
      have BK103 := Aside0.mk Q_BK103
      have BK104 := Aside0.mk Q_BK104
      have BK123 := Aside0.mk Q_BK123
      have BK127 := Aside0.mk Q_BK127
      have HB := Aside0.mk Q_HB
      refine goes_ Try.func27 (by kernel_rfl) rfl #[.agg #[.int .i64 t134, .int .i64 t135, .bool t136], .int .i64 t115, .int .i64 1] (by rfl) rfl rfl (by first | (simp only [List.map_toArray, List.map_cons, List.map_nil, Act.eval, Array.getD_eq_getD_getElem?, Option.getD_some, e37, e39]; done) | (simp only [List.map_toArray, List.map_cons, List.map_nil, Act.eval, Array.getD_eq_getD_getElem?, Option.getD_some, e37, e39]; rfl)) ?_
      with_reducible refine (bound_Scale_api_Fix.calls k t134 t135 t136 t115 1 t137 t138 t139 _ A15.out).mono ?_
      rintro e w71 ⟨rfl, hb⟩
      refine ⟨_, rfl, ?_⟩
      have n0_ := Aside0.mk (Kd.R_below (by exact HO109.out) hb)
      have n1_ := bkb_ BK101 hb rfl
      have n2_ := bkb_ BK102 hb rfl
      have n3_ := bkb_ BK103 hb rfl
      have n4_ := bkb_ BK104 hb rfl
      have n5_ := bkb_ BK123 hb rfl
      have n6_ := bkb_ BK127 hb rfl
      have n7_ := hbs_ HB hb rfl rfl rfl rfl
      have z_BK143 := fun (h0_ : b 11 = true) (h1_ : b 12 = false) => (show w71.heap[gb143]? = some (.cells #[.int .i64 0, .int .i64 0, .bool false] 41 (0, 0)) from by first | exact (blk_below (g := gb143) (o := .cells #[.int .i64 0, .int .i64 0, .bool false] 41 (0, 0)) (by exact (Q_BK143 h0_ h1_)) hb))
      clear HO109
      clear BK101
      clear BK102
      clear BK103
      clear BK104
      clear BK123
      clear BK127
      clear HB
      have HO109 := n0_
      have BK101 := n1_
      have BK102 := n2_
      have BK103 := n3_
      have BK104 := n4_
      have BK123 := n5_
      have BK127 := n6_
      have HB := n7_
      clear n0_ n1_ n2_ n3_ n4_ n5_ n6_ n7_
      (try clear hb)
      refine hK.out _ _ ⟨gb143, m11_, (by rw [ha.out]; exact putSel_upk 7 hb_ rfl rfl rfl), (by exact HO109.out), BK101.out, BK102.out, BK103.out, BK104.out, BK123.out, BK127.out, (by repeat (first | exact HB.out | apply below_alloc | refine below_set ?_ GE101.out | refine below_set ?_ GE102.out | refine below_set ?_ GE103.out | refine below_set ?_ GE104.out | refine below_set ?_ GE123.out | refine below_set ?_ GE127.out)), z_BK143, Q_GW143, Q_GE143, Q_NB101_143, Q_NB143_101, Q_NB102_143, Q_NB143_102, Q_NB103_143, Q_NB143_103, Q_NB104_143, Q_NB143_104, Q_NB123_143, Q_NB143_123, Q_NB127_143, Q_NB143_127, fun h0_ => absurd ((hoff 12 (by kernel_rfl)).symm.trans h0_) (by decide), Q_X11_⟩
    refine steps_cons ?_ ?_
    · rintro b a w' ⟨gb143, m11_, ha, Q_HO109, Q_BK101, Q_BK102, Q_BK103, Q_BK104, Q_BK123, Q_BK127, Q_HB, Q_BK143, Q_GW143, Q_GE143, Q_NB101_143, Q_NB143_101, Q_NB102_143, Q_NB143_102, Q_NB103_143, Q_NB143_103, Q_NB104_143, Q_NB143_104, Q_NB123_143, Q_NB143_123, Q_NB127_143, Q_NB143_127, Q_BK143_e12, Q_X11_⟩ hb_ hon hoff
      refine ⟨_, rfl, fun K hK => ?_⟩
      have e35 : a.tmps[35]? = some (.agg #[.int .i64 t131, .int .i64 t132, .bool t133]) := by rw [ha]; exact putSel_on (e := (4, 35, .agg #[.int .i64 t131, .int .i64 t132, .bool t133])) 3 rfl rfl (hon 4 (by kernel_rfl)) rfl
      have e40 : a.tmps[40]? = some (.agg #[.int .i64 t137, .int .i64 t138, .bool t139]) := by rw [ha]; exact putSel_on (e := (9, 40, .agg #[.int .i64 t137, .int .i64 t138, .bool t139])) 7 rfl rfl (hon 9 (by kernel_rfl)) rfl
      replace ha := Aside0.mk ha
      have HO109 := Aside0.mk Q_HO109
      have BK101 := Aside0.mk Q_BK101
      have BK102 := Aside0.mk Q_BK102
      have BK103 := Aside0.mk Q_BK103
      have BK104 := Aside0.mk Q_BK104
      have BK123 := Aside0.mk Q_BK123
      have BK127 := Aside0.mk Q_BK127
      have HB := Aside0.mk Q_HB
      refine goes_ Try.func26 (by kernel_rfl) rfl #[.agg #[.int .i64 t131, .int .i64 t132, .bool t133], .agg #[.int .i64 t137, .int .i64 t138, .bool t139]] (by rfl) rfl rfl (by first | (simp only [List.map_toArray, List.map_cons, List.map_nil, Act.eval, Array.getD_eq_getD_getElem?, Option.getD_some, e35, e40]; done) | (simp only [List.map_toArray, List.map_cons, List.map_nil, Act.eval, Array.getD_eq_getD_getElem?, Option.getD_some, e35, e40]; rfl)) ?_
      with_reducible refine (bound_Add_api_Fix.calls k t131 t132 t133 t137 t138 t139 t140 t141 t142 _ A16.out).mono ?_
      rintro e w72 ⟨rfl, hb⟩
      refine ⟨_, rfl, ?_⟩
      have n0_ := Aside0.mk (Kd.R_below (by exact HO109.out) hb)
      have n1_ := bkb_ BK101 hb rfl
      have n2_ := bkb_ BK102 hb rfl
      have n3_ := bkb_ BK103 hb rfl
      have n4_ := bkb_ BK104 hb rfl
      have n5_ := bkb_ BK123 hb rfl
      have n6_ := bkb_ BK127 hb rfl
      have n7_ := hbs_ HB hb rfl rfl rfl rfl
      have z_BK143 := fun (h0_ : b 11 = true) (h1_ : b 12 = false) => (show w72.heap[gb143]? = some (.cells #[.int .i64 0, .int .i64 0, .bool false] 41 (0, 0)) from by first | exact (blk_below (g := gb143) (o := .cells #[.int .i64 0, .int .i64 0, .bool false] 41 (0, 0)) (by exact (Q_BK143 h0_ h1_)) hb))
      clear HO109
      clear BK101
      clear BK102
      clear BK103
      clear BK104
      clear BK123
      clear BK127
      clear HB
      have HO109 := n0_
      have BK101 := n1_
      have BK102 := n2_
      have BK103 := n3_
      have BK104 := n4_
      have BK123 := n5_
      have BK127 := n6_
      have HB := n7_
      clear n0_ n1_ n2_ n3_ n4_ n5_ n6_ n7_
      (try clear hb)
      refine hK.out _ _ ⟨gb143, m11_, (by rw [ha.out]; exact putSel_upk 8 hb_ rfl rfl rfl), (by exact HO109.out), BK101.out, BK102.out, BK103.out, BK104.out, BK123.out, BK127.out, (by repeat (first | exact HB.out | apply below_alloc | refine below_set ?_ GE101.out | refine below_set ?_ GE102.out | refine below_set ?_ GE103.out | refine below_set ?_ GE104.out | refine below_set ?_ GE123.out | refine below_set ?_ GE127.out)), z_BK143, Q_GW143, Q_GE143, Q_NB101_143, Q_NB143_101, Q_NB102_143, Q_NB143_102, Q_NB103_143, Q_NB143_103, Q_NB104_143, Q_NB143_104, Q_NB123_143, Q_NB143_123, Q_NB127_143, Q_NB143_127, fun h0_ => absurd ((hoff 12 (by kernel_rfl)).symm.trans h0_) (by decide), Q_X11_⟩
    refine steps_cons ?_ ?_
    · rintro b a w' ⟨gb143, m11_, ha, Q_HO109, Q_BK101, Q_BK102, Q_BK103, Q_BK104, Q_BK123, Q_BK127, Q_HB, Q_BK143, Q_GW143, Q_GE143, Q_NB101_143, Q_NB143_101, Q_NB102_143, Q_NB143_102, Q_NB103_143, Q_NB143_103, Q_NB104_143, Q_NB143_104, Q_NB123_143, Q_NB143_123, Q_NB127_143, Q_NB143_127, Q_BK143_e12, Q_X11_⟩ hb_ hon hoff
      refine ⟨_, rfl, fun K hK => ?_⟩
      replace ha := Aside0.mk ha
      have HO109 := Aside0.mk Q_HO109
      have BK101 := Aside0.mk Q_BK101
      have BK102 := Aside0.mk Q_BK102
      have BK103 := Aside0.mk Q_BK103
      have BK104 := Aside0.mk Q_BK104
      have BK123 := Aside0.mk Q_BK123
      have BK127 := Aside0.mk Q_BK127
      have HB := Aside0.mk Q_HB
      refine bsq_ 9 #[.int .i64 0, .int .i64 0, .bool false] 41 ?_
      intro gb143 hg w67 hbox hb
      have BK143 := Aside0.mk (hbox)
      have GW143 := gwq_ HB hg rfl
      have GE143 := GW143
      have NB101_143 := nbl_ BK101 hg rfl
      have NB143_101 := nbg_ BK101 hg rfl
      have NB102_143 := nbl_ BK102 hg rfl
      have NB143_102 := nbg_ BK102 hg rfl
      have NB103_143 := nbl_ BK103 hg rfl
      have NB143_103 := nbg_ BK103 hg rfl
      have NB104_143 := nbl_ BK104 hg rfl
      have NB143_104 := nbg_ BK104 hg rfl
      have NB123_143 := nbl_ BK123 hg rfl
      have NB143_123 := nbg_ BK123 hg rfl
      have NB127_143 := nbl_ BK127 hg rfl
      have NB143_127 := nbg_ BK127 hg rfl
      replace HO109 := Aside0.mk (Kd.R_below (by exact HO109.out) hb)
      replace BK101 := bkb_ BK101 hb rfl
      replace BK102 := bkb_ BK102 hb rfl
      replace BK103 := bkb_ BK103 hb rfl
      replace BK104 := bkb_ BK104 hb rfl
      replace BK123 := bkb_ BK123 hb rfl
      replace BK127 := bkb_ BK127 hb rfl
      replace HB := hbs_ HB hb rfl rfl rfl rfl
      clear hb hbox hg
      refine hK.out _ _ ⟨gb143, (.pointer (some ⟨gb143, 0, none⟩)), (by rw [ha.out]; exact putSel_upk 9 hb_ rfl rfl rfl), (by exact HO109.out), BK101.out, BK102.out, BK103.out, BK104.out, BK123.out, BK127.out, (by repeat (first | exact HB.out | apply below_alloc | refine below_set ?_ GE101.out | refine below_set ?_ GE102.out | refine below_set ?_ GE103.out | refine below_set ?_ GE104.out | refine below_set ?_ GE123.out | refine below_set ?_ GE127.out | refine below_set ?_ GE143.out)), fun _ _ => BK143.out, fun _ => GW143.out, fun _ => GE143.out, fun _ => NB101_143.out, fun _ => NB143_101.out, fun _ => NB102_143.out, fun _ => NB143_102.out, fun _ => NB103_143.out, fun _ => NB143_103.out, fun _ => NB104_143.out, fun _ => NB143_104.out, fun _ => NB123_143.out, fun _ => NB143_123.out, fun _ => NB127_143.out, fun _ => NB143_127.out, fun h0_ => absurd ((hoff 12 (by kernel_rfl)).symm.trans h0_) (by decide), fun _ => rfl⟩
    refine steps_cons ?_ ?_
    · rintro b a w' ⟨gb143, m11_, ha, Q_HO109, Q_BK101, Q_BK102, Q_BK103, Q_BK104, Q_BK123, Q_BK127, Q_HB, Q_BK143, Q_GW143, Q_GE143, Q_NB101_143, Q_NB143_101, Q_NB102_143, Q_NB143_102, Q_NB103_143, Q_NB143_103, Q_NB104_143, Q_NB143_104, Q_NB123_143, Q_NB143_123, Q_NB127_143, Q_NB143_127, Q_BK143_e12, Q_X11_⟩ hb_ hon hoff
      refine ⟨_, rfl, fun K hK => ?_⟩
      have e9 : a.tmps[9]? = some (m11_) := by rw [ha]; exact putSel_on (e := (11, 9, m11_)) 9 rfl rfl (hon 11 (by kernel_rfl)) rfl
      rw [Q_X11_ (hon 11 (by kernel_rfl))] at e9
      have e41 : a.tmps[41]? = some (.agg #[.int .i64 t140, .int .i64 t141, .bool t142]) := by rw [ha]; exact putSel_on (e := (10, 41, .agg #[.int .i64 t140, .int .i64 t141, .bool t142])) 8 rfl rfl (hon 10 (by kernel_rfl)) rfl
      replace ha := Aside0.mk ha
      have HO109 := Aside0.mk Q_HO109
      have BK101 := Aside0.mk Q_BK101
      have BK102 := Aside0.mk Q_BK102
      have BK103 := Aside0.mk Q_BK103
      have BK104 := Aside0.mk Q_BK104
      have BK123 := Aside0.mk Q_BK123
      have BK127 := Aside0.mk Q_BK127
      have HB := Aside0.mk Q_HB
      have BK143 := Aside0.mk (Q_BK143 (hon 11 (by kernel_rfl)) hb_)
      have GW143 := Aside0.mk (Q_GW143 (hon 11 (by kernel_rfl)))
      have GE143 := Aside0.mk (Q_GE143 (hon 11 (by kernel_rfl)))
      have NB101_143 := Aside0.mk (Q_NB101_143 (hon 11 (by kernel_rfl)))
      have NB143_101 := Aside0.mk (Q_NB143_101 (hon 11 (by kernel_rfl)))
      have NB102_143 := Aside0.mk (Q_NB102_143 (hon 11 (by kernel_rfl)))
      have NB143_102 := Aside0.mk (Q_NB143_102 (hon 11 (by kernel_rfl)))
      have NB103_143 := Aside0.mk (Q_NB103_143 (hon 11 (by kernel_rfl)))
      have NB143_103 := Aside0.mk (Q_NB143_103 (hon 11 (by kernel_rfl)))
      have NB104_143 := Aside0.mk (Q_NB104_143 (hon 11 (by kernel_rfl)))
      have NB143_104 := Aside0.mk (Q_NB143_104 (hon 11 (by kernel_rfl)))
      have NB123_143 := Aside0.mk (Q_NB123_143 (hon 11 (by kernel_rfl)))
      have NB143_123 := Aside0.mk (Q_NB143_123 (hon 11 (by kernel_rfl)))
      have NB127_143 := Aside0.mk (Q_NB127_143 (hon 11 (by kernel_rfl)))
      have NB143_127 := Aside0.mk (Q_NB143_127 (hon 11 (by kernel_rfl)))
      have hs74 : w'.cell? ⟨gb143, 0, none⟩ = some (.int .i64 0) := bc_ BK143 0 rfl
      have hfs74 := blk_frozen BK143.out 0
      have hns74_0 := NB101_143.out
      have hns74_1 := NB102_143.out
      have hns74_2 := NB103_143.out
      have hns74_3 := NB104_143.out
      have hns74_4 := NB123_143.out
      have hns74_5 := NB127_143.out
      have hms74_0 := NB143_101.out
      have hms74_1 := NB143_102.out
      have hms74_2 := NB143_103.out
      have hms74_3 := NB143_104.out
      have hms74_4 := NB143_123.out
      have hms74_5 := NB143_127.out
      have hs75 : w'.cell? ⟨gb143, 1, none⟩ = some (.int .i64 0) := bc_ BK143 1 rfl
      have hfs75 := blk_frozen BK143.out 1
      have hns75_0 := NB101_143.out
      have hns75_1 := NB102_143.out
      have hns75_2 := NB103_143.out
      have hns75_3 := NB104_143.out
      have hns75_4 := NB123_143.out
      have hns75_5 := NB127_143.out
      have hms75_0 := NB143_101.out
      have hms75_1 := NB143_102.out
      have hms75_2 := NB143_103.out
      have hms75_3 := NB143_104.out
      have hms75_4 := NB143_123.out
      have hms75_5 := NB143_127.out
      have hs76 : w'.cell? ⟨gb143, 2, none⟩ = some (.bool false) := bc_ BK143 2 rfl
      have hfs76 := blk_frozen BK143.out 2
      have hns76_0 := NB101_143.out
      have hns76_1 := NB102_143.out
      have hns76_2 := NB103_143.out
      have hns76_3 := NB104_143.out
      have hns76_4 := NB123_143.out
      have hns76_5 := NB127_143.out
      have hms76_0 := NB143_101.out
      have hms76_1 := NB143_102.out
      have hms76_2 := NB143_103.out
      have hms76_3 := NB143_104.out
      have hms76_4 := NB143_123.out
      have hms76_5 := NB143_127.out
      refine skip_ (w1 := ?_) (by rfl) rfl ?_ ?_
      rotate_left
      · go_simp
        rfl
      refine hK.out _ _ ⟨gb143, m11_, (by rw [ha.out]; exact putSel_none (v := undef) rfl), (by exact Kd.R_mono (Kd.R_far (p := ⟨gb143, 2, none⟩) (Kd.R_far (p := ⟨gb143, 1, none⟩) (Kd.R_far (p := ⟨gb143, 0, none⟩) (Kd.R_types HO109.out BK143.out (by decide)) (fun _ hk => hk.2) (.int .i64 t140)) (fun _ hk => hk.2) (.int .i64 t141)) (fun _ hk => hk.2) (.bool t142)) (fun _ hk => trivial)), (by exact blk_far (blk_far (blk_far BK101.out NB101_143.out _) NB101_143.out _) NB101_143.out _), (by exact blk_far (blk_far (blk_far BK102.out NB102_143.out _) NB102_143.out _) NB102_143.out _), (by exact blk_far (blk_far (blk_far BK103.out NB103_143.out _) NB103_143.out _) NB103_143.out _), (by exact blk_far (blk_far (blk_far BK104.out NB104_143.out _) NB104_143.out _) NB104_143.out _), (by exact blk_far (blk_far (blk_far BK123.out NB123_143.out _) NB123_143.out _) NB123_143.out _), (by exact blk_far (blk_far (blk_far BK127.out NB127_143.out _) NB127_143.out _) NB127_143.out _), (by repeat (first | exact HB.out | apply below_alloc | refine below_set ?_ GE101.out | refine below_set ?_ GE102.out | refine below_set ?_ GE103.out | refine below_set ?_ GE104.out | refine below_set ?_ GE123.out | refine below_set ?_ GE127.out | refine below_set ?_ GE143.out)), fun _ h1_ => absurd ((up_self b 12).symm.trans h1_) (by decide), fun _ => GW143.out, fun _ => GE143.out, fun _ => NB101_143.out, fun _ => NB143_101.out, fun _ => NB102_143.out, fun _ => NB143_102.out, fun _ => NB103_143.out, fun _ => NB143_103.out, fun _ => NB104_143.out, fun _ => NB143_104.out, fun _ => NB123_143.out, fun _ => NB143_123.out, fun _ => NB127_143.out, fun _ => NB143_127.out, fun _ => (by exact blk_put (blk_put (blk_put BK143.out 0 _ rfl) 1 _ rfl) 2 _ rfl), Q_X11_⟩
    exact steps_nil
  rintro b a w76 hall ⟨gb143, m11_, ha, Q_HO109, Q_BK101, Q_BK102, Q_BK103, Q_BK104, Q_BK123, Q_BK127, Q_HB, Q_BK143, Q_GW143, Q_GE143, Q_NB101_143, Q_NB143_101, Q_NB102_143, Q_NB143_102, Q_NB103_143, Q_NB143_103, Q_NB104_143, Q_NB143_104, Q_NB123_143, Q_NB143_123, Q_NB127_143, Q_NB143_127, Q_BK143_e12, Q_X11_⟩
  clear BK101 BK102 BK103 BK104 BK123 BK127 HB HO109
  have hb0_ := hall 0 (by kernel_rfl)
  have hb1_ := hall 1 (by kernel_rfl)
  have hb3_ := hall 3 (by kernel_rfl)
  have hb4_ := hall 4 (by kernel_rfl)
  have hb5_ := hall 5 (by kernel_rfl)
  have hb6_ := hall 6 (by kernel_rfl)
  have hb8_ := hall 8 (by kernel_rfl)
  have hb9_ := hall 9 (by kernel_rfl)
  have hb10_ := hall 10 (by kernel_rfl)
  have hb11_ := hall 11 (by kernel_rfl)
  have hb12_ := hall 12 (by kernel_rfl)
  subst ha
  obtain rfl := Q_X11_ hb11_
  simp only [putSel, hb0_, hb1_, hb3_, hb4_, hb5_, hb6_, hb8_, hb9_, hb10_, hb11_, hb12_, if_true, Act.put, List.setIfInBounds_toArray, List.set_cons_zero, List.set_cons_succ]
  have HO109 := Aside0.mk Q_HO109
  clear Q_HO109
  have BK101 := Aside0.mk Q_BK101
  clear Q_BK101
  have BK102 := Aside0.mk Q_BK102
  clear Q_BK102
  have BK103 := Aside0.mk Q_BK103
  clear Q_BK103
  have BK104 := Aside0.mk Q_BK104
  clear Q_BK104
  have BK123 := Aside0.mk Q_BK123
  clear Q_BK123
  have BK127 := Aside0.mk Q_BK127
  clear Q_BK127
  have HB := Aside0.mk Q_HB
  clear Q_HB
  clear Q_BK143
  have GW143 := Aside0.mk (Q_GW143 hb11_)
  clear Q_GW143
  have GE143 := Aside0.mk (Q_GE143 hb11_)
  clear Q_GE143
  have NB101_143 := Aside0.mk (Q_NB101_143 hb11_)
  clear Q_NB101_143
  have NB143_101 := Aside0.mk (Q_NB143_101 hb11_)
  clear Q_NB143_101
  have NB102_143 := Aside0.mk (Q_NB102_143 hb11_)
  clear Q_NB102_143
  have NB143_102 := Aside0.mk (Q_NB143_102 hb11_)
  clear Q_NB143_102
  have NB103_143 := Aside0.mk (Q_NB103_143 hb11_)
  clear Q_NB103_143
  have NB143_103 := Aside0.mk (Q_NB143_103 hb11_)
  clear Q_NB143_103
  have NB104_143 := Aside0.mk (Q_NB104_143 hb11_)
  clear Q_NB104_143
  have NB143_104 := Aside0.mk (Q_NB143_104 hb11_)
  clear Q_NB143_104
  have NB123_143 := Aside0.mk (Q_NB123_143 hb11_)
  clear Q_NB123_143
  have NB143_123 := Aside0.mk (Q_NB143_123 hb11_)
  clear Q_NB143_123
  have NB127_143 := Aside0.mk (Q_NB127_143 hb11_)
  clear Q_NB127_143
  have NB143_127 := Aside0.mk (Q_NB143_127 hb11_)
  clear Q_NB143_127
  have BK143 := Aside0.mk (Q_BK143_e12 hb12_)
  clear Q_BK143_e12
  clear hall hb0_ hb1_ hb3_ hb4_ hb5_ hb6_ hb8_ hb9_ hb10_ hb11_ hb12_
  try go_wp2
  replace HO109 := Aside0.mk (Kd.R_drew HO109.out)
  replace BK101 := Aside0.mk (blk_drew BK101.out)
  replace BK102 := Aside0.mk (blk_drew BK102.out)
  replace BK103 := Aside0.mk (blk_drew BK103.out)
  replace BK104 := Aside0.mk (blk_drew BK104.out)
  replace BK123 := Aside0.mk (blk_drew BK123.out)
  replace BK127 := Aside0.mk (blk_drew BK127.out)
  replace BK143 := Aside0.mk (blk_drew BK143.out)
  replace HB := Aside0.mk (below_drew1 HB.out)
  refine start_ (n := 12) (S := fun w' => True) (ds := []) (bm_ [0, 12]) (by kernel_rfl) rfl rfl trivial (fun hHeld => ?_); refine with_tabW horizon_Height.tab7 horizon_Height.bits7 (fun HT_ HW_ => ?_)
  generalize w76.drew = w77 at HO109 BK101 BK102 BK103 BK104 BK123 BK127 BK143 HB hHeld ⊢
  refine pq_ 2 44 (bm_ [0, 2, 1, 9]) HT_ ?_
  refine inv_at [0, 1, 3, 4, 5, 6, 7, 8, 9, 10, 11] (fun a0_ b a w' => ∃ (gb159 : Nat) (m10_ : Value), a = putSel a0_ b [(0, 42, .agg #[.int .i64 t124, .int .i64 t125, .bool t126]), (1, 43, .agg #[.int .i64 t144, .int .i64 t145, .bool t146]), (3, 45, .int .i64 t116), (4, 46, .agg #[.int .i64 t147, .int .i64 t148, .bool t149]), (5, 47, .agg #[.int .i64 t124, .int .i64 t125, .bool t126]), (6, 48, .agg #[.int .i64 t150, .int .i64 t151, .bool t152]), (7, 49, .agg #[.int .i64 t140, .int .i64 t141, .bool t142]), (8, 50, .agg #[.int .i64 t153, .int .i64 t154, .bool t155]), (9, 51, .agg #[.int .i64 t156, .int .i64 t157, .bool t158]), (10, 10, m10_)] ∧ (Kd.R (Kd.int .i64) 36 w' w.heap.size (fun _ => True) (.slice Ao37 y107.length co37) y107) ∧ (w'.heap[gb101]? = some (.cells #[.int .i64 a0_0, .int .i64 a0_1] 28 (0, 0))) ∧ (w'.heap[gb102]? = some (.cells #[.int .i64 a1_0, .int .i64 a1_1, .bool a1_2] 44 (0, 0))) ∧ (w'.heap[gb103]? = some (.cells #[.int .i64 t114, .int .i64 t115, .int .i64 t116] 32 (0, 0))) ∧ (w'.heap[gb104]? = some (.cells #[.int .i64 0, .int .i64 0, .bool false] 41 (0, 0))) ∧ (w'.heap[gb123]? = some (.cells #[.int .i64 t120, .int .i64 t121, .bool t122] 44 (0, 0))) ∧ (w'.heap[gb127]? = some (.cells #[.int .i64 t124, .int .i64 t125, .bool t126] 44 (0, 0))) ∧ (w'.heap[gb143]? = some (.cells #[.int .i64 t140, .int .i64 t141, .bool t142] 41 (0, 0))) ∧ (Below w.heap.size w w') ∧ (b 10 = true → b 11 = false → w'.heap[gb159]? = some (.cells #[.int .i64 0, .int .i64 0, .bool false] 41 (0, 0))) ∧ (b 10 = true → w.heap.size ≤ gb159) ∧ (b 10 = true → w.heap.size ≤ gb159) ∧ (b 10 = true → gb101 ≠ gb159) ∧ (b 10 = true → gb159 ≠ gb101) ∧ (b 10 = true → gb102 ≠ gb159) ∧ (b 10 = true → gb159 ≠ gb102) ∧ (b 10 = true → gb103 ≠ gb159) ∧ (b 10 = true → gb159 ≠ gb103) ∧ (b 10 = true → gb104 ≠ gb159) ∧ (b 10 = true → gb159 ≠ gb104) ∧ (b 10 = true → gb123 ≠ gb159) ∧ (b 10 = true → gb159 ≠ gb123) ∧ (b 10 = true → gb127 ≠ gb159) ∧ (b 10 = true → gb159 ≠ gb127) ∧ (b 10 = true → gb143 ≠ gb159) ∧ (b 10 = true → gb159 ≠ gb143) ∧ (b 11 = true → w'.heap[gb159]? = some (.cells #[.int .i64 t156, .int .i64 t157, .bool t158] 41 (0, 0))) ∧ (b 10 = true → (m10_ : Value) = .pointer (some ⟨gb159, 0, none⟩))) HT_.out HW_.out (by kernel_rfl) (by kernel_rfl) ?_ ?_ ?_
  · exact ⟨0, .bool false, by simp only [putSel, Bool.false_eq_true, if_false], HO109.out, BK101.out, BK102.out, BK103.out, BK104.out, BK123.out, BK127.out, BK143.out, HB.out, fun h_ => absurd h_ (by decide), fun h_ => absurd h_ (by decide), fun h_ => absurd h_ (by decide), fun h_ => absurd h_ (by decide), fun h_ => absurd h_ (by decide), fun h_ => absurd h_ (by decide), fun h_ => absurd h_ (by decide), fun h_ => absurd h_ (by decide), fun h_ => absurd h_ (by decide), fun h_ => absurd h_ (by decide), fun h_ => absurd h_ (by decide), fun h_ => absurd h_ (by decide), fun h_ => absurd h_ (by decide), fun h_ => absurd h_ (by decide), fun h_ => absurd h_ (by decide), fun h_ => absurd h_ (by decide), fun h_ => absurd h_ (by decide), fun h_ => absurd h_ (by decide), fun h_ => absurd h_ (by decide)⟩
  · skip
    clear BK101 BK102 BK103 BK104 BK123 BK127 BK143 HB HO109
    refine steps_cons ?_ ?_
    · rintro b a w' ⟨gb159, m10_, ha, Q_HO109, Q_BK101, Q_BK102, Q_BK103, Q_BK104, Q_BK123, Q_BK127, Q_BK143, Q_HB, Q_BK159, Q_GW159, Q_GE159, Q_NB101_159, Q_NB159_101, Q_NB102_159, Q_NB159_102, Q_NB103_159, Q_NB159_103, Q_NB104_159, Q_NB159_104, Q_NB123_159, Q_NB159_123, Q_NB127_159, Q_NB159_127, Q_NB143_159, Q_NB159_143, Q_BK159_e11, Q_X10_⟩ hb_ hon hoff
      refine ⟨_, rfl, fun K hK => ?_⟩
      have e8 : a.tmps[8]? = some (.pointer (some ⟨gb127, 0, none⟩)) := by rw [ha]; exact (putSel_off rfl).trans rfl
      replace ha := Aside0.mk ha
      have HO109 := Aside0.mk Q_HO109
      have BK101 := Aside0.mk Q_BK101
      have BK102 := Aside0.mk Q_BK102
      have BK103 := Aside0.mk Q_BK103
      have BK104 := Aside0.mk Q_BK104
      have BK123 := Aside0.mk Q_BK123
      have BK127 := Aside0.mk Q_BK127
      have BK143 := Aside0.mk Q_BK143
      have HB := Aside0.mk Q_HB
      have hc0_ : w'.cell? ⟨gb127, 0, none⟩ = some (.int .i64 t124) := bc_ BK127 0 rfl
      have hc1_ : w'.cell? ⟨gb127, 1, none⟩ = some (.int .i64 t125) := bc_ BK127 1 rfl
      have hc2_ : w'.cell? ⟨gb127, 2, none⟩ = some (.bool t126) := bc_ BK127 2 rfl
      refine value_ (w1 := w') (v := .agg #[.int .i64 t124, .int .i64 t125, .bool t126]) (by rfl) rfl ?_ ?_
      · go_simp
        (try simp only [i64_w])
        try rfl
      refine hK.out _ _ ⟨gb159, m10_, (by rw [ha.out]; exact putSel_upk 0 hb_ rfl rfl rfl), Q_HO109, Q_BK101, Q_BK102, Q_BK103, Q_BK104, Q_BK123, Q_BK127, Q_BK143, Q_HB, Q_BK159, Q_GW159, Q_GE159, Q_NB101_159, Q_NB159_101, Q_NB102_159, Q_NB159_102, Q_NB103_159, Q_NB159_103, Q_NB104_159, Q_NB159_104, Q_NB123_159, Q_NB159_123, Q_NB127_159, Q_NB159_127, Q_NB143_159, Q_NB159_143, fun h0_ => absurd ((hoff 11 (by kernel_rfl)).symm.trans h0_) (by decide), Q_X10_⟩
    refine steps_cons ?_ ?_
    · rintro b a w' ⟨gb159, m10_, ha, Q_HO109, Q_BK101, Q_BK102, Q_BK103, Q_BK104, Q_BK123, Q_BK127, Q_BK143, Q_HB, Q_BK159, Q_GW159, Q_GE159, Q_NB101_159, Q_NB159_101, Q_NB102_159, Q_NB159_102, Q_NB103_159, Q_NB159_103, Q_NB104_159, Q_NB159_104, Q_NB123_159, Q_NB159_123, Q_NB127_159, Q_NB159_127, Q_NB143_159, Q_NB159_143, Q_BK159_e11, Q_X10_⟩ hb_ hon hoff
      refine ⟨_, rfl, fun K hK => ?_⟩
      have e42 : a.tmps[42]? = some (.agg #[.int .i64 t124, .int .i64 t125, .bool t126]) := by rw [ha]; exact putSel_on (e := (0, 42, .agg #[.int .i64 t124, .int .i64 t125, .bool t126])) 0 rfl rfl (hon 0 (by kernel_rfl)) rfl
      replace ha := Aside0.mk ha
      have HO109 := Aside0.mk Q_HO109
      have BK101 := Aside0.mk Q_BK101
      have BK102 := Aside0.mk Q_BK102
      have BK103 := Aside0.mk Q_BK103
      have BK104 := Aside0.mk Q_BK104
      have BK123 := Aside0.mk Q_BK123
      have BK127 := Aside0.mk Q_BK127
      have BK143 := Aside0.mk Q_BK143
      have HB := Aside0.mk Q_HB
      refine goes_ Try.func29 (by kernel_rfl) rfl #[.agg #[.int .i64 t124, .int .i64 t125, .bool t126]] (by rfl) rfl rfl (by first | (simp only [List.map_toArray, List.map_cons, List.map_nil, Act.eval, Array.getD_eq_getD_getElem?, Option.getD_some, e42]; done) | (simp only [List.map_toArray, List.map_cons, List.map_nil, Act.eval, Array.getD_eq_getD_getElem?, Option.getD_some, e42]; rfl)) ?_
      with_reducible refine (trig_SinBound.calls k t124 t125 t126 t144 t145 t146 _ A17.out).mono ?_
      rintro e w78 ⟨rfl, hb⟩
      refine ⟨_, rfl, ?_⟩
      have n0_ := Aside0.mk (Kd.R_below (by exact HO109.out) hb)
      have n1_ := bkb_ BK101 hb rfl
      have n2_ := bkb_ BK102 hb rfl
      have n3_ := bkb_ BK103 hb rfl
      have n4_ := bkb_ BK104 hb rfl
      have n5_ := bkb_ BK123 hb rfl
      have n6_ := bkb_ BK127 hb rfl
      have n7_ := bkb_ BK143 hb rfl
      have n8_ := hbs_ HB hb rfl rfl rfl rfl
      have z_BK159 := fun (h0_ : b 10 = true) (h1_ : b 11 = false) => (show w78.heap[gb159]? = some (.cells #[.int .i64 0, .int .i64 0, .bool false] 41 (0, 0)) from by first | exact (blk_below (g := gb159) (o := .cells #[.int .i64 0, .int .i64 0, .bool false] 41 (0, 0)) (by exact (Q_BK159 h0_ h1_)) hb))
      clear HO109
      clear BK101
      clear BK102
      clear BK103
      clear BK104
      clear BK123
      clear BK127
      clear BK143
      clear HB
      have HO109 := n0_
      have BK101 := n1_
      have BK102 := n2_
      have BK103 := n3_
      have BK104 := n4_
      have BK123 := n5_
      have BK127 := n6_
      have BK143 := n7_
      have HB := n8_
      clear n0_ n1_ n2_ n3_ n4_ n5_ n6_ n7_ n8_
      (try clear hb)
      refine hK.out _ _ ⟨gb159, m10_, (by rw [ha.out]; exact putSel_upk 1 hb_ rfl rfl rfl), (by exact HO109.out), BK101.out, BK102.out, BK103.out, BK104.out, BK123.out, BK127.out, BK143.out, (by repeat (first | exact HB.out | apply below_alloc | refine below_set ?_ GE101.out | refine below_set ?_ GE102.out | refine below_set ?_ GE103.out | refine below_set ?_ GE104.out | refine below_set ?_ GE123.out | refine below_set ?_ GE127.out | refine below_set ?_ GE143.out)), z_BK159, Q_GW159, Q_GE159, Q_NB101_159, Q_NB159_101, Q_NB102_159, Q_NB159_102, Q_NB103_159, Q_NB159_103, Q_NB104_159, Q_NB159_104, Q_NB123_159, Q_NB159_123, Q_NB127_159, Q_NB159_127, Q_NB143_159, Q_NB159_143, fun h0_ => absurd ((hoff 11 (by kernel_rfl)).symm.trans h0_) (by decide), Q_X10_⟩
    refine steps_cons ?_ ?_
    · rintro b a w' ⟨gb159, m10_, ha, Q_HO109, Q_BK101, Q_BK102, Q_BK103, Q_BK104, Q_BK123, Q_BK127, Q_BK143, Q_HB, Q_BK159, Q_GW159, Q_GE159, Q_NB101_159, Q_NB159_101, Q_NB102_159, Q_NB159_102, Q_NB103_159, Q_NB159_103, Q_NB104_159, Q_NB159_104, Q_NB123_159, Q_NB159_123, Q_NB127_159, Q_NB159_127, Q_NB143_159, Q_NB159_143, Q_BK159_e11, Q_X10_⟩ hb_ hon hoff
      refine ⟨_, rfl, fun K hK => ?_⟩
      have e44 : a.tmps[44]? = some (.pointer (some ⟨gb103, 2, none⟩)) := by rw [ha]; exact (putSel_off rfl).trans rfl
      replace ha := Aside0.mk ha
      have HO109 := Aside0.mk Q_HO109
      have BK101 := Aside0.mk Q_BK101
      have BK102 := Aside0.mk Q_BK102
      have BK103 := Aside0.mk Q_BK103
      have BK104 := Aside0.mk Q_BK104
      have BK123 := Aside0.mk Q_BK123
      have BK127 := Aside0.mk Q_BK127
      have BK143 := Aside0.mk Q_BK143
      have HB := Aside0.mk Q_HB
      have hc0_ : w'.cell? ⟨gb103, 0, none⟩ = some (.int .i64 t114) := bc_ BK103 0 rfl
      have hc1_ : w'.cell? ⟨gb103, 1, none⟩ = some (.int .i64 t115) := bc_ BK103 1 rfl
      have hc2_ : w'.cell? ⟨gb103, 2, none⟩ = some (.int .i64 t116) := bc_ BK103 2 rfl
      refine value_ (w1 := w') (v := .int .i64 t116) (by rfl) rfl ?_ ?_
      · go_simp
        (try simp only [i64_w])
        try rfl
      refine hK.out _ _ ⟨gb159, m10_, (by rw [ha.out]; exact putSel_upk 2 hb_ rfl rfl rfl), Q_HO109, Q_BK101, Q_BK102, Q_BK103, Q_BK104, Q_BK123, Q_BK127, Q_BK143, Q_HB, Q_BK159, Q_GW159, Q_GE159, Q_NB101_159, Q_NB159_101, Q_NB102_159, Q_NB159_102, Q_NB103_159, Q_NB159_103, Q_NB104_159, Q_NB159_104, Q_NB123_159, Q_NB159_123, Q_NB127_159, Q_NB159_127, Q_NB143_159, Q_NB159_143, fun h0_ => absurd ((hoff 11 (by kernel_rfl)).symm.trans h0_) (by decide), Q_X10_⟩
    refine steps_cons ?_ ?_
    · rintro b a w' ⟨gb159, m10_, ha, Q_HO109, Q_BK101, Q_BK102, Q_BK103, Q_BK104, Q_BK123, Q_BK127, Q_BK143, Q_HB, Q_BK159, Q_GW159, Q_GE159, Q_NB101_159, Q_NB159_101, Q_NB102_159, Q_NB159_102, Q_NB103_159, Q_NB159_103, Q_NB104_159, Q_NB159_104, Q_NB123_159, Q_NB159_123, Q_NB127_159, Q_NB159_127, Q_NB143_159, Q_NB159_143, Q_BK159_e11, Q_X10_⟩ hb_ hon hoff
      refine ⟨_, rfl, fun K hK => ?_⟩
      have e43 : a.tmps[43]? = some (.agg #[.int .i64 t144, .int .i64 t145, .bool t146]) := by rw [ha]; exact putSel_on (e := (1, 43, .agg #[.int .i64 t144, .int .i64 t145, .bool t146])) 1 rfl rfl (hon 1 (by kernel_rfl)) rfl
      have e45 : a.tmps[45]? = some (.int .i64 t116) := by rw [ha]; exact putSel_on (e := (3, 45, .int .i64 t116)) 2 rfl rfl (hon 3 (by kernel_rfl)) rfl
      replace ha := Aside0.mk ha
      have HO109 := Aside0.mk Q_HO109
      have BK101 := Aside0.mk Q_BK101
      have BK102 := Aside0.mk Q_BK102
      have BK103 := Aside0.mk Q_BK103
      have BK104 := Aside0.mk Q_BK104
      have BK123 := Aside0.mk Q_BK123
      have BK127 := Aside0.mk Q_BK127
      have BK143 := Aside0.mk Q_BK143
      have HB := Aside0.mk Q_HB
      refine goes_ Try.func27 (by kernel_rfl) rfl #[.agg #[.int .i64 t144, .int .i64 t145, .bool t146], .int .i64 t116, .int .i64 1] (by rfl) rfl rfl (by first | (simp only [List.map_toArray, List.map_cons, List.map_nil, Act.eval, Array.getD_eq_getD_getElem?, Option.getD_some, e43, e45]; done) | (simp only [List.map_toArray, List.map_cons, List.map_nil, Act.eval, Array.getD_eq_getD_getElem?, Option.getD_some, e43, e45]; rfl)) ?_
      with_reducible refine (bound_Scale_api_Fix.calls k t144 t145 t146 t116 1 t147 t148 t149 _ A18.out).mono ?_
      rintro e w80 ⟨rfl, hb⟩
      refine ⟨_, rfl, ?_⟩
      have n0_ := Aside0.mk (Kd.R_below (by exact HO109.out) hb)
      have n1_ := bkb_ BK101 hb rfl
      have n2_ := bkb_ BK102 hb rfl
      have n3_ := bkb_ BK103 hb rfl
      have n4_ := bkb_ BK104 hb rfl
      have n5_ := bkb_ BK123 hb rfl
      have n6_ := bkb_ BK127 hb rfl
      have n7_ := bkb_ BK143 hb rfl
      have n8_ := hbs_ HB hb rfl rfl rfl rfl
      have z_BK159 := fun (h0_ : b 10 = true) (h1_ : b 11 = false) => (show w80.heap[gb159]? = some (.cells #[.int .i64 0, .int .i64 0, .bool false] 41 (0, 0)) from by first | exact (blk_below (g := gb159) (o := .cells #[.int .i64 0, .int .i64 0, .bool false] 41 (0, 0)) (by exact (Q_BK159 h0_ h1_)) hb))
      clear HO109
      clear BK101
      clear BK102
      clear BK103
      clear BK104
      clear BK123
      clear BK127
      clear BK143
      clear HB
      have HO109 := n0_
      have BK101 := n1_
      have BK102 := n2_
      have BK103 := n3_
      have BK104 := n4_
      have BK123 := n5_
      have BK127 := n6_
      have BK143 := n7_
      have HB := n8_
      clear n0_ n1_ n2_ n3_ n4_ n5_ n6_ n7_ n8_
      (try clear hb)
      refine hK.out _ _ ⟨gb159, m10_, (by rw [ha.out]; exact putSel_upk 3 hb_ rfl rfl rfl), (by exact HO109.out), BK101.out, BK102.out, BK103.out, BK104.out, BK123.out, BK127.out, BK143.out, (by repeat (first | exact HB.out | apply below_alloc | refine below_set ?_ GE101.out | refine below_set ?_ GE102.out | refine below_set ?_ GE103.out | refine below_set ?_ GE104.out | refine below_set ?_ GE123.out | refine below_set ?_ GE127.out | refine below_set ?_ GE143.out)), z_BK159, Q_GW159, Q_GE159, Q_NB101_159, Q_NB159_101, Q_NB102_159, Q_NB159_102, Q_NB103_159, Q_NB159_103, Q_NB104_159, Q_NB159_104, Q_NB123_159, Q_NB159_123, Q_NB127_159, Q_NB159_127, Q_NB143_159, Q_NB159_143, fun h0_ => absurd ((hoff 11 (by kernel_rfl)).symm.trans h0_) (by decide), Q_X10_⟩
    refine steps_cons ?_ ?_
    · rintro b a w' ⟨gb159, m10_, ha, Q_HO109, Q_BK101, Q_BK102, Q_BK103, Q_BK104, Q_BK123, Q_BK127, Q_BK143, Q_HB, Q_BK159, Q_GW159, Q_GE159, Q_NB101_159, Q_NB159_101, Q_NB102_159, Q_NB159_102, Q_NB103_159, Q_NB159_103, Q_NB104_159, Q_NB159_104, Q_NB123_159, Q_NB159_123, Q_NB127_159, Q_NB159_127, Q_NB143_159, Q_NB159_143, Q_BK159_e11, Q_X10_⟩ hb_ hon hoff
      refine ⟨_, rfl, fun K hK => ?_⟩
      have e8 : a.tmps[8]? = some (.pointer (some ⟨gb127, 0, none⟩)) := by rw [ha]; exact (putSel_off rfl).trans rfl
      replace ha := Aside0.mk ha
      have HO109 := Aside0.mk Q_HO109
      have BK101 := Aside0.mk Q_BK101
      have BK102 := Aside0.mk Q_BK102
      have BK103 := Aside0.mk Q_BK103
      have BK104 := Aside0.mk Q_BK104
      have BK123 := Aside0.mk Q_BK123
      have BK127 := Aside0.mk Q_BK127
      have BK143 := Aside0.mk Q_BK143
      have HB := Aside0.mk Q_HB
      have hc0_ : w'.cell? ⟨gb127, 0, none⟩ = some (.int .i64 t124) := bc_ BK127 0 rfl
      have hc1_ : w'.cell? ⟨gb127, 1, none⟩ = some (.int .i64 t125) := bc_ BK127 1 rfl
      have hc2_ : w'.cell? ⟨gb127, 2, none⟩ = some (.bool t126) := bc_ BK127 2 rfl
      refine value_ (w1 := w') (v := .agg #[.int .i64 t124, .int .i64 t125, .bool t126]) (by rfl) rfl ?_ ?_
      · go_simp
        (try simp only [i64_w])
        try rfl
      refine hK.out _ _ ⟨gb159, m10_, (by rw [ha.out]; exact putSel_upk 4 hb_ rfl rfl rfl), Q_HO109, Q_BK101, Q_BK102, Q_BK103, Q_BK104, Q_BK123, Q_BK127, Q_BK143, Q_HB, Q_BK159, Q_GW159, Q_GE159, Q_NB101_159, Q_NB159_101, Q_NB102_159, Q_NB159_102, Q_NB103_159, Q_NB159_103, Q_NB104_159, Q_NB159_104, Q_NB123_159, Q_NB159_123, Q_NB127_159, Q_NB159_127, Q_NB143_159, Q_NB159_143, fun h0_ => absurd ((hoff 11 (by kernel_rfl)).symm.trans h0_) (by decide), Q_X10_⟩
    refine steps_cons ?_ ?_
    · rintro b a w' ⟨gb159, m10_, ha, Q_HO109, Q_BK101, Q_BK102, Q_BK103, Q_BK104, Q_BK123, Q_BK127, Q_BK143, Q_HB, Q_BK159, Q_GW159, Q_GE159, Q_NB101_159, Q_NB159_101, Q_NB102_159, Q_NB159_102, Q_NB103_159, Q_NB159_103, Q_NB104_159, Q_NB159_104, Q_NB123_159, Q_NB159_123, Q_NB127_159, Q_NB159_127, Q_NB143_159, Q_NB159_143, Q_BK159_e11, Q_X10_⟩ hb_ hon hoff
      refine ⟨_, rfl, fun K hK => ?_⟩
      have e47 : a.tmps[47]? = some (.agg #[.int .i64 t124, .int .i64 t125, .bool t126]) := by rw [ha]; exact putSel_on (e := (5, 47, .agg #[.int .i64 t124, .int .i64 t125, .bool t126])) 4 rfl rfl (hon 5 (by kernel_rfl)) rfl
      replace ha := Aside0.mk ha
      have HO109 := Aside0.mk Q_HO109
      have BK101 := Aside0.mk Q_BK101
      have BK102 := Aside0.mk Q_BK102
      have BK103 := Aside0.mk Q_BK103
      have BK104 := Aside0.mk Q_BK104
      have BK123 := Aside0.mk Q_BK123
      have BK127 := Aside0.mk Q_BK127
      have BK143 := Aside0.mk Q_BK143
      have HB := Aside0.mk Q_HB
      refine goes_ Try.func28 (by kernel_rfl) rfl #[.agg #[.int .i64 t124, .int .i64 t125, .bool t126]] (by rfl) rfl rfl (by first | (simp only [List.map_toArray, List.map_cons, List.map_nil, Act.eval, Array.getD_eq_getD_getElem?, Option.getD_some, e47]; done) | (simp only [List.map_toArray, List.map_cons, List.map_nil, Act.eval, Array.getD_eq_getD_getElem?, Option.getD_some, e47]; rfl)) ?_
      with_reducible refine (trig_CosBound.calls k t124 t125 t126 t150 t151 t152 _ A19.out).mono ?_
      rintro e w81 ⟨rfl, hb⟩
      refine ⟨_, rfl, ?_⟩
      have n0_ := Aside0.mk (Kd.R_below (by exact HO109.out) hb)
      have n1_ := bkb_ BK101 hb rfl
      have n2_ := bkb_ BK102 hb rfl
      have n3_ := bkb_ BK103 hb rfl
      have n4_ := bkb_ BK104 hb rfl
      have n5_ := bkb_ BK123 hb rfl
      have n6_ := bkb_ BK127 hb rfl
      have n7_ := bkb_ BK143 hb rfl
      have n8_ := hbs_ HB hb rfl rfl rfl rfl
      have z_BK159 := fun (h0_ : b 10 = true) (h1_ : b 11 = false) => (show w81.heap[gb159]? = some (.cells #[.int .i64 0, .int .i64 0, .bool false] 41 (0, 0)) from by first | exact (blk_below (g := gb159) (o := .cells #[.int .i64 0, .int .i64 0, .bool false] 41 (0, 0)) (by exact (Q_BK159 h0_ h1_)) hb))
      clear HO109
      clear BK101
      clear BK102
      clear BK103
      clear BK104
      clear BK123
      clear BK127
      clear BK143
      clear HB
      have HO109 := n0_
      have BK101 := n1_
      have BK102 := n2_
      have BK103 := n3_
      have BK104 := n4_
      have BK123 := n5_
      have BK127 := n6_
      have BK143 := n7_
      have HB := n8_
      clear n0_ n1_ n2_ n3_ n4_ n5_ n6_ n7_ n8_
      (try clear hb)
      refine hK.out _ _ ⟨gb159, m10_, (by rw [ha.out]; exact putSel_upk 5 hb_ rfl rfl rfl), (by exact HO109.out), BK101.out, BK102.out, BK103.out, BK104.out, BK123.out, BK127.out, BK143.out, (by repeat (first | exact HB.out | apply below_alloc | refine below_set ?_ GE101.out | refine below_set ?_ GE102.out | refine below_set ?_ GE103.out | refine below_set ?_ GE104.out | refine below_set ?_ GE123.out | refine below_set ?_ GE127.out | refine below_set ?_ GE143.out)), z_BK159, Q_GW159, Q_GE159, Q_NB101_159, Q_NB159_101, Q_NB102_159, Q_NB159_102, Q_NB103_159, Q_NB159_103, Q_NB104_159, Q_NB159_104, Q_NB123_159, Q_NB159_123, Q_NB127_159, Q_NB159_127, Q_NB143_159, Q_NB159_143, fun h0_ => absurd ((hoff 11 (by kernel_rfl)).symm.trans h0_) (by decide), Q_X10_⟩
    refine steps_cons ?_ ?_
    · rintro b a w' ⟨gb159, m10_, ha, Q_HO109, Q_BK101, Q_BK102, Q_BK103, Q_BK104, Q_BK123, Q_BK127, Q_BK143, Q_HB, Q_BK159, Q_GW159, Q_GE159, Q_NB101_159, Q_NB159_101, Q_NB102_159, Q_NB159_102, Q_NB103_159, Q_NB159_103, Q_NB104_159, Q_NB159_104, Q_NB123_159, Q_NB159_123, Q_NB127_159, Q_NB159_127, Q_NB143_159, Q_NB159_143, Q_BK159_e11, Q_X10_⟩ hb_ hon hoff
      refine ⟨_, rfl, fun K hK => ?_⟩
      have e9 : a.tmps[9]? = some (.pointer (some ⟨gb143, 0, none⟩)) := by rw [ha]; exact (putSel_off rfl).trans rfl
      replace ha := Aside0.mk ha
      have HO109 := Aside0.mk Q_HO109
      have BK101 := Aside0.mk Q_BK101
      have BK102 := Aside0.mk Q_BK102
      have BK103 := Aside0.mk Q_BK103
      have BK104 := Aside0.mk Q_BK104
      have BK123 := Aside0.mk Q_BK123
      have BK127 := Aside0.mk Q_BK127
      have BK143 := Aside0.mk Q_BK143
      have HB := Aside0.mk Q_HB
      have hc0_ : w'.cell? ⟨gb143, 0, none⟩ = some (.int .i64 t140) := bc_ BK143 0 rfl
      have hc1_ : w'.cell? ⟨gb143, 1, none⟩ = some (.int .i64 t141) := bc_ BK143 1 rfl
      have hc2_ : w'.cell? ⟨gb143, 2, none⟩ = some (.bool t142) := bc_ BK143 2 rfl
      refine value_ (w1 := w') (v := .agg #[.int .i64 t140, .int .i64 t141, .bool t142]) (by rfl) rfl ?_ ?_
      · go_simp
        (try simp only [i64_w])
        try rfl
      refine hK.out _ _ ⟨gb159, m10_, (by rw [ha.out]; exact putSel_upk 6 hb_ rfl rfl rfl), Q_HO109, Q_BK101, Q_BK102, Q_BK103, Q_BK104, Q_BK123, Q_BK127, Q_BK143, Q_HB, Q_BK159, Q_GW159, Q_GE159, Q_NB101_159, Q_NB159_101, Q_NB102_159, Q_NB159_102, Q_NB103_159, Q_NB159_103, Q_NB104_159, Q_NB159_104, Q_NB123_159, Q_NB159_123, Q_NB127_159, Q_NB159_127, Q_NB143_159, Q_NB159_143, fun h0_ => absurd ((hoff 11 (by kernel_rfl)).symm.trans h0_) (by decide), Q_X10_⟩
    refine steps_cons ?_ ?_
    · rintro b a w' ⟨gb159, m10_, ha, Q_HO109, Q_BK101, Q_BK102, Q_BK103, Q_BK104, Q_BK123, Q_BK127, Q_BK143, Q_HB, Q_BK159, Q_GW159, Q_GE159, Q_NB101_159, Q_NB159_101, Q_NB102_159, Q_NB159_102, Q_NB103_159, Q_NB159_103, Q_NB104_159, Q_NB159_104, Q_NB123_159, Q_NB159_123, Q_NB127_159, Q_NB159_127, Q_NB143_159, Q_NB159_143, Q_BK159_e11, Q_X10_⟩ hb_ hon hoff
      refine ⟨_, rfl, fun K hK => ?_⟩
      have e48 : a.tmps[48]? = some (.agg #[.int .i64 t150, .int .i64 t151, .bool t152]) := by rw [ha]; exact putSel_on (e := (6, 48, .agg #[.int .i64 t150, .int .i64 t151, .bool t152])) 5 rfl rfl (hon 6 (by kernel_rfl)) rfl
      have e49 : a.tmps[49]? = some (.agg #[.int .i64 t140, .int .i64 t141, .bool t142]) := by rw [ha]; exact putSel_on (e := (7, 49, .agg #[.int .i64 t140, .int .i64 t141, .bool t142])) 6 rfl rfl (hon 7 (by kernel_rfl)) rfl
      replace ha := Aside0.mk ha
      have HO109 := Aside0.mk Q_HO109
      have BK101 := Aside0.mk Q_BK101
      have BK102 := Aside0.mk Q_BK102
      have BK103 := Aside0.mk Q_BK103
      have BK104 := Aside0.mk Q_BK104
      have BK123 := Aside0.mk Q_BK123
      have BK127 := Aside0.mk Q_BK127
      have BK143 := Aside0.mk Q_BK143
      have HB := Aside0.mk Q_HB
      refine goes_ Try.func30 (by kernel_rfl) rfl #[.agg #[.int .i64 t150, .int .i64 t151, .bool t152], .agg #[.int .i64 t140, .int .i64 t141, .bool t142], .int .i64 1073741824] (by rfl) rfl rfl (by first | (simp only [List.map_toArray, List.map_cons, List.map_nil, Act.eval, Array.getD_eq_getD_getElem?, Option.getD_some, e48, e49]; done) | (simp only [List.map_toArray, List.map_cons, List.map_nil, Act.eval, Array.getD_eq_getD_getElem?, Option.getD_some, e48, e49]; rfl)) ?_
      with_reducible refine (bound_Mul_api_Fix.calls k t150 t151 t152 t140 t141 t142 1073741824 t153 t154 t155 _ A20.out).mono ?_
      rintro e w82 ⟨rfl, hb⟩
      refine ⟨_, rfl, ?_⟩
      have n0_ := Aside0.mk (Kd.R_below (by exact HO109.out) hb)
      have n1_ := bkb_ BK101 hb rfl
      have n2_ := bkb_ BK102 hb rfl
      have n3_ := bkb_ BK103 hb rfl
      have n4_ := bkb_ BK104 hb rfl
      have n5_ := bkb_ BK123 hb rfl
      have n6_ := bkb_ BK127 hb rfl
      have n7_ := bkb_ BK143 hb rfl
      have n8_ := hbs_ HB hb rfl rfl rfl rfl
      have z_BK159 := fun (h0_ : b 10 = true) (h1_ : b 11 = false) => (show w82.heap[gb159]? = some (.cells #[.int .i64 0, .int .i64 0, .bool false] 41 (0, 0)) from by first | exact (blk_below (g := gb159) (o := .cells #[.int .i64 0, .int .i64 0, .bool false] 41 (0, 0)) (by exact (Q_BK159 h0_ h1_)) hb))
      clear HO109
      clear BK101
      clear BK102
      clear BK103
      clear BK104
      clear BK123
      clear BK127
      clear BK143
      clear HB
      have HO109 := n0_
      have BK101 := n1_
      have BK102 := n2_
      have BK103 := n3_
      have BK104 := n4_
      have BK123 := n5_
      have BK127 := n6_
      have BK143 := n7_
      have HB := n8_
      clear n0_ n1_ n2_ n3_ n4_ n5_ n6_ n7_ n8_
      (try clear hb)
      refine hK.out _ _ ⟨gb159, m10_, (by rw [ha.out]; exact putSel_upk 7 hb_ rfl rfl rfl), (by exact HO109.out), BK101.out, BK102.out, BK103.out, BK104.out, BK123.out, BK127.out, BK143.out, (by repeat (first | exact HB.out | apply below_alloc | refine below_set ?_ GE101.out | refine below_set ?_ GE102.out | refine below_set ?_ GE103.out | refine below_set ?_ GE104.out | refine below_set ?_ GE123.out | refine below_set ?_ GE127.out | refine below_set ?_ GE143.out)), z_BK159, Q_GW159, Q_GE159, Q_NB101_159, Q_NB159_101, Q_NB102_159, Q_NB159_102, Q_NB103_159, Q_NB159_103, Q_NB104_159, Q_NB159_104, Q_NB123_159, Q_NB159_123, Q_NB127_159, Q_NB159_127, Q_NB143_159, Q_NB159_143, fun h0_ => absurd ((hoff 11 (by kernel_rfl)).symm.trans h0_) (by decide), Q_X10_⟩
    refine steps_cons ?_ ?_
    · rintro b a w' ⟨gb159, m10_, ha, Q_HO109, Q_BK101, Q_BK102, Q_BK103, Q_BK104, Q_BK123, Q_BK127, Q_BK143, Q_HB, Q_BK159, Q_GW159, Q_GE159, Q_NB101_159, Q_NB159_101, Q_NB102_159, Q_NB159_102, Q_NB103_159, Q_NB159_103, Q_NB104_159, Q_NB159_104, Q_NB123_159, Q_NB159_123, Q_NB127_159, Q_NB159_127, Q_NB143_159, Q_NB159_143, Q_BK159_e11, Q_X10_⟩ hb_ hon hoff
      refine ⟨_, rfl, fun K hK => ?_⟩
      have e46 : a.tmps[46]? = some (.agg #[.int .i64 t147, .int .i64 t148, .bool t149]) := by rw [ha]; exact putSel_on (e := (4, 46, .agg #[.int .i64 t147, .int .i64 t148, .bool t149])) 3 rfl rfl (hon 4 (by kernel_rfl)) rfl
      have e50 : a.tmps[50]? = some (.agg #[.int .i64 t153, .int .i64 t154, .bool t155]) := by rw [ha]; exact putSel_on (e := (8, 50, .agg #[.int .i64 t153, .int .i64 t154, .bool t155])) 7 rfl rfl (hon 8 (by kernel_rfl)) rfl
      replace ha := Aside0.mk ha
      have HO109 := Aside0.mk Q_HO109
      have BK101 := Aside0.mk Q_BK101
      have BK102 := Aside0.mk Q_BK102
      have BK103 := Aside0.mk Q_BK103
      have BK104 := Aside0.mk Q_BK104
      have BK123 := Aside0.mk Q_BK123
      have BK127 := Aside0.mk Q_BK127
      have BK143 := Aside0.mk Q_BK143
      have HB := Aside0.mk Q_HB
      refine goes_ Try.func26 (by kernel_rfl) rfl #[.agg #[.int .i64 t147, .int .i64 t148, .bool t149], .agg #[.int .i64 t153, .int .i64 t154, .bool t155]] (by rfl) rfl rfl (by first | (simp only [List.map_toArray, List.map_cons, List.map_nil, Act.eval, Array.getD_eq_getD_getElem?, Option.getD_some, e46, e50]; done) | (simp only [List.map_toArray, List.map_cons, List.map_nil, Act.eval, Array.getD_eq_getD_getElem?, Option.getD_some, e46, e50]; rfl)) ?_
      with_reducible refine (bound_Add_api_Fix.calls k t147 t148 t149 t153 t154 t155 t156 t157 t158 _ A21.out).mono ?_
      rintro e w83 ⟨rfl, hb⟩
      refine ⟨_, rfl, ?_⟩
      have n0_ := Aside0.mk (Kd.R_below (by exact HO109.out) hb)
      have n1_ := bkb_ BK101 hb rfl
      have n2_ := bkb_ BK102 hb rfl
      have n3_ := bkb_ BK103 hb rfl
      have n4_ := bkb_ BK104 hb rfl
      have n5_ := bkb_ BK123 hb rfl
      have n6_ := bkb_ BK127 hb rfl
      have n7_ := bkb_ BK143 hb rfl
      have n8_ := hbs_ HB hb rfl rfl rfl rfl
      have z_BK159 := fun (h0_ : b 10 = true) (h1_ : b 11 = false) => (show w83.heap[gb159]? = some (.cells #[.int .i64 0, .int .i64 0, .bool false] 41 (0, 0)) from by first | exact (blk_below (g := gb159) (o := .cells #[.int .i64 0, .int .i64 0, .bool false] 41 (0, 0)) (by exact (Q_BK159 h0_ h1_)) hb))
      clear HO109
      clear BK101
      clear BK102
      clear BK103
      clear BK104
      clear BK123
      clear BK127
      clear BK143
      clear HB
      have HO109 := n0_
      have BK101 := n1_
      have BK102 := n2_
      have BK103 := n3_
      have BK104 := n4_
      have BK123 := n5_
      have BK127 := n6_
      have BK143 := n7_
      have HB := n8_
      clear n0_ n1_ n2_ n3_ n4_ n5_ n6_ n7_ n8_
      (try clear hb)
      refine hK.out _ _ ⟨gb159, m10_, (by rw [ha.out]; exact putSel_upk 8 hb_ rfl rfl rfl), (by exact HO109.out), BK101.out, BK102.out, BK103.out, BK104.out, BK123.out, BK127.out, BK143.out, (by repeat (first | exact HB.out | apply below_alloc | refine below_set ?_ GE101.out | refine below_set ?_ GE102.out | refine below_set ?_ GE103.out | refine below_set ?_ GE104.out | refine below_set ?_ GE123.out | refine below_set ?_ GE127.out | refine below_set ?_ GE143.out)), z_BK159, Q_GW159, Q_GE159, Q_NB101_159, Q_NB159_101, Q_NB102_159, Q_NB159_102, Q_NB103_159, Q_NB159_103, Q_NB104_159, Q_NB159_104, Q_NB123_159, Q_NB159_123, Q_NB127_159, Q_NB159_127, Q_NB143_159, Q_NB159_143, fun h0_ => absurd ((hoff 11 (by kernel_rfl)).symm.trans h0_) (by decide), Q_X10_⟩
    refine steps_cons ?_ ?_
    · rintro b a w' ⟨gb159, m10_, ha, Q_HO109, Q_BK101, Q_BK102, Q_BK103, Q_BK104, Q_BK123, Q_BK127, Q_BK143, Q_HB, Q_BK159, Q_GW159, Q_GE159, Q_NB101_159, Q_NB159_101, Q_NB102_159, Q_NB159_102, Q_NB103_159, Q_NB159_103, Q_NB104_159, Q_NB159_104, Q_NB123_159, Q_NB159_123, Q_NB127_159, Q_NB159_127, Q_NB143_159, Q_NB159_143, Q_BK159_e11, Q_X10_⟩ hb_ hon hoff
      refine ⟨_, rfl, fun K hK => ?_⟩
      replace ha := Aside0.mk ha
      have HO109 := Aside0.mk Q_HO109
      have BK101 := Aside0.mk Q_BK101
      have BK102 := Aside0.mk Q_BK102
      have BK103 := Aside0.mk Q_BK103
      have BK104 := Aside0.mk Q_BK104
      have BK123 := Aside0.mk Q_BK123
      have BK127 := Aside0.mk Q_BK127
      have BK143 := Aside0.mk Q_BK143
      have HB := Aside0.mk Q_HB
      refine bsq_ 10 #[.int .i64 0, .int .i64 0, .bool false] 41 ?_
      intro gb159 hg w78 hbox hb
      have BK159 := Aside0.mk (hbox)
      have GW159 := gwq_ HB hg rfl
      have GE159 := GW159
      have NB101_159 := nbl_ BK101 hg rfl
      have NB159_101 := nbg_ BK101 hg rfl
      have NB102_159 := nbl_ BK102 hg rfl
      have NB159_102 := nbg_ BK102 hg rfl
      have NB103_159 := nbl_ BK103 hg rfl
      have NB159_103 := nbg_ BK103 hg rfl
      have NB104_159 := nbl_ BK104 hg rfl
      have NB159_104 := nbg_ BK104 hg rfl
      have NB123_159 := nbl_ BK123 hg rfl
      have NB159_123 := nbg_ BK123 hg rfl
      have NB127_159 := nbl_ BK127 hg rfl
      have NB159_127 := nbg_ BK127 hg rfl
      have NB143_159 := nbl_ BK143 hg rfl
      have NB159_143 := nbg_ BK143 hg rfl
      replace HO109 := Aside0.mk (Kd.R_below (by exact HO109.out) hb)
      replace BK101 := bkb_ BK101 hb rfl
      replace BK102 := bkb_ BK102 hb rfl
      replace BK103 := bkb_ BK103 hb rfl
      replace BK104 := bkb_ BK104 hb rfl
      replace BK123 := bkb_ BK123 hb rfl
      replace BK127 := bkb_ BK127 hb rfl
      replace BK143 := bkb_ BK143 hb rfl
      replace HB := hbs_ HB hb rfl rfl rfl rfl
      clear hb hbox hg
      refine hK.out _ _ ⟨gb159, (.pointer (some ⟨gb159, 0, none⟩)), (by rw [ha.out]; exact putSel_upk 9 hb_ rfl rfl rfl), (by exact HO109.out), BK101.out, BK102.out, BK103.out, BK104.out, BK123.out, BK127.out, BK143.out, (by repeat (first | exact HB.out | apply below_alloc | refine below_set ?_ GE101.out | refine below_set ?_ GE102.out | refine below_set ?_ GE103.out | refine below_set ?_ GE104.out | refine below_set ?_ GE123.out | refine below_set ?_ GE127.out | refine below_set ?_ GE143.out | refine below_set ?_ GE159.out)), fun _ _ => BK159.out, fun _ => GW159.out, fun _ => GE159.out, fun _ => NB101_159.out, fun _ => NB159_101.out, fun _ => NB102_159.out, fun _ => NB159_102.out, fun _ => NB103_159.out, fun _ => NB159_103.out, fun _ => NB104_159.out, fun _ => NB159_104.out, fun _ => NB123_159.out, fun _ => NB159_123.out, fun _ => NB127_159.out, fun _ => NB159_127.out, fun _ => NB143_159.out, fun _ => NB159_143.out, fun h0_ => absurd ((hoff 11 (by kernel_rfl)).symm.trans h0_) (by decide), fun _ => rfl⟩
    refine steps_cons ?_ ?_
    · rintro b a w' ⟨gb159, m10_, ha, Q_HO109, Q_BK101, Q_BK102, Q_BK103, Q_BK104, Q_BK123, Q_BK127, Q_BK143, Q_HB, Q_BK159, Q_GW159, Q_GE159, Q_NB101_159, Q_NB159_101, Q_NB102_159, Q_NB159_102, Q_NB103_159, Q_NB159_103, Q_NB104_159, Q_NB159_104, Q_NB123_159, Q_NB159_123, Q_NB127_159, Q_NB159_127, Q_NB143_159, Q_NB159_143, Q_BK159_e11, Q_X10_⟩ hb_ hon hoff
      refine ⟨_, rfl, fun K hK => ?_⟩
      have e10 : a.tmps[10]? = some (m10_) := by rw [ha]; exact putSel_on (e := (10, 10, m10_)) 9 rfl rfl (hon 10 (by kernel_rfl)) rfl
      rw [Q_X10_ (hon 10 (by kernel_rfl))] at e10
      have e51 : a.tmps[51]? = some (.agg #[.int .i64 t156, .int .i64 t157, .bool t158]) := by rw [ha]; exact putSel_on (e := (9, 51, .agg #[.int .i64 t156, .int .i64 t157, .bool t158])) 8 rfl rfl (hon 9 (by kernel_rfl)) rfl
      replace ha := Aside0.mk ha
      have HO109 := Aside0.mk Q_HO109
      have BK101 := Aside0.mk Q_BK101
      have BK102 := Aside0.mk Q_BK102
      have BK103 := Aside0.mk Q_BK103
      have BK104 := Aside0.mk Q_BK104
      have BK123 := Aside0.mk Q_BK123
      have BK127 := Aside0.mk Q_BK127
      have BK143 := Aside0.mk Q_BK143
      have HB := Aside0.mk Q_HB
      have BK159 := Aside0.mk (Q_BK159 (hon 10 (by kernel_rfl)) hb_)
      have GW159 := Aside0.mk (Q_GW159 (hon 10 (by kernel_rfl)))
      have GE159 := Aside0.mk (Q_GE159 (hon 10 (by kernel_rfl)))
      have NB101_159 := Aside0.mk (Q_NB101_159 (hon 10 (by kernel_rfl)))
      have NB159_101 := Aside0.mk (Q_NB159_101 (hon 10 (by kernel_rfl)))
      have NB102_159 := Aside0.mk (Q_NB102_159 (hon 10 (by kernel_rfl)))
      have NB159_102 := Aside0.mk (Q_NB159_102 (hon 10 (by kernel_rfl)))
      have NB103_159 := Aside0.mk (Q_NB103_159 (hon 10 (by kernel_rfl)))
      have NB159_103 := Aside0.mk (Q_NB159_103 (hon 10 (by kernel_rfl)))
      have NB104_159 := Aside0.mk (Q_NB104_159 (hon 10 (by kernel_rfl)))
      have NB159_104 := Aside0.mk (Q_NB159_104 (hon 10 (by kernel_rfl)))
      have NB123_159 := Aside0.mk (Q_NB123_159 (hon 10 (by kernel_rfl)))
      have NB159_123 := Aside0.mk (Q_NB159_123 (hon 10 (by kernel_rfl)))
      have NB127_159 := Aside0.mk (Q_NB127_159 (hon 10 (by kernel_rfl)))
      have NB159_127 := Aside0.mk (Q_NB159_127 (hon 10 (by kernel_rfl)))
      have NB143_159 := Aside0.mk (Q_NB143_159 (hon 10 (by kernel_rfl)))
      have NB159_143 := Aside0.mk (Q_NB159_143 (hon 10 (by kernel_rfl)))
      have hs85 : w'.cell? ⟨gb159, 0, none⟩ = some (.int .i64 0) := bc_ BK159 0 rfl
      have hfs85 := blk_frozen BK159.out 0
      have hns85_0 := NB101_159.out
      have hns85_1 := NB102_159.out
      have hns85_2 := NB103_159.out
      have hns85_3 := NB104_159.out
      have hns85_4 := NB123_159.out
      have hns85_5 := NB127_159.out
      have hns85_6 := NB143_159.out
      have hms85_0 := NB159_101.out
      have hms85_1 := NB159_102.out
      have hms85_2 := NB159_103.out
      have hms85_3 := NB159_104.out
      have hms85_4 := NB159_123.out
      have hms85_5 := NB159_127.out
      have hms85_6 := NB159_143.out
      have hs86 : w'.cell? ⟨gb159, 1, none⟩ = some (.int .i64 0) := bc_ BK159 1 rfl
      have hfs86 := blk_frozen BK159.out 1
      have hns86_0 := NB101_159.out
      have hns86_1 := NB102_159.out
      have hns86_2 := NB103_159.out
      have hns86_3 := NB104_159.out
      have hns86_4 := NB123_159.out
      have hns86_5 := NB127_159.out
      have hns86_6 := NB143_159.out
      have hms86_0 := NB159_101.out
      have hms86_1 := NB159_102.out
      have hms86_2 := NB159_103.out
      have hms86_3 := NB159_104.out
      have hms86_4 := NB159_123.out
      have hms86_5 := NB159_127.out
      have hms86_6 := NB159_143.out
      have hs87 : w'.cell? ⟨gb159, 2, none⟩ = some (.bool false) := bc_ BK159 2 rfl
      have hfs87 := blk_frozen BK159.out 2
      have hns87_0 := NB101_159.out
      have hns87_1 := NB102_159.out
      have hns87_2 := NB103_159.out
      have hns87_3 := NB104_159.out
      have hns87_4 := NB123_159.out
      have hns87_5 := NB127_159.out
      have hns87_6 := NB143_159.out
      have hms87_0 := NB159_101.out
      have hms87_1 := NB159_102.out
      have hms87_2 := NB159_103.out
      have hms87_3 := NB159_104.out
      have hms87_4 := NB159_123.out
      have hms87_5 := NB159_127.out
      have hms87_6 := NB159_143.out
      refine skip_ (w1 := ?_) (by rfl) rfl ?_ ?_
      rotate_left
      · go_simp
        rfl
      refine hK.out _ _ ⟨gb159, m10_, (by rw [ha.out]; exact putSel_none (v := undef) rfl), (by exact Kd.R_mono (Kd.R_far (p := ⟨gb159, 2, none⟩) (Kd.R_far (p := ⟨gb159, 1, none⟩) (Kd.R_far (p := ⟨gb159, 0, none⟩) (Kd.R_types HO109.out BK159.out (by decide)) (fun _ hk => hk.2) (.int .i64 t156)) (fun _ hk => hk.2) (.int .i64 t157)) (fun _ hk => hk.2) (.bool t158)) (fun _ hk => trivial)), (by exact blk_far (blk_far (blk_far BK101.out NB101_159.out _) NB101_159.out _) NB101_159.out _), (by exact blk_far (blk_far (blk_far BK102.out NB102_159.out _) NB102_159.out _) NB102_159.out _), (by exact blk_far (blk_far (blk_far BK103.out NB103_159.out _) NB103_159.out _) NB103_159.out _), (by exact blk_far (blk_far (blk_far BK104.out NB104_159.out _) NB104_159.out _) NB104_159.out _), (by exact blk_far (blk_far (blk_far BK123.out NB123_159.out _) NB123_159.out _) NB123_159.out _), (by exact blk_far (blk_far (blk_far BK127.out NB127_159.out _) NB127_159.out _) NB127_159.out _), (by exact blk_far (blk_far (blk_far BK143.out NB143_159.out _) NB143_159.out _) NB143_159.out _), (by repeat (first | exact HB.out | apply below_alloc | refine below_set ?_ GE101.out | refine below_set ?_ GE102.out | refine below_set ?_ GE103.out | refine below_set ?_ GE104.out | refine below_set ?_ GE123.out | refine below_set ?_ GE127.out | refine below_set ?_ GE143.out | refine below_set ?_ GE159.out)), fun _ h1_ => absurd ((up_self b 11).symm.trans h1_) (by decide), fun _ => GW159.out, fun _ => GE159.out, fun _ => NB101_159.out, fun _ => NB159_101.out, fun _ => NB102_159.out, fun _ => NB159_102.out, fun _ => NB103_159.out, fun _ => NB159_103.out, fun _ => NB104_159.out, fun _ => NB159_104.out, fun _ => NB123_159.out, fun _ => NB159_123.out, fun _ => NB127_159.out, fun _ => NB159_127.out, fun _ => NB143_159.out, fun _ => NB159_143.out, fun _ => (by exact blk_put (blk_put (blk_put BK159.out 0 _ rfl) 1 _ rfl) 2 _ rfl), Q_X10_⟩
    exact steps_nil
  rintro b a w87 hall ⟨gb159, m10_, ha, Q_HO109, Q_BK101, Q_BK102, Q_BK103, Q_BK104, Q_BK123, Q_BK127, Q_BK143, Q_HB, Q_BK159, Q_GW159, Q_GE159, Q_NB101_159, Q_NB159_101, Q_NB102_159, Q_NB159_102, Q_NB103_159, Q_NB159_103, Q_NB104_159, Q_NB159_104, Q_NB123_159, Q_NB159_123, Q_NB127_159, Q_NB159_127, Q_NB143_159, Q_NB159_143, Q_BK159_e11, Q_X10_⟩
  clear BK101 BK102 BK103 BK104 BK123 BK127 BK143 HB HO109
  have hb0_ := hall 0 (by kernel_rfl)
  have hb1_ := hall 1 (by kernel_rfl)
  have hb3_ := hall 3 (by kernel_rfl)
  have hb4_ := hall 4 (by kernel_rfl)
  have hb5_ := hall 5 (by kernel_rfl)
  have hb6_ := hall 6 (by kernel_rfl)
  have hb7_ := hall 7 (by kernel_rfl)
  have hb8_ := hall 8 (by kernel_rfl)
  have hb9_ := hall 9 (by kernel_rfl)
  have hb10_ := hall 10 (by kernel_rfl)
  have hb11_ := hall 11 (by kernel_rfl)
  subst ha
  obtain rfl := Q_X10_ hb10_
  simp only [putSel, hb0_, hb1_, hb3_, hb4_, hb5_, hb6_, hb7_, hb8_, hb9_, hb10_, hb11_, if_true, Act.put, List.setIfInBounds_toArray, List.set_cons_zero, List.set_cons_succ]
  have HO109 := Aside0.mk Q_HO109
  clear Q_HO109
  have BK101 := Aside0.mk Q_BK101
  clear Q_BK101
  have BK102 := Aside0.mk Q_BK102
  clear Q_BK102
  have BK103 := Aside0.mk Q_BK103
  clear Q_BK103
  have BK104 := Aside0.mk Q_BK104
  clear Q_BK104
  have BK123 := Aside0.mk Q_BK123
  clear Q_BK123
  have BK127 := Aside0.mk Q_BK127
  clear Q_BK127
  have BK143 := Aside0.mk Q_BK143
  clear Q_BK143
  have HB := Aside0.mk Q_HB
  clear Q_HB
  clear Q_BK159
  have GW159 := Aside0.mk (Q_GW159 hb10_)
  clear Q_GW159
  have GE159 := Aside0.mk (Q_GE159 hb10_)
  clear Q_GE159
  have NB101_159 := Aside0.mk (Q_NB101_159 hb10_)
  clear Q_NB101_159
  have NB159_101 := Aside0.mk (Q_NB159_101 hb10_)
  clear Q_NB159_101
  have NB102_159 := Aside0.mk (Q_NB102_159 hb10_)
  clear Q_NB102_159
  have NB159_102 := Aside0.mk (Q_NB159_102 hb10_)
  clear Q_NB159_102
  have NB103_159 := Aside0.mk (Q_NB103_159 hb10_)
  clear Q_NB103_159
  have NB159_103 := Aside0.mk (Q_NB159_103 hb10_)
  clear Q_NB159_103
  have NB104_159 := Aside0.mk (Q_NB104_159 hb10_)
  clear Q_NB104_159
  have NB159_104 := Aside0.mk (Q_NB159_104 hb10_)
  clear Q_NB159_104
  have NB123_159 := Aside0.mk (Q_NB123_159 hb10_)
  clear Q_NB123_159
  have NB159_123 := Aside0.mk (Q_NB159_123 hb10_)
  clear Q_NB159_123
  have NB127_159 := Aside0.mk (Q_NB127_159 hb10_)
  clear Q_NB127_159
  have NB159_127 := Aside0.mk (Q_NB159_127 hb10_)
  clear Q_NB159_127
  have NB143_159 := Aside0.mk (Q_NB143_159 hb10_)
  clear Q_NB143_159
  have NB159_143 := Aside0.mk (Q_NB159_143 hb10_)
  clear Q_NB159_143
  have BK159 := Aside0.mk (Q_BK159_e11 hb11_)
  clear Q_BK159_e11
  clear hall hb0_ hb1_ hb3_ hb4_ hb5_ hb6_ hb7_ hb8_ hb9_ hb10_ hb11_
  have hnb88 := NB103_123.out
  have hnc88 := NB123_103.out
  have hnb89 := NB103_143.out
  have hnc89 := NB143_103.out
  have hnb90 := NB103_159.out
  have hnc90 := NB159_103.out
  have hcz91_0 := bc_ BK103 0 rfl
  have hcz91_1 := bc_ BK103 1 rfl
  have hcz91_2 := bc_ BK103 2 rfl
  have hfz91 := blk_frozen BK103.out
  try go_wp2_with (first | ((with_reducible refine gate_callee (f := 32) rfl ?_); refine glq_ (some 69) Try.func32 #[.int .i64 (wrap64 ((wrap64 ((wrap64 (t114 * t114)) + (wrap64 (t115 * t115)))) + (wrap64 (t116 * t116))))] ?_; (with_reducible refine (bound_Exact_api_Fix.calls k (wrap64 ((wrap64 ((wrap64 (t114 * t114)) + (wrap64 (t115 * t115)))) + (wrap64 (t116 * t116)))) t160 t161 t162 _ A22.out).mono ?_); rintro e w92 ⟨rfl, hb⟩; refine ⟨_, rfl, ?_⟩; replace HO109 := Aside0.mk (Kd.R_below (by exact HO109.out) hb); replace BK101 := bkb_ BK101 hb rfl; replace BK102 := bkb_ BK102 hb rfl; replace BK103 := bkb_ BK103 hb rfl; replace BK104 := bkb_ BK104 hb rfl; replace BK123 := bkb_ BK123 hb rfl; replace BK127 := bkb_ BK127 hb rfl; replace BK143 := bkb_ BK143 hb rfl; replace BK159 := bkb_ BK159 hb rfl; replace HB := hbs_ HB hb rfl rfl rfl rfl; (try clear hb)) | ((with_reducible refine gate_callee (f := 31) rfl ?_); refine glq_ (some 70) Try.func31 #[.agg #[.int .i64 t160, .int .i64 t161, .bool t162], .int .i64 1099511627776] ?_; (with_reducible refine (bound_Root_api_Fix.calls k t160 t161 t162 1099511627776 t163 t164 t165 _ A23.out).mono ?_); rintro e w93 ⟨rfl, hb⟩; refine ⟨_, rfl, ?_⟩; replace HO109 := Aside0.mk (Kd.R_below (by exact HO109.out) hb); replace BK101 := bkb_ BK101 hb rfl; replace BK102 := bkb_ BK102 hb rfl; replace BK103 := bkb_ BK103 hb rfl; replace BK104 := bkb_ BK104 hb rfl; replace BK123 := bkb_ BK123 hb rfl; replace BK127 := bkb_ BK127 hb rfl; replace BK143 := bkb_ BK143 hb rfl; replace BK159 := bkb_ BK159 hb rfl; replace HB := hbs_ HB hb rfl rfl rfl rfl; (try clear hb)) | ((with_reducible refine gate_dst (N := 11) rfl ?_); refine bxq_ 11 #[.int .i64 0, .int .i64 0, .bool false] 41 ?_; intro gb166 hg w94 hbox hb; have BK166 := Aside0.mk (hbox); have GW166 := gwq_ HB hg rfl; have GE166 := GW166; have NB101_166 := nbl_ BK101 hg rfl; have NB166_101 := nbg_ BK101 hg rfl; have NB102_166 := nbl_ BK102 hg rfl; have NB166_102 := nbg_ BK102 hg rfl; have NB103_166 := nbl_ BK103 hg rfl; have NB166_103 := nbg_ BK103 hg rfl; have NB104_166 := nbl_ BK104 hg rfl; have NB166_104 := nbg_ BK104 hg rfl; have NB123_166 := nbl_ BK123 hg rfl; have NB166_123 := nbg_ BK123 hg rfl; have NB127_166 := nbl_ BK127 hg rfl; have NB166_127 := nbg_ BK127 hg rfl; have NB143_166 := nbl_ BK143 hg rfl; have NB166_143 := nbg_ BK143 hg rfl; have NB159_166 := nbl_ BK159 hg rfl; have NB166_159 := nbg_ BK159 hg rfl; replace HO109 := Aside0.mk (Kd.R_below (by exact HO109.out) hb); replace BK101 := bkb_ BK101 hb rfl; replace BK102 := bkb_ BK102 hb rfl; replace BK103 := bkb_ BK103 hb rfl; replace BK104 := bkb_ BK104 hb rfl; replace BK123 := bkb_ BK123 hb rfl; replace BK127 := bkb_ BK127 hb rfl; replace BK143 := bkb_ BK143 hb rfl; replace BK159 := bkb_ BK159 hb rfl; replace HB := hbs_ HB hb rfl rfl rfl rfl; clear hb hbox hg; have hnb95 := NB166_101.out; have hnc95 := NB101_166.out; have hnb96 := NB166_102.out; have hnc96 := NB102_166.out; have hnb97 := NB166_103.out; have hnc97 := NB103_166.out; have hnb98 := NB166_104.out; have hnc98 := NB104_166.out; have hnb99 := NB166_123.out; have hnc99 := NB123_166.out; have hnb100 := NB166_127.out; have hnc100 := NB127_166.out; have hnb101 := NB166_143.out; have hnc101 := NB143_166.out; have hnb102 := NB166_159.out; have hnc102 := NB159_166.out; have hcz103_0 := bc_ BK166 0 rfl; have hcz103_1 := bc_ BK166 1 rfl; have hcz103_2 := bc_ BK166 2 rfl; have hfz103 := blk_frozen BK166.out; have hnb104 := NB159_101.out; have hnc104 := NB101_159.out; have hnb105 := NB159_102.out; have hnc105 := NB102_159.out; have hnb106 := NB159_104.out; have hnc106 := NB104_159.out; have hnb107 := NB159_123.out; have hnc107 := NB123_159.out; have hnb108 := NB159_127.out; have hnc108 := NB127_159.out; have hnb109 := NB159_143.out; have hnc109 := NB143_159.out; have hcz110_0 := bc_ BK159 0 rfl; have hcz110_1 := bc_ BK159 1 rfl; have hcz110_2 := bc_ BK159 2 rfl; have hfz110 := blk_frozen BK159.out) | ((with_reducible refine gate_callee (f := 33) rfl ?_); refine glq_ (some 73) Try.func33 #[.agg #[.int .i64 t156, .int .i64 t157, .bool t158], .agg #[.int .i64 t163, .int .i64 t164, .bool t165], .int .i64 1048576] ?_; (with_reducible refine (bound_Div_api_Fix.calls k t156 t157 t158 t163 t164 t165 1048576 t167 t168 false _ A24.out).mono ?_); rintro e w111 ⟨rfl, hb⟩; refine ⟨_, rfl, ?_⟩; replace HO109 := Aside0.mk (Kd.R_below (by exact (Kd.R_mono (Kd.R_far (p := ⟨gb166, 2, none⟩) (Kd.R_far (p := ⟨gb166, 1, none⟩) (Kd.R_far (p := ⟨gb166, 0, none⟩) (Kd.R_types HO109.out BK166.out (by decide)) (fun _ hk => hk.2) (.int .i64 t163)) (fun _ hk => hk.2) (.int .i64 t164)) (fun _ hk => hk.2) (.bool t165)) (fun _ h_ => h_.1))) hb); replace BK101 := Aside0.mk (blk_below (g := gb101) (o := .cells #[.int .i64 a0_0, .int .i64 a0_1] 28 (0, 0)) (by exact blk_far (blk_far (blk_far BK101.out NB101_166.out _) NB101_166.out _) NB101_166.out _) hb); replace BK102 := Aside0.mk (blk_below (g := gb102) (o := .cells #[.int .i64 a1_0, .int .i64 a1_1, .bool a1_2] 44 (0, 0)) (by exact blk_far (blk_far (blk_far BK102.out NB102_166.out _) NB102_166.out _) NB102_166.out _) hb); replace BK103 := Aside0.mk (blk_below (g := gb103) (o := .cells #[.int .i64 t114, .int .i64 t115, .int .i64 t116] 32 (0, 0)) (by exact blk_far (blk_far (blk_far BK103.out NB103_166.out _) NB103_166.out _) NB103_166.out _) hb); replace BK104 := Aside0.mk (blk_below (g := gb104) (o := .cells #[.int .i64 0, .int .i64 0, .bool false] 41 (0, 0)) (by exact blk_far (blk_far (blk_far BK104.out NB104_166.out _) NB104_166.out _) NB104_166.out _) hb); replace BK123 := Aside0.mk (blk_below (g := gb123) (o := .cells #[.int .i64 t120, .int .i64 t121, .bool t122] 44 (0, 0)) (by exact blk_far (blk_far (blk_far BK123.out NB123_166.out _) NB123_166.out _) NB123_166.out _) hb); replace BK127 := Aside0.mk (blk_below (g := gb127) (o := .cells #[.int .i64 t124, .int .i64 t125, .bool t126] 44 (0, 0)) (by exact blk_far (blk_far (blk_far BK127.out NB127_166.out _) NB127_166.out _) NB127_166.out _) hb); replace BK143 := Aside0.mk (blk_below (g := gb143) (o := .cells #[.int .i64 t140, .int .i64 t141, .bool t142] 41 (0, 0)) (by exact blk_far (blk_far (blk_far BK143.out NB143_166.out _) NB143_166.out _) NB143_166.out _) hb); replace BK159 := Aside0.mk (blk_below (g := gb159) (o := .cells #[.int .i64 t156, .int .i64 t157, .bool t158] 41 (0, 0)) (by exact blk_far (blk_far (blk_far BK159.out NB159_166.out _) NB159_166.out _) NB159_166.out _) hb); replace BK166 := Aside0.mk (blk_below (g := gb166) (o := .cells #[.int .i64 t163, .int .i64 t164, .bool t165] 41 (0, 0)) (by exact blk_put (blk_put (blk_put BK166.out 0 _ rfl) 1 _ rfl) 2 _ rfl) hb); replace HB := Aside0.mk (below_step (by repeat (first | exact HB.out | apply below_alloc | refine below_set ?_ GE101.out | refine below_set ?_ GE102.out | refine below_set ?_ GE103.out | refine below_set ?_ GE104.out | refine below_set ?_ GE123.out | refine below_set ?_ GE127.out | refine below_set ?_ GE143.out | refine below_set ?_ GE159.out | refine below_set ?_ GE166.out)) hb); (try clear hb)) | ((with_reducible refine gate_dst (N := 12) rfl ?_); refine bxq_ 12 #[.int .i64 0, .int .i64 0, .bool false] 41 ?_; intro gb170 hg w112 hbox hb; have BK170 := Aside0.mk (hbox); have GW170 := gwq_ HB hg rfl; have GE170 := GW170; have NB101_170 := nbl_ BK101 hg rfl; have NB170_101 := nbg_ BK101 hg rfl; have NB102_170 := nbl_ BK102 hg rfl; have NB170_102 := nbg_ BK102 hg rfl; have NB103_170 := nbl_ BK103 hg rfl; have NB170_103 := nbg_ BK103 hg rfl; have NB104_170 := nbl_ BK104 hg rfl; have NB170_104 := nbg_ BK104 hg rfl; have NB123_170 := nbl_ BK123 hg rfl; have NB170_123 := nbg_ BK123 hg rfl; have NB127_170 := nbl_ BK127 hg rfl; have NB170_127 := nbg_ BK127 hg rfl; have NB143_170 := nbl_ BK143 hg rfl; have NB170_143 := nbg_ BK143 hg rfl; have NB159_170 := nbl_ BK159 hg rfl; have NB170_159 := nbg_ BK159 hg rfl; have NB166_170 := nbl_ BK166 hg rfl; have NB170_166 := nbg_ BK166 hg rfl; replace HO109 := Aside0.mk (Kd.R_below (by exact HO109.out) hb); replace BK101 := bkb_ BK101 hb rfl; replace BK102 := bkb_ BK102 hb rfl; replace BK103 := bkb_ BK103 hb rfl; replace BK104 := bkb_ BK104 hb rfl; replace BK123 := bkb_ BK123 hb rfl; replace BK127 := bkb_ BK127 hb rfl; replace BK143 := bkb_ BK143 hb rfl; replace BK159 := bkb_ BK159 hb rfl; replace BK166 := bkb_ BK166 hb rfl; replace HB := hbs_ HB hb rfl rfl rfl rfl; clear hb hbox hg; have hnb113 := NB170_101.out; have hnc113 := NB101_170.out; have hnb114 := NB170_102.out; have hnc114 := NB102_170.out; have hnb115 := NB170_103.out; have hnc115 := NB103_170.out; have hnb116 := NB170_104.out; have hnc116 := NB104_170.out; have hnb117 := NB170_123.out; have hnc117 := NB123_170.out; have hnb118 := NB170_127.out; have hnc118 := NB127_170.out; have hnb119 := NB170_143.out; have hnc119 := NB143_170.out; have hnb120 := NB170_159.out; have hnc120 := NB159_170.out; have hnb121 := NB170_166.out; have hnc121 := NB166_170.out; have hcz122_0 := bc_ BK170 0 rfl; have hcz122_1 := bc_ BK170 1 rfl; have hcz122_2 := bc_ BK170 2 rfl; have hfz122 := blk_frozen BK170.out))
  have n0_ : Aside0 (Kd.R (Kd.int .i64) 36 (((w112.setCell ⟨gb170, 0, none⟩ (.int .i64 t167)).setCell ⟨gb170, 1, none⟩ (.int .i64 t168)).setCell ⟨gb170, 2, none⟩ (.bool false)) w.heap.size (fun _ => True) (.slice Ao37 y107.length co37) y107) := ⟨by exact Kd.R_mono (Kd.R_far (p := ⟨gb170, 2, none⟩) (Kd.R_far (p := ⟨gb170, 1, none⟩) (Kd.R_far (p := ⟨gb170, 0, none⟩) (Kd.R_types HO109.out BK170.out (by decide)) (fun _ hk => hk.2) (.int .i64 t167)) (fun _ hk => hk.2) (.int .i64 t168)) (fun _ hk => hk.2) (.bool false)) (fun _ hk => trivial)⟩
  have n1_ : Aside0 ((((w112.setCell ⟨gb170, 0, none⟩ (.int .i64 t167)).setCell ⟨gb170, 1, none⟩ (.int .i64 t168)).setCell ⟨gb170, 2, none⟩ (.bool false)).heap[gb101]? = some (.cells #[.int .i64 a0_0, .int .i64 a0_1] 28 (0, 0))) := ⟨by refine blk_far ?_ NB101_170.out _; refine blk_far ?_ NB101_170.out _; refine blk_far ?_ NB101_170.out _; exact BK101.out⟩
  have n2_ : Aside0 ((((w112.setCell ⟨gb170, 0, none⟩ (.int .i64 t167)).setCell ⟨gb170, 1, none⟩ (.int .i64 t168)).setCell ⟨gb170, 2, none⟩ (.bool false)).heap[gb102]? = some (.cells #[.int .i64 a1_0, .int .i64 a1_1, .bool a1_2] 44 (0, 0))) := ⟨by refine blk_far ?_ NB102_170.out _; refine blk_far ?_ NB102_170.out _; refine blk_far ?_ NB102_170.out _; exact BK102.out⟩
  have n3_ : Aside0 ((((w112.setCell ⟨gb170, 0, none⟩ (.int .i64 t167)).setCell ⟨gb170, 1, none⟩ (.int .i64 t168)).setCell ⟨gb170, 2, none⟩ (.bool false)).heap[gb103]? = some (.cells #[.int .i64 t114, .int .i64 t115, .int .i64 t116] 32 (0, 0))) := ⟨by refine blk_far ?_ NB103_170.out _; refine blk_far ?_ NB103_170.out _; refine blk_far ?_ NB103_170.out _; exact BK103.out⟩
  have n4_ : Aside0 ((((w112.setCell ⟨gb170, 0, none⟩ (.int .i64 t167)).setCell ⟨gb170, 1, none⟩ (.int .i64 t168)).setCell ⟨gb170, 2, none⟩ (.bool false)).heap[gb104]? = some (.cells #[.int .i64 0, .int .i64 0, .bool false] 41 (0, 0))) := ⟨by refine blk_far ?_ NB104_170.out _; refine blk_far ?_ NB104_170.out _; refine blk_far ?_ NB104_170.out _; exact BK104.out⟩
  have n5_ : Aside0 ((((w112.setCell ⟨gb170, 0, none⟩ (.int .i64 t167)).setCell ⟨gb170, 1, none⟩ (.int .i64 t168)).setCell ⟨gb170, 2, none⟩ (.bool false)).heap[gb123]? = some (.cells #[.int .i64 t120, .int .i64 t121, .bool t122] 44 (0, 0))) := ⟨by refine blk_far ?_ NB123_170.out _; refine blk_far ?_ NB123_170.out _; refine blk_far ?_ NB123_170.out _; exact BK123.out⟩
  have n6_ : Aside0 ((((w112.setCell ⟨gb170, 0, none⟩ (.int .i64 t167)).setCell ⟨gb170, 1, none⟩ (.int .i64 t168)).setCell ⟨gb170, 2, none⟩ (.bool false)).heap[gb127]? = some (.cells #[.int .i64 t124, .int .i64 t125, .bool t126] 44 (0, 0))) := ⟨by refine blk_far ?_ NB127_170.out _; refine blk_far ?_ NB127_170.out _; refine blk_far ?_ NB127_170.out _; exact BK127.out⟩
  have n7_ : Aside0 ((((w112.setCell ⟨gb170, 0, none⟩ (.int .i64 t167)).setCell ⟨gb170, 1, none⟩ (.int .i64 t168)).setCell ⟨gb170, 2, none⟩ (.bool false)).heap[gb143]? = some (.cells #[.int .i64 t140, .int .i64 t141, .bool t142] 41 (0, 0))) := ⟨by refine blk_far ?_ NB143_170.out _; refine blk_far ?_ NB143_170.out _; refine blk_far ?_ NB143_170.out _; exact BK143.out⟩
  have n8_ : Aside0 ((((w112.setCell ⟨gb170, 0, none⟩ (.int .i64 t167)).setCell ⟨gb170, 1, none⟩ (.int .i64 t168)).setCell ⟨gb170, 2, none⟩ (.bool false)).heap[gb159]? = some (.cells #[.int .i64 t156, .int .i64 t157, .bool t158] 41 (0, 0))) := ⟨by refine blk_far ?_ NB159_170.out _; refine blk_far ?_ NB159_170.out _; refine blk_far ?_ NB159_170.out _; exact BK159.out⟩
  have n9_ : Aside0 ((((w112.setCell ⟨gb170, 0, none⟩ (.int .i64 t167)).setCell ⟨gb170, 1, none⟩ (.int .i64 t168)).setCell ⟨gb170, 2, none⟩ (.bool false)).heap[gb166]? = some (.cells #[.int .i64 t163, .int .i64 t164, .bool t165] 41 (0, 0))) := ⟨by refine blk_far ?_ NB166_170.out _; refine blk_far ?_ NB166_170.out _; refine blk_far ?_ NB166_170.out _; exact BK166.out⟩
  have n10_ : Aside0 ((((w112.setCell ⟨gb170, 0, none⟩ (.int .i64 t167)).setCell ⟨gb170, 1, none⟩ (.int .i64 t168)).setCell ⟨gb170, 2, none⟩ (.bool false)).heap[gb170]? = some (.cells #[.int .i64 t167, .int .i64 t168, .bool false] 41 (0, 0))) := ⟨by refine blk_put (cs := #[.int .i64 t167, .int .i64 t168, .bool false]) ?_ 2 _ rfl; refine blk_put (cs := #[.int .i64 t167, .int .i64 0, .bool false]) ?_ 1 _ rfl; refine blk_put (cs := #[.int .i64 0, .int .i64 0, .bool false]) ?_ 0 _ rfl; exact BK170.out⟩
  have n11_ : Aside0 (Below w.heap.size w (((w112.setCell ⟨gb170, 0, none⟩ (.int .i64 t167)).setCell ⟨gb170, 1, none⟩ (.int .i64 t168)).setCell ⟨gb170, 2, none⟩ (.bool false))) := ⟨by repeat (first | exact HB.out | apply below_alloc | refine below_set ?_ GE101.out | refine below_set ?_ GE102.out | refine below_set ?_ GE103.out | refine below_set ?_ GE104.out | refine below_set ?_ GE123.out | refine below_set ?_ GE127.out | refine below_set ?_ GE143.out | refine below_set ?_ GE159.out | refine below_set ?_ GE166.out | refine below_set ?_ GE170.out)⟩
  (try clear HO109)
  (try clear BK101)
  (try clear BK102)
  (try clear BK103)
  (try clear BK104)
  (try clear BK123)
  (try clear BK127)
  (try clear BK143)
  (try clear BK159)
  (try clear BK166)
  (try clear BK170)
  (try clear HB)
  generalize (((w112.setCell ⟨gb170, 0, none⟩ (.int .i64 t167)).setCell ⟨gb170, 1, none⟩ (.int .i64 t168)).setCell ⟨gb170, 2, none⟩ (.bool false)) = w123 at n0_ n1_ n2_ n3_ n4_ n5_ n6_ n7_ n8_ n9_ n10_ n11_ ⊢
  have HO109 := n0_
  have BK101 := n1_
  have BK102 := n2_
  have BK103 := n3_
  have BK104 := n4_
  have BK123 := n5_
  have BK127 := n6_
  have BK143 := n7_
  have BK159 := n8_
  have BK166 := n9_
  have BK170 := n10_
  have HB := n11_
  clear n0_ n1_ n2_ n3_ n4_ n5_ n6_ n7_ n8_ n9_ n10_ n11_
  replace HO109 := Aside0.mk (Kd.R_drew HO109.out)
  replace BK101 := Aside0.mk (blk_drew BK101.out)
  replace BK102 := Aside0.mk (blk_drew BK102.out)
  replace BK103 := Aside0.mk (blk_drew BK103.out)
  replace BK104 := Aside0.mk (blk_drew BK104.out)
  replace BK123 := Aside0.mk (blk_drew BK123.out)
  replace BK127 := Aside0.mk (blk_drew BK127.out)
  replace BK143 := Aside0.mk (blk_drew BK143.out)
  replace BK159 := Aside0.mk (blk_drew BK159.out)
  replace BK166 := Aside0.mk (blk_drew BK166.out)
  replace BK170 := Aside0.mk (blk_drew BK170.out)
  replace HB := Aside0.mk (below_drew1 HB.out)
  refine start_ (n := 7) (S := fun w' => w'.cell? ⟨gb170, 0, none⟩ = some (.int .i64 t167) ∧ w'.cell? ⟨gb170, 1, none⟩ = some (.int .i64 t168) ∧ w'.cell? ⟨gb170, 2, none⟩ = some (.bool false)) (ds := [6]) #[false, false, false, false, false, false, false] (by kernel_rfl) rfl rfl ⟨bc_ BK170 0 rfl, bc_ BK170 1 rfl, bc_ BK170 2 rfl⟩ (fun hHeld => ?_)
  generalize w123.drew = w124 at HO109 BK101 BK102 BK103 BK104 BK123 BK127 BK143 BK159 BK166 BK170 HB hHeld ⊢
  refine take_ (i := 0) (N := some 78) (v := ?_) (a' := ?_) #[true, false, false, false, false, false, false] rfl rfl (by kernel_rfl) (fun _ _ _ h => h) (Or.inl ⟨by rfl, ?_⟩) hHeld ?_ ?_
  rotate_left
  · rintro w' ⟨s0, s1, s2⟩
    go_simp
    with_reducible rfl
  rotate_left
  · simp only [Act.put, List.setIfInBounds_toArray, List.set_cons_zero, List.set_cons_succ, i64_w, i32_w]
    rfl
  refine one_ (i := 1) (N := some 79) #[true, true, false, false, false, false, false] rfl rfl (by kernel_rfl) (by decide) (fun K hK => ?_)
  refine gq_ Try.func35 #[.int .i64 (-1073741824), .int .i64 1073741824] ?_
  with_reducible refine (bound_Of_api_Fix.calls k (-1073741824) 1073741824 t171 t172 t173 _ A26.out).mono ?_
  rintro e w125 ⟨rfl, hb⟩
  refine ⟨_, rfl, ?_⟩
  replace HO109 := Aside0.mk (Kd.R_below (by exact HO109.out) hb)
  replace BK101 := bkb_ BK101 hb rfl
  replace BK102 := bkb_ BK102 hb rfl
  replace BK103 := bkb_ BK103 hb rfl
  replace BK104 := bkb_ BK104 hb rfl
  replace BK123 := bkb_ BK123 hb rfl
  replace BK127 := bkb_ BK127 hb rfl
  replace BK143 := bkb_ BK143 hb rfl
  replace BK159 := bkb_ BK159 hb rfl
  replace BK166 := bkb_ BK166 hb rfl
  replace BK170 := bkb_ BK170 hb rfl
  replace HB := hbs_ HB hb rfl rfl rfl rfl
  (try clear hb)
  refine hK.out _ _ ⟨bc_ BK170 0 rfl, bc_ BK170 1 rfl, bc_ BK170 2 rfl⟩ (fun hHeld => ?_)
  clear hK K
  refine nq_ 79 ?_
  refine one_ (i := 2) (N := some 80) #[true, true, true, false, false, false, false] rfl rfl (by kernel_rfl) (by decide) (fun K hK => ?_)
  refine gq_ Try.func34 #[.agg #[.int .i64 t167, .int .i64 t168, .bool false], .agg #[.int .i64 t171, .int .i64 t172, .bool t173]] ?_
  with_reducible refine (bound_Meet_api_Fix.calls k t167 t168 false t171 t172 t173 t174 t175 t176 t177 _ A27.out).mono ?_
  rintro e w126 ⟨rfl, hb⟩
  refine ⟨_, rfl, ?_⟩
  replace HO109 := Aside0.mk (Kd.R_below (by exact HO109.out) hb)
  replace BK101 := bkb_ BK101 hb rfl
  replace BK102 := bkb_ BK102 hb rfl
  replace BK103 := bkb_ BK103 hb rfl
  replace BK104 := bkb_ BK104 hb rfl
  replace BK123 := bkb_ BK123 hb rfl
  replace BK127 := bkb_ BK127 hb rfl
  replace BK143 := bkb_ BK143 hb rfl
  replace BK159 := bkb_ BK159 hb rfl
  replace BK166 := bkb_ BK166 hb rfl
  replace BK170 := bkb_ BK170 hb rfl
  replace HB := hbs_ HB hb rfl rfl rfl rfl
  (try clear hb)
  refine hK.out _ _ ⟨bc_ BK170 0 rfl, bc_ BK170 1 rfl, bc_ BK170 2 rfl⟩ (fun hHeld => ?_)
  clear hK K
  refine nq_ 80 ?_
  refine pure_ (i := 3) (N := some 77) (v := ?_) (a' := ?_) #[true, true, true, true, false, false, false] rfl rfl (by kernel_rfl) (fun _ _ _ h => h) (Or.inl ⟨by rfl, ?_⟩) ?_ ?_
  rotate_left
  · intro w'
    go_simp
    with_reducible rfl
  rotate_left
  · simp only [Act.put, List.setIfInBounds_toArray, List.set_cons_zero, List.set_cons_succ, i64_w, i32_w]
    rfl
  refine pure_ (i := 4) (N := some 81) (v := ?_) (a' := ?_) #[true, true, true, true, true, false, false] rfl rfl (by kernel_rfl) (fun _ _ _ h => h) (Or.inl ⟨by rfl, ?_⟩) ?_ ?_
  rotate_left
  · intro w'
    go_simp
    with_reducible rfl
  rotate_left
  · simp only [Act.put, List.setIfInBounds_toArray, List.set_cons_zero, List.set_cons_succ, i64_w, i32_w]
    rfl
  refine pure_ (i := 5) (N := some 82) (v := ?_) (a' := ?_) #[true, true, true, true, true, true, false] rfl rfl (by kernel_rfl) (fun _ _ _ h => h) (Or.inl ⟨by rfl, ?_⟩) ?_ ?_
  rotate_left
  · intro w'
    go_simp
    with_reducible rfl
  rotate_left
  · simp only [Act.put, List.setIfInBounds_toArray, List.set_cons_zero, List.set_cons_succ, i64_w, i32_w]
    rfl
  refine last_ (i := 6) (N := none) #[true, true, true, true, true, true, true] rfl rfl (by kernel_rfl) (by decide) (fun K hK => ?_)
  have hs127 : w126.cell? ⟨gb170, 0, none⟩ = some (.int .i64 t167) := bc_ BK170 0 rfl
  have hfs127 := blk_frozen BK170.out 0
  have hns127_0 := NB101_170.out
  have hns127_1 := NB102_170.out
  have hns127_2 := NB103_170.out
  have hns127_3 := NB104_170.out
  have hns127_4 := NB123_170.out
  have hns127_5 := NB127_170.out
  have hns127_6 := NB143_170.out
  have hns127_7 := NB159_170.out
  have hns127_8 := NB166_170.out
  have hms127_0 := NB170_101.out
  have hms127_1 := NB170_102.out
  have hms127_2 := NB170_103.out
  have hms127_3 := NB170_104.out
  have hms127_4 := NB170_123.out
  have hms127_5 := NB170_127.out
  have hms127_6 := NB170_143.out
  have hms127_7 := NB170_159.out
  have hms127_8 := NB170_166.out
  have hs128 : w126.cell? ⟨gb170, 1, none⟩ = some (.int .i64 t168) := bc_ BK170 1 rfl
  have hfs128 := blk_frozen BK170.out 1
  have hns128_0 := NB101_170.out
  have hns128_1 := NB102_170.out
  have hns128_2 := NB103_170.out
  have hns128_3 := NB104_170.out
  have hns128_4 := NB123_170.out
  have hns128_5 := NB127_170.out
  have hns128_6 := NB143_170.out
  have hns128_7 := NB159_170.out
  have hns128_8 := NB166_170.out
  have hms128_0 := NB170_101.out
  have hms128_1 := NB170_102.out
  have hms128_2 := NB170_103.out
  have hms128_3 := NB170_104.out
  have hms128_4 := NB170_123.out
  have hms128_5 := NB170_127.out
  have hms128_6 := NB170_143.out
  have hms128_7 := NB170_159.out
  have hms128_8 := NB170_166.out
  have hs129 : w126.cell? ⟨gb170, 2, none⟩ = some (.bool false) := bc_ BK170 2 rfl
  have hfs129 := blk_frozen BK170.out 2
  have hns129_0 := NB101_170.out
  have hns129_1 := NB102_170.out
  have hns129_2 := NB103_170.out
  have hns129_3 := NB104_170.out
  have hns129_4 := NB123_170.out
  have hns129_5 := NB127_170.out
  have hns129_6 := NB143_170.out
  have hns129_7 := NB159_170.out
  have hns129_8 := NB166_170.out
  have hms129_0 := NB170_101.out
  have hms129_1 := NB170_102.out
  have hms129_2 := NB170_103.out
  have hms129_3 := NB170_104.out
  have hms129_4 := NB170_123.out
  have hms129_5 := NB170_127.out
  have hms129_6 := NB170_143.out
  have hms129_7 := NB170_159.out
  have hms129_8 := NB170_166.out
  refine skip_ (w1 := ?_) (by rfl) rfl ?_ ?_
  rotate_left
  · go_simp
    rfl
  refine hK.out _ _ ?_
  clear hK K
  refine done_ (by kernel_rfl) ?_
  have hcz130_0 := bc_ BK170 0 rfl
  have hcz130_1 := bc_ BK170 1 rfl
  have hcz130_2 := bc_ BK170 2 rfl
  have hfz130 := blk_frozen BK170.out
  have hnb131 := NB104_102.out
  have hnc131 := NB102_104.out
  have hnb132 := NB104_123.out
  have hnc132 := NB123_104.out
  have hnb133 := NB104_143.out
  have hnc133 := NB143_104.out
  have hcz134_0 := bc_ BK104 0 rfl
  have hcz134_1 := bc_ BK104 1 rfl
  have hcz134_2 := bc_ BK104 2 rfl
  have hfz134 := blk_frozen BK104.out
  try go_wp2
  refine bodyPost_ret (results_cell_row rfl _ _ gb104 41 #[.int .i64 t174, .int .i64 t175, .bool t176] (0, 0) _ rfl (by refine blk_put (cs := #[.int .i64 t174, .int .i64 t175, .bool false]) ?_ 2 _ rfl; refine blk_put (cs := #[.int .i64 t174, .int .i64 0, .bool false]) ?_ 1 _ rfl; refine blk_put (cs := #[.int .i64 0, .int .i64 0, .bool false]) ?_ 0 _ rfl; exact blk_far (blk_far (blk_far BK104.out NB104_170.out _) NB104_170.out _) NB104_170.out _) Try.underlying41 rfl (by kernel_rfl)) rfl ?_
  exact ⟨by first | rfl | (simp [errW_none, errW_some] <;> rfl), by repeat (first | exact HB.out | apply below_alloc | refine below_set ?_ GE101.out | refine below_set ?_ GE102.out | refine below_set ?_ GE103.out | refine below_set ?_ GE104.out | refine below_set ?_ GE123.out | refine below_set ?_ GE127.out | refine below_set ?_ GE143.out | refine below_set ?_ GE159.out | refine below_set ?_ GE166.out | refine below_set ?_ GE170.out)⟩

end Go.Proofs.Ytjgikgbolacikaa.Q
