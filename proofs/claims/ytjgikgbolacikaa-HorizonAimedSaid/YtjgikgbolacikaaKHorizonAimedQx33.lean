/- Contracts, as in the first text; no condition. -/
import Derived.Test.YtjgikgbolacikaaKHorizonAimedQx0
import Derived.Test.YtjgikgbolacikaaKHorizonAimedQx2
import Derived.Test.YtjgikgbolacikaaKHorizonAimedQx3
import Derived.Test.YtjgikgbolacikaaKHorizonAimedQx4
import Derived.Test.YtjgikgbolacikaaKHorizonAimedQx8
import Derived.Test.YtjgikgbolacikaaKHorizonAimedQx11
import Derived.Test.YtjgikgbolacikaaKHorizonAimedQx15
import Derived.Test.YtjgikgbolacikaaKHorizonAimedQx16
import Derived.Test.YtjgikgbolacikaaKHorizonAimedQx32
namespace Go.Proofs.Ytjgikgbolacikaa.Q
open Go.RowKit Go.Proofs.YtjgikgbolacikaaW.PrintWords Go.Proofs.YtjgikgbolacikaaW.PrintLast Go.Proofs.YtjgikgbolacikaaW.PrintMore
attribute [local go_sem] max2_int min2_int max_two min_two max_three min_three max_four min_four
set_option linter.unusedVariables false
set_option linter.unusedSimpArgs false

attribute [local go_sem high] eqA35 eqA41
def spykeep1_HorizonAimed.f (k : Nat) (l0 : List Int) : Option (Bool) := (spymake_Stream_Site.f l0 0).bind fun bt102 => ((spymake_Stream_Arc.f l0 bt102.2.2).bind fun bt105 => ((spymake_Stream_Vec.f l0 bt105.2).bind fun bt107 => ((horizon_Aim.f k bt102.1 bt102.2.1 bt105.1 bt107.1 bt107.2.1 bt107.2.2.1).bind fun bt113 => ((bound_Exact_api_Arc.f k bt105.1).bind fun bt117 => ((horizon_Height.f k bt102.1 bt102.2.1 bt117.1 bt117.2.1 bt117.2.2 bt107.1 bt107.2.1 bt107.2.2.1).bind fun bt120 => ((horizon_Aim.f k bt102.1 0 (wrap64 (bt105.1 + bt102.2.1)) bt107.1 bt107.2.1 bt107.2.2.1).bind fun bt125 => ((trig_Sin.f k bt113.2.1).bind fun t129 => ((spykeep1_horizonFact.f k).bind fun t130 => (if t130 = true then (if bt113.2.2 = 0 then (if bt125.2.2 = 0 then (if (bt113.1 == bt125.1 && (bt113.2.1 == bt125.2.1)) = true then (if bt120.2.2 = true then (none) else (if t129 ≥ (wrap64 (bt120.1 - 40)) then (if t129 ≤ (wrap64 (bt120.2.1 + 40)) then ((bound_Exact_api_Arc.f k (wrap64 (bt105.1 + bt102.2.1))).bind fun bt131 => ((horizon_Height.f k bt102.1 0 bt131.1 bt131.2.1 bt131.2.2 bt107.1 bt107.2.1 bt107.2.2.1).bind fun bt134 => (some (bt120.1 == bt134.1 && (bt120.2.1 == bt134.2.1 && (bt120.2.2 == bt134.2.2)))))) else (none)) else (none))) else (none)) else (none)) else (none)) else (none))))))))))
theorem spykeep1_HorizonAimed.mono : ∀ a0 k, LeO (spykeep1_HorizonAimed.f k a0) (spykeep1_HorizonAimed.f (k + 1) a0) := by
 intro a0 k
 unfold spykeep1_HorizonAimed.f
 repeat' first
  | (with_reducible exact bound_Exact_api_Arc.mono _ _)
  | (with_reducible exact horizon_Aim.mono _ _ _ _ _ _ _)
  | (with_reducible exact horizon_Height.mono _ _ _ _ _ _ _ _ _)
  | (with_reducible exact spykeep1_horizonFact.mono _)
  | (with_reducible exact trig_Sin.mono _ _)
  | (with_reducible exact LeO.refl _)
  | (with_reducible exact LeO.none _)
  | (with_reducible refine LeO.ite ?_ ?_)
  | (with_reducible refine LeO.bind ?_ (fun _ => ?_))
def spykeep1_HorizonAimed.T9 : Bool × List (List Nat × List Nat) := (true, [([], []), ([0, 0], [0]), ([1], [1]), ([2, 1], [1, 2]), ([1, 3], [1, 3]), ([4, 1], [4]), ([5], [5]), ([6, 5], [5, 6]), ([5, 7], [5, 7]), ([8, 5], [8]), ([9], [9]), ([9], [9]), ([10, 11, 9], [9, 10, 11]), ([9, 12], [9, 12]), ([13, 9], [13]), ([14], [14]), ([15, 14], [14, 15]), ([16, 14], [14, 16]), ([14, 17], [14, 17]), ([18, 14], [18]), ([19], [19]), ([19], [19]), ([21, 19], [19, 21]), ([22, 19], [19, 22]), ([20, 23, 19], [19, 20, 23]), ([19, 24], [19, 24]), ([25, 19], [25]), ([26], [26]), ([26], [26]), ([28, 26], [26, 28]), ([29, 26], [26, 29]), ([27, 30, 26], [26, 27, 30]), ([26, 31], [26, 31]), ([32, 26], [32]), ([33], [33]), ([33], [33]), ([33], [33]), ([33], [33]), ([37, 33], [33, 37]), ([36, 38, 33], [33, 36, 38]), ([39, 33, 33], [33, 39]), ([33], [33]), ([35, 40, 41, 40, 33], [33, 35, 40, 41]), ([34, 42, 33], [33, 34, 42]), ([33, 43], [33, 43]), ([44, 42, 0, 1, 2, 3, 4, 5, 6, 7, 8, 9, 10, 11, 12, 13, 14, 15, 16, 17, 18, 19, 20, 21, 22, 23, 24, 25, 26, 27, 28, 29, 30, 31, 32, 33, 34, 35, 36, 37, 38, 39, 40, 41, 42, 43, 44], [44])])
def spykeep1_HorizonAimed.B9 : List Nat := [0, 1, 3, 7, 15, 31, 63, 127, 255, 511, 1023, 1023, 4095, 8191, 16383, 32767, 65535, 131071, 262143, 524287, 1048575, 1048575, 3145727, 7340031, 16777215, 33554431, 67108863, 134217727, 134217727, 402653183, 939524095, 2147483647, 4294967295, 8589934591, 17179869183, 17179869183, 17179869183, 17179869183, 154618822655, 498216206335, 1047972020223, 17179869183, 4380866641919, 8796093022207, 17592186044415, 35184372088831]
theorem spykeep1_HorizonAimed.tab9 : rtab .any (opsOf Try.f3 9) = spykeep1_HorizonAimed.T9 := by kernel_rfl
theorem spykeep1_HorizonAimed.bits9 : waitsOk spykeep1_HorizonAimed.T9.2 spykeep1_HorizonAimed.B9 = true := by kernel_rfl
set_option maxHeartbeats 8000000 in
set_option maxRecDepth 100000 in
theorem spykeep1_HorizonAimed.calls (k : Nat) (A0 : Option Addr) (c0 : Nat) (l0 : List Int) (r : Bool) (w : World) (hr0 : Kd.C (Kd.int .i64) w A0 l0.length l0) (hc0 : l0.length ≤ c0) (h : spykeep1_HorizonAimed.f k l0 = some r) :
 Calls Try.prog 3 #[.slice A0 l0.length c0] w fun e w' => e = .returned (.bool r) ∧ Below w.heap.size w w' := by
  have hu25 := Try.underlying25
  have hu28 := Try.underlying28
  have hu32 := Try.underlying32
  have hu35 := Try.underlying35
  have hu41 := Try.underlying41
  have HR0 := Aside0.mk hr0
  have HC0 := Aside0.mk hc0
  clear hr0 hc0
  have HB := Aside0.mk (Below.refl w.heap.size w)
  have H : ((spymake_Stream_Site.f l0 0).bind fun bt102 => ((spymake_Stream_Arc.f l0 bt102.2.2).bind fun bt105 => ((spymake_Stream_Vec.f l0 bt105.2).bind fun bt107 => ((horizon_Aim.f k bt102.1 bt102.2.1 bt105.1 bt107.1 bt107.2.1 bt107.2.2.1).bind fun bt113 => ((bound_Exact_api_Arc.f k bt105.1).bind fun bt117 => ((horizon_Height.f k bt102.1 bt102.2.1 bt117.1 bt117.2.1 bt117.2.2 bt107.1 bt107.2.1 bt107.2.2.1).bind fun bt120 => ((horizon_Aim.f k bt102.1 0 (wrap64 (bt105.1 + bt102.2.1)) bt107.1 bt107.2.1 bt107.2.2.1).bind fun bt125 => ((trig_Sin.f k bt113.2.1).bind fun t129 => ((spykeep1_horizonFact.f k).bind fun t130 => (if t130 = true then (if bt113.2.2 = 0 then (if bt125.2.2 = 0 then (if (bt113.1 == bt125.1 && (bt113.2.1 == bt125.2.1)) = true then (if bt120.2.2 = true then (none) else (if t129 ≥ (wrap64 (bt120.1 - 40)) then (if t129 ≤ (wrap64 (bt120.2.1 + 40)) then ((bound_Exact_api_Arc.f k (wrap64 (bt105.1 + bt102.2.1))).bind fun bt131 => ((horizon_Height.f k bt102.1 0 bt131.1 bt131.2.1 bt131.2.2 bt107.1 bt107.2.1 bt107.2.2.1).bind fun bt134 => (some (bt120.1 == bt134.1 && (bt120.2.1 == bt134.2.1 && (bt120.2.2 == bt134.2.2)))))) else (none)) else (none))) else (none)) else (none)) else (none)) else (none))))))))))) = some r := h
  clear h
  replace H := bso_ H
  obtain ⟨⟨t102, t103, t104⟩, A20, H⟩ := H
  try dsimp -simprocs only at H
  have A2 := Aside0.mk A20
  clear A20
  replace H := bso_ H
  obtain ⟨⟨t105, t106⟩, A30, H⟩ := H
  try dsimp -simprocs only at H
  have A3 := Aside0.mk A30
  clear A30
  replace H := bso_ H
  obtain ⟨⟨t107, t108, t109, t110⟩, A40, H⟩ := H
  try dsimp -simprocs only at H
  have A4 := Aside0.mk A40
  clear A40
  replace H := bso_ H
  obtain ⟨⟨t113, t114, t115⟩, A50, H⟩ := H
  try dsimp -simprocs only at H
  have A5 := Aside0.mk A50
  clear A50
  replace H := bso_ H
  obtain ⟨⟨t117, t118, t119⟩, A60, H⟩ := H
  try dsimp -simprocs only at H
  have A6 := Aside0.mk A60
  clear A60
  replace H := bso_ H
  obtain ⟨⟨t120, t121, t122⟩, A70, H⟩ := H
  try dsimp -simprocs only at H
  have A7 := Aside0.mk A70
  clear A70
  replace H := bso_ H
  obtain ⟨⟨t125, t126, t127⟩, A80, H⟩ := H
  try dsimp -simprocs only at H
  have A8 := Aside0.mk A80
  clear A80
  replace H := bso_ H
  obtain ⟨t129, A90, H⟩ := H
  try dsimp -simprocs only at H
  have A9 := Aside0.mk A90
  clear A90
  replace H := bso_ H
  obtain ⟨t130, A100, H⟩ := H
  try dsimp -simprocs only at H
  have A10 := Aside0.mk A100
  clear A100
  by_cases c11 : t130 = true
  rotate_left
  · replace c11 := Bool.eq_false_iff.mpr c11
    subst c11
    rw [if_neg (show ¬ (false = true) by decide)] at H
    exact absurd H (by simp)
  subst c11
  rw [if_pos rfl] at H
  by_cases c12 : t115 = 0
  rotate_left
  · rw [if_neg c12] at H
    exact absurd H (by simp)
  rw [if_pos c12] at H
  have c12b0 : (t115 == 0) = true := beq_iff_eq.mpr c12
  have c12b1 : (t115 != 0) = false := bne_eq_false_iff_eq.mpr c12
  clear c12
  by_cases c13 : t127 = 0
  rotate_left
  · rw [if_neg c13] at H
    exact absurd H (by simp)
  rw [if_pos c13] at H
  have c13b0 : (t127 == 0) = true := beq_iff_eq.mpr c13
  have c13b1 : (t127 != 0) = false := bne_eq_false_iff_eq.mpr c13
  clear c13
  by_cases c14 : (t113 == t125 && (t114 == t126)) = true
  rotate_left
  · rw [if_neg c14] at H
    exact absurd H (by simp)
  rw [if_pos c14] at H
  have c14b0 : (t113 == t125 && (t114 == t126)) = true := c14
  (try (have c14b1 : decide (t113 = t125 && (t114 == t126)) = true := by simpa using c14))
  (try (have c14b2 : (t113 == t125 && (t114 == t126)) = true := by simpa using c14))
  clear c14
  by_cases c15 : t122 = true
  · subst c15
    rw [if_pos rfl] at H
    exact absurd H (by simp)
  replace c15 := Bool.eq_false_iff.mpr c15
  subst c15
  rw [if_neg (show ¬ (false = true) by decide)] at H
  by_cases c16 : t129 ≥ (wrap64 (t120 - 40))
  rotate_left
  · rw [if_neg c16] at H
    exact absurd H (by simp)
  rw [if_pos c16] at H
  have c16b0 : decide ((wrap64 (t120 - 40)) ≤ t129) = true := decide_eq_true c16
  clear c16
  by_cases c17 : t129 ≤ (wrap64 (t121 + 40))
  rotate_left
  · rw [if_neg c17] at H
    exact absurd H (by simp)
  rw [if_pos c17] at H
  have c17b0 : decide (t129 ≤ (wrap64 (t121 + 40))) = true := decide_eq_true c17
  clear c17
  replace H := bso_ H
  obtain ⟨⟨t131, t132, t133⟩, A180, H⟩ := H
  try dsimp -simprocs only at H
  have A18 := Aside0.mk A180
  clear A180
  replace H := bso_ H
  obtain ⟨⟨t134, t135, t136⟩, A190, H⟩ := H
  try dsimp -simprocs only at H
  have A19 := Aside0.mk A190
  clear A190
  obtain rfl := Option.some.inj H
  go_enter Try.func3, Try.ntmps3
  try go_wp2_with (first | ((with_reducible refine gate_dst (N := 16) rfl ?_); refine bxq_ 16 #[.slice A0 l0.length c0, .int .i64 0] 25 ?_; intro gb101 hg w20 hbox hb; have HI101 := Aside0.mk ((show IsS25 w _ gb101 l0 0 from ⟨_, _, hbox, (by rw [hg]; exact (below_size (by repeat (first | exact HB.out | apply below_alloc | apply pw_below_drewN))) : w.heap.size ≤ gb101), HR0.out⟩)); have GW101 := Aside0.mk ((by rw [hg]; exact (below_size (by repeat (first | exact HB.out | apply below_alloc | apply pw_below_drewN))) : w.heap.size ≤ gb101)); have GE101 := GW101; replace HB := Aside0.mk (below_step (by repeat (first | exact HB.out | apply below_alloc | apply pw_below_drewN)) hb); clear hb hbox hg) | ((with_reducible refine gate_callee (f := 4) rfl ?_); refine glq_ (some 18) Try.func4 #[.pointer (some ⟨gb101, 0, none⟩)] ?_; (with_reducible refine (spymake_Stream_Site.calls gb101 l0 0 t102 t103 t104 w _ ?side1 ?side2 A2.out).mono ?_); (case side1 => repeat (first | (with_reducible first | exact HI101.out | apply IsS25.alloc | apply IsS25.drewN | apply IsS25.drew | apply IsS25.set_1) | exact HI101.out)); (case side2 => repeat (first | (with_reducible first | exact HB.out | apply below_alloc | apply pw_below_drewN | refine below_set ?_ (IsS25.ge HI101.out)) | exact HB.out)); rintro e w21 ⟨rfl, hi, hb, hk⟩; refine ⟨_, rfl, ?_⟩; replace HB := Aside0.mk (hb); replace HI101 := Aside0.mk (hi); (try clear hb hk hi)) | ((with_reducible refine gate_callee (f := 5) rfl ?_); refine glq_ (some 20) Try.func5 #[.pointer (some ⟨gb101, 0, none⟩)] ?_; (with_reducible refine (spymake_Stream_Arc.calls gb101 l0 t104 t105 t106 w _ ?side1 ?side2 A3.out).mono ?_); (case side1 => repeat (first | (with_reducible first | exact HI101.out | apply IsS25.alloc | apply IsS25.drewN | apply IsS25.drew | apply IsS25.set_1) | exact HI101.out)); (case side2 => repeat (first | (with_reducible first | exact HB.out | apply below_alloc | apply pw_below_drewN | refine below_set ?_ (IsS25.ge HI101.out)) | exact HB.out)); rintro e w22 ⟨rfl, hi, hb, hk⟩; refine ⟨_, rfl, ?_⟩; replace HB := Aside0.mk (hb); replace HI101 := Aside0.mk (hi); (try clear hb hk hi)) | ((with_reducible refine gate_callee (f := 6) rfl ?_); refine glq_ (some 22) Try.func6 #[.pointer (some ⟨gb101, 0, none⟩)] ?_; (with_reducible refine (spymake_Stream_Vec.calls gb101 l0 t106 t107 t108 t109 t110 w _ ?side1 ?side2 A4.out).mono ?_); (case side1 => repeat (first | (with_reducible first | exact HI101.out | apply IsS25.alloc | apply IsS25.drewN | apply IsS25.drew | apply IsS25.set_1) | exact HI101.out)); (case side2 => repeat (first | (with_reducible first | exact HB.out | apply below_alloc | apply pw_below_drewN | refine below_set ?_ (IsS25.ge HI101.out)) | exact HB.out)); rintro e w23 ⟨rfl, hi, hb, hk⟩; refine ⟨_, rfl, ?_⟩; replace HB := Aside0.mk (hb); replace HI101 := Aside0.mk (hi); (try clear hb hk hi)) | ((with_reducible refine gate_dst (N := 4) rfl ?_); refine bxq_ 4 #[.int .i64 0, .int .i64 0] 28 ?_; intro gb111 hg w24 hbox hb; have n0_ := Aside0.mk (IsS25.below (by repeat (first | (with_reducible first | exact HI101.out | apply IsS25.alloc | apply IsS25.drewN | apply IsS25.drew | apply IsS25.set_1) | exact HI101.out)) hb); have n1_ := Aside0.mk (below_step (by repeat (first | (with_reducible first | exact HB.out | apply below_alloc | apply pw_below_drewN | refine below_set ?_ (IsS25.ge HI101.out)) | exact HB.out)) hb); have n2_ := Aside0.mk (hbox); have n3_ := Aside0.mk ((by rw [hg]; exact (below_size (by repeat (first | (with_reducible first | exact HB.out | apply below_alloc | apply pw_below_drewN | refine below_set ?_ (IsS25.ge HI101.out)) | exact HB.out))) : w.heap.size ≤ gb111)); have n4_ := n3_; have n5_ := Aside0.mk ((by rw [hg]; exact Nat.ne_of_lt (IsS25.lt (show IsS25 w _ gb101 l0 t110 from by repeat (first | (with_reducible first | exact HI101.out | apply IsS25.alloc | apply IsS25.drewN | apply IsS25.drew | apply IsS25.set_1) | exact HI101.out))) : gb101 ≠ gb111)); have n6_ := Aside0.mk ((by rw [hg]; exact Nat.ne_of_gt (IsS25.lt (show IsS25 w _ gb101 l0 t110 from by repeat (first | (with_reducible first | exact HI101.out | apply IsS25.alloc | apply IsS25.drewN | apply IsS25.drew | apply IsS25.set_1) | exact HI101.out))) : gb111 ≠ gb101)); clear HI101; clear HB; have HI101 := n0_; have HB := n1_; have BK111 := n2_; have GW111 := n3_; have GE111 := n4_; have NB101_111 := n5_; have NB111_101 := n6_; clear n0_ n1_ n2_ n3_ n4_ n5_ n6_; clear hb hbox hg) | ((with_reducible refine gate_dst (N := 6) rfl ?_); refine bxq_ 6 #[.int .i64 0, .int .i64 0, .int .i64 0] 32 ?_; intro gb112 hg w25 hbox hb; have n0_ := Aside0.mk (IsS25.below (by repeat (first | (with_reducible first | exact HI101.out | apply IsS25.alloc | apply IsS25.drewN | apply IsS25.drew | apply IsS25.set_1 | refine IsS25.far ?_ NB101_111.out _) | exact HI101.out)) hb); have n1_ := bkb_ BK111 hb rfl; have n2_ := Aside0.mk (below_step (by repeat (first | (with_reducible first | exact HB.out | apply below_alloc | apply pw_below_drewN | refine below_set ?_ (IsS25.ge HI101.out) | refine below_set ?_ GE111.out) | exact HB.out)) hb); have n3_ := Aside0.mk (hbox); have n4_ := Aside0.mk ((by rw [hg]; exact (below_size (by repeat (first | (with_reducible first | exact HB.out | apply below_alloc | apply pw_below_drewN | refine below_set ?_ (IsS25.ge HI101.out) | refine below_set ?_ GE111.out) | exact HB.out))) : w.heap.size ≤ gb112)); have n5_ := n4_; have n6_ := nbl_ BK111 hg rfl; have n7_ := nbg_ BK111 hg rfl; have n8_ := Aside0.mk ((by rw [hg]; exact Nat.ne_of_lt (IsS25.lt (show IsS25 w _ gb101 l0 t110 from by repeat (first | (with_reducible first | exact HI101.out | apply IsS25.alloc | apply IsS25.drewN | apply IsS25.drew | apply IsS25.set_1 | refine IsS25.far ?_ NB101_111.out _) | exact HI101.out))) : gb101 ≠ gb112)); have n9_ := Aside0.mk ((by rw [hg]; exact Nat.ne_of_gt (IsS25.lt (show IsS25 w _ gb101 l0 t110 from by repeat (first | (with_reducible first | exact HI101.out | apply IsS25.alloc | apply IsS25.drewN | apply IsS25.drew | apply IsS25.set_1 | refine IsS25.far ?_ NB101_111.out _) | exact HI101.out))) : gb112 ≠ gb101)); clear HI101; clear BK111; clear HB; have HI101 := n0_; have BK111 := n1_; have HB := n2_; have BK112 := n3_; have GW112 := n4_; have GE112 := n5_; have NB111_112 := n6_; have NB112_111 := n7_; have NB101_112 := n8_; have NB112_101 := n9_; clear n0_ n1_ n2_ n3_ n4_ n5_ n6_ n7_ n8_ n9_; clear hb hbox hg; have hnb26 := NB111_112.out; have hnc26 := NB112_111.out; have hnb27 := NB111_101.out; have hnc27 := NB101_111.out; have hcz28_0 := bc_ BK111 0 rfl; have hcz28_1 := bc_ BK111 1 rfl; have hfz28 := blk_frozen BK111.out) | ((with_reducible refine gate_store (t := 28) (p := 4) rfl ?_); refine store_event (t := 28) (p := 4) (v := ?vo_w29) (w1 := ((w25.setCell ⟨gb111, 0, none⟩ (.int .i64 t102)).setCell ⟨gb111, 1, none⟩ (.int .i64 t103))) ?hg ?ho ?hn ?hr ?_; (case ho => rfl); (case hg => rfl); (case hn => rfl); (case hr => first | (go_simp; done) | (go_simp; rfl)); intro w29 hw; have n0_ : Aside0 (w29.heap[gb111]? = some (.cells #[.int .i64 t102, .int .i64 t103] 28 (0, 0))) := ⟨(by rw [hw]; exact (by exact blk_put (blk_put BK111.out 0 _ rfl) 1 _ rfl))⟩; have n1_ : Aside0 (w29.heap[gb112]? = some (.cells #[.int .i64 0, .int .i64 0, .int .i64 0] 32 (0, 0))) := ⟨(by rw [hw]; exact (by exact blk_far (blk_far BK112.out NB112_111.out _) NB112_111.out _))⟩; have n2_ : Aside0 (IsS25 w w29 gb101 l0 t110) := ⟨(by rw [hw]; exact (by repeat (first | (with_reducible first | exact HI101.out | apply IsS25.alloc | apply IsS25.drewN | apply IsS25.drew | apply IsS25.set_1 | refine IsS25.far ?_ NB101_111.out _ | refine IsS25.far ?_ NB101_112.out _) | exact HI101.out)))⟩; have n3_ : Aside0 (Below w.heap.size w w29) := ⟨(by rw [hw]; exact (by repeat (first | (with_reducible first | exact HB.out | apply below_alloc | apply pw_below_drewN | refine below_set ?_ (IsS25.ge HI101.out) | refine below_set ?_ GE111.out | refine below_set ?_ GE112.out) | exact HB.out)))⟩; clear hw; clear BK111; clear BK112; clear HI101; clear HB; have BK111 := n0_; have BK112 := n1_; have HI101 := n2_; have HB := n3_; clear n0_ n1_ n2_ n3_; have hnb30 := NB112_101.out; have hnc30 := NB101_112.out; have hcz31_0 := bc_ BK112 0 rfl; have hcz31_1 := bc_ BK112 1 rfl; have hcz31_2 := bc_ BK112 2 rfl; have hfz31 := blk_frozen BK112.out) | ((with_reducible refine gate_store (t := 32) (p := 6) rfl ?_); refine store_event (t := 32) (p := 6) (v := ?vo_w32) (w1 := (((w29.setCell ⟨gb112, 0, none⟩ (.int .i64 t107)).setCell ⟨gb112, 1, none⟩ (.int .i64 t108)).setCell ⟨gb112, 2, none⟩ (.int .i64 t109))) ?hg ?ho ?hn ?hr ?_; (case ho => rfl); (case hg => rfl); (case hn => rfl); (case hr => first | (go_simp; done) | (go_simp; rfl)); intro w32 hw; have n0_ : Aside0 (w32.heap[gb111]? = some (.cells #[.int .i64 t102, .int .i64 t103] 28 (0, 0))) := ⟨(by rw [hw]; exact (by exact blk_far (blk_far (blk_far BK111.out NB111_112.out _) NB111_112.out _) NB111_112.out _))⟩; have n1_ : Aside0 (w32.heap[gb112]? = some (.cells #[.int .i64 t107, .int .i64 t108, .int .i64 t109] 32 (0, 0))) := ⟨(by rw [hw]; exact (by exact blk_put (blk_put (blk_put BK112.out 0 _ rfl) 1 _ rfl) 2 _ rfl))⟩; have n2_ : Aside0 (IsS25 w w32 gb101 l0 t110) := ⟨(by rw [hw]; exact (by repeat (first | (with_reducible first | exact HI101.out | apply IsS25.alloc | apply IsS25.drewN | apply IsS25.drew | apply IsS25.set_1 | refine IsS25.far ?_ NB101_111.out _ | refine IsS25.far ?_ NB101_112.out _) | exact HI101.out)))⟩; have n3_ : Aside0 (Below w.heap.size w w32) := ⟨(by rw [hw]; exact (by repeat (first | (with_reducible first | exact HB.out | apply below_alloc | apply pw_below_drewN | refine below_set ?_ (IsS25.ge HI101.out) | refine below_set ?_ GE111.out | refine below_set ?_ GE112.out) | exact HB.out)))⟩; clear hw; clear BK111; clear BK112; clear HI101; clear HB; have BK111 := n0_; have BK112 := n1_; have HI101 := n2_; have HB := n3_; clear n0_ n1_ n2_ n3_; have hcz33_0 := bc_ BK111 0 rfl; have hcz33_1 := bc_ BK111 1 rfl; have hfz33 := blk_frozen BK111.out; have hcz34_0 := bc_ BK112 0 rfl; have hcz34_1 := bc_ BK112 1 rfl; have hcz34_2 := bc_ BK112 2 rfl; have hfz34 := blk_frozen BK112.out) | ((with_reducible refine gate_callee (f := 7) rfl ?_); refine glq_ (some 27) Try.func7 #[.agg #[.int .i64 t102, .int .i64 t103], .int .i64 t105, .agg #[.int .i64 t107, .int .i64 t108, .int .i64 t109]] ?_; (with_reducible refine (horizon_Aim.calls k t102 t103 t105 t107 t108 t109 t113 t114 t115 _ A5.out).mono ?_); rintro e w35 ⟨rfl, hb⟩; refine ⟨_, rfl, ?_⟩; have n0_ := Aside0.mk (IsS25.below (by repeat (first | (with_reducible first | exact HI101.out | apply IsS25.alloc | apply IsS25.drewN | apply IsS25.drew | apply IsS25.set_1 | refine IsS25.far ?_ NB101_111.out _ | refine IsS25.far ?_ NB101_112.out _) | exact HI101.out)) hb); have n1_ := bkb_ BK111 hb rfl; have n2_ := bkb_ BK112 hb rfl; have n3_ := Aside0.mk (below_step (by repeat (first | (with_reducible first | exact HB.out | apply below_alloc | apply pw_below_drewN | refine below_set ?_ (IsS25.ge HI101.out) | refine below_set ?_ GE111.out | refine below_set ?_ GE112.out) | exact HB.out)) hb); clear HI101; clear BK111; clear BK112; clear HB; have HI101 := n0_; have BK111 := n1_; have BK112 := n2_; have HB := n3_; clear n0_ n1_ n2_ n3_; (try clear hb)) | ((with_reducible refine gate_dst (N := 7) rfl ?_); refine bxq_ 7 #[.int .i64 0, .int .i64 0] 35 ?_; intro gb116 hg w36 hbox hb; have n0_ := Aside0.mk (IsS25.below (by repeat (first | (with_reducible first | exact HI101.out | apply IsS25.alloc | apply IsS25.drewN | apply IsS25.drew | apply IsS25.set_1 | refine IsS25.far ?_ NB101_111.out _ | refine IsS25.far ?_ NB101_112.out _) | exact HI101.out)) hb); have n1_ := bkb_ BK111 hb rfl; have n2_ := bkb_ BK112 hb rfl; have n3_ := Aside0.mk (below_step (by repeat (first | (with_reducible first | exact HB.out | apply below_alloc | apply pw_below_drewN | refine below_set ?_ (IsS25.ge HI101.out) | refine below_set ?_ GE111.out | refine below_set ?_ GE112.out) | exact HB.out)) hb); have n4_ := Aside0.mk (hbox); have n5_ := Aside0.mk ((by rw [hg]; exact (below_size (by repeat (first | (with_reducible first | exact HB.out | apply below_alloc | apply pw_below_drewN | refine below_set ?_ (IsS25.ge HI101.out) | refine below_set ?_ GE111.out | refine below_set ?_ GE112.out) | exact HB.out))) : w.heap.size ≤ gb116)); have n6_ := n5_; have n7_ := nbl_ BK111 hg rfl; have n8_ := nbg_ BK111 hg rfl; have n9_ := nbl_ BK112 hg rfl; have n10_ := nbg_ BK112 hg rfl; have n11_ := Aside0.mk ((by rw [hg]; exact Nat.ne_of_lt (IsS25.lt (show IsS25 w _ gb101 l0 t110 from by repeat (first | (with_reducible first | exact HI101.out | apply IsS25.alloc | apply IsS25.drewN | apply IsS25.drew | apply IsS25.set_1 | refine IsS25.far ?_ NB101_111.out _ | refine IsS25.far ?_ NB101_112.out _) | exact HI101.out))) : gb101 ≠ gb116)); have n12_ := Aside0.mk ((by rw [hg]; exact Nat.ne_of_gt (IsS25.lt (show IsS25 w _ gb101 l0 t110 from by repeat (first | (with_reducible first | exact HI101.out | apply IsS25.alloc | apply IsS25.drewN | apply IsS25.drew | apply IsS25.set_1 | refine IsS25.far ?_ NB101_111.out _ | refine IsS25.far ?_ NB101_112.out _) | exact HI101.out))) : gb116 ≠ gb101)); clear HI101; clear BK111; clear BK112; clear HB; have HI101 := n0_; have BK111 := n1_; have BK112 := n2_; have HB := n3_; have BK116 := n4_; have GW116 := n5_; have GE116 := n6_; have NB111_116 := n7_; have NB116_111 := n8_; have NB112_116 := n9_; have NB116_112 := n10_; have NB101_116 := n11_; have NB116_101 := n12_; clear n0_ n1_ n2_ n3_ n4_ n5_ n6_ n7_ n8_ n9_ n10_ n11_ n12_; clear hb hbox hg; have hnb37 := NB116_111.out; have hnc37 := NB111_116.out; have hnb38 := NB116_112.out; have hnc38 := NB112_116.out; have hnb39 := NB116_101.out; have hnc39 := NB101_116.out; have hcz40_0 := bc_ BK116 0 rfl; have hcz40_1 := bc_ BK116 1 rfl; have hfz40 := blk_frozen BK116.out) | ((with_reducible refine gate_store (t := 35) (p := 7) rfl ?_); refine store_event (t := 35) (p := 7) (v := ?vo_w41) (w1 := ((w36.setCell ⟨gb116, 0, none⟩ (.int .i64 t113)).setCell ⟨gb116, 1, none⟩ (.int .i64 t114))) ?hg ?ho ?hn ?hr ?_; (case ho => rfl); (case hg => rfl); (case hn => rfl); (case hr => first | (go_simp; done) | (go_simp; rfl)); intro w41 hw; have n0_ : Aside0 (w41.heap[gb111]? = some (.cells #[.int .i64 t102, .int .i64 t103] 28 (0, 0))) := ⟨(by rw [hw]; exact (by exact blk_far (blk_far BK111.out NB111_116.out _) NB111_116.out _))⟩; have n1_ : Aside0 (w41.heap[gb112]? = some (.cells #[.int .i64 t107, .int .i64 t108, .int .i64 t109] 32 (0, 0))) := ⟨(by rw [hw]; exact (by exact blk_far (blk_far BK112.out NB112_116.out _) NB112_116.out _))⟩; have n2_ : Aside0 (w41.heap[gb116]? = some (.cells #[.int .i64 t113, .int .i64 t114] 35 (0, 0))) := ⟨(by rw [hw]; exact (by exact blk_put (blk_put BK116.out 0 _ rfl) 1 _ rfl))⟩; have n3_ : Aside0 (IsS25 w w41 gb101 l0 t110) := ⟨(by rw [hw]; exact (by repeat (first | (with_reducible first | exact HI101.out | apply IsS25.alloc | apply IsS25.drewN | apply IsS25.drew | apply IsS25.set_1 | refine IsS25.far ?_ NB101_111.out _ | refine IsS25.far ?_ NB101_112.out _ | refine IsS25.far ?_ NB101_116.out _) | exact HI101.out)))⟩; have n4_ : Aside0 (Below w.heap.size w w41) := ⟨(by rw [hw]; exact (by repeat (first | (with_reducible first | exact HB.out | apply below_alloc | apply pw_below_drewN | refine below_set ?_ (IsS25.ge HI101.out) | refine below_set ?_ GE111.out | refine below_set ?_ GE112.out | refine below_set ?_ GE116.out) | exact HB.out)))⟩; clear hw; clear BK111; clear BK112; clear BK116; clear HI101; clear HB; have BK111 := n0_; have BK112 := n1_; have BK116 := n2_; have HI101 := n3_; have HB := n4_; clear n0_ n1_ n2_ n3_ n4_))
  replace BK111 := Aside0.mk (blk_drew BK111.out)
  replace BK112 := Aside0.mk (blk_drew BK112.out)
  replace BK116 := Aside0.mk (blk_drew BK116.out)
  replace HI101 := Aside0.mk (IsS25.drew HI101.out)
  replace HB := Aside0.mk (below_drew1 HB.out)
  refine start_ (n := 7) (S := fun w' => w'.cell? ⟨gb111, 0, none⟩ = some (.int .i64 t102) ∧ w'.cell? ⟨gb111, 1, none⟩ = some (.int .i64 t103) ∧ w'.cell? ⟨gb112, 0, none⟩ = some (.int .i64 t107) ∧ w'.cell? ⟨gb112, 1, none⟩ = some (.int .i64 t108) ∧ w'.cell? ⟨gb112, 2, none⟩ = some (.int .i64 t109)) (ds := []) #[false, false, false, false, false, false, false] (by kernel_rfl) rfl rfl ⟨bc_ BK111 0 rfl, bc_ BK111 1 rfl, bc_ BK112 0 rfl, bc_ BK112 1 rfl, bc_ BK112 2 rfl⟩ (fun hHeld => ?_)
  generalize w41.drew = w42 at BK111 BK112 BK116 HI101 HB hHeld ⊢
  refine pure_ (i := 1) (N := some 31) (v := ?_) (a' := ?_) #[false, true, false, false, false, false, false] rfl rfl (by kernel_rfl) (fun _ _ _ h => h) (Or.inl ⟨by rfl, ?_⟩) ?_ ?_
  rotate_left
  · intro w'
    go_simp
    with_reducible rfl
  rotate_left
  · simp only [Act.put, List.setIfInBounds_toArray, List.set_cons_zero, List.set_cons_succ, i64_w, i32_w]
    rfl
  refine take_ (i := 0) (N := some 30) (v := ?_) (a' := ?_) #[true, true, false, false, false, false, false] rfl rfl (by kernel_rfl) (fun _ _ _ h => h) (Or.inl ⟨by rfl, ?_⟩) hHeld ?_ ?_
  rotate_left
  · rintro w' ⟨s0, s1, s2, s3, s4⟩
    go_simp
    with_reducible rfl
  rotate_left
  · simp only [Act.put, List.setIfInBounds_toArray, List.set_cons_zero, List.set_cons_succ, i64_w, i32_w]
    rfl
  refine take_ (i := 3) (N := some 33) (v := ?_) (a' := ?_) #[true, true, false, true, false, false, false] rfl rfl (by kernel_rfl) (fun _ _ _ h => h) (Or.inl ⟨by rfl, ?_⟩) hHeld ?_ ?_
  rotate_left
  · rintro w' ⟨s0, s1, s2, s3, s4⟩
    go_simp
    with_reducible rfl
  rotate_left
  · simp only [Act.put, List.setIfInBounds_toArray, List.set_cons_zero, List.set_cons_succ, i64_w, i32_w]
    rfl
  refine join_ (σ := Nat) 1 #[true, true, true, true, true, true, false] (fun s_ => [(32, .agg #[.int .i64 t117, .int .i64 t118, .bool t119]), (34, .agg #[.int .i64 t120, .int .i64 t121, .bool false]), (9, .pointer (some ⟨s_, 0, none⟩))]) (fun s_ w' => (w'.cell? ⟨gb111, 0, none⟩ = some (.int .i64 t102) ∧ w'.cell? ⟨gb111, 1, none⟩ = some (.int .i64 t103) ∧ w'.cell? ⟨gb112, 0, none⟩ = some (.int .i64 t107) ∧ w'.cell? ⟨gb112, 1, none⟩ = some (.int .i64 t108) ∧ w'.cell? ⟨gb112, 2, none⟩ = some (.int .i64 t109)) ∧ (w'.heap[gb111]? = some (.cells #[.int .i64 t102, .int .i64 t103] 28 (0, 0))) ∧ (w'.heap[gb112]? = some (.cells #[.int .i64 t107, .int .i64 t108, .int .i64 t109] 32 (0, 0))) ∧ (w'.heap[gb116]? = some (.cells #[.int .i64 t113, .int .i64 t114] 35 (0, 0))) ∧ (w'.heap[s_]? = some (.cells #[.int .i64 0, .int .i64 0, .bool false] 41 (0, 0))) ∧ (w.heap.size ≤ s_) ∧ (w.heap.size ≤ s_) ∧ (gb101 ≠ s_) ∧ (s_ ≠ gb101) ∧ (gb111 ≠ s_) ∧ (s_ ≠ gb111) ∧ (gb112 ≠ s_) ∧ (s_ ≠ gb112) ∧ (gb116 ≠ s_) ∧ (s_ ≠ gb116) ∧ (IsS25 w w' gb101 l0 t110) ∧ (Below w.heap.size w w')) ?_ ?_
  rotate_left
  · intro hCont
    refine two_ (i := 2) (j := 5) (Ni := some 32) (Nj := some 9) #[true, true, true, true, false, false, false] #[true, true, false, true, false, true, false] rfl rfl rfl rfl (by kernel_rfl) (by decide) (by decide) (fun K hK => ?_) (fun K hK => ?_)
    · skip
      refine gq_ Try.func9 #[.int .i64 t105] ?_
      with_reducible refine (bound_Exact_api_Arc.calls k t105 t117 t118 t119 _ A6.out).mono ?_
      rintro e w43 ⟨rfl, hb⟩
      refine ⟨_, rfl, ?_⟩
      replace HI101 := Aside0.mk (IsS25.below (by exact HI101.out) hb)
      replace BK111 := bkb_ BK111 hb rfl
      replace BK112 := bkb_ BK112 hb rfl
      replace BK116 := bkb_ BK116 hb rfl
      replace HB := Aside0.mk (below_step (by exact HB.out) hb)
      (try clear hb)
      refine hK.out _ _ ⟨bc_ BK111 0 rfl, bc_ BK111 1 rfl, bc_ BK112 0 rfl, bc_ BK112 1 rfl, bc_ BK112 2 rfl⟩ (fun hHeld => ?_)
      clear hK K
      refine nq_ 32 ?_
      refine two_ (i := 4) (j := 5) (Ni := some 34) (Nj := some 9) #[true, true, true, true, true, false, false] #[true, true, true, true, false, true, false] rfl rfl rfl rfl (by kernel_rfl) (by decide) (by decide) (fun K hK => ?_) (fun K hK => ?_)
      · skip
        refine gq_ Try.func8 #[.agg #[.int .i64 t102, .int .i64 t103], .agg #[.int .i64 t117, .int .i64 t118, .bool t119], .agg #[.int .i64 t107, .int .i64 t108, .int .i64 t109]] ?_
        with_reducible refine (horizon_Height.calls k t102 t103 t117 t118 t119 t107 t108 t109 t120 t121 false _ A7.out).mono ?_
        rintro e w44 ⟨rfl, hb⟩
        refine ⟨_, rfl, ?_⟩
        replace HI101 := Aside0.mk (IsS25.below (by exact HI101.out) hb)
        replace BK111 := bkb_ BK111 hb rfl
        replace BK112 := bkb_ BK112 hb rfl
        replace BK116 := bkb_ BK116 hb rfl
        replace HB := Aside0.mk (below_step (by exact HB.out) hb)
        (try clear hb)
        refine hK.out _ _ ⟨bc_ BK111 0 rfl, bc_ BK111 1 rfl, bc_ BK112 0 rfl, bc_ BK112 1 rfl, bc_ BK112 2 rfl⟩ (fun hHeld => ?_)
        clear hK K
        refine nq_ 34 ?_
        refine one_ (i := 5) (N := some 9) #[true, true, true, true, true, true, false] rfl rfl (by kernel_rfl) (by decide) (fun K hK => ?_)
        refine bsq_ 9 #[.int .i64 0, .int .i64 0, .bool false] 41 ?_
        intro gb123 hg w45 hbox hb
        have BK123 := Aside0.mk (hbox)
        have GW123 := Aside0.mk ((by rw [hg]; exact (below_size (by exact HB.out)) : w.heap.size ≤ gb123))
        have GE123 := GW123
        have NB111_123 := nbl_ BK111 hg rfl
        have NB123_111 := nbg_ BK111 hg rfl
        have NB112_123 := nbl_ BK112 hg rfl
        have NB123_112 := nbg_ BK112 hg rfl
        have NB116_123 := nbl_ BK116 hg rfl
        have NB123_116 := nbg_ BK116 hg rfl
        have NB101_123 := Aside0.mk ((by rw [hg]; exact Nat.ne_of_lt (IsS25.lt HI101.out) : gb101 ≠ gb123))
        have NB123_101 := Aside0.mk ((by rw [hg]; exact Nat.ne_of_gt (IsS25.lt HI101.out) : gb123 ≠ gb101))
        replace HI101 := Aside0.mk (IsS25.below (by exact HI101.out) hb)
        replace BK111 := bkb_ BK111 hb rfl
        replace BK112 := bkb_ BK112 hb rfl
        replace BK116 := bkb_ BK116 hb rfl
        replace HB := Aside0.mk (below_step (by exact HB.out) hb)
        clear hb hbox hg
        refine hK.out _ _ ⟨bc_ BK111 0 rfl, bc_ BK111 1 rfl, bc_ BK112 0 rfl, bc_ BK112 1 rfl, bc_ BK112 2 rfl⟩ (fun hHeld => ?_)
        clear hK K
        refine nq_ 9 ?_
        exact norm_ (by simp only [putAll, Act.put, List.setIfInBounds_toArray, List.set_cons_zero, List.set_cons_succ]) (hCont (gb123) _ ⟨hHeld, BK111.out, BK112.out, BK116.out, BK123.out, GW123.out, GE123.out, NB101_123.out, NB123_101.out, NB111_123.out, NB123_111.out, NB112_123.out, NB123_112.out, NB116_123.out, NB123_116.out, HI101.out, HB.out⟩)
      skip
      refine bsq_ 9 #[.int .i64 0, .int .i64 0, .bool false] 41 ?_
      intro gb123 hg w44 hbox hb
      have BK123 := Aside0.mk (hbox)
      have GW123 := Aside0.mk ((by rw [hg]; exact (below_size (by exact HB.out)) : w.heap.size ≤ gb123))
      have GE123 := GW123
      have NB111_123 := nbl_ BK111 hg rfl
      have NB123_111 := nbg_ BK111 hg rfl
      have NB112_123 := nbl_ BK112 hg rfl
      have NB123_112 := nbg_ BK112 hg rfl
      have NB116_123 := nbl_ BK116 hg rfl
      have NB123_116 := nbg_ BK116 hg rfl
      have NB101_123 := Aside0.mk ((by rw [hg]; exact Nat.ne_of_lt (IsS25.lt HI101.out) : gb101 ≠ gb123))
      have NB123_101 := Aside0.mk ((by rw [hg]; exact Nat.ne_of_gt (IsS25.lt HI101.out) : gb123 ≠ gb101))
      replace HI101 := Aside0.mk (IsS25.below (by exact HI101.out) hb)
      replace BK111 := bkb_ BK111 hb rfl
      replace BK112 := bkb_ BK112 hb rfl
      replace BK116 := bkb_ BK116 hb rfl
      replace HB := Aside0.mk (below_step (by exact HB.out) hb)
      clear hb hbox hg
      refine hK.out _ _ ⟨bc_ BK111 0 rfl, bc_ BK111 1 rfl, bc_ BK112 0 rfl, bc_ BK112 1 rfl, bc_ BK112 2 rfl⟩ (fun hHeld => ?_)
      clear hK K
      refine nq_ 9 ?_
      refine one_ (i := 4) (N := some 34) #[true, true, true, true, true, true, false] rfl rfl (by kernel_rfl) (by decide) (fun K hK => ?_)
      refine gq_ Try.func8 #[.agg #[.int .i64 t102, .int .i64 t103], .agg #[.int .i64 t117, .int .i64 t118, .bool t119], .agg #[.int .i64 t107, .int .i64 t108, .int .i64 t109]] ?_
      with_reducible refine (horizon_Height.calls k t102 t103 t117 t118 t119 t107 t108 t109 t120 t121 false _ A7.out).mono ?_
      rintro e w45 ⟨rfl, hb⟩
      refine ⟨_, rfl, ?_⟩
      replace HI101 := Aside0.mk (IsS25.below (by exact HI101.out) hb)
      replace BK111 := bkb_ BK111 hb rfl
      replace BK112 := bkb_ BK112 hb rfl
      replace BK116 := bkb_ BK116 hb rfl
      replace BK123 := bkb_ BK123 hb rfl
      replace HB := Aside0.mk (below_step (by exact HB.out) hb)
      (try clear hb)
      refine hK.out _ _ ⟨bc_ BK111 0 rfl, bc_ BK111 1 rfl, bc_ BK112 0 rfl, bc_ BK112 1 rfl, bc_ BK112 2 rfl⟩ (fun hHeld => ?_)
      clear hK K
      refine nq_ 34 ?_
      exact norm_ (by simp only [putAll, Act.put, List.setIfInBounds_toArray, List.set_cons_zero, List.set_cons_succ]) (hCont (gb123) _ ⟨hHeld, BK111.out, BK112.out, BK116.out, BK123.out, GW123.out, GE123.out, NB101_123.out, NB123_101.out, NB111_123.out, NB123_111.out, NB112_123.out, NB123_112.out, NB116_123.out, NB123_116.out, HI101.out, HB.out⟩)
    skip
    refine bsq_ 9 #[.int .i64 0, .int .i64 0, .bool false] 41 ?_
    intro gb123 hg w43 hbox hb
    have BK123 := Aside0.mk (hbox)
    have GW123 := Aside0.mk ((by rw [hg]; exact (below_size (by exact HB.out)) : w.heap.size ≤ gb123))
    have GE123 := GW123
    have NB111_123 := nbl_ BK111 hg rfl
    have NB123_111 := nbg_ BK111 hg rfl
    have NB112_123 := nbl_ BK112 hg rfl
    have NB123_112 := nbg_ BK112 hg rfl
    have NB116_123 := nbl_ BK116 hg rfl
    have NB123_116 := nbg_ BK116 hg rfl
    have NB101_123 := Aside0.mk ((by rw [hg]; exact Nat.ne_of_lt (IsS25.lt HI101.out) : gb101 ≠ gb123))
    have NB123_101 := Aside0.mk ((by rw [hg]; exact Nat.ne_of_gt (IsS25.lt HI101.out) : gb123 ≠ gb101))
    replace HI101 := Aside0.mk (IsS25.below (by exact HI101.out) hb)
    replace BK111 := bkb_ BK111 hb rfl
    replace BK112 := bkb_ BK112 hb rfl
    replace BK116 := bkb_ BK116 hb rfl
    replace HB := Aside0.mk (below_step (by exact HB.out) hb)
    clear hb hbox hg
    refine hK.out _ _ ⟨bc_ BK111 0 rfl, bc_ BK111 1 rfl, bc_ BK112 0 rfl, bc_ BK112 1 rfl, bc_ BK112 2 rfl⟩ (fun hHeld => ?_)
    clear hK K
    refine nq_ 9 ?_
    refine one_ (i := 2) (N := some 32) #[true, true, true, true, false, true, false] rfl rfl (by kernel_rfl) (by decide) (fun K hK => ?_)
    refine gq_ Try.func9 #[.int .i64 t105] ?_
    with_reducible refine (bound_Exact_api_Arc.calls k t105 t117 t118 t119 _ A6.out).mono ?_
    rintro e w44 ⟨rfl, hb⟩
    refine ⟨_, rfl, ?_⟩
    replace HI101 := Aside0.mk (IsS25.below (by exact HI101.out) hb)
    replace BK111 := bkb_ BK111 hb rfl
    replace BK112 := bkb_ BK112 hb rfl
    replace BK116 := bkb_ BK116 hb rfl
    replace BK123 := bkb_ BK123 hb rfl
    replace HB := Aside0.mk (below_step (by exact HB.out) hb)
    (try clear hb)
    refine hK.out _ _ ⟨bc_ BK111 0 rfl, bc_ BK111 1 rfl, bc_ BK112 0 rfl, bc_ BK112 1 rfl, bc_ BK112 2 rfl⟩ (fun hHeld => ?_)
    clear hK K
    refine nq_ 32 ?_
    refine one_ (i := 4) (N := some 34) #[true, true, true, true, true, true, false] rfl rfl (by kernel_rfl) (by decide) (fun K hK => ?_)
    refine gq_ Try.func8 #[.agg #[.int .i64 t102, .int .i64 t103], .agg #[.int .i64 t117, .int .i64 t118, .bool t119], .agg #[.int .i64 t107, .int .i64 t108, .int .i64 t109]] ?_
    with_reducible refine (horizon_Height.calls k t102 t103 t117 t118 t119 t107 t108 t109 t120 t121 false _ A7.out).mono ?_
    rintro e w45 ⟨rfl, hb⟩
    refine ⟨_, rfl, ?_⟩
    replace HI101 := Aside0.mk (IsS25.below (by exact HI101.out) hb)
    replace BK111 := bkb_ BK111 hb rfl
    replace BK112 := bkb_ BK112 hb rfl
    replace BK116 := bkb_ BK116 hb rfl
    replace BK123 := bkb_ BK123 hb rfl
    replace HB := Aside0.mk (below_step (by exact HB.out) hb)
    (try clear hb)
    refine hK.out _ _ ⟨bc_ BK111 0 rfl, bc_ BK111 1 rfl, bc_ BK112 0 rfl, bc_ BK112 1 rfl, bc_ BK112 2 rfl⟩ (fun hHeld => ?_)
    clear hK K
    refine nq_ 34 ?_
    exact norm_ (by simp only [putAll, Act.put, List.setIfInBounds_toArray, List.set_cons_zero, List.set_cons_succ]) (hCont (gb123) _ ⟨hHeld, BK111.out, BK112.out, BK116.out, BK123.out, GW123.out, GE123.out, NB101_123.out, NB123_101.out, NB111_123.out, NB123_111.out, NB112_123.out, NB123_112.out, NB116_123.out, NB123_116.out, HI101.out, HB.out⟩)
  rintro gb123 w46 ⟨hS_, h0_, h1_, h2_, h3_, h4_, h5_, h6_, h7_, h8_, h9_, h10_, h11_, h12_, h13_, h14_, h15_⟩
  have BK123 : Aside0 (w46.heap[gb123]? = some (.cells #[.int .i64 0, .int .i64 0, .bool false] 41 (0, 0))) := ⟨h3_⟩
  have GW123 : Aside0 (w.heap.size ≤ gb123) := ⟨h4_⟩
  have GE123 : Aside0 (w.heap.size ≤ gb123) := ⟨h5_⟩
  have NB101_123 : Aside0 (gb101 ≠ gb123) := ⟨h6_⟩
  have NB123_101 : Aside0 (gb123 ≠ gb101) := ⟨h7_⟩
  have NB111_123 : Aside0 (gb111 ≠ gb123) := ⟨h8_⟩
  have NB123_111 : Aside0 (gb123 ≠ gb111) := ⟨h9_⟩
  have NB112_123 : Aside0 (gb112 ≠ gb123) := ⟨h10_⟩
  have NB123_112 : Aside0 (gb123 ≠ gb112) := ⟨h11_⟩
  have NB116_123 : Aside0 (gb116 ≠ gb123) := ⟨h12_⟩
  have NB123_116 : Aside0 (gb123 ≠ gb116) := ⟨h13_⟩
  replace BK111 : Aside0 (w46.heap[gb111]? = some (.cells #[.int .i64 t102, .int .i64 t103] 28 (0, 0))) := ⟨h0_⟩
  replace BK112 : Aside0 (w46.heap[gb112]? = some (.cells #[.int .i64 t107, .int .i64 t108, .int .i64 t109] 32 (0, 0))) := ⟨h1_⟩
  replace BK116 : Aside0 (w46.heap[gb116]? = some (.cells #[.int .i64 t113, .int .i64 t114] 35 (0, 0))) := ⟨h2_⟩
  replace HI101 : Aside0 (IsS25 w w46 gb101 l0 t110) := ⟨h14_⟩
  replace HB : Aside0 (Below w.heap.size w w46) := ⟨h15_⟩
  clear h0_ h1_ h2_ h3_ h4_ h5_ h6_ h7_ h8_ h9_ h10_ h11_ h12_ h13_ h14_ h15_
  have hHeld : w46.cell? ⟨gb111, 0, none⟩ = some (.int .i64 t102) ∧ w46.cell? ⟨gb111, 1, none⟩ = some (.int .i64 t103) ∧ w46.cell? ⟨gb112, 0, none⟩ = some (.int .i64 t107) ∧ w46.cell? ⟨gb112, 1, none⟩ = some (.int .i64 t108) ∧ w46.cell? ⟨gb112, 2, none⟩ = some (.int .i64 t109) := hS_
  refine norm_ (a' := ?_) ?_ ?_
  rotate_left
  · simp only [putAll, Act.put, List.setIfInBounds_toArray, List.set_cons_zero, List.set_cons_succ]
    rfl
  refine one_ (i := 6) (N := none) #[true, true, true, true, true, true, true] rfl rfl (by kernel_rfl) (by decide) (fun K hK => ?_)
  have hs47 : w46.cell? ⟨gb123, 0, none⟩ = some (.int .i64 0) := bc_ BK123 0 rfl
  have hfs47 := blk_frozen BK123.out 0
  have hns47_0 := NB111_123.out
  have hns47_1 := NB112_123.out
  have hns47_2 := NB116_123.out
  have hms47_0 := NB123_111.out
  have hms47_1 := NB123_112.out
  have hms47_2 := NB123_116.out
  have hs48 : w46.cell? ⟨gb123, 1, none⟩ = some (.int .i64 0) := bc_ BK123 1 rfl
  have hfs48 := blk_frozen BK123.out 1
  have hns48_0 := NB111_123.out
  have hns48_1 := NB112_123.out
  have hns48_2 := NB116_123.out
  have hms48_0 := NB123_111.out
  have hms48_1 := NB123_112.out
  have hms48_2 := NB123_116.out
  have hs49 : w46.cell? ⟨gb123, 2, none⟩ = some (.bool false) := bc_ BK123 2 rfl
  have hfs49 := blk_frozen BK123.out 2
  have hns49_0 := NB111_123.out
  have hns49_1 := NB112_123.out
  have hns49_2 := NB116_123.out
  have hms49_0 := NB123_111.out
  have hms49_1 := NB123_112.out
  have hms49_2 := NB123_116.out
  refine skip_ (w1 := ?_) (by rfl) rfl ?_ ?_
  rotate_left
  · go_simp
    rfl
  refine hK.out _ _ ⟨((cell_far (p := ⟨gb123, _, none⟩) NB111_123.out _).trans (((cell_far (p := ⟨gb123, _, none⟩) NB111_123.out _).trans (((cell_far (p := ⟨gb123, _, none⟩) NB111_123.out _).trans (hHeld.1)))))), ((cell_far (p := ⟨gb123, _, none⟩) NB111_123.out _).trans (((cell_far (p := ⟨gb123, _, none⟩) NB111_123.out _).trans (((cell_far (p := ⟨gb123, _, none⟩) NB111_123.out _).trans (hHeld.2.1)))))), ((cell_far (p := ⟨gb123, _, none⟩) NB112_123.out _).trans (((cell_far (p := ⟨gb123, _, none⟩) NB112_123.out _).trans (((cell_far (p := ⟨gb123, _, none⟩) NB112_123.out _).trans (hHeld.2.2.1)))))), ((cell_far (p := ⟨gb123, _, none⟩) NB112_123.out _).trans (((cell_far (p := ⟨gb123, _, none⟩) NB112_123.out _).trans (((cell_far (p := ⟨gb123, _, none⟩) NB112_123.out _).trans (hHeld.2.2.2.1)))))), ((cell_far (p := ⟨gb123, _, none⟩) NB112_123.out _).trans (((cell_far (p := ⟨gb123, _, none⟩) NB112_123.out _).trans (((cell_far (p := ⟨gb123, _, none⟩) NB112_123.out _).trans (hHeld.2.2.2.2))))))⟩ (fun hHeld => ?_)
  clear hK K
  refine done_ (by kernel_rfl) ?_
  have hnb50 := NB111_123.out
  have hnc50 := NB123_111.out
  have hcz51_0 := bc_ BK111 0 rfl
  have hcz51_1 := bc_ BK111 1 rfl
  have hfz51 := blk_frozen BK111.out
  try go_wp2_with (first | ((with_reducible refine gate_dst (N := 10) rfl ?_); refine bxq_ 10 #[.int .i64 0, .int .i64 0] 28 ?_; intro gb124 hg w52 hbox hb; have n0_ := Aside0.mk (by first | exact IsS25.below (show IsS25 w (((w46.setCell ⟨gb123, 0, none⟩ (.int .i64 t120)).setCell ⟨gb123, 1, none⟩ (.int .i64 t121)).setCell ⟨gb123, 2, none⟩ (.bool false)) gb101 l0 t110 from by repeat (first | (with_reducible first | exact HI101.out | apply IsS25.alloc | apply IsS25.drewN | apply IsS25.drew | apply IsS25.set_1 | refine IsS25.far ?_ NB101_111.out _ | refine IsS25.far ?_ NB101_112.out _ | refine IsS25.far ?_ NB101_116.out _ | refine IsS25.far ?_ NB101_123.out _) | exact HI101.out)) hb | exact IsS25.below (show IsS25 w (World.drewN (((w46.setCell ⟨gb123, 0, none⟩ (.int .i64 t120)).setCell ⟨gb123, 1, none⟩ (.int .i64 t121)).setCell ⟨gb123, 2, none⟩ (.bool false)) _) gb101 l0 t110 from by repeat (first | (with_reducible first | exact HI101.out | apply IsS25.alloc | apply IsS25.drewN | apply IsS25.drew | apply IsS25.set_1 | refine IsS25.far ?_ NB101_111.out _ | refine IsS25.far ?_ NB101_112.out _ | refine IsS25.far ?_ NB101_116.out _ | refine IsS25.far ?_ NB101_123.out _) | exact HI101.out)) hb); have n1_ := Aside0.mk (blk_below (g := gb111) (o := .cells #[.int .i64 t102, .int .i64 t103] 28 (0, 0)) (by exact blk_far (blk_far (blk_far BK111.out NB111_123.out _) NB111_123.out _) NB111_123.out _) hb); have n2_ := Aside0.mk (blk_below (g := gb112) (o := .cells #[.int .i64 t107, .int .i64 t108, .int .i64 t109] 32 (0, 0)) (by exact blk_far (blk_far (blk_far BK112.out NB112_123.out _) NB112_123.out _) NB112_123.out _) hb); have n3_ := Aside0.mk (blk_below (g := gb116) (o := .cells #[.int .i64 t113, .int .i64 t114] 35 (0, 0)) (by exact blk_far (blk_far (blk_far BK116.out NB116_123.out _) NB116_123.out _) NB116_123.out _) hb); have n4_ := Aside0.mk (blk_below (g := gb123) (o := .cells #[.int .i64 t120, .int .i64 t121, .bool false] 41 (0, 0)) (by exact blk_put (blk_put (blk_put BK123.out 0 _ rfl) 1 _ rfl) 2 _ rfl) hb); have n5_ := Aside0.mk (below_step (by repeat (first | (with_reducible first | exact HB.out | apply below_alloc | apply pw_below_drewN | refine below_set ?_ (IsS25.ge HI101.out) | refine below_set ?_ GE111.out | refine below_set ?_ GE112.out | refine below_set ?_ GE116.out | refine below_set ?_ GE123.out) | exact HB.out)) hb); have n6_ := Aside0.mk (hbox); have n7_ := Aside0.mk ((by rw [hg]; exact (below_size (by repeat (first | (with_reducible first | exact HB.out | apply below_alloc | apply pw_below_drewN | refine below_set ?_ (IsS25.ge HI101.out) | refine below_set ?_ GE111.out | refine below_set ?_ GE112.out | refine below_set ?_ GE116.out | refine below_set ?_ GE123.out) | exact HB.out))) : w.heap.size ≤ gb124)); have n8_ := n7_; have n9_ := Aside0.mk ((by rw [hg]; exact Nat.ne_of_lt (blk_lt (g := gb111) (o := .cells #[.int .i64 t102, .int .i64 t103] 28 (0, 0)) (by exact blk_far (blk_far (blk_far BK111.out NB111_123.out _) NB111_123.out _) NB111_123.out _)) : gb111 ≠ gb124)); have n10_ := Aside0.mk ((by rw [hg]; exact Nat.ne_of_gt (blk_lt (g := gb111) (o := .cells #[.int .i64 t102, .int .i64 t103] 28 (0, 0)) (by exact blk_far (blk_far (blk_far BK111.out NB111_123.out _) NB111_123.out _) NB111_123.out _)) : gb124 ≠ gb111)); have n11_ := Aside0.mk ((by rw [hg]; exact Nat.ne_of_lt (blk_lt (g := gb112) (o := .cells #[.int .i64 t107, .int .i64 t108, .int .i64 t109] 32 (0, 0)) (by exact blk_far (blk_far (blk_far BK112.out NB112_123.out _) NB112_123.out _) NB112_123.out _)) : gb112 ≠ gb124)); have n12_ := Aside0.mk ((by rw [hg]; exact Nat.ne_of_gt (blk_lt (g := gb112) (o := .cells #[.int .i64 t107, .int .i64 t108, .int .i64 t109] 32 (0, 0)) (by exact blk_far (blk_far (blk_far BK112.out NB112_123.out _) NB112_123.out _) NB112_123.out _)) : gb124 ≠ gb112)); have n13_ := Aside0.mk ((by rw [hg]; exact Nat.ne_of_lt (blk_lt (g := gb116) (o := .cells #[.int .i64 t113, .int .i64 t114] 35 (0, 0)) (by exact blk_far (blk_far (blk_far BK116.out NB116_123.out _) NB116_123.out _) NB116_123.out _)) : gb116 ≠ gb124)); have n14_ := Aside0.mk ((by rw [hg]; exact Nat.ne_of_gt (blk_lt (g := gb116) (o := .cells #[.int .i64 t113, .int .i64 t114] 35 (0, 0)) (by exact blk_far (blk_far (blk_far BK116.out NB116_123.out _) NB116_123.out _) NB116_123.out _)) : gb124 ≠ gb116)); have n15_ := Aside0.mk ((by rw [hg]; exact Nat.ne_of_lt (blk_lt (g := gb123) (o := .cells #[.int .i64 t120, .int .i64 t121, .bool false] 41 (0, 0)) (by exact blk_put (blk_put (blk_put BK123.out 0 _ rfl) 1 _ rfl) 2 _ rfl)) : gb123 ≠ gb124)); have n16_ := Aside0.mk ((by rw [hg]; exact Nat.ne_of_gt (blk_lt (g := gb123) (o := .cells #[.int .i64 t120, .int .i64 t121, .bool false] 41 (0, 0)) (by exact blk_put (blk_put (blk_put BK123.out 0 _ rfl) 1 _ rfl) 2 _ rfl)) : gb124 ≠ gb123)); have n17_ := Aside0.mk ((by rw [hg]; exact Nat.ne_of_lt (IsS25.lt (show IsS25 w _ gb101 l0 t110 from by repeat (first | (with_reducible first | exact HI101.out | apply IsS25.alloc | apply IsS25.drewN | apply IsS25.drew | apply IsS25.set_1 | refine IsS25.far ?_ NB101_111.out _ | refine IsS25.far ?_ NB101_112.out _ | refine IsS25.far ?_ NB101_116.out _ | refine IsS25.far ?_ NB101_123.out _) | exact HI101.out))) : gb101 ≠ gb124)); have n18_ := Aside0.mk ((by rw [hg]; exact Nat.ne_of_gt (IsS25.lt (show IsS25 w _ gb101 l0 t110 from by repeat (first | (with_reducible first | exact HI101.out | apply IsS25.alloc | apply IsS25.drewN | apply IsS25.drew | apply IsS25.set_1 | refine IsS25.far ?_ NB101_111.out _ | refine IsS25.far ?_ NB101_112.out _ | refine IsS25.far ?_ NB101_116.out _ | refine IsS25.far ?_ NB101_123.out _) | exact HI101.out))) : gb124 ≠ gb101)); clear HI101; clear BK111; clear BK112; clear BK116; clear BK123; clear HB; have HI101 := n0_; have BK111 := n1_; have BK112 := n2_; have BK116 := n3_; have BK123 := n4_; have HB := n5_; have BK124 := n6_; have GW124 := n7_; have GE124 := n8_; have NB111_124 := n9_; have NB124_111 := n10_; have NB112_124 := n11_; have NB124_112 := n12_; have NB116_124 := n13_; have NB124_116 := n14_; have NB123_124 := n15_; have NB124_123 := n16_; have NB101_124 := n17_; have NB124_101 := n18_; clear n0_ n1_ n2_ n3_ n4_ n5_ n6_ n7_ n8_ n9_ n10_ n11_ n12_ n13_ n14_ n15_ n16_ n17_ n18_; clear hb hbox hg; have hnb53 := NB124_111.out; have hnc53 := NB111_124.out; have hnb54 := NB124_112.out; have hnc54 := NB112_124.out; have hnb55 := NB124_116.out; have hnc55 := NB116_124.out; have hnb56 := NB124_123.out; have hnc56 := NB123_124.out; have hnb57 := NB124_101.out; have hnc57 := NB101_124.out; have hcz58_0 := bc_ BK124 0 rfl; have hcz58_1 := bc_ BK124 1 rfl; have hfz58 := blk_frozen BK124.out) | ((with_reducible refine gate_store (t := 28) (p := 10) rfl ?_); refine store_event (t := 28) (p := 10) (v := ?vo_w59) (w1 := ((w52.setCell ⟨gb124, 0, none⟩ (.int .i64 t102)).setCell ⟨gb124, 1, none⟩ (.int .i64 t103))) ?hg ?ho ?hn ?hr ?_; (case ho => rfl); (case hg => rfl); (case hn => rfl); (case hr => first | (go_simp; done) | (go_simp; rfl)); intro w59 hw; have n0_ : Aside0 (w59.heap[gb111]? = some (.cells #[.int .i64 t102, .int .i64 t103] 28 (0, 0))) := ⟨(by rw [hw]; exact (by exact blk_far (blk_far BK111.out NB111_124.out _) NB111_124.out _))⟩; have n1_ : Aside0 (w59.heap[gb112]? = some (.cells #[.int .i64 t107, .int .i64 t108, .int .i64 t109] 32 (0, 0))) := ⟨(by rw [hw]; exact (by exact blk_far (blk_far BK112.out NB112_124.out _) NB112_124.out _))⟩; have n2_ : Aside0 (w59.heap[gb116]? = some (.cells #[.int .i64 t113, .int .i64 t114] 35 (0, 0))) := ⟨(by rw [hw]; exact (by exact blk_far (blk_far BK116.out NB116_124.out _) NB116_124.out _))⟩; have n3_ : Aside0 (w59.heap[gb123]? = some (.cells #[.int .i64 t120, .int .i64 t121, .bool false] 41 (0, 0))) := ⟨(by rw [hw]; exact (by exact blk_far (blk_far BK123.out NB123_124.out _) NB123_124.out _))⟩; have n4_ : Aside0 (w59.heap[gb124]? = some (.cells #[.int .i64 t102, .int .i64 t103] 28 (0, 0))) := ⟨(by rw [hw]; exact (by exact blk_put (blk_put BK124.out 0 _ rfl) 1 _ rfl))⟩; have n5_ : Aside0 (IsS25 w w59 gb101 l0 t110) := ⟨(by rw [hw]; exact (by repeat (first | (with_reducible first | exact HI101.out | apply IsS25.alloc | apply IsS25.drewN | apply IsS25.drew | apply IsS25.set_1 | refine IsS25.far ?_ NB101_111.out _ | refine IsS25.far ?_ NB101_112.out _ | refine IsS25.far ?_ NB101_116.out _ | refine IsS25.far ?_ NB101_123.out _ | refine IsS25.far ?_ NB101_124.out _) | exact HI101.out)))⟩; have n6_ : Aside0 (Below w.heap.size w w59) := ⟨(by rw [hw]; exact (by repeat (first | (with_reducible first | exact HB.out | apply below_alloc | apply pw_below_drewN | refine below_set ?_ (IsS25.ge HI101.out) | refine below_set ?_ GE111.out | refine below_set ?_ GE112.out | refine below_set ?_ GE116.out | refine below_set ?_ GE123.out | refine below_set ?_ GE124.out) | exact HB.out)))⟩; clear hw; clear BK111; clear BK112; clear BK116; clear BK123; clear BK124; clear HI101; clear HB; have BK111 := n0_; have BK112 := n1_; have BK116 := n2_; have BK123 := n3_; have BK124 := n4_; have HI101 := n5_; have HB := n6_; clear n0_ n1_ n2_ n3_ n4_ n5_ n6_; have hcz60_0 := bc_ BK124 0 rfl; have hcz60_1 := bc_ BK124 1 rfl; have hfz60 := blk_frozen BK124.out) | ((with_reducible refine gate_store (t := 26) (p := 36) rfl ?_); refine store_event (t := 26) (p := 36) (v := ?vo_w61) (w1 := (w59.setCell ⟨gb124, 1, none⟩ (.int .i64 0))) ?hg ?ho ?hn ?hr ?_; (case ho => rfl); (case hg => rfl); (case hn => rfl); (case hr => first | (go_simp; done) | (go_simp; rfl)); intro w61 hw; have n0_ : Aside0 (w61.heap[gb111]? = some (.cells #[.int .i64 t102, .int .i64 t103] 28 (0, 0))) := ⟨(by rw [hw]; exact (by exact blk_far BK111.out NB111_124.out _))⟩; have n1_ : Aside0 (w61.heap[gb112]? = some (.cells #[.int .i64 t107, .int .i64 t108, .int .i64 t109] 32 (0, 0))) := ⟨(by rw [hw]; exact (by exact blk_far BK112.out NB112_124.out _))⟩; have n2_ : Aside0 (w61.heap[gb116]? = some (.cells #[.int .i64 t113, .int .i64 t114] 35 (0, 0))) := ⟨(by rw [hw]; exact (by exact blk_far BK116.out NB116_124.out _))⟩; have n3_ : Aside0 (w61.heap[gb123]? = some (.cells #[.int .i64 t120, .int .i64 t121, .bool false] 41 (0, 0))) := ⟨(by rw [hw]; exact (by exact blk_far BK123.out NB123_124.out _))⟩; have n4_ : Aside0 (w61.heap[gb124]? = some (.cells #[.int .i64 t102, .int .i64 0] 28 (0, 0))) := ⟨(by rw [hw]; exact (by exact blk_put BK124.out 1 _ rfl))⟩; have n5_ : Aside0 (IsS25 w w61 gb101 l0 t110) := ⟨(by rw [hw]; exact (by repeat (first | (with_reducible first | exact HI101.out | apply IsS25.alloc | apply IsS25.drewN | apply IsS25.drew | apply IsS25.set_1 | refine IsS25.far ?_ NB101_111.out _ | refine IsS25.far ?_ NB101_112.out _ | refine IsS25.far ?_ NB101_116.out _ | refine IsS25.far ?_ NB101_123.out _ | refine IsS25.far ?_ NB101_124.out _) | exact HI101.out)))⟩; have n6_ : Aside0 (Below w.heap.size w w61) := ⟨(by rw [hw]; exact (by repeat (first | (with_reducible first | exact HB.out | apply below_alloc | apply pw_below_drewN | refine below_set ?_ (IsS25.ge HI101.out) | refine below_set ?_ GE111.out | refine below_set ?_ GE112.out | refine below_set ?_ GE116.out | refine below_set ?_ GE123.out | refine below_set ?_ GE124.out) | exact HB.out)))⟩; clear hw; clear BK111; clear BK112; clear BK116; clear BK123; clear BK124; clear HI101; clear HB; have BK111 := n0_; have BK112 := n1_; have BK116 := n2_; have BK123 := n3_; have BK124 := n4_; have HI101 := n5_; have HB := n6_; clear n0_ n1_ n2_ n3_ n4_ n5_ n6_; have hcz62_0 := bc_ BK124 0 rfl; have hcz62_1 := bc_ BK124 1 rfl; have hfz62 := blk_frozen BK124.out; have hcz63_0 := bc_ BK111 0 rfl; have hcz63_1 := bc_ BK111 1 rfl; have hfz63 := blk_frozen BK111.out; have hnb64 := NB112_123.out; have hnc64 := NB123_112.out; have hcz65_0 := bc_ BK112 0 rfl; have hcz65_1 := bc_ BK112 1 rfl; have hcz65_2 := bc_ BK112 2 rfl; have hfz65 := blk_frozen BK112.out) | ((with_reducible refine gate_callee (f := 7) rfl ?_); refine glq_ (some 44) Try.func7 #[.agg #[.int .i64 t102, .int .i64 0], .int .i64 (wrap64 (t105 + t103)), .agg #[.int .i64 t107, .int .i64 t108, .int .i64 t109]] ?_; (with_reducible refine (horizon_Aim.calls k t102 0 (wrap64 (t105 + t103)) t107 t108 t109 t125 t126 t127 _ A8.out).mono ?_); rintro e w66 ⟨rfl, hb⟩; refine ⟨_, rfl, ?_⟩; have n0_ := Aside0.mk (IsS25.below (by repeat (first | (with_reducible first | exact HI101.out | apply IsS25.alloc | apply IsS25.drewN | apply IsS25.drew | apply IsS25.set_1 | refine IsS25.far ?_ NB101_111.out _ | refine IsS25.far ?_ NB101_112.out _ | refine IsS25.far ?_ NB101_116.out _ | refine IsS25.far ?_ NB101_123.out _ | refine IsS25.far ?_ NB101_124.out _) | exact HI101.out)) hb); have n1_ := bkb_ BK111 hb rfl; have n2_ := bkb_ BK112 hb rfl; have n3_ := bkb_ BK116 hb rfl; have n4_ := bkb_ BK123 hb rfl; have n5_ := bkb_ BK124 hb rfl; have n6_ := Aside0.mk (below_step (by repeat (first | (with_reducible first | exact HB.out | apply below_alloc | apply pw_below_drewN | refine below_set ?_ (IsS25.ge HI101.out) | refine below_set ?_ GE111.out | refine below_set ?_ GE112.out | refine below_set ?_ GE116.out | refine below_set ?_ GE123.out | refine below_set ?_ GE124.out) | exact HB.out)) hb); clear HI101; clear BK111; clear BK112; clear BK116; clear BK123; clear BK124; clear HB; have HI101 := n0_; have BK111 := n1_; have BK112 := n2_; have BK116 := n3_; have BK123 := n4_; have BK124 := n5_; have HB := n6_; clear n0_ n1_ n2_ n3_ n4_ n5_ n6_; (try clear hb)) | ((with_reducible refine gate_dst (N := 11) rfl ?_); refine bxq_ 11 #[.int .i64 0, .int .i64 0] 35 ?_; intro gb128 hg w67 hbox hb; have n0_ := Aside0.mk (IsS25.below (by repeat (first | (with_reducible first | exact HI101.out | apply IsS25.alloc | apply IsS25.drewN | apply IsS25.drew | apply IsS25.set_1 | refine IsS25.far ?_ NB101_111.out _ | refine IsS25.far ?_ NB101_112.out _ | refine IsS25.far ?_ NB101_116.out _ | refine IsS25.far ?_ NB101_123.out _ | refine IsS25.far ?_ NB101_124.out _) | exact HI101.out)) hb); have n1_ := bkb_ BK111 hb rfl; have n2_ := bkb_ BK112 hb rfl; have n3_ := bkb_ BK116 hb rfl; have n4_ := bkb_ BK123 hb rfl; have n5_ := bkb_ BK124 hb rfl; have n6_ := Aside0.mk (below_step (by repeat (first | (with_reducible first | exact HB.out | apply below_alloc | apply pw_below_drewN | refine below_set ?_ (IsS25.ge HI101.out) | refine below_set ?_ GE111.out | refine below_set ?_ GE112.out | refine below_set ?_ GE116.out | refine below_set ?_ GE123.out | refine below_set ?_ GE124.out) | exact HB.out)) hb); have n7_ := Aside0.mk (hbox); have n8_ := Aside0.mk ((by rw [hg]; exact (below_size (by repeat (first | (with_reducible first | exact HB.out | apply below_alloc | apply pw_below_drewN | refine below_set ?_ (IsS25.ge HI101.out) | refine below_set ?_ GE111.out | refine below_set ?_ GE112.out | refine below_set ?_ GE116.out | refine below_set ?_ GE123.out | refine below_set ?_ GE124.out) | exact HB.out))) : w.heap.size ≤ gb128)); have n9_ := n8_; have n10_ := nbl_ BK111 hg rfl; have n11_ := nbg_ BK111 hg rfl; have n12_ := nbl_ BK112 hg rfl; have n13_ := nbg_ BK112 hg rfl; have n14_ := nbl_ BK116 hg rfl; have n15_ := nbg_ BK116 hg rfl; have n16_ := nbl_ BK123 hg rfl; have n17_ := nbg_ BK123 hg rfl; have n18_ := nbl_ BK124 hg rfl; have n19_ := nbg_ BK124 hg rfl; have n20_ := Aside0.mk ((by rw [hg]; exact Nat.ne_of_lt (IsS25.lt (show IsS25 w _ gb101 l0 t110 from by repeat (first | (with_reducible first | exact HI101.out | apply IsS25.alloc | apply IsS25.drewN | apply IsS25.drew | apply IsS25.set_1 | refine IsS25.far ?_ NB101_111.out _ | refine IsS25.far ?_ NB101_112.out _ | refine IsS25.far ?_ NB101_116.out _ | refine IsS25.far ?_ NB101_123.out _ | refine IsS25.far ?_ NB101_124.out _) | exact HI101.out))) : gb101 ≠ gb128)); have n21_ := Aside0.mk ((by rw [hg]; exact Nat.ne_of_gt (IsS25.lt (show IsS25 w _ gb101 l0 t110 from by repeat (first | (with_reducible first | exact HI101.out | apply IsS25.alloc | apply IsS25.drewN | apply IsS25.drew | apply IsS25.set_1 | refine IsS25.far ?_ NB101_111.out _ | refine IsS25.far ?_ NB101_112.out _ | refine IsS25.far ?_ NB101_116.out _ | refine IsS25.far ?_ NB101_123.out _ | refine IsS25.far ?_ NB101_124.out _) | exact HI101.out))) : gb128 ≠ gb101)); clear HI101; clear BK111; clear BK112; clear BK116; clear BK123; clear BK124; clear HB; have HI101 := n0_; have BK111 := n1_; have BK112 := n2_; have BK116 := n3_; have BK123 := n4_; have BK124 := n5_; have HB := n6_; have BK128 := n7_; have GW128 := n8_; have GE128 := n9_; have NB111_128 := n10_; have NB128_111 := n11_; have NB112_128 := n12_; have NB128_112 := n13_; have NB116_128 := n14_; have NB128_116 := n15_; have NB123_128 := n16_; have NB128_123 := n17_; have NB124_128 := n18_; have NB128_124 := n19_; have NB101_128 := n20_; have NB128_101 := n21_; clear n0_ n1_ n2_ n3_ n4_ n5_ n6_ n7_ n8_ n9_ n10_ n11_ n12_ n13_ n14_ n15_ n16_ n17_ n18_ n19_ n20_ n21_; clear hb hbox hg; have hnb68 := NB128_111.out; have hnc68 := NB111_128.out; have hnb69 := NB128_112.out; have hnc69 := NB112_128.out; have hnb70 := NB128_116.out; have hnc70 := NB116_128.out; have hnb71 := NB128_123.out; have hnc71 := NB123_128.out; have hnb72 := NB128_124.out; have hnc72 := NB124_128.out; have hnb73 := NB128_101.out; have hnc73 := NB101_128.out; have hcz74_0 := bc_ BK128 0 rfl; have hcz74_1 := bc_ BK128 1 rfl; have hfz74 := blk_frozen BK128.out) | ((with_reducible refine gate_store (t := 35) (p := 11) rfl ?_); refine store_event (t := 35) (p := 11) (v := ?vo_w75) (w1 := ((w67.setCell ⟨gb128, 0, none⟩ (.int .i64 t125)).setCell ⟨gb128, 1, none⟩ (.int .i64 t126))) ?hg ?ho ?hn ?hr ?_; (case ho => rfl); (case hg => rfl); (case hn => rfl); (case hr => first | (go_simp; done) | (go_simp; rfl)); intro w75 hw; have n0_ : Aside0 (w75.heap[gb111]? = some (.cells #[.int .i64 t102, .int .i64 t103] 28 (0, 0))) := ⟨(by rw [hw]; exact (by exact blk_far (blk_far BK111.out NB111_128.out _) NB111_128.out _))⟩; have n1_ : Aside0 (w75.heap[gb112]? = some (.cells #[.int .i64 t107, .int .i64 t108, .int .i64 t109] 32 (0, 0))) := ⟨(by rw [hw]; exact (by exact blk_far (blk_far BK112.out NB112_128.out _) NB112_128.out _))⟩; have n2_ : Aside0 (w75.heap[gb116]? = some (.cells #[.int .i64 t113, .int .i64 t114] 35 (0, 0))) := ⟨(by rw [hw]; exact (by exact blk_far (blk_far BK116.out NB116_128.out _) NB116_128.out _))⟩; have n3_ : Aside0 (w75.heap[gb123]? = some (.cells #[.int .i64 t120, .int .i64 t121, .bool false] 41 (0, 0))) := ⟨(by rw [hw]; exact (by exact blk_far (blk_far BK123.out NB123_128.out _) NB123_128.out _))⟩; have n4_ : Aside0 (w75.heap[gb124]? = some (.cells #[.int .i64 t102, .int .i64 0] 28 (0, 0))) := ⟨(by rw [hw]; exact (by exact blk_far (blk_far BK124.out NB124_128.out _) NB124_128.out _))⟩; have n5_ : Aside0 (w75.heap[gb128]? = some (.cells #[.int .i64 t125, .int .i64 t126] 35 (0, 0))) := ⟨(by rw [hw]; exact (by exact blk_put (blk_put BK128.out 0 _ rfl) 1 _ rfl))⟩; have n6_ : Aside0 (IsS25 w w75 gb101 l0 t110) := ⟨(by rw [hw]; exact (by repeat (first | (with_reducible first | exact HI101.out | apply IsS25.alloc | apply IsS25.drewN | apply IsS25.drew | apply IsS25.set_1 | refine IsS25.far ?_ NB101_111.out _ | refine IsS25.far ?_ NB101_112.out _ | refine IsS25.far ?_ NB101_116.out _ | refine IsS25.far ?_ NB101_123.out _ | refine IsS25.far ?_ NB101_124.out _ | refine IsS25.far ?_ NB101_128.out _) | exact HI101.out)))⟩; have n7_ : Aside0 (Below w.heap.size w w75) := ⟨(by rw [hw]; exact (by repeat (first | (with_reducible first | exact HB.out | apply below_alloc | apply pw_below_drewN | refine below_set ?_ (IsS25.ge HI101.out) | refine below_set ?_ GE111.out | refine below_set ?_ GE112.out | refine below_set ?_ GE116.out | refine below_set ?_ GE123.out | refine below_set ?_ GE124.out | refine below_set ?_ GE128.out) | exact HB.out)))⟩; clear hw; clear BK111; clear BK112; clear BK116; clear BK123; clear BK124; clear BK128; clear HI101; clear HB; have BK111 := n0_; have BK112 := n1_; have BK116 := n2_; have BK123 := n3_; have BK124 := n4_; have BK128 := n5_; have HI101 := n6_; have HB := n7_; clear n0_ n1_ n2_ n3_ n4_ n5_ n6_ n7_; have hnb76 := NB116_123.out; have hnc76 := NB123_116.out; have hcz77_0 := bc_ BK116 0 rfl; have hcz77_1 := bc_ BK116 1 rfl; have hfz77 := blk_frozen BK116.out) | ((with_reducible refine gate_callee (f := 10) rfl ?_); refine glq_ (some 49) Try.func10 #[.int .i64 t114] ?_; (with_reducible refine (trig_Sin.calls k t114 t129 _ A9.out).mono ?_); rintro e w78 ⟨rfl, hb⟩; refine ⟨_, rfl, ?_⟩; have n0_ := Aside0.mk (IsS25.below (by repeat (first | (with_reducible first | exact HI101.out | apply IsS25.alloc | apply IsS25.drewN | apply IsS25.drew | apply IsS25.set_1 | refine IsS25.far ?_ NB101_111.out _ | refine IsS25.far ?_ NB101_112.out _ | refine IsS25.far ?_ NB101_116.out _ | refine IsS25.far ?_ NB101_123.out _ | refine IsS25.far ?_ NB101_124.out _ | refine IsS25.far ?_ NB101_128.out _) | exact HI101.out)) hb); have n1_ := bkb_ BK111 hb rfl; have n2_ := bkb_ BK112 hb rfl; have n3_ := bkb_ BK116 hb rfl; have n4_ := bkb_ BK123 hb rfl; have n5_ := bkb_ BK124 hb rfl; have n6_ := bkb_ BK128 hb rfl; have n7_ := Aside0.mk (below_step (by repeat (first | (with_reducible first | exact HB.out | apply below_alloc | apply pw_below_drewN | refine below_set ?_ (IsS25.ge HI101.out) | refine below_set ?_ GE111.out | refine below_set ?_ GE112.out | refine below_set ?_ GE116.out | refine below_set ?_ GE123.out | refine below_set ?_ GE124.out | refine below_set ?_ GE128.out) | exact HB.out)) hb); clear HI101; clear BK111; clear BK112; clear BK116; clear BK123; clear BK124; clear BK128; clear HB; have HI101 := n0_; have BK111 := n1_; have BK112 := n2_; have BK116 := n3_; have BK123 := n4_; have BK124 := n5_; have BK128 := n6_; have HB := n7_; clear n0_ n1_ n2_ n3_ n4_ n5_ n6_ n7_; (try clear hb)))
  replace BK111 := Aside0.mk (blk_drew BK111.out)
  replace BK112 := Aside0.mk (blk_drew BK112.out)
  replace BK116 := Aside0.mk (blk_drew BK116.out)
  replace BK123 := Aside0.mk (blk_drew BK123.out)
  replace BK124 := Aside0.mk (blk_drew BK124.out)
  replace BK128 := Aside0.mk (blk_drew BK128.out)
  replace HI101 := Aside0.mk (IsS25.drew HI101.out)
  replace HB := Aside0.mk (below_drew1 HB.out)
  refine start_ (n := 46) (S := fun w' => w'.cell? ⟨gb116, 0, none⟩ = some (.int .i64 t113) ∧ w'.cell? ⟨gb116, 1, none⟩ = some (.int .i64 t114) ∧ w'.cell? ⟨gb128, 0, none⟩ = some (.int .i64 t125) ∧ w'.cell? ⟨gb128, 1, none⟩ = some (.int .i64 t126) ∧ w'.cell? ⟨gb123, 0, none⟩ = some (.int .i64 t120) ∧ w'.cell? ⟨gb123, 1, none⟩ = some (.int .i64 t121) ∧ w'.cell? ⟨gb123, 2, none⟩ = some (.bool false) ∧ w'.cell? ⟨gb124, 0, none⟩ = some (.int .i64 t102) ∧ w'.cell? ⟨gb124, 1, none⟩ = some (.int .i64 0) ∧ w'.cell? ⟨gb111, 0, none⟩ = some (.int .i64 t102) ∧ w'.cell? ⟨gb111, 1, none⟩ = some (.int .i64 t103) ∧ w'.cell? ⟨gb112, 0, none⟩ = some (.int .i64 t107) ∧ w'.cell? ⟨gb112, 1, none⟩ = some (.int .i64 t108) ∧ w'.cell? ⟨gb112, 2, none⟩ = some (.int .i64 t109)) (ds := []) (bm_ [0, 46]) (by kernel_rfl) rfl rfl ⟨bc_ BK116 0 rfl, bc_ BK116 1 rfl, bc_ BK128 0 rfl, bc_ BK128 1 rfl, bc_ BK123 0 rfl, bc_ BK123 1 rfl, bc_ BK123 2 rfl, bc_ BK124 0 rfl, bc_ BK124 1 rfl, bc_ BK111 0 rfl, bc_ BK111 1 rfl, bc_ BK112 0 rfl, bc_ BK112 1 rfl, bc_ BK112 2 rfl⟩ (fun hHeld => ?_); refine with_tabW spykeep1_HorizonAimed.tab9 spykeep1_HorizonAimed.bits9 (fun HT_ HW_ => ?_)
  generalize w78.drew = w79 at BK111 BK112 BK116 BK123 BK124 BK128 HI101 HB hHeld ⊢
  refine oq_ 0 (some 50) (bm_ [1, 45]) HT_ (fun K hK => ?_)
  refine gq_ Try.func11 #[] ?_
  with_reducible refine (spykeep1_horizonFact.calls k  true _ A10.out).mono ?_
  rintro e w80 ⟨rfl, hb⟩
  refine ⟨_, rfl, ?_⟩
  replace HI101 := Aside0.mk (IsS25.below (by exact HI101.out) hb)
  replace BK111 := bkb_ BK111 hb rfl
  replace BK112 := bkb_ BK112 hb rfl
  replace BK116 := bkb_ BK116 hb rfl
  replace BK123 := bkb_ BK123 hb rfl
  replace BK124 := bkb_ BK124 hb rfl
  replace BK128 := bkb_ BK128 hb rfl
  replace HB := Aside0.mk (below_step (by exact HB.out) hb)
  (try clear hb)
  refine hK.out _ _ ⟨bc_ BK116 0 rfl, bc_ BK116 1 rfl, bc_ BK128 0 rfl, bc_ BK128 1 rfl, bc_ BK123 0 rfl, bc_ BK123 1 rfl, bc_ BK123 2 rfl, bc_ BK124 0 rfl, bc_ BK124 1 rfl, bc_ BK111 0 rfl, bc_ BK111 1 rfl, bc_ BK112 0 rfl, bc_ BK112 1 rfl, bc_ BK112 2 rfl⟩ (fun hHeld => ?_)
  clear hK K
  refine nq_ 50 ?_
  refine pq_ 1 51 (bm_ [2, 44]) HT_ ?_
  refine pq_ 2 52 (bm_ [3, 43]) HT_ ?_
  refine pq_ 3 53 (bm_ [4, 42]) HT_ ?_
  refine pq_ 4 54 (bm_ [5, 41]) HT_ ?_
  refine pq_ 5 55 (bm_ [6, 40]) HT_ ?_
  refine pq_ 6 56 (bm_ [7, 39]) HT_ ?_
  refine pq_ 7 57 (bm_ [8, 38]) HT_ ?_
  refine pq_ 8 58 (bm_ [9, 37]) HT_ ?_
  refine pq_ 9 59 (bm_ [10, 36]) HT_ ?_
  refine tq_ 10 60 (bm_ [11, 35]) HT_ HW_ hHeld ?_
  refine tq_ 11 61 (bm_ [12, 34]) HT_ HW_ hHeld ?_
  refine pq_ 12 62 (bm_ [13, 33]) HT_ ?_
  refine pq_ 13 63 (bm_ [14, 32]) HT_ ?_
  refine pq_ 14 64 (bm_ [15, 31]) HT_ ?_
  refine pq_ 15 65 (bm_ [16, 30]) HT_ ?_
  refine tq_ 16 66 (bm_ [17, 29]) HT_ HW_ hHeld ?_
  refine pq_ 17 67 (bm_ [18, 28]) HT_ ?_
  refine pq_ 18 68 (bm_ [19, 27]) HT_ ?_
  refine pq_ 19 69 (bm_ [20, 26]) HT_ ?_
  refine pq_ 20 70 (bm_ [21, 25]) HT_ ?_
  refine pq_ 21 71 (bm_ [22, 24]) HT_ ?_
  refine tq_ 22 72 (bm_ [23, 23]) HT_ HW_ hHeld ?_
  refine pq_ 23 73 (bm_ [24, 22]) HT_ ?_
  refine pq_ 24 74 (bm_ [25, 21]) HT_ ?_
  refine pq_ 25 75 (bm_ [26, 20]) HT_ ?_
  refine pq_ 26 76 (bm_ [27, 19]) HT_ ?_
  refine pq_ 27 77 (bm_ [28, 18]) HT_ ?_
  refine pq_ 28 78 (bm_ [29, 17]) HT_ ?_
  refine tq_ 29 79 (bm_ [30, 16]) HT_ HW_ hHeld ?_
  refine pq_ 30 80 (bm_ [31, 15]) HT_ ?_
  refine pq_ 31 81 (bm_ [32, 14]) HT_ ?_
  refine pq_ 32 82 (bm_ [33, 13]) HT_ ?_
  refine pq_ 33 83 (bm_ [34, 12]) HT_ ?_
  refine pq_ 36 86 (bm_ [34, 2, 1, 9]) HT_ ?_
  refine pq_ 37 87 (bm_ [34, 2, 2, 8]) HT_ ?_
  refine tq_ 34 84 (bm_ [35, 1, 2, 8]) HT_ HW_ hHeld ?_
  refine tq_ 35 85 (bm_ [38, 8]) HT_ HW_ hHeld ?_
  refine tq_ 38 88 (bm_ [39, 7]) HT_ HW_ hHeld ?_
  refine pq_ 39 89 (bm_ [40, 6]) HT_ ?_
  refine tq_ 41 91 (bm_ [40, 1, 1, 4]) HT_ HW_ hHeld ?_
  refine oq_ 40 (some 90) (bm_ [42, 4]) HT_ (fun K hK => ?_)
  refine gq_ Try.func9 #[.int .i64 (wrap64 (t105 + t103))] ?_
  with_reducible refine (bound_Exact_api_Arc.calls k (wrap64 (t105 + t103)) t131 t132 t133 _ A18.out).mono ?_
  rintro e w81 ⟨rfl, hb⟩
  refine ⟨_, rfl, ?_⟩
  replace HI101 := Aside0.mk (IsS25.below (by exact HI101.out) hb)
  replace BK111 := bkb_ BK111 hb rfl
  replace BK112 := bkb_ BK112 hb rfl
  replace BK116 := bkb_ BK116 hb rfl
  replace BK123 := bkb_ BK123 hb rfl
  replace BK124 := bkb_ BK124 hb rfl
  replace BK128 := bkb_ BK128 hb rfl
  replace HB := Aside0.mk (below_step (by exact HB.out) hb)
  (try clear hb)
  refine hK.out _ _ ⟨bc_ BK116 0 rfl, bc_ BK116 1 rfl, bc_ BK128 0 rfl, bc_ BK128 1 rfl, bc_ BK123 0 rfl, bc_ BK123 1 rfl, bc_ BK123 2 rfl, bc_ BK124 0 rfl, bc_ BK124 1 rfl, bc_ BK111 0 rfl, bc_ BK111 1 rfl, bc_ BK112 0 rfl, bc_ BK112 1 rfl, bc_ BK112 2 rfl⟩ (fun hHeld => ?_)
  clear hK K
  refine nq_ 90 ?_
  refine oq_ 42 (some 92) (bm_ [43, 3]) HT_ (fun K hK => ?_)
  refine gq_ Try.func8 #[.agg #[.int .i64 t102, .int .i64 0], .agg #[.int .i64 t131, .int .i64 t132, .bool t133], .agg #[.int .i64 t107, .int .i64 t108, .int .i64 t109]] ?_
  with_reducible refine (horizon_Height.calls k t102 0 t131 t132 t133 t107 t108 t109 t134 t135 t136 _ A19.out).mono ?_
  rintro e w82 ⟨rfl, hb⟩
  refine ⟨_, rfl, ?_⟩
  replace HI101 := Aside0.mk (IsS25.below (by exact HI101.out) hb)
  replace BK111 := bkb_ BK111 hb rfl
  replace BK112 := bkb_ BK112 hb rfl
  replace BK116 := bkb_ BK116 hb rfl
  replace BK123 := bkb_ BK123 hb rfl
  replace BK124 := bkb_ BK124 hb rfl
  replace BK128 := bkb_ BK128 hb rfl
  replace HB := Aside0.mk (below_step (by exact HB.out) hb)
  (try clear hb)
  refine hK.out _ _ ⟨bc_ BK116 0 rfl, bc_ BK116 1 rfl, bc_ BK128 0 rfl, bc_ BK128 1 rfl, bc_ BK123 0 rfl, bc_ BK123 1 rfl, bc_ BK123 2 rfl, bc_ BK124 0 rfl, bc_ BK124 1 rfl, bc_ BK111 0 rfl, bc_ BK111 1 rfl, bc_ BK112 0 rfl, bc_ BK112 1 rfl, bc_ BK112 2 rfl⟩ (fun hHeld => ?_)
  clear hK K
  refine nq_ 92 ?_
  refine pq_ 43 93 (bm_ [44, 2]) HT_ ?_
  refine pq_ 44 94 (bm_ [45, 1]) HT_ ?_
  refine pq_ 45 2 (bm_ [46]) HT_ ?_
  refine done_ (done_of HT_.out (by kernel_rfl)) ?_
  try go_wp2
  go_ret
  exact ⟨by first | rfl | (simp [errW_none, errW_some] <;> rfl), by repeat (first | (with_reducible first | exact HB.out | apply below_alloc | apply pw_below_drewN | refine below_set ?_ (IsS25.ge HI101.out) | refine below_set ?_ GE111.out | refine below_set ?_ GE112.out | refine below_set ?_ GE116.out | refine below_set ?_ GE123.out | refine below_set ?_ GE124.out | refine below_set ?_ GE128.out) | exact HB.out)⟩
/-- THE ONE PURE STATEMENT of spykeep1_HorizonAimed: yours. -/
def spykeep1_HorizonAimed.Pure : Prop := ∀ (l0 : List Int), l0.length ≤ maxLen → l0.length * 8 ≤ 140737488351232 → (∀ x ∈ l0, (Lit.int .i64 x).wf = true) → ∃ k, spykeep1_HorizonAimed.f k l0 = some true
theorem spykeep1_HorizonAimed.walk (P : spykeep1_HorizonAimed.Pure) (a0 : Option Addr) (len0 cap0 : Nat) (z0 : List Int) (w : World) (w0 : (a0 = none ∧ len0 = 0 ∧ cap0 = 0 ∧ z0 = []) ∨ ∃ x, a0 = some x ∧ len0 ≤ cap0 ∧ cap0 ≤ maxLen ∧ z0.length = cap0 ∧ (∀ i, i < z0.length → w.cell? (x.add i) = some (.int .i64 (z0.getD i 0))) ∧ ∀ n ∈ z0, (Lit.int .i64 n).wf = true) (y0 : len0 * 8 ≤ 140737488351232) :
 Calls Try.prog 3 #[.slice a0 len0 cap0] w fun e w' => e = .returned (.bool true) ∧ Below w.heap.size w w' := by
 obtain ⟨l0, rfl, hr0, hm0, hw0, hc0⟩ := ReadsInt.ofRowC w0
 obtain ⟨k, h⟩ := P l0 hm0 y0 hw0
 refine (spykeep1_HorizonAimed.calls k _ _ l0 true w (Kd.C_of_reads (d := (0 : Int)) (h1 := fun _ => rfl) hr0) hc0 h).mono ?_
 rintro e w' ⟨rfl, hd⟩
 exact ⟨rfl, hd⟩

end Go.Proofs.Ytjgikgbolacikaa.Q
