/- Contracts, as in the first text; no condition. -/
import Derived.Test.YtjgikgbolacikaaKHorizonAimedQx0
import Derived.Test.YtjgikgbolacikaaKHorizonAimedQx16
import Derived.Test.YtjgikgbolacikaaKHorizonAimedQx19
import Derived.Test.YtjgikgbolacikaaKHorizonAimedQx28
import Derived.Test.YtjgikgbolacikaaKHorizonAimedQx29
namespace Go.Proofs.Ytjgikgbolacikaa.Q
open Go.RowKit Go.Proofs.YtjgikgbolacikaaW.PrintWords Go.Proofs.YtjgikgbolacikaaW.PrintLast Go.Proofs.YtjgikgbolacikaaW.PrintMore
attribute [local go_sem] max2_int min2_int max_two min_two max_three min_three max_four min_four
set_option linter.unusedVariables false
set_option linter.unusedSimpArgs false

mutual
def bound_corners_api_Fix__bound_Div_api_Fix_1_bound_Div_api_Fix_2.l0 : Nat → List Int → List Int → Int → Int → List Int → List Int → Int → Int → Bool → Option (Int × Int × Bool)
 | 0, _, _, _, _, _, _, _, _, _ => none
 | k + 1, x9, x22, x23, x24, x920, x930, x103000, x103001, x103002 => if x24 < x23 then (if 0 ≤ x24 then (if x24 < (x22.length : Int) then ((some (([x103000, x103001] : List Int) : List Int)).bind fun y113 => (bound_corners_api_Fix__bound_Div_api_Fix_1_bound_Div_api_Fix_2.l1 k x9 (rd x22 x24) x22 x23 x24 y113 (y113.length : Int) 0 x920 x930 x103000 x103001 x103002)) else (none)) else (none)) else ((slices_Min_api_Fix_api_Fix.f k x9).bind fun t107 => ((slices_Max_api_Fix_api_Fix.f k x9).bind fun t108 => ((bound_Of_api_Fix.f k t107 t108).bind fun bt109 => (some (bt109.1, bt109.2.1, bt109.2.2)))))
def bound_corners_api_Fix__bound_Div_api_Fix_1_bound_Div_api_Fix_2.l1 : Nat → List Int → Int → List Int → Int → Int → List Int → Int → Int → List Int → List Int → Int → Int → Bool → Option (Int × Int × Bool)
 | 0, _, _, _, _, _, _, _, _, _, _, _, _, _ => none
 | k + 1, x9, x11, x22, x23, x24, x32, x33, x34, x920, x930, x103000, x103001, x103002 => if x34 < x33 then (if 0 ≤ x34 then (if x34 < (x32.length : Int) then ((bound_Div_api_Fix_1.f k x11 (rd x32 x34) x920).bind fun bt117 => ((bound_Div_api_Fix_2.f k x11 (rd x32 x34) x930).bind fun bt119 => (if bt117.2 = 0 then (if bt119.2 = 0 then ((some (([bt117.1, bt119.1] : List Int) : List Int)).bind fun y121 => (if x9.length + y121.length < 17592186044416 then (bound_corners_api_Fix__bound_Div_api_Fix_1_bound_Div_api_Fix_2.l1 k (x9 ++ y121) x11 x22 x23 x24 x32 x33 (wrap64 (x34 + 1)) x920 x930 x103000 x103001 x103002) else (none))) else ((bound_None_api_Fix.f).bind fun bt127 => (some (bt127.1, bt127.2.1, bt127.2.2)))) else ((bound_None_api_Fix.f).bind fun bt130 => (some (bt130.1, bt130.2.1, bt130.2.2)))))) else (none)) else (none)) else (bound_corners_api_Fix__bound_Div_api_Fix_1_bound_Div_api_Fix_2.l0 k x9 x22 x23 (wrap64 (x24 + 1)) x920 x930 x103000 x103001 x103002)
end
def bound_corners_api_Fix__bound_Div_api_Fix_1_bound_Div_api_Fix_2.f (k : Nat) (a0_0 : Int) (a0_1 : Int) (a0_2 : Bool) (a1_0 : Int) (a1_1 : Int) (a1_2 : Bool) (l2_0 : List Int) (l3_0 : List Int) : Option (Int × Int × Bool) := (some (([a0_0, a0_1] : List Int) : List Int)).bind fun y104 => (bound_corners_api_Fix__bound_Div_api_Fix_1_bound_Div_api_Fix_2.l0 k ([] : List Int) y104 (y104.length : Int) 0 l2_0 l3_0 a1_0 a1_1 a1_2)
theorem bound_corners_api_Fix__bound_Div_api_Fix_1_bound_Div_api_Fix_2.mono_l : ∀ k, (∀ y0 y1 y2 y3 y4 y5 y6 y7 y8, LeO (bound_corners_api_Fix__bound_Div_api_Fix_1_bound_Div_api_Fix_2.l0 k y0 y1 y2 y3 y4 y5 y6 y7 y8) (bound_corners_api_Fix__bound_Div_api_Fix_1_bound_Div_api_Fix_2.l0 (k + 1) y0 y1 y2 y3 y4 y5 y6 y7 y8)) ∧ (∀ y0 y1 y2 y3 y4 y5 y6 y7 y8 y9 y10 y11 y12, LeO (bound_corners_api_Fix__bound_Div_api_Fix_1_bound_Div_api_Fix_2.l1 k y0 y1 y2 y3 y4 y5 y6 y7 y8 y9 y10 y11 y12) (bound_corners_api_Fix__bound_Div_api_Fix_1_bound_Div_api_Fix_2.l1 (k + 1) y0 y1 y2 y3 y4 y5 y6 y7 y8 y9 y10 y11 y12))
 | 0 => ⟨fun _ _ _ _ _ _ _ _ _ r h => by simp [bound_corners_api_Fix__bound_Div_api_Fix_1_bound_Div_api_Fix_2.l0] at h, fun _ _ _ _ _ _ _ _ _ _ _ _ _ r h => by simp [bound_corners_api_Fix__bound_Div_api_Fix_1_bound_Div_api_Fix_2.l1] at h⟩
 | k + 1 => by
  obtain ⟨ih0, ih1⟩ := bound_corners_api_Fix__bound_Div_api_Fix_1_bound_Div_api_Fix_2.mono_l k
  refine ⟨?_, ?_⟩
  · intro y0 y1 y2 y3 y4 y5 y6 y7 y8
    unfold bound_corners_api_Fix__bound_Div_api_Fix_1_bound_Div_api_Fix_2.l0
    repeat' first
    | (with_reducible exact ih0 _ _ _ _ _ _ _ _ _)
    | (with_reducible exact ih1 _ _ _ _ _ _ _ _ _ _ _ _ _)
    | (with_reducible exact bound_Div_api_Fix_1.mono _ _ _ _)
    | (with_reducible exact bound_Div_api_Fix_2.mono _ _ _ _)
    | (with_reducible exact bound_Of_api_Fix.mono _ _ _)
    | (with_reducible exact slices_Max_api_Fix_api_Fix.mono _ _)
    | (with_reducible exact slices_Min_api_Fix_api_Fix.mono _ _)
    | (with_reducible exact LeO.refl _)
    | (with_reducible exact LeO.none _)
    | (with_reducible refine LeO.ite ?_ ?_)
    | (with_reducible refine LeO.bind ?_ (fun _ => ?_))
  · intro y0 y1 y2 y3 y4 y5 y6 y7 y8 y9 y10 y11 y12
    unfold bound_corners_api_Fix__bound_Div_api_Fix_1_bound_Div_api_Fix_2.l1
    repeat' first
    | (with_reducible exact ih0 _ _ _ _ _ _ _ _ _)
    | (with_reducible exact ih1 _ _ _ _ _ _ _ _ _ _ _ _ _)
    | (with_reducible exact bound_Div_api_Fix_1.mono _ _ _ _)
    | (with_reducible exact bound_Div_api_Fix_2.mono _ _ _ _)
    | (with_reducible exact bound_Of_api_Fix.mono _ _ _)
    | (with_reducible exact slices_Max_api_Fix_api_Fix.mono _ _)
    | (with_reducible exact slices_Min_api_Fix_api_Fix.mono _ _)
    | (with_reducible exact LeO.refl _)
    | (with_reducible exact LeO.none _)
    | (with_reducible refine LeO.ite ?_ ?_)
    | (with_reducible refine LeO.bind ?_ (fun _ => ?_))
theorem bound_corners_api_Fix__bound_Div_api_Fix_1_bound_Div_api_Fix_2.mono : ∀ a0 a1 a2 a3 a4 a5 a6 a7 k, LeO (bound_corners_api_Fix__bound_Div_api_Fix_1_bound_Div_api_Fix_2.f k a0 a1 a2 a3 a4 a5 a6 a7) (bound_corners_api_Fix__bound_Div_api_Fix_1_bound_Div_api_Fix_2.f (k + 1) a0 a1 a2 a3 a4 a5 a6 a7) := by
 intro a0 a1 a2 a3 a4 a5 a6 a7 k
 obtain ⟨ih0, ih1⟩ := bound_corners_api_Fix__bound_Div_api_Fix_1_bound_Div_api_Fix_2.mono_l k
 unfold bound_corners_api_Fix__bound_Div_api_Fix_1_bound_Div_api_Fix_2.f
 repeat' first
  | (with_reducible exact ih0 _ _ _ _ _ _ _ _ _)
  | (with_reducible exact ih1 _ _ _ _ _ _ _ _ _ _ _ _ _)
  | (with_reducible exact bound_Div_api_Fix_1.mono _ _ _ _)
  | (with_reducible exact bound_Div_api_Fix_2.mono _ _ _ _)
  | (with_reducible exact bound_Of_api_Fix.mono _ _ _)
  | (with_reducible exact slices_Max_api_Fix_api_Fix.mono _ _)
  | (with_reducible exact slices_Min_api_Fix_api_Fix.mono _ _)
  | (with_reducible exact LeO.refl _)
  | (with_reducible exact LeO.none _)
  | (with_reducible refine LeO.ite ?_ ?_)
  | (with_reducible refine LeO.bind ?_ (fun _ => ?_))
set_option maxHeartbeats 8000000 in
set_option maxRecDepth 100000 in
theorem bound_corners_api_Fix__bound_Div_api_Fix_1_bound_Div_api_Fix_2.calls (k : Nat) (a0_0 : Int) (a0_1 : Int) (a0_2 : Bool) (a1_0 : Int) (a1_1 : Int) (a1_2 : Bool) (A2_0 : Option Addr) (c2_0 : Nat) (l2_0 : List Int) (A3_0 : Option Addr) (c3_0 : Nat) (l3_0 : List Int) (r1 : Int) (r2 : Int) (r3 : Bool) (w : World) (hr2_0 : Kd.C (Kd.int .i64) w A2_0 l2_0.length l2_0) (hc2_0 : l2_0.length ≤ c2_0) (hr3_0 : Kd.C (Kd.int .i64) w A3_0 l3_0.length l3_0) (hc3_0 : l3_0.length ≤ c3_0) (h : bound_corners_api_Fix__bound_Div_api_Fix_1_bound_Div_api_Fix_2.f k a0_0 a0_1 a0_2 a1_0 a1_1 a1_2 l2_0 l3_0 = some (r1, r2, r3)) :
 Calls Try.prog 45 #[.agg #[.int .i64 a0_0, .int .i64 a0_1, .bool a0_2], .agg #[.int .i64 a1_0, .int .i64 a1_1, .bool a1_2], .func (.func 53) #[] #[.pointer A2_0], .func (.func 54) #[] #[.pointer A3_0]] w fun e w' => e = .returned (.agg #[.int .i64 r1, .int .i64 r2, .bool r3]) ∧ Below w.heap.size w w' := by
  have hu41 := Try.underlying41
  have HR2_0 := Aside0.mk hr2_0
  have HC2_0 := Aside0.mk hc2_0
  clear hr2_0 hc2_0
  have HR3_0 := Aside0.mk hr3_0
  have HC3_0 := Aside0.mk hc3_0
  clear hr3_0 hc3_0
  have HB := Aside0.mk (Below.refl w.heap.size w)
  have H : ((some (([a0_0, a0_1] : List Int) : List Int)).bind fun y104 => (bound_corners_api_Fix__bound_Div_api_Fix_1_bound_Div_api_Fix_2.l0 k ([] : List Int) y104 (y104.length : Int) 0 l2_0 l3_0 a1_0 a1_1 a1_2)) = some (r1, r2, r3) := h
  clear h
  obtain ⟨y104, hy104⟩ : ∃ y_ : List Int, y_ = (([a0_0, a0_1] : List Int)) := ⟨_, rfl⟩
  replace H : (bound_corners_api_Fix__bound_Div_api_Fix_1_bound_Div_api_Fix_2.l0 k ([] : List Int) y104 (y104.length : Int) 0 l2_0 l3_0 a1_0 a1_1 a1_2) = some (r1, r2, r3) := by first | (rw [hy104]; with_reducible exact H) | (have H2_ := (Option.bind_some _ _).symm.trans H; rw [hy104]; with_reducible exact H2_) | (have H2_ := (Option.bind_some _ _).symm.trans H; with_reducible exact H2_) | with_reducible exact H | (rw [hy104]; exact H) | exact H
  have Ny104 := Aside0.mk hy104
  clear hy104
  have H' := Aside0.mk H
  clear H
  go_enter Try.func45, Try.ntmps45
  go_wp2_with (first | ((with_reducible refine gate_dst (N := 4) rfl ?_); refine bxq_ 4 #[.int .i64 a0_0, .int .i64 a0_1, .bool a0_2] 41 ?_; intro gb101 hg w5 hbox hb; have BK101 := Aside0.mk (hbox); have GW101 := gwq_ HB hg rfl; have GE101 := GW101; replace HB := hbs_ HB hb rfl rfl rfl rfl; clear hb hbox hg) | ((with_reducible refine gate_dst (N := 5) rfl ?_); refine bxq_ 5 #[.int .i64 a1_0, .int .i64 a1_1, .bool a1_2] 41 ?_; intro gb102 hg w6 hbox hb; have BK102 := Aside0.mk (hbox); have GW102 := gwq_ HB hg rfl; have GE102 := GW102; have NB101_102 := nbl_ BK101 hg rfl; have NB102_101 := nbg_ BK101 hg rfl; replace BK101 := bkb_ BK101 hb rfl; replace HB := hbs_ HB hb rfl rfl rfl rfl; clear hb hbox hg) | ((with_reducible refine gate_dst (N := 8) rfl ?_); refine bxq_ 8 #[.int .i64 0, .int .i64 0, .bool false] 41 ?_; intro gb103 hg w7 hbox hb; have BK103 := Aside0.mk (hbox); have GW103 := gwq_ HB hg rfl; have GE103 := GW103; have NB101_103 := nbl_ BK101 hg rfl; have NB103_101 := nbg_ BK101 hg rfl; have NB102_103 := nbl_ BK102 hg rfl; have NB103_102 := nbg_ BK102 hg rfl; replace BK101 := bkb_ BK101 hb rfl; replace BK102 := bkb_ BK102 hb rfl; replace HB := hbs_ HB hb rfl rfl rfl rfl; clear hb hbox hg; have hnb8 := NB101_102.out; have hnc8 := NB102_101.out; have hnb9 := NB101_103.out; have hnc9 := NB103_101.out; have hcz10_0 := bc_ BK101 0 rfl; have hcz10_1 := bc_ BK101 1 rfl; have hcz10_2 := bc_ BK101 2 rfl; have hfz10 := blk_frozen BK101.out) | ((with_reducible refine gate_dst (N := 22) rfl ?_); refine Kd.R_lit (Kd.int .i64) _ 39 ?hg (N := 22) ?hd (xs := ([a0_0, a0_1] : List Int)) (inner := [.int .i64 a0_0, .int .i64 a0_1]) (ok := fun _ => True) (okp := fun _ => True) ?hr ?hp (fun _ hk => hk) trivial (Below.refl _ _) (Nat.le_refl _) (by simp) ?_; (case hd => rfl); (case hg => rfl); (case hr => first | (go_simp; done) | (go_simp; rfl)); (case hp => exact (Reps.one (show Kd.M (Kd.int .i64) _ _ _ a0_0 [.int .i64 a0_0] from rfl) (Reps.one (show Kd.M (Kd.int .i64) _ _ _ a0_1 [.int .i64 a0_1] from rfl) (Reps.none _ _)))); intro v105 w11 ho12 hb hg_ hnew_; clear hg_ hnew_; (first | rw [← Ny104.out] at ho12 | (simp only [Int.reduceToNat] at ho12; rw [← Ny104.out] at ho12)); have HO106 := Aside0.mk (Kd.R_lower ho12 (below_size (by repeat (first | exact HB.out | apply below_alloc | refine below_set ?_ GE101.out | refine below_set ?_ GE102.out | refine below_set ?_ GE103.out)))); replace BK101 := bkb_ BK101 hb rfl; replace BK102 := bkb_ BK102 hb rfl; replace BK103 := bkb_ BK103 hb rfl; replace HB := hbs_ HB hb rfl rfl rfl rfl; clear hb ho12; obtain ⟨Ao13, co13, eo13⟩ := Kd.R_slice HO106.out; subst eo13))
  go_loopg [9, 24] k (fun kq v9 v24 w' => ∃ (x9_1 : List Int) (x24_1 : Int) (x104000_1 : Int) (x104001_1 : Int) (x104002_1 : Bool), v24 = .int .i64 x24_1 ∧ Aside0 (bound_corners_api_Fix__bound_Div_api_Fix_1_bound_Div_api_Fix_2.l0 kq x9_1 y104 (y104.length : Int) x24_1 l2_0 l3_0 a1_0 a1_1 a1_2 = some (r1, r2, r3)) ∧ Aside0 (kq ≤ k) ∧ Aside0 (Kd.R (Kd.int .i64) 39 w' w.heap.size (fun k_ => some k_ ≠ ((.slice Ao13 y104.length co13) : Value).ownBlock) v9 x9_1) ∧ Aside0 (Kd.R (Kd.int .i64) 39 w' w.heap.size (fun k_ => some k_ ≠ (v9 : Value).ownBlock) (.slice Ao13 y104.length co13) y104) ∧ Aside0 (w'.heap[gb101]? = some (.cells #[.int .i64 a0_0, .int .i64 a0_1, .bool a0_2] 41 (0, 0))) ∧ Aside0 (w'.heap[gb102]? = some (.cells #[.int .i64 a1_0, .int .i64 a1_1, .bool a1_2] 41 (0, 0))) ∧ Aside0 (w'.heap[gb103]? = some (.cells #[.int .i64 x104000_1, .int .i64 x104001_1, .bool x104002_1] 41 (0, 0))) ∧ Aside0 (Below w.heap.size w w'))
  case atStart => exact ⟨(([] : List Int)), (0), (0), (0), (false), (by first | rfl | (simp; done) | (simp [*]; done)), H', ⟨Nat.le_refl _⟩, ⟨by first | exact Kd.R_nil _ _ _ _ _ | exact Kd.N_nil _ _ _ _ _ | exact Kd.V_nil _ _ _ _ _ | exact Kd.Q_nil _ _ _ _ _ | exact Kd.S_nil _ _ _ _ _⟩, ⟨by exact Kd.R_mono HO106.out (fun _ hk => (by simp [Value.ownBlock]))⟩, ⟨by exact BK101.out⟩, ⟨by exact BK102.out⟩, ⟨by exact BK103.out⟩, ⟨by repeat (first | exact HB.out | apply below_alloc | refine below_set ?_ GE101.out | refine below_set ?_ GE102.out | refine below_set ?_ GE103.out)⟩⟩
  case round =>
   clear H'
   obtain ⟨x9_1, x24_1, x104000_1, x104001_1, x104002_1, rfl, HA, HK1, HO_9, HO_22, BK101, BK102, BK103, HB⟩ := hrel
   cases gk with
   | zero => exact absurd HA.out (by simp [bound_corners_api_Fix__bound_Div_api_Fix_1_bound_Div_api_Fix_2.l0])
   | succ k1 =>
    have H := HA.out
    clear HA
    simp only [bound_corners_api_Fix__bound_Div_api_Fix_1_bound_Div_api_Fix_2.l0] at H
    by_cases c14 : x24_1 < (y104.length : Int)
    rotate_left
    · rw [if_neg c14] at H
      have c14b0 : decide (x24_1 < (y104.length : Int)) = false := decide_eq_false c14
      clear c14
      replace H := bso_ H
      obtain ⟨t107, A510, H⟩ := H
      try dsimp -simprocs only at H
      have A51 := Aside0.mk A510
      clear A510
      replace H := bso_ H
      obtain ⟨t108, A520, H⟩ := H
      try dsimp -simprocs only at H
      have A52 := Aside0.mk A520
      clear A520
      replace H := bso_ H
      obtain ⟨⟨t109, t110, t111⟩, A530, H⟩ := H
      try dsimp -simprocs only at H
      have A53 := Aside0.mk A530
      clear A530
      simp only [Option.some.injEq, Prod.mk.injEq] at H
      obtain ⟨rfl, rfl, rfl⟩ := H
      obtain ⟨Ao54, co54, eo54⟩ := Kd.R_slice HO_9.out
      subst eo54
      go_wp2_with (first | ((with_reducible refine gate_callee (f := 61) rfl ?_); refine glq_ (some 67) Try.func61 #[.slice Ao54 x9_1.length co54] ?_; (with_reducible refine (slices_Min_api_Fix_api_Fix.calls k1 _ _ x9_1 t107 _ ?side1 ?side2 A51.out).mono ?_); (case side1 => repeat (first | exact (Kd.R_reads' HO_9.out).2.2 | (with_reducible refine Kd.C_alloc ?_ _) | (with_reducible refine Kd.C_drewN ?_ _) | (with_reducible refine Kd.C_drew ?_))); (case side2 => exact (Kd.R_reads' HO_9.out).2.1); rintro e w55 ⟨rfl, hb⟩; refine ⟨_, rfl, ?_⟩; replace HO_9 := Aside0.mk (Kd.R_below (by exact HO_9.out) hb); replace HO_22 := Aside0.mk (Kd.R_below (by exact HO_22.out) hb); replace BK101 := bkb_ BK101 hb rfl; replace BK102 := bkb_ BK102 hb rfl; replace BK103 := bkb_ BK103 hb rfl; replace HB := hbs_ HB hb rfl rfl rfl rfl; (try clear hb)) | ((with_reducible refine gate_callee (f := 62) rfl ?_); refine glq_ (some 69) Try.func62 #[.slice Ao54 x9_1.length co54] ?_; (with_reducible refine (slices_Max_api_Fix_api_Fix.calls k1 _ _ x9_1 t108 _ ?side1 ?side2 A52.out).mono ?_); (case side1 => repeat (first | exact (Kd.R_reads' HO_9.out).2.2 | (with_reducible refine Kd.C_alloc ?_ _) | (with_reducible refine Kd.C_drewN ?_ _) | (with_reducible refine Kd.C_drew ?_))); (case side2 => exact (Kd.R_reads' HO_9.out).2.1); rintro e w56 ⟨rfl, hb⟩; refine ⟨_, rfl, ?_⟩; replace HO_9 := Aside0.mk (Kd.R_below (by exact HO_9.out) hb); replace HO_22 := Aside0.mk (Kd.R_below (by exact HO_22.out) hb); replace BK101 := bkb_ BK101 hb rfl; replace BK102 := bkb_ BK102 hb rfl; replace BK103 := bkb_ BK103 hb rfl; replace HB := hbs_ HB hb rfl rfl rfl rfl; (try clear hb)) | ((with_reducible refine gate_callee (f := 35) rfl ?_); refine glq_ (some 70) Try.func35 #[.int .i64 t107, .int .i64 t108] ?_; (with_reducible refine (bound_Of_api_Fix.calls k1 t107 t108 t109 t110 t111 _ A53.out).mono ?_); rintro e w57 ⟨rfl, hb⟩; refine ⟨_, rfl, ?_⟩; replace HO_9 := Aside0.mk (Kd.R_below (by exact HO_9.out) hb); replace HO_22 := Aside0.mk (Kd.R_below (by exact HO_22.out) hb); replace BK101 := bkb_ BK101 hb rfl; replace BK102 := bkb_ BK102 hb rfl; replace BK103 := bkb_ BK103 hb rfl; replace HB := hbs_ HB hb rfl rfl rfl rfl; (try clear hb); have hnb58 := NB103_101.out; have hnc58 := NB101_103.out; have hnb59 := NB103_102.out; have hnc59 := NB102_103.out; have hcz60_0 := bc_ BK103 0 rfl; have hcz60_1 := bc_ BK103 1 rfl; have hcz60_2 := bc_ BK103 2 rfl; have hfz60 := blk_frozen BK103.out))
      refine bodyPost_ret (results_cell_row rfl _ _ gb103 41 #[.int .i64 t109, .int .i64 t110, .bool t111] (0, 0) _ rfl (by exact blk_put (blk_put (blk_put BK103.out 0 _ rfl) 1 _ rfl) 2 _ rfl) Try.underlying41 rfl (by kernel_rfl)) rfl ?_
      exact ⟨by first | rfl | (simp [errW_none, errW_some] <;> rfl), by repeat (first | exact HB.out | apply below_alloc | refine below_set ?_ GE101.out | refine below_set ?_ GE102.out | refine below_set ?_ GE103.out)⟩
    rw [if_pos c14] at H
    have c14b0 : decide (x24_1 < (y104.length : Int)) = true := decide_eq_true c14
    clear c14
    by_cases c15 : 0 ≤ x24_1
    rotate_left
    · rw [if_neg c15] at H
      exact absurd H (by simp)
    rw [if_pos c15] at H
    have c15b0 : decide (0 ≤ x24_1) = true := decide_eq_true c15
    clear c15
    by_cases c16 : x24_1 < (y104.length : Int)
    rotate_left
    · rw [if_neg c16] at H
      exact absurd H (by simp)
    rw [if_pos c16] at H
    have c16b0 : decide (x24_1 < (y104.length : Int)) = true := decide_eq_true c16
    clear c16
    obtain ⟨y113, hy113⟩ : ∃ y_ : List Int, y_ = (([a1_0, a1_1] : List Int)) := ⟨_, rfl⟩
    replace H : (bound_corners_api_Fix__bound_Div_api_Fix_1_bound_Div_api_Fix_2.l1 k1 x9_1 (rd y104 x24_1) y104 (y104.length : Int) x24_1 y113 (y113.length : Int) 0 l2_0 l3_0 a1_0 a1_1 a1_2) = some (r1, r2, r3) := by first | (rw [hy113]; with_reducible exact H) | (have H2_ := (Option.bind_some _ _).symm.trans H; rw [hy113]; with_reducible exact H2_) | (have H2_ := (Option.bind_some _ _).symm.trans H; with_reducible exact H2_) | with_reducible exact H | (rw [hy113]; exact H) | exact H
    have Ny113 := Aside0.mk hy113
    clear hy113
    have H' := Aside0.mk H
    clear H
    have p112 : 0 ≤ (x24_1 : Int) := of_decide_eq_true (by first | (with_reducible assumption) | assumption)
    have q112 : x24_1 < (y104.length : Int) := of_decide_eq_true (by first | (with_reducible assumption) | assumption)
    obtain ⟨ad112, e112, hx112_0⟩ := Kd.at_int (Kd.R_reads' HO_22.out).2.2 x24_1 p112 q112
    cases e112
    replace p112 := eq_true p112
    replace q112 := eq_true q112
    have hnb17 := NB102_101.out
    have hnc17 := NB101_102.out
    have hnb18 := NB102_103.out
    have hnc18 := NB103_102.out
    have hcz19_0 := bc_ BK102 0 rfl
    have hcz19_1 := bc_ BK102 1 rfl
    have hcz19_2 := bc_ BK102 2 rfl
    have hfz19 := blk_frozen BK102.out
    go_wp2_with (first | ((with_reducible refine gate_dst (N := 32) rfl ?_); refine Kd.R_lit (Kd.int .i64) _ 39 ?hg (N := 32) ?hd (xs := ([a1_0, a1_1] : List Int)) (inner := [.int .i64 a1_0, .int .i64 a1_1]) (ok := fun _ => True) (okp := fun _ => True) ?hr ?hp (fun _ hk => hk) trivial (Below.refl _ _) (Nat.le_refl _) (by simp) ?_; (case hd => rfl); (case hg => rfl); (case hr => first | (go_simp; done) | (go_simp; rfl)); (case hp => exact (Reps.one (show Kd.M (Kd.int .i64) _ _ _ a1_0 [.int .i64 a1_0] from rfl) (Reps.one (show Kd.M (Kd.int .i64) _ _ _ a1_1 [.int .i64 a1_1] from rfl) (Reps.none _ _)))); intro v114 w20 ho21 hb hg_ hnew_; clear hg_ hnew_; (first | rw [← Ny113.out] at ho21 | (simp only [Int.reduceToNat] at ho21; rw [← Ny113.out] at ho21)); have HO115 := Aside0.mk (Kd.R_lower (Kd.R_new' (Kd.R_new' ho21 (Kd.R_lt (by exact HO_9.out))) (Kd.R_lt (by exact HO_22.out))) (below_size (by repeat (first | exact HB.out | apply below_alloc | refine below_set ?_ GE101.out | refine below_set ?_ GE102.out | refine below_set ?_ GE103.out)))); replace HO_9 := Aside0.mk (Kd.R_elder' (by exact HO_9.out) (Kd.R_base ho21) hb); replace HO_22 := Aside0.mk (Kd.R_elder' (by exact HO_22.out) (Kd.R_base ho21) hb); replace BK101 := bkb_ BK101 hb rfl; replace BK102 := bkb_ BK102 hb rfl; replace BK103 := bkb_ BK103 hb rfl; replace HB := hbs_ HB hb rfl rfl rfl rfl; clear hb ho21; obtain ⟨Ao22, co22, eo22⟩ := Kd.R_slice HO115.out; subst eo22))
    go_loopg [9, 34] k1 (fun kq v9 v34 w' => ∃ (x9_2 : List Int) (x34_2 : Int) (x104000_2 : Int) (x104001_2 : Int) (x104002_2 : Bool), v34 = .int .i64 x34_2 ∧ Aside0 (bound_corners_api_Fix__bound_Div_api_Fix_1_bound_Div_api_Fix_2.l1 kq x9_2 (rd y104 x24_1) y104 (y104.length : Int) x24_1 y113 (y113.length : Int) x34_2 l2_0 l3_0 a1_0 a1_1 a1_2 = some (r1, r2, r3)) ∧ Aside0 (kq ≤ k1) ∧ Aside0 (Kd.R (Kd.int .i64) 39 w' w.heap.size (fun k_ => some k_ ≠ ((.slice (some ad112) y104.length co13) : Value).ownBlock ∧ some k_ ≠ ((.slice Ao22 y113.length co22) : Value).ownBlock) v9 x9_2) ∧ Aside0 (Kd.R (Kd.int .i64) 39 w' w.heap.size (fun k_ => some k_ ≠ (v9 : Value).ownBlock ∧ some k_ ≠ ((.slice Ao22 y113.length co22) : Value).ownBlock) (.slice (some ad112) y104.length co13) y104) ∧ Aside0 (Kd.R (Kd.int .i64) 39 w' w.heap.size (fun k_ => some k_ ≠ (v9 : Value).ownBlock ∧ some k_ ≠ ((.slice (some ad112) y104.length co13) : Value).ownBlock) (.slice Ao22 y113.length co22) y113) ∧ Aside0 (w'.heap[gb101]? = some (.cells #[.int .i64 a0_0, .int .i64 a0_1, .bool a0_2] 41 (0, 0))) ∧ Aside0 (w'.heap[gb102]? = some (.cells #[.int .i64 a1_0, .int .i64 a1_1, .bool a1_2] 41 (0, 0))) ∧ Aside0 (w'.heap[gb103]? = some (.cells #[.int .i64 x104000_2, .int .i64 x104001_2, .bool x104002_2] 41 (0, 0))) ∧ Aside0 (Below w.heap.size w w'))
    case atStart => exact ⟨(x9_1), (0), (x104000_1), (x104001_1), (x104002_1), (by first | rfl | (simp; done) | (simp [*]; done)), H', ⟨Nat.le_refl _⟩, ⟨by exact HO_9.out⟩, ⟨by exact HO_22.out⟩, ⟨by exact Kd.R_mono HO115.out (fun _ hk => ⟨hk.1.2, hk.2⟩)⟩, ⟨by exact BK101.out⟩, ⟨by exact BK102.out⟩, ⟨by exact BK103.out⟩, ⟨by repeat (first | exact HB.out | apply below_alloc | refine below_set ?_ GE101.out | refine below_set ?_ GE102.out | refine below_set ?_ GE103.out)⟩⟩
    case round =>
     clear H'
     obtain ⟨x9_2, x34_2, x104000_2, x104001_2, x104002_2, rfl, HA, HK2, HO_9, HO_22, HO_32, BK101, BK102, BK103, HB⟩ := hrel
     cases gk with
     | zero => exact absurd HA.out (by simp [bound_corners_api_Fix__bound_Div_api_Fix_1_bound_Div_api_Fix_2.l1])
     | succ k2 =>
      have H := HA.out
      clear HA
      simp only [bound_corners_api_Fix__bound_Div_api_Fix_1_bound_Div_api_Fix_2.l1] at H
      by_cases c23 : x34_2 < (y113.length : Int)
      rotate_left
      · rw [if_neg c23] at H
        have c23b0 : decide (x34_2 < (y113.length : Int)) = false := decide_eq_false c23
        clear c23
        have H' := Aside0.mk H
        clear H
        go_wp2
        go_roundg k2
        case measure => have := HK1.out; have := HK2.out; omega
        case rel => exact ⟨(x9_2), (wrap64 (x24_1 + 1)), (x104000_2), (x104001_2), (x104002_2), (by first | rfl | (simp; done) | (simp [*]; done)), H', ⟨by have := HK1.out; have := HK2.out; omega⟩, ⟨by exact Kd.R_mono HO_9.out (fun _ hk => hk.1)⟩, ⟨by exact Kd.R_mono HO_22.out (fun _ hk => hk.1)⟩, ⟨by exact BK101.out⟩, ⟨by exact BK102.out⟩, ⟨by exact BK103.out⟩, ⟨by repeat (first | exact HB.out | apply below_alloc | refine below_set ?_ GE101.out | refine below_set ?_ GE102.out | refine below_set ?_ GE103.out)⟩⟩
      rw [if_pos c23] at H
      have c23b0 : decide (x34_2 < (y113.length : Int)) = true := decide_eq_true c23
      clear c23
      by_cases c24 : 0 ≤ x34_2
      rotate_left
      · rw [if_neg c24] at H
        exact absurd H (by simp)
      rw [if_pos c24] at H
      have c24b0 : decide (0 ≤ x34_2) = true := decide_eq_true c24
      clear c24
      by_cases c25 : x34_2 < (y113.length : Int)
      rotate_left
      · rw [if_neg c25] at H
        exact absurd H (by simp)
      rw [if_pos c25] at H
      have c25b0 : decide (x34_2 < (y113.length : Int)) = true := decide_eq_true c25
      clear c25
      replace H := bso_ H
      obtain ⟨⟨t117, t118⟩, A260, H⟩ := H
      try dsimp -simprocs only at H
      have A26 := Aside0.mk A260
      clear A260
      replace H := bso_ H
      obtain ⟨⟨t119, t120⟩, A270, H⟩ := H
      try dsimp -simprocs only at H
      have A27 := Aside0.mk A270
      clear A270
      by_cases c28 : t118 = 0
      · rw [if_pos c28] at H
        have c28b0 : (t118 == 0) = true := beq_iff_eq.mpr c28
        have c28b1 : (t118 != 0) = false := bne_eq_false_iff_eq.mpr c28
        clear c28
        by_cases c29 : t120 = 0
        · rw [if_pos c29] at H
          have c29b0 : (t120 == 0) = true := beq_iff_eq.mpr c29
          have c29b1 : (t120 != 0) = false := bne_eq_false_iff_eq.mpr c29
          clear c29
          obtain ⟨y121, hy121⟩ : ∃ y_ : List Int, y_ = (([t117, t119] : List Int)) := ⟨_, rfl⟩
          replace H : (if x9_2.length + y121.length < 17592186044416 then (bound_corners_api_Fix__bound_Div_api_Fix_1_bound_Div_api_Fix_2.l1 k2 (x9_2 ++ y121) (rd y104 x24_1) y104 (y104.length : Int) x24_1 y113 (y113.length : Int) (wrap64 (x34_2 + 1)) l2_0 l3_0 a1_0 a1_1 a1_2) else (none)) = some (r1, r2, r3) := by first | (rw [hy121]; with_reducible exact H) | (have H2_ := (Option.bind_some _ _).symm.trans H; rw [hy121]; with_reducible exact H2_) | (have H2_ := (Option.bind_some _ _).symm.trans H; with_reducible exact H2_) | with_reducible exact H | (rw [hy121]; exact H) | exact H
          have Ny121 := Aside0.mk hy121
          clear hy121
          by_cases c30 : x9_2.length + y121.length < 17592186044416
          rotate_left
          · rw [if_neg c30] at H
            exact absurd H (by simp)
          rw [if_pos c30] at H
          have LMc30 := Aside0.mk c30
          clear c30
          obtain ⟨y124, hy124⟩ : ∃ y_ : List Int, y_ = (x9_2 ++ y121) := ⟨_, rfl⟩
          replace H : (bound_corners_api_Fix__bound_Div_api_Fix_1_bound_Div_api_Fix_2.l1 k2 y124 (rd y104 x24_1) y104 (y104.length : Int) x24_1 y113 (y113.length : Int) (wrap64 (x34_2 + 1)) l2_0 l3_0 a1_0 a1_1 a1_2) = some (r1, r2, r3) := by first | (rw [hy124]; with_reducible exact H) | (have H2_ := (Option.bind_some _ _).symm.trans H; rw [hy124]; with_reducible exact H2_) | (have H2_ := (Option.bind_some _ _).symm.trans H; with_reducible exact H2_) | with_reducible exact H | (rw [hy124]; exact H) | exact H
          have Ny124 := Aside0.mk hy124
          clear hy124
          have H' := Aside0.mk H
          clear H
          have p116 : 0 ≤ (x34_2 : Int) := of_decide_eq_true (by first | (with_reducible assumption) | assumption)
          have q116 : x34_2 < (y113.length : Int) := of_decide_eq_true (by first | (with_reducible assumption) | assumption)
          obtain ⟨ad116, e116, hx116_0⟩ := Kd.at_int (Kd.R_reads' HO_32.out).2.2 x34_2 p116 q116
          cases e116
          replace p116 := eq_true p116
          replace q116 := eq_true q116
          go_wp2_with (first | ((with_reducible refine gatev_ (t := 39) rfl ?_); refine goescL_ (caps := #[.pointer A2_0]) (some 42) rfl rfl Try.func53 (by kernel_rfl) rfl #[.int .i64 (rd y104 x24_1), .int .i64 (rd y113 x34_2), .pointer A2_0] rfl (by first | rfl | (simp [Act.eval, Act.put] <;> rfl)) (by (try simp only [List.map_toArray, List.map_cons, List.map_nil]); first | done | rfl | (simp only [List.length_drop, List.length_take]; rfl)) ?_; (with_reducible refine (bound_Div_api_Fix_1.calls k2 (rd y104 x24_1) (rd y113 x34_2) _ (List.length l2_0) l2_0 t117 t118 _ ?side1 ?side2 A26.out).mono ?_); (case side1 => repeat (first | exact (Kd.C_below HR2_0.out HB.out) | (with_reducible refine Kd.C_alloc ?_ _) | (with_reducible refine Kd.C_drewN ?_ _) | (with_reducible refine Kd.C_drew ?_))); (case side2 => exact Nat.le_refl _); rintro e w31 ⟨rfl, hb⟩; refine ⟨_, rfl, ?_⟩; have n0_ := Aside0.mk (Kd.R_below (by exact HO_9.out) hb); have n1_ := Aside0.mk (Kd.R_below (by exact HO_22.out) hb); have n2_ := Aside0.mk (Kd.R_below (by exact HO_32.out) hb); have n3_ := bkb_ BK101 hb rfl; have n4_ := bkb_ BK102 hb rfl; have n5_ := bkb_ BK103 hb rfl; have n6_ := hbs_ HB hb rfl rfl rfl rfl; clear HO_9; clear HO_22; clear HO_32; clear BK101; clear BK102; clear BK103; clear HB; have HO_9 := n0_; have HO_22 := n1_; have HO_32 := n2_; have BK101 := n3_; have BK102 := n4_; have BK103 := n5_; have HB := n6_; clear n0_ n1_ n2_ n3_ n4_ n5_ n6_; (try clear hb); (try clear hb2); (try clear hk); (try clear hi)) | ((with_reducible refine gatev_ (t := 46) rfl ?_); refine goescL_ (caps := #[.pointer A3_0]) (some 49) rfl rfl Try.func54 (by kernel_rfl) rfl #[.int .i64 (rd y104 x24_1), .int .i64 (rd y113 x34_2), .pointer A3_0] rfl (by first | rfl | (simp [Act.eval, Act.put] <;> rfl)) (by (try simp only [List.map_toArray, List.map_cons, List.map_nil]); first | done | rfl | (simp only [List.length_drop, List.length_take]; rfl)) ?_; (with_reducible refine (bound_Div_api_Fix_2.calls k2 (rd y104 x24_1) (rd y113 x34_2) _ (List.length l3_0) l3_0 t119 t120 _ ?side1 ?side2 A27.out).mono ?_); (case side1 => repeat (first | exact (Kd.C_below HR3_0.out HB.out) | (with_reducible refine Kd.C_alloc ?_ _) | (with_reducible refine Kd.C_drewN ?_ _) | (with_reducible refine Kd.C_drew ?_))); (case side2 => exact Nat.le_refl _); rintro e w32 ⟨rfl, hb⟩; refine ⟨_, rfl, ?_⟩; have n0_ := Aside0.mk (Kd.R_below (by exact HO_9.out) hb); have n1_ := Aside0.mk (Kd.R_below (by exact HO_22.out) hb); have n2_ := Aside0.mk (Kd.R_below (by exact HO_32.out) hb); have n3_ := bkb_ BK101 hb rfl; have n4_ := bkb_ BK102 hb rfl; have n5_ := bkb_ BK103 hb rfl; have n6_ := hbs_ HB hb rfl rfl rfl rfl; clear HO_9; clear HO_22; clear HO_32; clear BK101; clear BK102; clear BK103; clear HB; have HO_9 := n0_; have HO_22 := n1_; have HO_32 := n2_; have BK101 := n3_; have BK102 := n4_; have BK103 := n5_; have HB := n6_; clear n0_ n1_ n2_ n3_ n4_ n5_ n6_; (try clear hb); (try clear hb2); (try clear hk); (try clear hi)) | ((with_reducible refine gate_dst (N := 62) rfl ?_); refine Kd.R_lit (Kd.int .i64) _ 39 ?hg (N := 62) ?hd (xs := ([t117, t119] : List Int)) (inner := [.int .i64 t117, .int .i64 t119]) (ok := fun _ => True) (okp := fun _ => True) ?hr ?hp (fun _ hk => hk) trivial (Below.refl _ _) (Nat.le_refl _) (by simp) ?_; (case hd => rfl); (case hg => rfl); (case hr => first | (go_simp; done) | (go_simp; rfl)); (case hp => exact (Reps.one (show Kd.M (Kd.int .i64) _ _ _ t117 [.int .i64 t117] from rfl) (Reps.one (show Kd.M (Kd.int .i64) _ _ _ t119 [.int .i64 t119] from rfl) (Reps.none _ _)))); intro v122 w33 ho34 hb hg_ hnew_; clear hg_ hnew_; (first | rw [← Ny121.out] at ho34 | (simp only [Int.reduceToNat] at ho34; rw [← Ny121.out] at ho34)); have HO123 := Aside0.mk (Kd.R_lower (Kd.R_new' (Kd.R_new' (Kd.R_new' ho34 (Kd.R_lt (by exact HO_9.out))) (Kd.R_lt (by exact HO_22.out))) (Kd.R_lt (by exact HO_32.out))) (below_size (by repeat (first | exact HB.out | apply below_alloc | refine below_set ?_ GE101.out | refine below_set ?_ GE102.out | refine below_set ?_ GE103.out)))); replace HO_9 := Aside0.mk (Kd.R_elder' (by exact HO_9.out) (Kd.R_base ho34) hb); replace HO_22 := Aside0.mk (Kd.R_elder' (by exact HO_22.out) (Kd.R_base ho34) hb); replace HO_32 := Aside0.mk (Kd.R_elder' (by exact HO_32.out) (Kd.R_base ho34) hb); replace BK101 := bkb_ BK101 hb rfl; replace BK102 := bkb_ BK102 hb rfl; replace BK103 := bkb_ BK103 hb rfl; replace HB := hbs_ HB hb rfl rfl rfl rfl; clear hb ho34; obtain ⟨Ao36, co36, eo36⟩ := Kd.R_slice HO123.out; subst eo36) | ((with_reducible refine gate_builtin (b := .append) (xs := #[.tmp 59, .tmp 62]) rfl ?_); at_builtin; refine Kd.R_append_rows (Kd.int .i64) (w0 := w) w.heap.size rfl (.tmp 59) (.tmp 62) 94 39 (.int .i64 0) 8 rfl Try.underlying94 info39 rfl (by decide) (by omega) u9 x9_2 y121 _ _ _ (fun k_ => some k_ ≠ (.slice (some ad112) y104.length co13 : Value).ownBlock ∧ some k_ ≠ (.slice (some ad116) y113.length co22 : Value).ownBlock ∧ some k_ ≠ (.slice Ao36 y121.length co36 : Value).ownBlock) (fun _ => False) rfl rfl ?aO ?aR (fun _ _ h => h) (fun _ h => h.elim) ?aF ?aB ?aS ?aL ?_; (case aR => repeat (first | exact (Kd.R_reads' HO123.out).2.2 | (with_reducible refine Kd.C_alloc ?_ _) | (with_reducible refine Kd.C_drewN ?_ _) | (with_reducible refine Kd.C_drew ?_))); (case aB => exact (by repeat (first | (with_reducible first | exact HB.out | apply below_alloc | refine below_set ?_ GE101.out | refine below_set ?_ GE102.out | refine below_set ?_ GE103.out) | exact HB.out))); (case aF => exact (fun k_ hk => ⟨Kd.fresh' (Kd.R_lt (by exact HO_22.out)) k_ hk, Kd.fresh' (Kd.R_lt (by exact HO_32.out)) k_ hk, Kd.fresh' (Kd.R_lt (by exact HO123.out)) k_ hk⟩)); (case aO => exact (by exact Kd.R_mono HO_9.out (fun _ hk => ⟨hk.1.1, ⟨hk.1.2, hk.2⟩⟩))); (case aS => exact (below_size (by repeat (first | exact HB.out | apply below_alloc | refine below_set ?_ GE101.out | refine below_set ?_ GE102.out | refine below_set ?_ GE103.out)))); (case aL => have := LMc30.out; omega); intro v125 w35 ho hb hg hat; rw [← Ny124.out] at ho; have HO126 := Aside0.mk (ho); replace HO_22 := Aside0.mk (Kd.R_after (ok := (fun k_ => some k_ ≠ (.slice (some ad116) y113.length co22 : Value).ownBlock ∧ some k_ ≠ (.slice Ao36 y121.length co36 : Value).ownBlock)) (by exact Kd.R_mono HO_22.out (fun _ hk => ⟨⟨hk.1.2, hk.2⟩, hk.1.1⟩)) hg hat); replace HO_32 := Aside0.mk (Kd.R_after (ok := (fun k_ => some k_ ≠ (.slice (some ad112) y104.length co13 : Value).ownBlock ∧ some k_ ≠ (.slice Ao36 y121.length co36 : Value).ownBlock)) (by exact Kd.R_mono HO_32.out (fun _ hk => ⟨⟨hk.1.2, hk.2⟩, hk.1.1⟩)) hg hat); replace BK101 := Aside0.mk (blk_grown (g := gb101) (o := .cells #[.int .i64 a0_0, .int .i64 a0_1, .bool a0_2] 41 (0, 0)) BK101.out hg (Kd.R_ne HO_9.out BK101.out (by decide))); replace BK102 := Aside0.mk (blk_grown (g := gb102) (o := .cells #[.int .i64 a1_0, .int .i64 a1_1, .bool a1_2] 41 (0, 0)) BK102.out hg (Kd.R_ne HO_9.out BK102.out (by decide))); replace BK103 := Aside0.mk (blk_grown (g := gb103) (o := .cells #[.int .i64 x104000_2, .int .i64 x104001_2, .bool x104002_2] 41 (0, 0)) BK103.out hg (Kd.R_ne HO_9.out BK103.out (by decide))); replace HO123 := Aside0.mk (Kd.R_after (ok := (fun k_ => some k_ ≠ (.slice (some ad112) y104.length co13 : Value).ownBlock ∧ some k_ ≠ (.slice (some ad116) y113.length co22 : Value).ownBlock)) (by exact Kd.R_mono HO123.out (fun _ hk => ⟨⟨hk.1.2, hk.2⟩, hk.1.1.2⟩)) hg hat); replace HB := Aside0.mk (hb); clear HO_9; clear ho hb hg hat))
          go_roundg k2
          case measure => have := HK1.out; have := HK2.out; omega
          case rel => exact ⟨(y124), (wrap64 (x34_2 + 1)), (x104000_2), (x104001_2), (x104002_2), (by first | rfl | (simp; done) | (simp [*]; done)), H', ⟨by have := HK1.out; have := HK2.out; omega⟩, ⟨by exact Kd.R_mono HO126.out (fun _ hk => ⟨hk.1, hk.2.1⟩)⟩, ⟨by exact Kd.R_mono HO_22.out (fun _ hk => ⟨hk.2, hk.1.1⟩)⟩, ⟨by exact Kd.R_mono HO_32.out (fun _ hk => ⟨hk.2, hk.1.1⟩)⟩, ⟨by exact BK101.out⟩, ⟨by exact BK102.out⟩, ⟨by exact BK103.out⟩, ⟨by repeat (first | exact HB.out | apply below_alloc | refine below_set ?_ GE101.out | refine below_set ?_ GE102.out | refine below_set ?_ GE103.out)⟩⟩
        rw [if_neg c29] at H
        have c29b0 : (t120 == 0) = false := beq_eq_false_iff_ne.mpr c29
        have c29b1 : (t120 != 0) = true := bne_iff_ne.mpr c29
        replace H := bso_ H
        obtain ⟨⟨t127, t128, t129⟩, A370, H⟩ := H
        try dsimp -simprocs only at H
        have A37 := Aside0.mk A370
        clear A370
        simp only [Option.some.injEq, Prod.mk.injEq] at H
        obtain ⟨rfl, rfl, rfl⟩ := H
        have p116 : 0 ≤ (x34_2 : Int) := of_decide_eq_true (by first | (with_reducible assumption) | assumption)
        have q116 : x34_2 < (y113.length : Int) := of_decide_eq_true (by first | (with_reducible assumption) | assumption)
        obtain ⟨ad116, e116, hx116_0⟩ := Kd.at_int (Kd.R_reads' HO_32.out).2.2 x34_2 p116 q116
        cases e116
        replace p116 := eq_true p116
        replace q116 := eq_true q116
        go_wp2_with (first | ((with_reducible refine gatev_ (t := 39) rfl ?_); refine goescL_ (caps := #[.pointer A2_0]) (some 42) rfl rfl Try.func53 (by kernel_rfl) rfl #[.int .i64 (rd y104 x24_1), .int .i64 (rd y113 x34_2), .pointer A2_0] rfl (by first | rfl | (simp [Act.eval, Act.put] <;> rfl)) (by (try simp only [List.map_toArray, List.map_cons, List.map_nil]); first | done | rfl | (simp only [List.length_drop, List.length_take]; rfl)) ?_; (with_reducible refine (bound_Div_api_Fix_1.calls k2 (rd y104 x24_1) (rd y113 x34_2) _ (List.length l2_0) l2_0 t117 t118 _ ?side1 ?side2 A26.out).mono ?_); (case side1 => repeat (first | exact (Kd.C_below HR2_0.out HB.out) | (with_reducible refine Kd.C_alloc ?_ _) | (with_reducible refine Kd.C_drewN ?_ _) | (with_reducible refine Kd.C_drew ?_))); (case side2 => exact Nat.le_refl _); rintro e w38 ⟨rfl, hb⟩; refine ⟨_, rfl, ?_⟩; have n0_ := Aside0.mk (Kd.R_below (by exact HO_9.out) hb); have n1_ := Aside0.mk (Kd.R_below (by exact HO_22.out) hb); have n2_ := Aside0.mk (Kd.R_below (by exact HO_32.out) hb); have n3_ := bkb_ BK101 hb rfl; have n4_ := bkb_ BK102 hb rfl; have n5_ := bkb_ BK103 hb rfl; have n6_ := hbs_ HB hb rfl rfl rfl rfl; clear HO_9; clear HO_22; clear HO_32; clear BK101; clear BK102; clear BK103; clear HB; have HO_9 := n0_; have HO_22 := n1_; have HO_32 := n2_; have BK101 := n3_; have BK102 := n4_; have BK103 := n5_; have HB := n6_; clear n0_ n1_ n2_ n3_ n4_ n5_ n6_; (try clear hb); (try clear hb2); (try clear hk); (try clear hi)) | ((with_reducible refine gatev_ (t := 46) rfl ?_); refine goescL_ (caps := #[.pointer A3_0]) (some 49) rfl rfl Try.func54 (by kernel_rfl) rfl #[.int .i64 (rd y104 x24_1), .int .i64 (rd y113 x34_2), .pointer A3_0] rfl (by first | rfl | (simp [Act.eval, Act.put] <;> rfl)) (by (try simp only [List.map_toArray, List.map_cons, List.map_nil]); first | done | rfl | (simp only [List.length_drop, List.length_take]; rfl)) ?_; (with_reducible refine (bound_Div_api_Fix_2.calls k2 (rd y104 x24_1) (rd y113 x34_2) _ (List.length l3_0) l3_0 t119 t120 _ ?side1 ?side2 A27.out).mono ?_); (case side1 => repeat (first | exact (Kd.C_below HR3_0.out HB.out) | (with_reducible refine Kd.C_alloc ?_ _) | (with_reducible refine Kd.C_drewN ?_ _) | (with_reducible refine Kd.C_drew ?_))); (case side2 => exact Nat.le_refl _); rintro e w39 ⟨rfl, hb⟩; refine ⟨_, rfl, ?_⟩; have n0_ := Aside0.mk (Kd.R_below (by exact HO_9.out) hb); have n1_ := Aside0.mk (Kd.R_below (by exact HO_22.out) hb); have n2_ := Aside0.mk (Kd.R_below (by exact HO_32.out) hb); have n3_ := bkb_ BK101 hb rfl; have n4_ := bkb_ BK102 hb rfl; have n5_ := bkb_ BK103 hb rfl; have n6_ := hbs_ HB hb rfl rfl rfl rfl; clear HO_9; clear HO_22; clear HO_32; clear BK101; clear BK102; clear BK103; clear HB; have HO_9 := n0_; have HO_22 := n1_; have HO_32 := n2_; have BK101 := n3_; have BK102 := n4_; have BK103 := n5_; have HB := n6_; clear n0_ n1_ n2_ n3_ n4_ n5_ n6_; (try clear hb); (try clear hb2); (try clear hk); (try clear hi)) | ((with_reducible refine gate_callee (f := 24) rfl ?_); refine glq_ (some 58) Try.func24 #[] ?_; (with_reducible refine (bound_None_api_Fix.calls  t127 t128 t129 _ A37.out).mono ?_); rintro e w40 ⟨rfl, hb⟩; refine ⟨_, rfl, ?_⟩; replace HO_9 := Aside0.mk (Kd.R_below (by exact HO_9.out) hb); replace HO_22 := Aside0.mk (Kd.R_below (by exact HO_22.out) hb); replace HO_32 := Aside0.mk (Kd.R_below (by exact HO_32.out) hb); replace BK101 := bkb_ BK101 hb rfl; replace BK102 := bkb_ BK102 hb rfl; replace BK103 := bkb_ BK103 hb rfl; replace HB := hbs_ HB hb rfl rfl rfl rfl; (try clear hb); have hnb41 := NB103_101.out; have hnc41 := NB101_103.out; have hnb42 := NB103_102.out; have hnc42 := NB102_103.out; have hcz43_0 := bc_ BK103 0 rfl; have hcz43_1 := bc_ BK103 1 rfl; have hcz43_2 := bc_ BK103 2 rfl; have hfz43 := blk_frozen BK103.out))
        refine bodyPost_ret (results_cell_row rfl _ _ gb103 41 #[.int .i64 t127, .int .i64 t128, .bool t129] (0, 0) _ rfl (by exact blk_put (blk_put (blk_put BK103.out 0 _ rfl) 1 _ rfl) 2 _ rfl) Try.underlying41 rfl (by kernel_rfl)) rfl ?_
        exact ⟨by first | rfl | (simp [errW_none, errW_some] <;> rfl), by repeat (first | exact HB.out | apply below_alloc | refine below_set ?_ GE101.out | refine below_set ?_ GE102.out | refine below_set ?_ GE103.out)⟩
      rw [if_neg c28] at H
      have c28b0 : (t118 == 0) = false := beq_eq_false_iff_ne.mpr c28
      have c28b1 : (t118 != 0) = true := bne_iff_ne.mpr c28
      replace H := bso_ H
      obtain ⟨⟨t130, t131, t132⟩, A440, H⟩ := H
      try dsimp -simprocs only at H
      have A44 := Aside0.mk A440
      clear A440
      simp only [Option.some.injEq, Prod.mk.injEq] at H
      obtain ⟨rfl, rfl, rfl⟩ := H
      have p116 : 0 ≤ (x34_2 : Int) := of_decide_eq_true (by first | (with_reducible assumption) | assumption)
      have q116 : x34_2 < (y113.length : Int) := of_decide_eq_true (by first | (with_reducible assumption) | assumption)
      obtain ⟨ad116, e116, hx116_0⟩ := Kd.at_int (Kd.R_reads' HO_32.out).2.2 x34_2 p116 q116
      cases e116
      replace p116 := eq_true p116
      replace q116 := eq_true q116
      go_wp2_with (first | ((with_reducible refine gatev_ (t := 39) rfl ?_); refine goescL_ (caps := #[.pointer A2_0]) (some 42) rfl rfl Try.func53 (by kernel_rfl) rfl #[.int .i64 (rd y104 x24_1), .int .i64 (rd y113 x34_2), .pointer A2_0] rfl (by first | rfl | (simp [Act.eval, Act.put] <;> rfl)) (by (try simp only [List.map_toArray, List.map_cons, List.map_nil]); first | done | rfl | (simp only [List.length_drop, List.length_take]; rfl)) ?_; (with_reducible refine (bound_Div_api_Fix_1.calls k2 (rd y104 x24_1) (rd y113 x34_2) _ (List.length l2_0) l2_0 t117 t118 _ ?side1 ?side2 A26.out).mono ?_); (case side1 => repeat (first | exact (Kd.C_below HR2_0.out HB.out) | (with_reducible refine Kd.C_alloc ?_ _) | (with_reducible refine Kd.C_drewN ?_ _) | (with_reducible refine Kd.C_drew ?_))); (case side2 => exact Nat.le_refl _); rintro e w45 ⟨rfl, hb⟩; refine ⟨_, rfl, ?_⟩; have n0_ := Aside0.mk (Kd.R_below (by exact HO_9.out) hb); have n1_ := Aside0.mk (Kd.R_below (by exact HO_22.out) hb); have n2_ := Aside0.mk (Kd.R_below (by exact HO_32.out) hb); have n3_ := bkb_ BK101 hb rfl; have n4_ := bkb_ BK102 hb rfl; have n5_ := bkb_ BK103 hb rfl; have n6_ := hbs_ HB hb rfl rfl rfl rfl; clear HO_9; clear HO_22; clear HO_32; clear BK101; clear BK102; clear BK103; clear HB; have HO_9 := n0_; have HO_22 := n1_; have HO_32 := n2_; have BK101 := n3_; have BK102 := n4_; have BK103 := n5_; have HB := n6_; clear n0_ n1_ n2_ n3_ n4_ n5_ n6_; (try clear hb); (try clear hb2); (try clear hk); (try clear hi)) | ((with_reducible refine gatev_ (t := 46) rfl ?_); refine goescL_ (caps := #[.pointer A3_0]) (some 49) rfl rfl Try.func54 (by kernel_rfl) rfl #[.int .i64 (rd y104 x24_1), .int .i64 (rd y113 x34_2), .pointer A3_0] rfl (by first | rfl | (simp [Act.eval, Act.put] <;> rfl)) (by (try simp only [List.map_toArray, List.map_cons, List.map_nil]); first | done | rfl | (simp only [List.length_drop, List.length_take]; rfl)) ?_; (with_reducible refine (bound_Div_api_Fix_2.calls k2 (rd y104 x24_1) (rd y113 x34_2) _ (List.length l3_0) l3_0 t119 t120 _ ?side1 ?side2 A27.out).mono ?_); (case side1 => repeat (first | exact (Kd.C_below HR3_0.out HB.out) | (with_reducible refine Kd.C_alloc ?_ _) | (with_reducible refine Kd.C_drewN ?_ _) | (with_reducible refine Kd.C_drew ?_))); (case side2 => exact Nat.le_refl _); rintro e w46 ⟨rfl, hb⟩; refine ⟨_, rfl, ?_⟩; have n0_ := Aside0.mk (Kd.R_below (by exact HO_9.out) hb); have n1_ := Aside0.mk (Kd.R_below (by exact HO_22.out) hb); have n2_ := Aside0.mk (Kd.R_below (by exact HO_32.out) hb); have n3_ := bkb_ BK101 hb rfl; have n4_ := bkb_ BK102 hb rfl; have n5_ := bkb_ BK103 hb rfl; have n6_ := hbs_ HB hb rfl rfl rfl rfl; clear HO_9; clear HO_22; clear HO_32; clear BK101; clear BK102; clear BK103; clear HB; have HO_9 := n0_; have HO_22 := n1_; have HO_32 := n2_; have BK101 := n3_; have BK102 := n4_; have BK103 := n5_; have HB := n6_; clear n0_ n1_ n2_ n3_ n4_ n5_ n6_; (try clear hb); (try clear hb2); (try clear hk); (try clear hi)) | ((with_reducible refine gate_callee (f := 24) rfl ?_); refine glq_ (some 58) Try.func24 #[] ?_; (with_reducible refine (bound_None_api_Fix.calls  t130 t131 t132 _ A44.out).mono ?_); rintro e w47 ⟨rfl, hb⟩; refine ⟨_, rfl, ?_⟩; replace HO_9 := Aside0.mk (Kd.R_below (by exact HO_9.out) hb); replace HO_22 := Aside0.mk (Kd.R_below (by exact HO_22.out) hb); replace HO_32 := Aside0.mk (Kd.R_below (by exact HO_32.out) hb); replace BK101 := bkb_ BK101 hb rfl; replace BK102 := bkb_ BK102 hb rfl; replace BK103 := bkb_ BK103 hb rfl; replace HB := hbs_ HB hb rfl rfl rfl rfl; (try clear hb); have hnb48 := NB103_101.out; have hnc48 := NB101_103.out; have hnb49 := NB103_102.out; have hnc49 := NB102_103.out; have hcz50_0 := bc_ BK103 0 rfl; have hcz50_1 := bc_ BK103 1 rfl; have hcz50_2 := bc_ BK103 2 rfl; have hfz50 := blk_frozen BK103.out))
      refine bodyPost_ret (results_cell_row rfl _ _ gb103 41 #[.int .i64 t130, .int .i64 t131, .bool t132] (0, 0) _ rfl (by exact blk_put (blk_put (blk_put BK103.out 0 _ rfl) 1 _ rfl) 2 _ rfl) Try.underlying41 rfl (by kernel_rfl)) rfl ?_
      exact ⟨by first | rfl | (simp [errW_none, errW_some] <;> rfl), by repeat (first | exact HB.out | apply below_alloc | refine below_set ?_ GE101.out | refine below_set ?_ GE102.out | refine below_set ?_ GE103.out)⟩

end Go.Proofs.Ytjgikgbolacikaa.Q
