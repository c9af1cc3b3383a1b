/- Contracts, as in the first text; no condition. -/
import Derived.Test.YtjgikgbolacikaaKHorizonAimedQx0
import Derived.Test.YtjgikgbolacikaaKHorizonAimedQx5
import Derived.Test.YtjgikgbolacikaaKHorizonAimedQx6
namespace Go.Proofs.Ytjgikgbolacikaa.Q
open Go.RowKit Go.Proofs.YtjgikgbolacikaaW.PrintWords Go.Proofs.YtjgikgbolacikaaW.PrintLast Go.Proofs.YtjgikgbolacikaaW.PrintMore
attribute [local go_sem] max2_int min2_int max_two min_two max_three min_three max_four min_four
set_option linter.unusedVariables false
set_option linter.unusedSimpArgs false

def trig_times.f (k : Nat) (a0 : Int) (a1 : Int) : Option (Int) := (num_MulDiv.f k a0 a1 1152921504606846976).bind fun bt101 => (some bt101.1)
theorem trig_times.mono : ∀ a0 a1 k, LeO (trig_times.f k a0 a1) (trig_times.f (k + 1) a0 a1) := by
 intro a0 a1 k
 unfold trig_times.f
 repeat' first
  | (with_reducible exact num_MulDiv.mono _ _ _ _)
  | (with_reducible exact LeO.refl _)
  | (with_reducible exact LeO.none _)
  | (with_reducible refine LeO.ite ?_ ?_)
  | (with_reducible refine LeO.bind ?_ (fun _ => ?_))
set_option maxHeartbeats 8000000 in
set_option maxRecDepth 100000 in
theorem trig_times.calls (k : Nat) (a0 : Int) (a1 : Int) (r : Int) (w : World) (h : trig_times.f k a0 a1 = some r) :
 Calls Try.prog 57 #[.int .i64 a0, .int .i64 a1] w fun e w' => e = .returned (.int .i64 r) ∧ Below w.heap.size w w' := by
  have HB := Aside0.mk (Below.refl w.heap.size w)
  have H : ((num_MulDiv.f k a0 a1 1152921504606846976).bind fun bt101 => (some bt101.1)) = some r := h
  clear h
  replace H := bso_ H
  obtain ⟨⟨t101, t102⟩, A30, H⟩ := H
  try dsimp -simprocs only at H
  have A3 := Aside0.mk A30
  clear A30
  obtain rfl := Option.some.inj H
  go_enter Try.func57, Try.ntmps57
  go_wp2_with (first | ((with_reducible refine gate_callee (f := 47) rfl ?_); refine glq_ (some 10) Try.func47 #[.int .i64 a0, .int .i64 a1, .int .i64 1152921504606846976] ?_; (with_reducible refine (num_MulDiv.calls k a0 a1 1152921504606846976 t101 t102 _ A3.out).mono ?_); rintro e w4 ⟨rfl, hb⟩; refine ⟨_, rfl, ?_⟩; replace HB := hbs_ HB hb rfl rfl rfl rfl; (try clear hb)))
  go_ret
  exact ⟨by first | rfl | (simp [errW_none, errW_some] <;> rfl), by repeat (first | exact HB.out | apply below_alloc | apply pw_below_drewN)⟩

def trig_series.l0 : Nat → Int → Int → List Int → Int → Int → Option (Int)
 | 0, _, _, _, _, _ => none
 | k + 1, x0, x5, x8, x9, x10 => if x10 < x9 then (if 0 ≤ x10 then (if x10 < (x8.length : Int) then ((trig_times.f k x0 x5).bind fun t102 => (if (rd x8 x10) = 0 then (none) else (trig_series.l0 k x0 (wrap64 (1152921504606846976 - (wrap64 (Int.tdiv t102 (rd x8 x10))))) x8 x9 (wrap64 (x10 + 1))))) else (none)) else (none)) else (some x5)
def trig_series.f (k : Nat) (a0 : Int) (l1 : List Int) : Option (Int) := trig_series.l0 k a0 1152921504606846976 l1 (l1.length : Int) 0
theorem trig_series.mono_l : ∀ k, (∀ y0 y1 y2 y3 y4, LeO (trig_series.l0 k y0 y1 y2 y3 y4) (trig_series.l0 (k + 1) y0 y1 y2 y3 y4))
 | 0 => fun _ _ _ _ _ r h => by simp [trig_series.l0] at h
 | k + 1 => by
  have ih0 := trig_series.mono_l k
  · intro y0 y1 y2 y3 y4
    unfold trig_series.l0
    repeat' first
    | (with_reducible exact ih0 _ _ _ _ _)
    | (with_reducible exact trig_times.mono _ _ _)
    | (with_reducible exact LeO.refl _)
    | (with_reducible exact LeO.none _)
    | (with_reducible refine LeO.ite ?_ ?_)
    | (with_reducible refine LeO.bind ?_ (fun _ => ?_))
theorem trig_series.mono : ∀ a0 a1 k, LeO (trig_series.f k a0 a1) (trig_series.f (k + 1) a0 a1) := by
 intro a0 a1 k
 have ih0 := trig_series.mono_l k
 unfold trig_series.f
 repeat' first
  | (with_reducible exact ih0 _ _ _ _ _)
  | (with_reducible exact trig_times.mono _ _ _)
  | (with_reducible exact LeO.refl _)
  | (with_reducible exact LeO.none _)
  | (with_reducible refine LeO.ite ?_ ?_)
  | (with_reducible refine LeO.bind ?_ (fun _ => ?_))
set_option maxHeartbeats 8000000 in
set_option maxRecDepth 100000 in
theorem trig_series.calls (k : Nat) (a0 : Int) (A1 : Option Addr) (c1 : Nat) (l1 : List Int) (r : Int) (w : World) (hr1 : Kd.C (Kd.int .i64) w A1 l1.length l1) (hc1 : l1.length ≤ c1) (h : trig_series.f k a0 l1 = some r) :
 Calls Try.prog 58 #[.int .i64 a0, .slice A1 l1.length c1] w fun e w' => e = .returned (.int .i64 r) ∧ Below w.heap.size w w' := by
  have HR1 := Aside0.mk hr1
  have HC1 := Aside0.mk hc1
  clear hr1 hc1
  have HB := Aside0.mk (Below.refl w.heap.size w)
  have H : (trig_series.l0 k a0 1152921504606846976 l1 (l1.length : Int) 0) = some r := h
  clear h
  have H' := Aside0.mk H
  clear H
  go_enter Try.func58, Try.ntmps58
  go_wp2
  go_loopg [5, 10] k (fun kq v5 v10 w' => ∃ (x5_1 : Int) (x10_1 : Int), v5 = .int .i64 x5_1 ∧ v10 = .int .i64 x10_1 ∧ Aside0 (trig_series.l0 kq a0 x5_1 l1 (l1.length : Int) x10_1 = some r) ∧ Aside0 (kq ≤ k) ∧ Aside0 (Below w.heap.size w w'))
  case atStart => exact ⟨(1152921504606846976), (0), (by first | rfl | (simp; done) | (simp [*]; done)), (by first | rfl | (simp; done) | (simp [*]; done)), H', ⟨Nat.le_refl _⟩, ⟨by repeat (first | exact HB.out | apply below_alloc | apply pw_below_drewN)⟩⟩
  case round =>
   clear H'
   obtain ⟨x5_1, x10_1, rfl, rfl, HA, HK1, HB⟩ := hrel
   cases gk with
   | zero => exact absurd HA.out (by simp [trig_series.l0])
   | succ k1 =>
    have H := HA.out
    clear HA
    simp only [trig_series.l0] at H
    by_cases c3 : x10_1 < (l1.length : Int)
    rotate_left
    · rw [if_neg c3] at H
      have c3b0 : decide (x10_1 < (l1.length : Int)) = false := decide_eq_false c3
      clear c3
      obtain rfl := Option.some.inj H
      go_wp2
      go_ret
      exact ⟨by first | rfl | (simp [errW_none, errW_some] <;> rfl), by repeat (first | exact HB.out | apply below_alloc | apply pw_below_drewN)⟩
    rw [if_pos c3] at H
    have c3b0 : decide (x10_1 < (l1.length : Int)) = true := decide_eq_true c3
    clear c3
    by_cases c4 : 0 ≤ x10_1
    rotate_left
    · rw [if_neg c4] at H
      exact absurd H (by simp)
    rw [if_pos c4] at H
    have c4b0 : decide (0 ≤ x10_1) = true := decide_eq_true c4
    clear c4
    by_cases c5 : x10_1 < (l1.length : Int)
    rotate_left
    · rw [if_neg c5] at H
      exact absurd H (by simp)
    rw [if_pos c5] at H
    have c5b0 : decide (x10_1 < (l1.length : Int)) = true := decide_eq_true c5
    clear c5
    replace H := bso_ H
    obtain ⟨t102, A60, H⟩ := H
    try dsimp -simprocs only at H
    have A6 := Aside0.mk A60
    clear A60
    by_cases c7 : (rd l1 x10_1) = 0
    · rw [if_pos c7] at H
      exact absurd H (by simp)
    rw [if_neg c7] at H
    have c7b0 : ((rd l1 x10_1) == 0) = false := beq_eq_false_iff_ne.mpr c7
    have c7b1 : ((rd l1 x10_1) != 0) = true := bne_iff_ne.mpr c7
    have H' := Aside0.mk H
    clear H
    have p101 : 0 ≤ (x10_1 : Int) := of_decide_eq_true (by first | (with_reducible assumption) | assumption)
    have q101 : x10_1 < (l1.length : Int) := of_decide_eq_true (by first | (with_reducible assumption) | assumption)
    obtain ⟨ad101, e101, hx101_0⟩ := Kd.at_int HR1.out x10_1 p101 q101
    cases e101
    replace hx101_0 := (HB.out.cell (World.block_lt_of_cell? w _ hx101_0)).trans hx101_0
    replace p101 := eq_true p101
    replace q101 := eq_true q101
    go_wp2_with (first | ((with_reducible refine gate_callee (f := 57) rfl ?_); refine glq_ (some 16) Try.func57 #[.int .i64 a0, .int .i64 x5_1] ?_; (with_reducible refine (trig_times.calls k1 a0 x5_1 t102 _ A6.out).mono ?_); rintro e w8 ⟨rfl, hb⟩; refine ⟨_, rfl, ?_⟩; replace HB := hbs_ HB hb rfl rfl rfl rfl; (try clear hb)))
    go_roundg k1
    case measure => have := HK1.out; omega
    case rel => exact ⟨(wrap64 (1152921504606846976 - (wrap64 (Int.tdiv t102 (rd l1 x10_1))))), (wrap64 (x10_1 + 1)), (by first | rfl | (simp; done) | (simp [*]; done)), (by first | rfl | (simp; done) | (simp [*]; done)), H', ⟨by have := HK1.out; omega⟩, ⟨by repeat (first | exact HB.out | apply below_alloc | apply pw_below_drewN)⟩⟩

def trig_quarter.f (k : Nat) (a0 : Int) : Option (Int) := if a0 > 536870912 then ((num_MulDiv.f k (wrap64 (1073741824 - a0)) 1811004864519280710 1073741824).bind fun bt101 => ((trig_times.f k bt101.1 bt101.1).bind fun t103 => ((trig_series.f k t103 (([182, 132, 90, 56, 30, 12, 2] : List Int))).bind fun t107 => ((num_RoundDiv.f k t107 1073741824).bind fun t108 => (some t108))))) else ((num_MulDiv.f k a0 1811004864519280710 1073741824).bind fun bt109 => ((trig_times.f k bt109.1 bt109.1).bind fun t111 => ((trig_series.f k t111 (([156, 110, 72, 42, 20, 6] : List Int))).bind fun t115 => ((trig_times.f k bt109.1 t115).bind fun t116 => ((num_RoundDiv.f k t116 1073741824).bind fun t117 => (some t117))))))
theorem trig_quarter.mono : ∀ a0 k, LeO (trig_quarter.f k a0) (trig_quarter.f (k + 1) a0) := by
 intro a0 k
 unfold trig_quarter.f
 repeat' first
  | (with_reducible exact num_MulDiv.mono _ _ _ _)
  | (with_reducible exact num_RoundDiv.mono _ _ _)
  | (with_reducible exact trig_series.mono _ _ _)
  | (with_reducible exact trig_times.mono _ _ _)
  | (with_reducible exact LeO.refl _)
  | (with_reducible exact LeO.none _)
  | (with_reducible refine LeO.ite ?_ ?_)
  | (with_reducible refine LeO.bind ?_ (fun _ => ?_))
set_option maxHeartbeats 8000000 in
set_option maxRecDepth 100000 in
theorem trig_quarter.calls (k : Nat) (a0 : Int) (r : Int) (w : World) (h : trig_quarter.f k a0 = some r) :
 Calls Try.prog 37 #[.int .i64 a0] w fun e w' => e = .returned (.int .i64 r) ∧ Below w.heap.size w w' := by
  have HB := Aside0.mk (Below.refl w.heap.size w)
  have H : (if a0 > 536870912 then ((num_MulDiv.f k (wrap64 (1073741824 - a0)) 1811004864519280710 1073741824).bind fun bt101 => ((trig_times.f k bt101.1 bt101.1).bind fun t103 => ((trig_series.f k t103 (([182, 132, 90, 56, 30, 12, 2] : List Int))).bind fun t107 => ((num_RoundDiv.f k t107 1073741824).bind fun t108 => (some t108))))) else ((num_MulDiv.f k a0 1811004864519280710 1073741824).bind fun bt109 => ((trig_times.f k bt109.1 bt109.1).bind fun t111 => ((trig_series.f k t111 (([156, 110, 72, 42, 20, 6] : List Int))).bind fun t115 => ((trig_times.f k bt109.1 t115).bind fun t116 => ((num_RoundDiv.f k t116 1073741824).bind fun t117 => (some t117))))))) = some r := h
  clear h
  by_cases c2 : a0 > 536870912
  · rw [if_pos c2] at H
    have c2b0 : decide (536870912 < a0) = true := decide_eq_true c2
    clear c2
    replace H := bso_ H
    obtain ⟨⟨t101, t102⟩, A30, H⟩ := H
    try dsimp -simprocs only at H
    have A3 := Aside0.mk A30
    clear A30
    replace H := bso_ H
    obtain ⟨t103, A40, H⟩ := H
    try dsimp -simprocs only at H
    have A4 := Aside0.mk A40
    clear A40
    obtain ⟨y104, hy104⟩ : ∃ y_ : List Int, y_ = (([182, 132, 90, 56, 30, 12, 2] : List Int)) := ⟨_, rfl⟩
    replace H : ((trig_series.f k t103 y104).bind fun t107 => ((num_RoundDiv.f k t107 1073741824).bind fun t108 => (some t108))) = some r := by first | (rw [hy104]; with_reducible exact H) | (have H2_ := (Option.bind_some _ _).symm.trans H; rw [hy104]; with_reducible exact H2_) | (have H2_ := (Option.bind_some _ _).symm.trans H; with_reducible exact H2_) | with_reducible exact H | (rw [hy104]; exact H) | exact H
    have Ny104 := Aside0.mk hy104
    clear hy104
    replace H := bso_ H
    obtain ⟨t107, A50, H⟩ := H
    try dsimp -simprocs only at H
    have A5 := Aside0.mk A50
    clear A50
    replace H := bso_ H
    obtain ⟨t108, A60, H⟩ := H
    try dsimp -simprocs only at H
    have A6 := Aside0.mk A60
    clear A60
    obtain rfl := Option.some.inj H
    go_enter Try.func37, Try.ntmps37
    go_wp2_with (first | ((with_reducible refine gate_callee (f := 47) rfl ?_); refine glq_ (some 14) Try.func47 #[.int .i64 (wrap64 (1073741824 - a0)), .int .i64 1811004864519280710, .int .i64 1073741824] ?_; (with_reducible refine (num_MulDiv.calls k (wrap64 (1073741824 - a0)) 1811004864519280710 1073741824 t101 t102 _ A3.out).mono ?_); rintro e w7 ⟨rfl, hb⟩; refine ⟨_, rfl, ?_⟩; replace HB := hbs_ HB hb rfl rfl rfl rfl; (try clear hb)) | ((with_reducible refine gate_callee (f := 57) rfl ?_); refine glq_ (some 19) Try.func57 #[.int .i64 t101, .int .i64 t101] ?_; (with_reducible refine (trig_times.calls k t101 t101 t103 _ A4.out).mono ?_); rintro e w8 ⟨rfl, hb⟩; refine ⟨_, rfl, ?_⟩; replace HB := hbs_ HB hb rfl rfl rfl rfl; (try clear hb)) | ((with_reducible refine gate_dst (N := 22) rfl ?_); refine Kd.R_lit (Kd.int .i64) _ 2 ?hg (N := 22) ?hd (xs := ([182, 132, 90, 56, 30, 12, 2] : List Int)) (inner := [.int .i64 182, .int .i64 132, .int .i64 90, .int .i64 56, .int .i64 30, .int .i64 12, .int .i64 2]) (ok := fun _ => True) (okp := fun _ => True) ?hr ?hp (fun _ hk => hk) trivial (Below.refl _ _) (Nat.le_refl _) (by simp) ?_; (case hd => rfl); (case hg => rfl); (case hr => first | (go_simp; done) | (go_simp; rfl)); (case hp => exact (Reps.one (show Kd.M (Kd.int .i64) _ _ _ 182 [.int .i64 182] from rfl) (Reps.one (show Kd.M (Kd.int .i64) _ _ _ 132 [.int .i64 132] from rfl) (Reps.one (show Kd.M (Kd.int .i64) _ _ _ 90 [.int .i64 90] from rfl) (Reps.one (show Kd.M (Kd.int .i64) _ _ _ 56 [.int .i64 56] from rfl) (Reps.one (show Kd.M (Kd.int .i64) _ _ _ 30 [.int .i64 30] from rfl) (Reps.one (show Kd.M (Kd.int .i64) _ _ _ 12 [.int .i64 12] from rfl) (Reps.one (show Kd.M (Kd.int .i64) _ _ _ 2 [.int .i64 2] from rfl) (Reps.none _ _))))))))); intro v105 w9 ho10 hb hg_ hnew_; clear hg_ hnew_; (first | rw [← Ny104.out] at ho10 | (simp only [Int.reduceToNat] at ho10; rw [← Ny104.out] at ho10)); have HO106 := Aside0.mk (Kd.R_lower ho10 (below_size (by repeat (first | exact HB.out | apply below_alloc | apply pw_below_drewN)))); replace HB := hbs_ HB hb rfl rfl rfl rfl; clear hb ho10; obtain ⟨Ao11, co11, eo11⟩ := Kd.R_slice HO106.out; subst eo11) | ((with_reducible refine gate_callee (f := 58) rfl ?_); refine glq_ (some 23) Try.func58 #[.int .i64 t103, .slice Ao11 y104.length co11] ?_; (with_reducible refine (trig_series.calls k t103 _ _ y104 t107 _ ?side1 ?side2 A5.out).mono ?_); (case side1 => repeat (first | exact (Kd.R_reads' HO106.out).2.2 | (with_reducible refine Kd.C_alloc ?_ _) | (with_reducible refine Kd.C_drewN ?_ _) | (with_reducible refine Kd.C_drew ?_))); (case side2 => exact (Kd.R_reads' HO106.out).2.1); rintro e w12 ⟨rfl, hb⟩; refine ⟨_, rfl, ?_⟩; replace HO106 := Aside0.mk (Kd.R_below (by exact HO106.out) hb); replace HB := hbs_ HB hb rfl rfl rfl rfl; (try clear hb)) | ((with_reducible refine gate_callee (f := 21) rfl ?_); refine glq_ (some 24) Try.func21 #[.int .i64 t107, .int .i64 1073741824] ?_; (with_reducible refine (num_RoundDiv.calls k t107 1073741824 t108 _ A6.out).mono ?_); rintro e w' ⟨rfl, ⟨nd, rfl⟩⟩; refine ⟨_, rfl, ?_⟩))
    go_ret
    exact ⟨by first | rfl | (simp [errW_none, errW_some] <;> rfl), by repeat (first | exact HB.out | apply below_alloc | apply pw_below_drewN)⟩
  rw [if_neg c2] at H
  have c2b0 : decide (536870912 < a0) = false := decide_eq_false c2
  clear c2
  replace H := bso_ H
  obtain ⟨⟨t109, t110⟩, A130, H⟩ := H
  try dsimp -simprocs only at H
  have A13 := Aside0.mk A130
  clear A130
  replace H := bso_ H
  obtain ⟨t111, A140, H⟩ := H
  try dsimp -simprocs only at H
  have A14 := Aside0.mk A140
  clear A140
  obtain ⟨y112, hy112⟩ : ∃ y_ : List Int, y_ = (([156, 110, 72, 42, 20, 6] : List Int)) := ⟨_, rfl⟩
  replace H : ((trig_series.f k t111 y112).bind fun t115 => ((trig_times.f k t109 t115).bind fun t116 => ((num_RoundDiv.f k t116 1073741824).bind fun t117 => (some t117)))) = some r := by first | (rw [hy112]; with_reducible exact H) | (have H2_ := (Option.bind_some _ _).symm.trans H; rw [hy112]; with_reducible exact H2_) | (have H2_ := (Option.bind_some _ _).symm.trans H; with_reducible exact H2_) | with_reducible exact H | (rw [hy112]; exact H) | exact H
  have Ny112 := Aside0.mk hy112
  clear hy112
  replace H := bso_ H
  obtain ⟨t115, A150, H⟩ := H
  try dsimp -simprocs only at H
  have A15 := Aside0.mk A150
  clear A150
  replace H := bso_ H
  obtain ⟨t116, A160, H⟩ := H
  try dsimp -simprocs only at H
  have A16 := Aside0.mk A160
  clear A160
  replace H := bso_ H
  obtain ⟨t117, A170, H⟩ := H
  try dsimp -simprocs only at H
  have A17 := Aside0.mk A170
  clear A170
  obtain rfl := Option.some.inj H
  go_enter Try.func37, Try.ntmps37
  go_wp2_with (first | ((with_reducible refine gate_callee (f := 47) rfl ?_); refine glq_ (some 14) Try.func47 #[.int .i64 a0, .int .i64 1811004864519280710, .int .i64 1073741824] ?_; (with_reducible refine (num_MulDiv.calls k a0 1811004864519280710 1073741824 t109 t110 _ A13.out).mono ?_); rintro e w18 ⟨rfl, hb⟩; refine ⟨_, rfl, ?_⟩; replace HB := hbs_ HB hb rfl rfl rfl rfl; (try clear hb)) | ((with_reducible refine gate_callee (f := 57) rfl ?_); refine glq_ (some 19) Try.func57 #[.int .i64 t109, .int .i64 t109] ?_; (with_reducible refine (trig_times.calls k t109 t109 t111 _ A14.out).mono ?_); rintro e w19 ⟨rfl, hb⟩; refine ⟨_, rfl, ?_⟩; replace HB := hbs_ HB hb rfl rfl rfl rfl; (try clear hb)) | ((with_reducible refine gate_dst (N := 27) rfl ?_); refine Kd.R_lit (Kd.int .i64) _ 2 ?hg (N := 27) ?hd (xs := ([156, 110, 72, 42, 20, 6] : List Int)) (inner := [.int .i64 156, .int .i64 110, .int .i64 72, .int .i64 42, .int .i64 20, .int .i64 6]) (ok := fun _ => True) (okp := fun _ => True) ?hr ?hp (fun _ hk => hk) trivial (Below.refl _ _) (Nat.le_refl _) (by simp) ?_; (case hd => rfl); (case hg => rfl); (case hr => first | (go_simp; done) | (go_simp; rfl)); (case hp => exact (Reps.one (show Kd.M (Kd.int .i64) _ _ _ 156 [.int .i64 156] from rfl) (Reps.one (show Kd.M (Kd.int .i64) _ _ _ 110 [.int .i64 110] from rfl) (Reps.one (show Kd.M (Kd.int .i64) _ _ _ 72 [.int .i64 72] from rfl) (Reps.one (show Kd.M (Kd.int .i64) _ _ _ 42 [.int .i64 42] from rfl) (Reps.one (show Kd.M (Kd.int .i64) _ _ _ 20 [.int .i64 20] from rfl) (Reps.one (show Kd.M (Kd.int .i64) _ _ _ 6 [.int .i64 6] from rfl) (Reps.none _ _)))))))); intro v113 w20 ho21 hb hg_ hnew_; clear hg_ hnew_; (first | rw [← Ny112.out] at ho21 | (simp only [Int.reduceToNat] at ho21; rw [← Ny112.out] at ho21)); have HO114 := Aside0.mk (Kd.R_lower ho21 (below_size (by repeat (first | exact HB.out | apply below_alloc | apply pw_below_drewN)))); replace HB := hbs_ HB hb rfl rfl rfl rfl; clear hb ho21; obtain ⟨Ao22, co22, eo22⟩ := Kd.R_slice HO114.out; subst eo22) | ((with_reducible refine gate_callee (f := 58) rfl ?_); refine glq_ (some 28) Try.func58 #[.int .i64 t111, .slice Ao22 y112.length co22] ?_; (with_reducible refine (trig_series.calls k t111 _ _ y112 t115 _ ?side1 ?side2 A15.out).mono ?_); (case side1 => repeat (first | exact (Kd.R_reads' HO114.out).2.2 | (with_reducible refine Kd.C_alloc ?_ _) | (with_reducible refine Kd.C_drewN ?_ _) | (with_reducible refine Kd.C_drew ?_))); (case side2 => exact (Kd.R_reads' HO114.out).2.1); rintro e w23 ⟨rfl, hb⟩; refine ⟨_, rfl, ?_⟩; replace HO114 := Aside0.mk (Kd.R_below (by exact HO114.out) hb); replace HB := hbs_ HB hb rfl rfl rfl rfl; (try clear hb)) | ((with_reducible refine gate_callee (f := 57) rfl ?_); refine glq_ (some 29) Try.func57 #[.int .i64 t109, .int .i64 t115] ?_; (with_reducible refine (trig_times.calls k t109 t115 t116 _ A16.out).mono ?_); rintro e w24 ⟨rfl, hb⟩; refine ⟨_, rfl, ?_⟩; replace HO114 := Aside0.mk (Kd.R_below (by exact HO114.out) hb); replace HB := hbs_ HB hb rfl rfl rfl rfl; (try clear hb)) | ((with_reducible refine gate_callee (f := 21) rfl ?_); refine glq_ (some 30) Try.func21 #[.int .i64 t116, .int .i64 1073741824] ?_; (with_reducible refine (num_RoundDiv.calls k t116 1073741824 t117 _ A17.out).mono ?_); rintro e w' ⟨rfl, ⟨nd, rfl⟩⟩; refine ⟨_, rfl, ?_⟩))
  go_ret
  exact ⟨by first | rfl | (simp [errW_none, errW_some] <;> rfl), by repeat (first | exact HB.out | apply below_alloc | apply pw_below_drewN)⟩

def trig_Sin.f (k : Nat) (a0 : Int) : Option (Int) := if (wrap64 (Int.tdiv (Go.bits .and .i64 a0 4294967295) 1073741824)) = 0 then ((trig_quarter.f k (Go.bits .and .i64 (Go.bits .and .i64 a0 4294967295) 1073741823)).bind fun t101 => (some t101)) else (if (wrap64 (Int.tdiv (Go.bits .and .i64 a0 4294967295) 1073741824)) = 1 then ((trig_quarter.f k (wrap64 (1073741824 - (Go.bits .and .i64 (Go.bits .and .i64 a0 4294967295) 1073741823)))).bind fun t102 => (some t102)) else (if (wrap64 (Int.tdiv (Go.bits .and .i64 a0 4294967295) 1073741824)) = 2 then ((trig_quarter.f k (Go.bits .and .i64 (Go.bits .and .i64 a0 4294967295) 1073741823)).bind fun t103 => (some (wrap64 (-t103)))) else ((trig_quarter.f k (wrap64 (1073741824 - (Go.bits .and .i64 (Go.bits .and .i64 a0 4294967295) 1073741823)))).bind fun t104 => (some (wrap64 (-t104))))))
theorem trig_Sin.mono : ∀ a0 k, LeO (trig_Sin.f k a0) (trig_Sin.f (k + 1) a0) := by
 intro a0 k
 unfold trig_Sin.f
 repeat' first
  | (with_reducible exact trig_quarter.mono _ _)
  | (with_reducible exact LeO.refl _)
  | (with_reducible exact LeO.none _)
  | (with_reducible refine LeO.ite ?_ ?_)
  | (with_reducible refine LeO.bind ?_ (fun _ => ?_))
set_option maxHeartbeats 8000000 in
set_option maxRecDepth 100000 in
theorem trig_Sin.calls (k : Nat) (a0 : Int) (r : Int) (w : World) (h : trig_Sin.f k a0 = some r) :
 Calls Try.prog 10 #[.int .i64 a0] w fun e w' => e = .returned (.int .i64 r) ∧ Below w.heap.size w w' := by
  have HB := Aside0.mk (Below.refl w.heap.size w)
  have H : (if (wrap64 (Int.tdiv (Go.bits .and .i64 a0 4294967295) 1073741824)) = 0 then ((trig_quarter.f k (Go.bits .and .i64 (Go.bits .and .i64 a0 4294967295) 1073741823)).bind fun t101 => (some t101)) else (if (wrap64 (Int.tdiv (Go.bits .and .i64 a0 4294967295) 1073741824)) = 1 then ((trig_quarter.f k (wrap64 (1073741824 - (Go.bits .and .i64 (Go.bits .and .i64 a0 4294967295) 1073741823)))).bind fun t102 => (some t102)) else (if (wrap64 (Int.tdiv (Go.bits .and .i64 a0 4294967295) 1073741824)) = 2 then ((trig_quarter.f k (Go.bits .and .i64 (Go.bits .and .i64 a0 4294967295) 1073741823)).bind fun t103 => (some (wrap64 (-t103)))) else ((trig_quarter.f k (wrap64 (1073741824 - (Go.bits .and .i64 (Go.bits .and .i64 a0 4294967295) 1073741823)))).bind fun t104 => (some (wrap64 (-t104))))))) = some r := h
  clear h
  by_cases c2 : (wrap64 (Int.tdiv (Go.bits .and .i64 a0 4294967295) 1073741824)) = 0
  · rw [if_pos c2] at H
    have c2b0 : ((wrap64 (Int.tdiv (Go.bits .and .i64 a0 4294967295) 1073741824)) == 0) = true := beq_iff_eq.mpr c2
    have c2b1 : ((wrap64 (Int.tdiv (Go.bits .and .i64 a0 4294967295) 1073741824)) != 0) = false := bne_eq_false_iff_eq.mpr c2
    clear c2
    replace H := bso_ H
    obtain ⟨t101, A30, H⟩ := H
    try dsimp -simprocs only at H
    have A3 := Aside0.mk A30
    clear A30
    obtain rfl := Option.some.inj H
    go_enter Try.func10, Try.ntmps10
    go_wp2_with (first | ((with_reducible refine gate_callee (f := 37) rfl ?_); refine glq_ (some 14) Try.func37 #[.int .i64 (Go.bits .and .i64 (Go.bits .and .i64 a0 4294967295) 1073741823)] ?_; (with_reducible refine (trig_quarter.calls k (Go.bits .and .i64 (Go.bits .and .i64 a0 4294967295) 1073741823) t101 _ A3.out).mono ?_); rintro e w4 ⟨rfl, hb⟩; refine ⟨_, rfl, ?_⟩; replace HB := hbs_ HB hb rfl rfl rfl rfl; (try clear hb)))
    go_ret
    exact ⟨by first | rfl | (simp [errW_none, errW_some] <;> rfl), by repeat (first | exact HB.out | apply below_alloc | apply pw_below_drewN)⟩
  rw [if_neg c2] at H
  have c2b0 : ((wrap64 (Int.tdiv (Go.bits .and .i64 a0 4294967295) 1073741824)) == 0) = false := beq_eq_false_iff_ne.mpr c2
  have c2b1 : ((wrap64 (Int.tdiv (Go.bits .and .i64 a0 4294967295) 1073741824)) != 0) = true := bne_iff_ne.mpr c2
  by_cases c5 : (wrap64 (Int.tdiv (Go.bits .and .i64 a0 4294967295) 1073741824)) = 1
  · rw [if_pos c5] at H
    have c5b0 : ((wrap64 (Int.tdiv (Go.bits .and .i64 a0 4294967295) 1073741824)) == 1) = true := beq_iff_eq.mpr c5
    have c5b1 : ((wrap64 (Int.tdiv (Go.bits .and .i64 a0 4294967295) 1073741824)) != 1) = false := bne_eq_false_iff_eq.mpr c5
    clear c5
    replace H := bso_ H
    obtain ⟨t102, A60, H⟩ := H
    try dsimp -simprocs only at H
    have A6 := Aside0.mk A60
    clear A60
    obtain rfl := Option.some.inj H
    go_enter Try.func10, Try.ntmps10
    go_wp2_with (first | ((with_reducible refine gate_callee (f := 37) rfl ?_); refine glq_ (some 19) Try.func37 #[.int .i64 (wrap64 (1073741824 - (Go.bits .and .i64 (Go.bits .and .i64 a0 4294967295) 1073741823)))] ?_; (with_reducible refine (trig_quarter.calls k (wrap64 (1073741824 - (Go.bits .and .i64 (Go.bits .and .i64 a0 4294967295) 1073741823))) t102 _ A6.out).mono ?_); rintro e w7 ⟨rfl, hb⟩; refine ⟨_, rfl, ?_⟩; replace HB := hbs_ HB hb rfl rfl rfl rfl; (try clear hb)))
    go_ret
    exact ⟨by first | rfl | (simp [errW_none, errW_some] <;> rfl), by repeat (first | exact HB.out | apply below_alloc | apply pw_below_drewN)⟩
  rw [if_neg c5] at H
  have c5b0 : ((wrap64 (Int.tdiv (Go.bits .and .i64 a0 4294967295) 1073741824)) == 1) = false := beq_eq_false_iff_ne.mpr c5
  have c5b1 : ((wrap64 (Int.tdiv (Go.bits .and .i64 a0 4294967295) 1073741824)) != 1) = true := bne_iff_ne.mpr c5
  by_cases c8 : (wrap64 (Int.tdiv (Go.bits .and .i64 a0 4294967295) 1073741824)) = 2
  · rw [if_pos c8] at H
    have c8b0 : ((wrap64 (Int.tdiv (Go.bits .and .i64 a0 4294967295) 1073741824)) == 2) = true := beq_iff_eq.mpr c8
    have c8b1 : ((wrap64 (Int.tdiv (Go.bits .and .i64 a0 4294967295) 1073741824)) != 2) = false := bne_eq_false_iff_eq.mpr c8
    clear c8
    replace H := bso_ H
    obtain ⟨t103, A90, H⟩ := H
    try dsimp -simprocs only at H
    have A9 := Aside0.mk A90
    clear A90
    obtain rfl := Option.some.inj H
    go_enter Try.func10, Try.ntmps10
    go_wp2_with (first | ((with_reducible refine gate_callee (f := 37) rfl ?_); refine glq_ (some 23) Try.func37 #[.int .i64 (Go.bits .and .i64 (Go.bits .and .i64 a0 4294967295) 1073741823)] ?_; (with_reducible refine (trig_quarter.calls k (Go.bits .and .i64 (Go.bits .and .i64 a0 4294967295) 1073741823) t103 _ A9.out).mono ?_); rintro e w10 ⟨rfl, hb⟩; refine ⟨_, rfl, ?_⟩; replace HB := hbs_ HB hb rfl rfl rfl rfl; (try clear hb)))
    go_ret
    exact ⟨by first | rfl | (simp [errW_none, errW_some] <;> rfl), by repeat (first | exact HB.out | apply below_alloc | apply pw_below_drewN)⟩
  rw [if_neg c8] at H
  have c8b0 : ((wrap64 (Int.tdiv (Go.bits .and .i64 a0 4294967295) 1073741824)) == 2) = false := beq_eq_false_iff_ne.mpr c8
  have c8b1 : ((wrap64 (Int.tdiv (Go.bits .and .i64 a0 4294967295) 1073741824)) != 2) = true := bne_iff_ne.mpr c8
  replace H := bso_ H
  obtain ⟨t104, A110, H⟩ := H
  try dsimp -simprocs only at H
  have A11 := Aside0.mk A110
  clear A110
  obtain rfl := Option.some.inj H
  go_enter Try.func10, Try.ntmps10
  go_wp2_with (first | ((with_reducible refine gate_callee (f := 37) rfl ?_); refine glq_ (some 27) Try.func37 #[.int .i64 (wrap64 (1073741824 - (Go.bits .and .i64 (Go.bits .and .i64 a0 4294967295) 1073741823)))] ?_; (with_reducible refine (trig_quarter.calls k (wrap64 (1073741824 - (Go.bits .and .i64 (Go.bits .and .i64 a0 4294967295) 1073741823))) t104 _ A11.out).mono ?_); rintro e w12 ⟨rfl, hb⟩; refine ⟨_, rfl, ?_⟩; replace HB := hbs_ HB hb rfl rfl rfl rfl; (try clear hb)))
  go_ret
  exact ⟨by first | rfl | (simp [errW_none, errW_some] <;> rfl), by repeat (first | exact HB.out | apply below_alloc | apply pw_below_drewN)⟩

def trig_Cos.f (k : Nat) (a0 : Int) : Option (Int) := (trig_Sin.f k (wrap64 ((Go.bits .and .i64 a0 4294967295) + 1073741824))).bind fun t101 => (some t101)
theorem trig_Cos.mono : ∀ a0 k, LeO (trig_Cos.f k a0) (trig_Cos.f (k + 1) a0) := by
 intro a0 k
 unfold trig_Cos.f
 repeat' first
  | (with_reducible exact trig_Sin.mono _ _)
  | (with_reducible exact LeO.refl _)
  | (with_reducible exact LeO.none _)
  | (with_reducible refine LeO.ite ?_ ?_)
  | (with_reducible refine LeO.bind ?_ (fun _ => ?_))
set_option maxHeartbeats 8000000 in
set_option maxRecDepth 100000 in
theorem trig_Cos.calls (k : Nat) (a0 : Int) (r : Int) (w : World) (h : trig_Cos.f k a0 = some r) :
 Calls Try.prog 20 #[.int .i64 a0] w fun e w' => e = .returned (.int .i64 r) ∧ Below w.heap.size w w' := by
  have HB := Aside0.mk (Below.refl w.heap.size w)
  have H : ((trig_Sin.f k (wrap64 ((Go.bits .and .i64 a0 4294967295) + 1073741824))).bind fun t101 => (some t101)) = some r := h
  clear h
  replace H := bso_ H
  obtain ⟨t101, A20, H⟩ := H
  try dsimp -simprocs only at H
  have A2 := Aside0.mk A20
  clear A20
  obtain rfl := Option.some.inj H
  go_enter Try.func20, Try.ntmps20
  go_wp2_with (first | ((with_reducible refine gate_callee (f := 10) rfl ?_); refine glq_ (some 6) Try.func10 #[.int .i64 (wrap64 ((Go.bits .and .i64 a0 4294967295) + 1073741824))] ?_; (with_reducible refine (trig_Sin.calls k (wrap64 ((Go.bits .and .i64 a0 4294967295) + 1073741824)) t101 _ A2.out).mono ?_); rintro e w3 ⟨rfl, hb⟩; refine ⟨_, rfl, ?_⟩; replace HB := hbs_ HB hb rfl rfl rfl rfl; (try clear hb)))
  go_ret
  exact ⟨by first | rfl | (simp [errW_none, errW_some] <;> rfl), by repeat (first | exact HB.out | apply below_alloc | apply pw_below_drewN)⟩

def trig_octant.l0 : Nat → Int → Int → Int → Int → Option (Int)
 | 0, _, _, _, _ => none
 | k + 1, x0, x1, x5, x6 => if (wrap64 (x6 - x5)) > 1 then ((trig_Sin.f k (wrap64 (Int.tdiv (wrap64 (x5 + x6)) 2))).bind fun t101 => ((trig_Cos.f k (wrap64 (Int.tdiv (wrap64 (x5 + x6)) 2))).bind fun t102 => (if (wrap64 (t101 * x1)) ≤ (wrap64 (t102 * x0)) then (trig_octant.l0 k x0 x1 (wrap64 (Int.tdiv (wrap64 (x5 + x6)) 2)) x6) else (trig_octant.l0 k x0 x1 x5 (wrap64 (Int.tdiv (wrap64 (x5 + x6)) 2)))))) else (some x5)
def trig_octant.f (k : Nat) (a0 : Int) (a1 : Int) : Option (Int) := trig_octant.l0 k a0 a1 0 536870913
theorem trig_octant.mono_l : ∀ k, (∀ y0 y1 y2 y3, LeO (trig_octant.l0 k y0 y1 y2 y3) (trig_octant.l0 (k + 1) y0 y1 y2 y3))
 | 0 => fun _ _ _ _ r h => by simp [trig_octant.l0] at h
 | k + 1 => by
  have ih0 := trig_octant.mono_l k
  · intro y0 y1 y2 y3
    unfold trig_octant.l0
    repeat' first
    | (with_reducible exact ih0 _ _ _ _)
    | (with_reducible exact trig_Cos.mono _ _)
    | (with_reducible exact trig_Sin.mono _ _)
    | (with_reducible exact LeO.refl _)
    | (with_reducible exact LeO.none _)
    | (with_reducible refine LeO.ite ?_ ?_)
    | (with_reducible refine LeO.bind ?_ (fun _ => ?_))
theorem trig_octant.mono : ∀ a0 a1 k, LeO (trig_octant.f k a0 a1) (trig_octant.f (k + 1) a0 a1) := by
 intro a0 a1 k
 have ih0 := trig_octant.mono_l k
 unfold trig_octant.f
 repeat' first
  | (with_reducible exact ih0 _ _ _ _)
  | (with_reducible exact trig_Cos.mono _ _)
  | (with_reducible exact trig_Sin.mono _ _)
  | (with_reducible exact LeO.refl _)
  | (with_reducible exact LeO.none _)
  | (with_reducible refine LeO.ite ?_ ?_)
  | (with_reducible refine LeO.bind ?_ (fun _ => ?_))
set_option maxHeartbeats 8000000 in
set_option maxRecDepth 100000 in
theorem trig_octant.calls (k : Nat) (a0 : Int) (a1 : Int) (r : Int) (w : World) (h : trig_octant.f k a0 a1 = some r) :
 Calls Try.prog 39 #[.int .i64 a0, .int .i64 a1] w fun e w' => e = .returned (.int .i64 r) ∧ Below w.heap.size w w' := by
  have HB := Aside0.mk (Below.refl w.heap.size w)
  have H : (trig_octant.l0 k a0 a1 0 536870913) = some r := h
  clear h
  have H' := Aside0.mk H
  clear H
  go_enter Try.func39, Try.ntmps39
  go_wp2
  go_loopg [5, 6] k (fun kq v5 v6 w' => ∃ (x5_1 : Int) (x6_1 : Int), v5 = .int .i64 x5_1 ∧ v6 = .int .i64 x6_1 ∧ Aside0 (trig_octant.l0 kq a0 a1 x5_1 x6_1 = some r) ∧ Aside0 (kq ≤ k) ∧ Aside0 (Below w.heap.size w w'))
  case atStart => exact ⟨(0), (536870913), (by first | rfl | (simp; done) | (simp [*]; done)), (by first | rfl | (simp; done) | (simp [*]; done)), H', ⟨Nat.le_refl _⟩, ⟨by repeat (first | exact HB.out | apply below_alloc | apply pw_below_drewN)⟩⟩
  case round =>
   clear H'
   obtain ⟨x5_1, x6_1, rfl, rfl, HA, HK1, HB⟩ := hrel
   cases gk with
   | zero => exact absurd HA.out (by simp [trig_octant.l0])
   | succ k1 =>
    have H := HA.out
    clear HA
    simp only [trig_octant.l0] at H
    by_cases c3 : (wrap64 (x6_1 - x5_1)) > 1
    rotate_left
    · rw [if_neg c3] at H
      have c3b0 : decide (1 < (wrap64 (x6_1 - x5_1))) = false := decide_eq_false c3
      clear c3
      obtain rfl := Option.some.inj H
      go_wp2
      go_ret
      exact ⟨by first | rfl | (simp [errW_none, errW_some] <;> rfl), by repeat (first | exact HB.out | apply below_alloc | apply pw_below_drewN)⟩
    rw [if_pos c3] at H
    have c3b0 : decide (1 < (wrap64 (x6_1 - x5_1))) = true := decide_eq_true c3
    clear c3
    replace H := bso_ H
    obtain ⟨t101, A40, H⟩ := H
    try dsimp -simprocs only at H
    have A4 := Aside0.mk A40
    clear A40
    replace H := bso_ H
    obtain ⟨t102, A50, H⟩ := H
    try dsimp -simprocs only at H
    have A5 := Aside0.mk A50
    clear A50
    by_cases c6 : (wrap64 (t101 * a1)) ≤ (wrap64 (t102 * a0))
    · rw [if_pos c6] at H
      have c6b0 : decide ((wrap64 (t101 * a1)) ≤ (wrap64 (t102 * a0))) = true := decide_eq_true c6
      clear c6
      have H' := Aside0.mk H
      clear H
      go_wp2_with (first | ((with_reducible refine gate_callee (f := 10) rfl ?_); refine glq_ (some 17) Try.func10 #[.int .i64 (wrap64 (Int.tdiv (wrap64 (x5_1 + x6_1)) 2))] ?_; (with_reducible refine (trig_Sin.calls k1 (wrap64 (Int.tdiv (wrap64 (x5_1 + x6_1)) 2)) t101 _ A4.out).mono ?_); rintro e w7 ⟨rfl, hb⟩; refine ⟨_, rfl, ?_⟩; replace HB := hbs_ HB hb rfl rfl rfl rfl; (try clear hb)) | ((with_reducible refine gate_callee (f := 20) rfl ?_); refine glq_ (some 21) Try.func20 #[.int .i64 (wrap64 (Int.tdiv (wrap64 (x5_1 + x6_1)) 2))] ?_; (with_reducible refine (trig_Cos.calls k1 (wrap64 (Int.tdiv (wrap64 (x5_1 + x6_1)) 2)) t102 _ A5.out).mono ?_); rintro e w8 ⟨rfl, hb⟩; refine ⟨_, rfl, ?_⟩; replace HB := hbs_ HB hb rfl rfl rfl rfl; (try clear hb)))
      go_roundg k1
      case measure => have := HK1.out; omega
      case rel => exact ⟨(wrap64 (Int.tdiv (wrap64 (x5_1 + x6_1)) 2)), (x6_1), (by first | rfl | (simp; done) | (simp [*]; done)), (by first | rfl | (simp; done) | (simp [*]; done)), H', ⟨by have := HK1.out; omega⟩, ⟨by repeat (first | exact HB.out | apply below_alloc | apply pw_below_drewN)⟩⟩
    rw [if_neg c6] at H
    have c6b0 : decide ((wrap64 (t101 * a1)) ≤ (wrap64 (t102 * a0))) = false := decide_eq_false c6
    clear c6
    have H' := Aside0.mk H
    clear H
    go_wp2_with (first | ((with_reducible refine gate_callee (f := 10) rfl ?_); refine glq_ (some 17) Try.func10 #[.int .i64 (wrap64 (Int.tdiv (wrap64 (x5_1 + x6_1)) 2))] ?_; (with_reducible refine (trig_Sin.calls k1 (wrap64 (Int.tdiv (wrap64 (x5_1 + x6_1)) 2)) t101 _ A4.out).mono ?_); rintro e w9 ⟨rfl, hb⟩; refine ⟨_, rfl, ?_⟩; replace HB := hbs_ HB hb rfl rfl rfl rfl; (try clear hb)) | ((with_reducible refine gate_callee (f := 20) rfl ?_); refine glq_ (some 21) Try.func20 #[.int .i64 (wrap64 (Int.tdiv (wrap64 (x5_1 + x6_1)) 2))] ?_; (with_reducible refine (trig_Cos.calls k1 (wrap64 (Int.tdiv (wrap64 (x5_1 + x6_1)) 2)) t102 _ A5.out).mono ?_); rintro e w10 ⟨rfl, hb⟩; refine ⟨_, rfl, ?_⟩; replace HB := hbs_ HB hb rfl rfl rfl rfl; (try clear hb)))
    go_roundg k1
    case measure => have := HK1.out; omega
    case rel => exact ⟨(x5_1), (wrap64 (Int.tdiv (wrap64 (x5_1 + x6_1)) 2)), (by first | rfl | (simp; done) | (simp [*]; done)), (by first | rfl | (simp; done) | (simp [*]; done)), H', ⟨by have := HK1.out; omega⟩, ⟨by repeat (first | exact HB.out | apply below_alloc | apply pw_below_drewN)⟩⟩

mutual
def trig_Atan2.j1 : Nat → Int → Int → Option (Int × Int)
 | 0, _, _ => none
 | k + 1, x0, x1 => if (mx x0 (wrap64 (-x0))) ≤ (mx x1 (wrap64 (-x1))) then ((trig_octant.f k (mx x0 (wrap64 (-x0))) (mx x1 (wrap64 (-x1)))).bind fun t101 => (trig_Atan2.j2 k x0 x1 t101)) else ((trig_octant.f k (mx x1 (wrap64 (-x1))) (mx x0 (wrap64 (-x0)))).bind fun t102 => (trig_Atan2.j2 k x0 x1 (wrap64 (1073741824 - t102))))
def trig_Atan2.j2 : Nat → Int → Int → Int → Option (Int × Int)
 | 0, _, _, _ => none
 | k + 1, x0, x1, x8 => if x1 < 0 then (if x0 < 0 then (some (Int.tmod (wrap64 (4294967296 - (wrap64 (2147483648 - x8)))) 4294967296, 0)) else (some (Int.tmod (wrap64 (2147483648 - x8)) 4294967296, 0))) else (if x0 < 0 then (some (Int.tmod (wrap64 (4294967296 - x8)) 4294967296, 0)) else (some (Int.tmod x8 4294967296, 0)))
def trig_Atan2.j0 : Nat → Int → Int → Bool → Option (Int × Int)
 | 0, _, _, _ => none
 | k + 1, x0, x1, x9 => if x9 = true then (some (0, 4)) else (if x1 = 0 then (if x0 = 0 then (some (0, 8)) else (trig_Atan2.j1 k x0 x1)) else (trig_Atan2.j1 k x0 x1))
end
def trig_Atan2.f (k : Nat) (a0 : Int) (a1 : Int) : Option (Int × Int) := if a1 < (-4294967296) then (trig_Atan2.j0 k a0 a1 true) else (if a1 > 4294967296 then (trig_Atan2.j0 k a0 a1 true) else (if a0 < (-4294967296) then (trig_Atan2.j0 k a0 a1 true) else (trig_Atan2.j0 k a0 a1 (decide (a0 > 4294967296)))))
theorem trig_Atan2.mono_l : ∀ k, (∀ y0 y1, LeO (trig_Atan2.j1 k y0 y1) (trig_Atan2.j1 (k + 1) y0 y1)) ∧ (∀ y0 y1 y2, LeO (trig_Atan2.j2 k y0 y1 y2) (trig_Atan2.j2 (k + 1) y0 y1 y2)) ∧ (∀ y0 y1 y2, LeO (trig_Atan2.j0 k y0 y1 y2) (trig_Atan2.j0 (k + 1) y0 y1 y2))
 | 0 => ⟨fun _ _ r h => by simp [trig_Atan2.j1] at h, fun _ _ _ r h => by simp [trig_Atan2.j2] at h, fun _ _ _ r h => by simp [trig_Atan2.j0] at h⟩
 | k + 1 => by
  obtain ⟨ih0, ih1, ih2⟩ := trig_Atan2.mono_l k
  refine ⟨?_, ?_, ?_⟩
  · intro y0 y1
    unfold trig_Atan2.j1
    repeat' first
    | (with_reducible exact ih0 _ _)
    | (with_reducible exact ih1 _ _ _)
    | (with_reducible exact ih2 _ _ _)
    | (with_reducible exact trig_octant.mono _ _ _)
    | (with_reducible exact LeO.refl _)
    | (with_reducible exact LeO.none _)
    | (with_reducible refine LeO.ite ?_ ?_)
    | (with_reducible refine LeO.bind ?_ (fun _ => ?_))
  · intro y0 y1 y2
    unfold trig_Atan2.j2
    repeat' first
    | (with_reducible exact ih0 _ _)
    | (with_reducible exact ih1 _ _ _)
    | (with_reducible exact ih2 _ _ _)
    | (with_reducible exact trig_octant.mono _ _ _)
    | (with_reducible exact LeO.refl _)
    | (with_reducible exact LeO.none _)
    | (with_reducible refine LeO.ite ?_ ?_)
    | (with_reducible refine LeO.bind ?_ (fun _ => ?_))
  · intro y0 y1 y2
    unfold trig_Atan2.j0
    repeat' first
    | (with_reducible exact ih0 _ _)
    | (with_reducible exact ih1 _ _ _)
    | (with_reducible exact ih2 _ _ _)
    | (with_reducible exact trig_octant.mono _ _ _)
    | (with_reducible exact LeO.refl _)
    | (with_reducible exact LeO.none _)
    | (with_reducible refine LeO.ite ?_ ?_)
    | (with_reducible refine LeO.bind ?_ (fun _ => ?_))
theorem trig_Atan2.mono : ∀ a0 a1 k, LeO (trig_Atan2.f k a0 a1) (trig_Atan2.f (k + 1) a0 a1) := by
 intro a0 a1 k
 obtain ⟨ih0, ih1, ih2⟩ := trig_Atan2.mono_l k
 unfold trig_Atan2.f
 repeat' first
  | (with_reducible exact ih0 _ _)
  | (with_reducible exact ih1 _ _ _)
  | (with_reducible exact ih2 _ _ _)
  | (with_reducible exact trig_octant.mono _ _ _)
  | (with_reducible exact LeO.refl _)
  | (with_reducible exact LeO.none _)
  | (with_reducible refine LeO.ite ?_ ?_)
  | (with_reducible refine LeO.bind ?_ (fun _ => ?_))
set_option maxHeartbeats 8000000 in
set_option maxRecDepth 100000 in
theorem trig_Atan2.calls (k : Nat) (a0 : Int) (a1 : Int) (r1 : Int) (r2 : Int) (w : World) (h : trig_Atan2.f k a0 a1 = some (r1, r2)) :
 Calls Try.prog 22 #[.int .i64 a0, .int .i64 a1] w fun e w' => e = .returned (.tuple #[.int .i64 r1, .int .i64 r2]) ∧ Below w.heap.size w w' := by
  have HB := Aside0.mk (Below.refl w.heap.size w)
  have H : (if a1 < (-4294967296) then (trig_Atan2.j0 k a0 a1 true) else (if a1 > 4294967296 then (trig_Atan2.j0 k a0 a1 true) else (if a0 < (-4294967296) then (trig_Atan2.j0 k a0 a1 true) else (trig_Atan2.j0 k a0 a1 (decide (a0 > 4294967296)))))) = some (r1, r2) := h
  clear h
  have HC3 := Aside0.mk H
  clear H
  go_enter Try.func22, Try.ntmps22
  go_upto_block 0 with (fail)
  go_cut [] (fun wc => ∃ (kq : Nat), Aside0 (trig_Atan2.j1 kq a0 a1 = some (r1, r2)) ∧ Aside0 (kq ≤ k) ∧ Aside0 (Below w.heap.size w wc))
  case first =>
   have H := HC3.out
   clear HC3
   have HC4 := Aside0.mk H
   clear H
   go_upto_region 1 with (fail)
   go_cut [9] (fun v9 wc => ∃ (kq : Nat) (x9_3 : Bool), v9 = .bool x9_3 ∧ Aside0 (trig_Atan2.j0 kq a0 a1 x9_3 = some (r1, r2)) ∧ Aside0 (kq ≤ k) ∧ Aside0 (Below w.heap.size w wc))
   case first =>
    have H := HC4.out
    clear HC4
    by_cases c5 : a1 < (-4294967296)
    · rw [if_pos c5] at H
      have c5b0 : decide (a1 < (-4294967296)) = true := decide_eq_true c5
      clear c5
      (first | rw [c5b0] | (simp only [i64_w, i32_w]; rw [c5b0]) | skip)
      have H' := Aside0.mk H
      clear H
      go_wp2
      go_meet
      case rel => exact ⟨_, (true), (by first | rfl | (simp; done) | (simp [*]; done)), H', ⟨by first | omega | exact Nat.le_refl _⟩, ⟨by repeat (first | exact HB.out | apply below_alloc | apply pw_below_drewN)⟩⟩
    rw [if_neg c5] at H
    have c5b0 : decide (a1 < (-4294967296)) = false := decide_eq_false c5
    clear c5
    (first | rw [c5b0] | (simp only [i64_w, i32_w]; rw [c5b0]) | skip)
    by_cases c6 : a1 > 4294967296
    · rw [if_pos c6] at H
      have c6b0 : decide (4294967296 < a1) = true := decide_eq_true c6
      clear c6
      have H' := Aside0.mk H
      clear H
      go_wp2
      go_meet
      case rel => exact ⟨_, (true), (by first | rfl | (simp; done) | (simp [*]; done)), H', ⟨by first | omega | exact Nat.le_refl _⟩, ⟨by repeat (first | exact HB.out | apply below_alloc | apply pw_below_drewN)⟩⟩
    rw [if_neg c6] at H
    have c6b0 : decide (4294967296 < a1) = false := decide_eq_false c6
    clear c6
    by_cases c7 : a0 < (-4294967296)
    · rw [if_pos c7] at H
      have c7b0 : decide (a0 < (-4294967296)) = true := decide_eq_true c7
      clear c7
      have H' := Aside0.mk H
      clear H
      go_wp2
      go_meet
      case rel => exact ⟨_, (true), (by first | rfl | (simp; done) | (simp [*]; done)), H', ⟨by first | omega | exact Nat.le_refl _⟩, ⟨by repeat (first | exact HB.out | apply below_alloc | apply pw_below_drewN)⟩⟩
    rw [if_neg c7] at H
    have c7b0 : decide (a0 < (-4294967296)) = false := decide_eq_false c7
    clear c7
    have H' := Aside0.mk H
    clear H
    go_wp2
    go_meet
    case rel => exact ⟨_, (decide (a0 > 4294967296)), (by first | rfl | (simp; done) | (simp [*]; done)), H', ⟨by first | omega | exact Nat.le_refl _⟩, ⟨by repeat (first | exact HB.out | apply below_alloc | apply pw_below_drewN)⟩⟩
   case rest =>
    clear HC4
    obtain ⟨kq, x9_3, rfl, HA, HJ3, HB⟩ := hcut
    cases kq with
    | zero => exact absurd HA.out (by simp [trig_Atan2.j0])
    | succ kj3 =>
     have H := HA.out
     clear HA
     simp only [trig_Atan2.j0] at H
     by_cases c8 : x9_3 = true
     · subst c8
       rw [if_pos rfl] at H
       simp only [Option.some.injEq, Prod.mk.injEq] at H
       obtain ⟨rfl, rfl⟩ := H
       go_wp2
       go_ret2
       exact ⟨by first | rfl | (simp [errW_none, errW_some] <;> rfl), by repeat (first | exact HB.out | apply below_alloc | apply pw_below_drewN)⟩
     replace c8 := Bool.eq_false_iff.mpr c8
     subst c8
     rw [if_neg (show ¬ (false = true) by decide)] at H
     by_cases c9 : a1 = 0
     · rw [if_pos c9] at H
       have c9b0 : (a1 == 0) = true := beq_iff_eq.mpr c9
       have c9b1 : (a1 != 0) = false := bne_eq_false_iff_eq.mpr c9
       clear c9
       by_cases c10 : a0 = 0
       · rw [if_pos c10] at H
         have c10b0 : (a0 == 0) = true := beq_iff_eq.mpr c10
         have c10b1 : (a0 != 0) = false := bne_eq_false_iff_eq.mpr c10
         clear c10
         simp only [Option.some.injEq, Prod.mk.injEq] at H
         obtain ⟨rfl, rfl⟩ := H
         go_wp2
         go_ret2
         exact ⟨by first | rfl | (simp [errW_none, errW_some] <;> rfl), by repeat (first | exact HB.out | apply below_alloc | apply pw_below_drewN)⟩
       rw [if_neg c10] at H
       have c10b0 : (a0 == 0) = false := beq_eq_false_iff_ne.mpr c10
       have c10b1 : (a0 != 0) = true := bne_iff_ne.mpr c10
       have H' := Aside0.mk H
       clear H
       go_wp2
       go_meet
       case rel => exact ⟨_, H', ⟨by have := HJ3.out; first | omega | exact Nat.le_refl _⟩, ⟨by repeat (first | exact HB.out | apply below_alloc | apply pw_below_drewN)⟩⟩
     rw [if_neg c9] at H
     have c9b0 : (a1 == 0) = false := beq_eq_false_iff_ne.mpr c9
     have c9b1 : (a1 != 0) = true := bne_iff_ne.mpr c9
     have H' := Aside0.mk H
     clear H
     go_wp2
     go_meet
     case rel => exact ⟨_, H', ⟨by have := HJ3.out; first | omega | exact Nat.le_refl _⟩, ⟨by repeat (first | exact HB.out | apply below_alloc | apply pw_below_drewN)⟩⟩
  case rest =>
   clear HC3
   obtain ⟨kq, HA, HJ2, HB⟩ := hcut
   cases kq with
   | zero => exact absurd HA.out (by simp [trig_Atan2.j1])
   | succ kj2 =>
    have H := HA.out
    clear HA
    simp only [trig_Atan2.j1] at H
    obtain ⟨ji11, hji11⟩ : ∃ j_ : Int, (mx a1 (wrap64 (-a1))) = j_ := ⟨_, rfl⟩
    replace H : (if (mx a0 (wrap64 (-a0))) ≤ (ji11) then ((trig_octant.f kj2 (mx a0 (wrap64 (-a0))) (ji11)).bind fun t101 => (trig_Atan2.j2 kj2 a0 a1 t101)) else ((trig_octant.f kj2 (ji11) (mx a0 (wrap64 (-a0)))).bind fun t102 => (trig_Atan2.j2 kj2 a0 a1 (wrap64 (1073741824 - t102))))) = some (r1, r2) := by first | (rw [hji11] at H; exact H) | (simp only [hji11] at H ⊢; exact H)
    have hji11_ : (if a1 < (wrap64 (-a1)) then (wrap64 (-a1)) else a1) = ji11 := hji11
    obtain ⟨ji12, hji12⟩ : ∃ j_ : Int, (mx a0 (wrap64 (-a0))) = j_ := ⟨_, rfl⟩
    replace H : (if (ji12) ≤ (ji11) then ((trig_octant.f kj2 (ji12) (ji11)).bind fun t101 => (trig_Atan2.j2 kj2 a0 a1 t101)) else ((trig_octant.f kj2 (ji11) (ji12)).bind fun t102 => (trig_Atan2.j2 kj2 a0 a1 (wrap64 (1073741824 - t102))))) = some (r1, r2) := by first | (rw [hji12] at H; exact H) | (simp only [hji12] at H ⊢; exact H)
    have hji12_ : (if a0 < (wrap64 (-a0)) then (wrap64 (-a0)) else a0) = ji12 := hji12
    have HC13 := Aside0.mk H
    clear H
    go_upto_if 41 with (fail)
    go_cut [8] (fun v8 wc => ∃ (kq : Nat) (x8_12 : Int), v8 = .int .i64 x8_12 ∧ Aside0 (trig_Atan2.j2 kq a0 a1 x8_12 = some (r1, r2)) ∧ Aside0 (kq ≤ kj2) ∧ Aside0 (Below w.heap.size w wc))
    case first =>
     have H := HC13.out
     clear HC13
     by_cases c14 : (ji12) ≤ (ji11)
     · rw [if_pos c14] at H
       have c14b0 : decide ((ji12) ≤ (ji11)) = true := decide_eq_true c14
       clear c14
       (first | rw [c14b0] | (simp only [i64_w, i32_w]; rw [c14b0]) | skip)
       replace H := bso_ H
       obtain ⟨t101, A150, H⟩ := H
       try dsimp -simprocs only at H
       have A15 := Aside0.mk A150
       clear A150
       have H' := Aside0.mk H
       clear H
       go_wp2_with (first | ((with_reducible refine gate_callee (f := 39) rfl ?_); refine goesL_ (some 44) rfl rfl Try.func39 (by kernel_rfl) rfl #[.int .i64 ji12, .int .i64 ji11] rfl (by (try simp only [List.map_toArray, List.map_cons, List.map_nil]); first | done | (simp only [hji11, hji12]; rfl) | rfl | (simp only [List.length_drop, List.length_take]; rfl)) ?_; (with_reducible refine (trig_octant.calls kj2 ji12 ji11 t101 _ A15.out).mono ?_); rintro e w16 ⟨rfl, hb⟩; refine ⟨_, rfl, ?_⟩; replace HB := hbs_ HB hb rfl rfl rfl rfl; (try clear hb)))
       go_meet
       case rel => exact ⟨_, (t101), (by first | rfl | (simp; done) | (simp [*]; done)), H', ⟨by have := HJ2.out; first | omega | exact Nat.le_refl _⟩, ⟨by repeat (first | exact HB.out | apply below_alloc | apply pw_below_drewN)⟩⟩
     rw [if_neg c14] at H
     have c14b0 : decide ((ji12) ≤ (ji11)) = false := decide_eq_false c14
     clear c14
     (first | rw [c14b0] | (simp only [i64_w, i32_w]; rw [c14b0]) | skip)
     replace H := bso_ H
     obtain ⟨t102, A170, H⟩ := H
     try dsimp -simprocs only at H
     have A17 := Aside0.mk A170
     clear A170
     have H' := Aside0.mk H
     clear H
     go_wp2_with (first | ((with_reducible refine gate_callee (f := 39) rfl ?_); refine goesL_ (some 47) rfl rfl Try.func39 (by kernel_rfl) rfl #[.int .i64 ji11, .int .i64 ji12] rfl (by (try simp only [List.map_toArray, List.map_cons, List.map_nil]); first | done | (simp only [hji11, hji12]; rfl) | rfl | (simp only [List.length_drop, List.length_take]; rfl)) ?_; (with_reducible refine (trig_octant.calls kj2 ji11 ji12 t102 _ A17.out).mono ?_); rintro e w18 ⟨rfl, hb⟩; refine ⟨_, rfl, ?_⟩; replace HB := hbs_ HB hb rfl rfl rfl rfl; (try clear hb)))
     go_meet
     case rel => exact ⟨_, (wrap64 (1073741824 - t102)), (by first | rfl | (simp; done) | (simp [*]; done)), H', ⟨by have := HJ2.out; first | omega | exact Nat.le_refl _⟩, ⟨by repeat (first | exact HB.out | apply below_alloc | apply pw_below_drewN)⟩⟩
    case rest =>
     clear HC13
     obtain ⟨kq, x8_12, rfl, HA, HJ12, HB⟩ := hcut
     cases kq with
     | zero => exact absurd HA.out (by simp [trig_Atan2.j2])
     | succ kj12 =>
      have H := HA.out
      clear HA
      simp only [trig_Atan2.j2] at H
      by_cases c19 : a1 < 0
      · rw [if_pos c19] at H
        have c19b0 : decide (a1 < 0) = true := decide_eq_true c19
        clear c19
        by_cases c20 : a0 < 0
        · rw [if_pos c20] at H
          have c20b0 : decide (a0 < 0) = true := decide_eq_true c20
          clear c20
          simp only [Option.some.injEq, Prod.mk.injEq] at H
          obtain ⟨rfl, rfl⟩ := H
          go_wp2
          go_ret2
          exact ⟨by first | rfl | (simp [errW_none, errW_some] <;> rfl) | (simp only [← hji11, ← hji12]; first | rfl | (simp [errW_none, errW_some] <;> rfl)), by repeat (first | exact HB.out | apply below_alloc | apply pw_below_drewN)⟩
        rw [if_neg c20] at H
        have c20b0 : decide (a0 < 0) = false := decide_eq_false c20
        clear c20
        simp only [Option.some.injEq, Prod.mk.injEq] at H
        obtain ⟨rfl, rfl⟩ := H
        go_wp2
        go_ret2
        exact ⟨by first | rfl | (simp [errW_none, errW_some] <;> rfl) | (simp only [← hji11, ← hji12]; first | rfl | (simp [errW_none, errW_some] <;> rfl)), by repeat (first | exact HB.out | apply below_alloc | apply pw_below_drewN)⟩
      rw [if_neg c19] at H
      have c19b0 : decide (a1 < 0) = false := decide_eq_false c19
      clear c19
      by_cases c21 : a0 < 0
      · rw [if_pos c21] at H
        have c21b0 : decide (a0 < 0) = true := decide_eq_true c21
        clear c21
        simp only [Option.some.injEq, Prod.mk.injEq] at H
        obtain ⟨rfl, rfl⟩ := H
        go_wp2
        go_ret2
        exact ⟨by first | rfl | (simp [errW_none, errW_some] <;> rfl) | (simp only [← hji11, ← hji12]; first | rfl | (simp [errW_none, errW_some] <;> rfl)), by repeat (first | exact HB.out | apply below_alloc | apply pw_below_drewN)⟩
      rw [if_neg c21] at H
      have c21b0 : decide (a0 < 0) = false := decide_eq_false c21
      clear c21
      simp only [Option.some.injEq, Prod.mk.injEq] at H
      obtain ⟨rfl, rfl⟩ := H
      go_wp2
      go_ret2
      exact ⟨by first | rfl | (simp [errW_none, errW_some] <;> rfl) | (simp only [← hji11, ← hji12]; first | rfl | (simp [errW_none, errW_some] <;> rfl)), by repeat (first | exact HB.out | apply below_alloc | apply pw_below_drewN)⟩

def trig_meets.f (a0_0 : Int) (a0_1 : Int) (a0_2 : Bool) (a1 : Int) : Option (Bool) := (num_FloorDiv.f (wrap64 (a0_1 - a1)) 4294967296).bind fun t102 => ((num_CeilDiv.f (wrap64 (a0_0 - a1)) 4294967296).bind fun t103 => (some (decide (t102 ≥ t103))))
set_option maxHeartbeats 8000000 in
set_option maxRecDepth 100000 in
theorem trig_meets.calls (a0_0 : Int) (a0_1 : Int) (a0_2 : Bool) (a1 : Int) (r : Bool) (w : World) (h : trig_meets.f a0_0 a0_1 a0_2 a1 = some r) :
 Calls Try.prog 60 #[.agg #[.int .i64 a0_0, .int .i64 a0_1, .bool a0_2], .int .i64 a1] w fun e w' => e = .returned (.bool r) ∧ Below w.heap.size w w' := by
  have hu44 := Try.underlying44
  have HB := Aside0.mk (Below.refl w.heap.size w)
  have H : ((num_FloorDiv.f (wrap64 (a0_1 - a1)) 4294967296).bind fun t102 => ((num_CeilDiv.f (wrap64 (a0_0 - a1)) 4294967296).bind fun t103 => (some (decide (t102 ≥ t103))))) = some r := h
  clear h
  replace H := bso_ H
  obtain ⟨t102, A30, H⟩ := H
  try dsimp -simprocs only at H
  have A3 := Aside0.mk A30
  clear A30
  replace H := bso_ H
  obtain ⟨t103, A40, H⟩ := H
  try dsimp -simprocs only at H
  have A4 := Aside0.mk A40
  clear A40
  obtain rfl := Option.some.inj H
  go_enter Try.func60, Try.ntmps60
  go_wp2_with (first | ((with_reducible refine gate_dst (N := 2) rfl ?_); refine bxq_ 2 #[.int .i64 a0_0, .int .i64 a0_1, .bool a0_2] 44 ?_; intro gb101 hg w5 hbox hb; have BK101 := Aside0.mk (hbox); have GW101 := gwq_ HB hg rfl; have GE101 := GW101; replace HB := hbs_ HB hb rfl rfl rfl rfl; clear hb hbox hg; have hcz6_0 := bc_ BK101 0 rfl; have hcz6_1 := bc_ BK101 1 rfl; have hcz6_2 := bc_ BK101 2 rfl; have hfz6 := blk_frozen BK101.out) | (go_at_call 72; (with_reducible refine (num_FloorDiv.calls (wrap64 (a0_1 - a1)) 4294967296 t102 _ A3.out).mono ?_); rintro e w' ⟨rfl, ⟨nd, rfl⟩⟩; (try first | exact ⟨rfl, _, World.drewN_drewN _ _ _⟩ | exact ⟨rfl, _, Eq.trans (World.drewN_drewN _ _ _) (congrArg (World.drewN _) (Nat.add_assoc _ _ _))⟩)) | (go_at_call 73; (with_reducible refine (num_CeilDiv.calls (wrap64 (a0_0 - a1)) 4294967296 t103 _ A4.out).mono ?_); rintro e w' ⟨rfl, ⟨nd, rfl⟩⟩; (try first | exact ⟨rfl, _, World.drewN_drewN _ _ _⟩ | exact ⟨rfl, _, Eq.trans (World.drewN_drewN _ _ _) (congrArg (World.drewN _) (Nat.add_assoc _ _ _))⟩)))
  repeat (go_quiet (first | ((with_reducible refine gate_dst (N := 2) rfl ?_); refine bxq_ 2 #[.int .i64 a0_0, .int .i64 a0_1, .bool a0_2] 44 ?_; intro gb101 hg w5 hbox hb; have BK101 := Aside0.mk (hbox); have GW101 := gwq_ HB hg rfl; have GE101 := GW101; replace HB := hbs_ HB hb rfl rfl rfl rfl; clear hb hbox hg; have hcz6_0 := bc_ BK101 0 rfl; have hcz6_1 := bc_ BK101 1 rfl; have hcz6_2 := bc_ BK101 2 rfl; have hfz6 := blk_frozen BK101.out) | (go_at_call 72; (with_reducible refine (num_FloorDiv.calls (wrap64 (a0_1 - a1)) 4294967296 t102 _ A3.out).mono ?_); rintro e w' ⟨rfl, ⟨nd, rfl⟩⟩; (try first | exact ⟨rfl, _, World.drewN_drewN _ _ _⟩ | exact ⟨rfl, _, Eq.trans (World.drewN_drewN _ _ _) (congrArg (World.drewN _) (Nat.add_assoc _ _ _))⟩)) | (go_at_call 73; (with_reducible refine (num_CeilDiv.calls (wrap64 (a0_0 - a1)) 4294967296 t103 _ A4.out).mono ?_); rintro e w' ⟨rfl, ⟨nd, rfl⟩⟩; (try first | exact ⟨rfl, _, World.drewN_drewN _ _ _⟩ | exact ⟨rfl, _, Eq.trans (World.drewN_drewN _ _ _) (congrArg (World.drewN _) (Nat.add_assoc _ _ _))⟩))); try go_wp2_with (first | ((with_reducible refine gate_dst (N := 2) rfl ?_); refine bxq_ 2 #[.int .i64 a0_0, .int .i64 a0_1, .bool a0_2] 44 ?_; intro gb101 hg w5 hbox hb; have BK101 := Aside0.mk (hbox); have GW101 := gwq_ HB hg rfl; have GE101 := GW101; replace HB := hbs_ HB hb rfl rfl rfl rfl; clear hb hbox hg; have hcz6_0 := bc_ BK101 0 rfl; have hcz6_1 := bc_ BK101 1 rfl; have hcz6_2 := bc_ BK101 2 rfl; have hfz6 := blk_frozen BK101.out) | (go_at_call 72; (with_reducible refine (num_FloorDiv.calls (wrap64 (a0_1 - a1)) 4294967296 t102 _ A3.out).mono ?_); rintro e w' ⟨rfl, ⟨nd, rfl⟩⟩; (try first | exact ⟨rfl, _, World.drewN_drewN _ _ _⟩ | exact ⟨rfl, _, Eq.trans (World.drewN_drewN _ _ _) (congrArg (World.drewN _) (Nat.add_assoc _ _ _))⟩)) | (go_at_call 73; (with_reducible refine (num_CeilDiv.calls (wrap64 (a0_0 - a1)) 4294967296 t103 _ A4.out).mono ?_); rintro e w' ⟨rfl, ⟨nd, rfl⟩⟩; (try first | exact ⟨rfl, _, World.drewN_drewN _ _ _⟩ | exact ⟨rfl, _, Eq.trans (World.drewN_drewN _ _ _) (congrArg (World.drewN _) (Nat.add_assoc _ _ _))⟩))))
  go_ret
  exact ⟨by first | rfl | (simp [errW_none, errW_some] <;> rfl), by repeat (first | exact HB.out | apply below_alloc | apply pw_below_drewN | refine below_set ?_ GE101.out)⟩

end Go.Proofs.Ytjgikgbolacikaa.Q
