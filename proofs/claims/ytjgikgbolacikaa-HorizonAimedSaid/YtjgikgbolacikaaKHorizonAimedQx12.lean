/- Contracts, as in the first text; no condition. -/
import Derived.Test.YtjgikgbolacikaaKHorizonAimedQx0
import Derived.Test.YtjgikgbolacikaaKHorizonAimedQx1
namespace Go.Proofs.Ytjgikgbolacikaa.Q
open Go.RowKit Go.Proofs.YtjgikgbolacikaaW.PrintWords Go.Proofs.YtjgikgbolacikaaW.PrintLast Go.Proofs.YtjgikgbolacikaaW.PrintMore
attribute [local go_sem] max2_int min2_int max_two min_two max_three min_three max_four min_four
set_option linter.unusedVariables false
set_option linter.unusedSimpArgs false

attribute [local go_sem high] eqA32
def sphere_Check.j0 : Nat → Bool → Int → Int → Int → Option (Int)
 | 0, _, _, _, _ => none
 | k + 1, x3, x102000, x102001, x102002 => if x3 = true then (some 4) else (if (x102000 == 0 && (x102001 == 0 && (x102002 == 0))) = true then (some 8) else (some 0))
def sphere_Check.f (k : Nat) (a0_0 : Int) (a0_1 : Int) (a0_2 : Int) : Option (Int) := if (mx (mx a0_0 a0_1) a0_2) > 1048576 then (sphere_Check.j0 k true a0_0 a0_1 a0_2) else (sphere_Check.j0 k (decide ((mn (mn a0_0 a0_1) a0_2) < (-1048576))) a0_0 a0_1 a0_2)
theorem sphere_Check.mono_l : ∀ k, (∀ y0 y1 y2 y3, LeO (sphere_Check.j0 k y0 y1 y2 y3) (sphere_Check.j0 (k + 1) y0 y1 y2 y3))
 | 0 => fun _ _ _ _ r h => by simp [sphere_Check.j0] at h
 | k + 1 => by
  have ih0 := sphere_Check.mono_l k
  · intro y0 y1 y2 y3
    unfold sphere_Check.j0
    repeat' first
    | (with_reducible exact ih0 _ _ _ _)
    | (with_reducible exact LeO.refl _)
    | (with_reducible exact LeO.none _)
    | (with_reducible refine LeO.ite ?_ ?_)
    | (with_reducible refine LeO.bind ?_ (fun _ => ?_))
theorem sphere_Check.mono : ∀ a0 a1 a2 k, LeO (sphere_Check.f k a0 a1 a2) (sphere_Check.f (k + 1) a0 a1 a2) := by
 intro a0 a1 a2 k
 have ih0 := sphere_Check.mono_l k
 unfold sphere_Check.f
 repeat' first
  | (with_reducible exact ih0 _ _ _ _)
  | (with_reducible exact LeO.refl _)
  | (with_reducible exact LeO.none _)
  | (with_reducible refine LeO.ite ?_ ?_)
  | (with_reducible refine LeO.bind ?_ (fun _ => ?_))
set_option maxHeartbeats 8000000 in
set_option maxRecDepth 100000 in
theorem sphere_Check.calls (k : Nat) (a0_0 : Int) (a0_1 : Int) (a0_2 : Int) (r : Int) (w : World) (h : sphere_Check.f k a0_0 a0_1 a0_2 = some r) :
 Calls Try.prog 17 #[.agg #[.int .i64 a0_0, .int .i64 a0_1, .int .i64 a0_2]] w fun e w' => e = .returned (.int .i64 r) ∧ Below w.heap.size w w' := by
  have hu32 := Try.underlying32
  have HB := Aside0.mk (Below.refl w.heap.size w)
  have H : (if (mx (mx a0_0 a0_1) a0_2) > 1048576 then (sphere_Check.j0 k true a0_0 a0_1 a0_2) else (sphere_Check.j0 k (decide ((mn (mn a0_0 a0_1) a0_2) < (-1048576))) a0_0 a0_1 a0_2)) = some r := h
  clear h
  have HC2 := Aside0.mk H
  clear H
  go_enter Try.func17, Try.ntmps17
  go_upto_region 1 with (first | ((with_reducible refine gate_dst (N := 1) rfl ?_); (try (refine gate_guard (by rfl) ?_; dsimp only)); refine bxq_ 1 #[.int .i64 a0_0, .int .i64 a0_1, .int .i64 a0_2] 32 ?_; intro gb101 hg w3 hbox hb; have BK101 := Aside0.mk (hbox); have GW101 := gwq_ HB hg rfl; have GE101 := GW101; replace HB := hbs_ HB hb rfl rfl rfl rfl; clear hb hbox hg))
  (try simp only [Act.put, List.setIfInBounds_toArray, List.set_cons_zero, List.set_cons_succ])
  go_cut [3] (fun v3 wc => ∃ (kq : Nat) (x3_1 : Bool), v3 = .bool x3_1 ∧ Aside0 (sphere_Check.j0 kq x3_1 a0_0 a0_1 a0_2 = some r) ∧ Aside0 (kq ≤ k) ∧ Aside0 (wc.heap[gb101]? = some (.cells #[.int .i64 a0_0, .int .i64 a0_1, .int .i64 a0_2] 32 (0, 0))) ∧ Aside0 (Below w.heap.size w wc))
  case first =>
   have H := HC2.out
   clear HC2
   obtain ⟨ji4, hji4⟩ : ∃ j_ : Int, (mx a0_0 a0_1) = j_ := ⟨_, rfl⟩
   replace H : (if (mx (ji4) a0_2) > 1048576 then (sphere_Check.j0 k true a0_0 a0_1 a0_2) else (sphere_Check.j0 k (decide ((mn (mn a0_0 a0_1) a0_2) < (-1048576))) a0_0 a0_1 a0_2)) = some r := by first | (rw [hji4] at H; exact H) | (simp only [hji4] at H ⊢; exact H)
   have hji4_ : (if a0_0 < a0_1 then a0_1 else a0_0) = ji4 := hji4
   obtain ⟨ji5, hji5⟩ : ∃ j_ : Int, (mx (ji4) a0_2) = j_ := ⟨_, rfl⟩
   replace H : (if (ji5) > 1048576 then (sphere_Check.j0 k true a0_0 a0_1 a0_2) else (sphere_Check.j0 k (decide ((mn (mn a0_0 a0_1) a0_2) < (-1048576))) a0_0 a0_1 a0_2)) = some r := by first | (rw [hji5] at H; exact H) | (simp only [hji5] at H ⊢; exact H)
   have hji5_ : (if (ji4) < a0_2 then a0_2 else (ji4)) = ji5 := hji5
   by_cases c6 : (ji5) > 1048576
   · rw [if_pos c6] at H
     have c6b0 : decide (1048576 < (ji5)) = true := decide_eq_true c6
     clear c6
     (first | rw [c6b0] | (simp only [i64_w, i32_w]; rw [c6b0]) | skip)
     have H' := Aside0.mk H
     clear H
     have hcz7_0 := bc_ BK101 0 rfl
     have hcz7_1 := bc_ BK101 1 rfl
     have hcz7_2 := bc_ BK101 2 rfl
     have hfz7 := blk_frozen BK101.out
     go_wp2
     go_meet
     case rel => exact ⟨_, (true), (by first | rfl | (simp; done) | (simp [*]; done)), H', ⟨by first | omega | exact Nat.le_refl _⟩, ⟨by exact BK101.out⟩, ⟨by repeat (first | exact HB.out | apply below_alloc | refine below_set ?_ GE101.out)⟩⟩
   rw [if_neg c6] at H
   have c6b0 : decide (1048576 < (ji5)) = false := decide_eq_false c6
   clear c6
   (first | rw [c6b0] | (simp only [i64_w, i32_w]; rw [c6b0]) | skip)
   obtain ⟨ji8, hji8⟩ : ∃ j_ : Int, (mn a0_0 a0_1) = j_ := ⟨_, rfl⟩
   replace H : (sphere_Check.j0 k (decide ((mn (ji8) a0_2) < (-1048576))) a0_0 a0_1 a0_2) = some r := by first | (rw [hji8] at H; exact H) | (simp only [hji8] at H ⊢; exact H)
   have hji8_ : (if a0_1 < a0_0 then a0_1 else a0_0) = ji8 := hji8
   obtain ⟨ji9, hji9⟩ : ∃ j_ : Int, (mn (ji8) a0_2) = j_ := ⟨_, rfl⟩
   replace H : (sphere_Check.j0 k (decide ((ji9) < (-1048576))) a0_0 a0_1 a0_2) = some r := by first | (rw [hji9] at H; exact H) | (simp only [hji9] at H ⊢; exact H)
   have hji9_ : (if a0_2 < (ji8) then a0_2 else (ji8)) = ji9 := hji9
   have H' := Aside0.mk H
   clear H
   have hcz10_0 := bc_ BK101 0 rfl
   have hcz10_1 := bc_ BK101 1 rfl
   have hcz10_2 := bc_ BK101 2 rfl
   have hfz10 := blk_frozen BK101.out
   go_wp2
   go_meet
   case rel => exact ⟨_, (decide ((ji9) < (-1048576))), (by first | rfl | (simp; done) | (simp only [← hji9] <;> (first | rfl | simp)) | (simp [*]; done)), H', ⟨by first | omega | exact Nat.le_refl _⟩, ⟨by exact BK101.out⟩, ⟨by repeat (first | exact HB.out | apply below_alloc | refine below_set ?_ GE101.out)⟩⟩
  case rest =>
   clear HC2
   obtain ⟨kq, x3_1, rfl, HA, HJ1, BK101, HB⟩ := hcut
   cases kq with
   | zero => exact absurd HA.out (by simp [sphere_Check.j0])
   | succ kj1 =>
    have H := HA.out
    clear HA
    simp only [sphere_Check.j0] at H
    by_cases c11 : x3_1 = true
    · subst c11
      rw [if_pos rfl] at H
      obtain rfl := Option.some.inj H
      go_wp2
      go_ret
      exact ⟨by first | rfl | (simp [errW_none, errW_some] <;> rfl), by repeat (first | exact HB.out | apply below_alloc | refine below_set ?_ GE101.out)⟩
    replace c11 := Bool.eq_false_iff.mpr c11
    subst c11
    rw [if_neg (show ¬ (false = true) by decide)] at H
    by_cases c12 : (a0_0 == 0 && (a0_1 == 0 && (a0_2 == 0))) = true
    · rw [if_pos c12] at H
      have c12b0 : (a0_0 == 0 && (a0_1 == 0 && (a0_2 == 0))) = true := c12
      (try (have c12b1 : decide (a0_0 = 0 && (a0_1 == 0 && (a0_2 == 0))) = true := by simpa using c12))
      (try (have c12b2 : (a0_0 == 0 && (a0_1 == 0 && (a0_2 == 0))) = true := by simpa using c12))
      clear c12
      obtain rfl := Option.some.inj H
      have hcz13_0 := bc_ BK101 0 rfl
      have hcz13_1 := bc_ BK101 1 rfl
      have hcz13_2 := bc_ BK101 2 rfl
      have hfz13 := blk_frozen BK101.out
      go_wp2
      go_ret
      exact ⟨by first | rfl | (simp [errW_none, errW_some] <;> rfl), by repeat (first | exact HB.out | apply below_alloc | refine below_set ?_ GE101.out)⟩
    rw [if_neg c12] at H
    have c12b0 : (a0_0 == 0 && (a0_1 == 0 && (a0_2 == 0))) = false := by simpa using c12
    (try (have c12b1 : decide (a0_0 = 0 && (a0_1 == 0 && (a0_2 == 0))) = false := by simpa using c12))
    (try (have c12b2 : (a0_0 == 0 && (a0_1 == 0 && (a0_2 == 0))) = false := by simpa using c12))
    (try (have c12b3 : ¬ (a0_0 = 0 && (a0_1 == 0 && (a0_2 == 0))) := by simpa using c12))
    clear c12
    obtain rfl := Option.some.inj H
    have hcz14_0 := bc_ BK101 0 rfl
    have hcz14_1 := bc_ BK101 1 rfl
    have hcz14_2 := bc_ BK101 2 rfl
    have hfz14 := blk_frozen BK101.out
    go_wp2
    go_ret
    exact ⟨by first | rfl | (simp [errW_none, errW_some] <;> rfl), by repeat (first | exact HB.out | apply below_alloc | refine below_set ?_ GE101.out)⟩

def sphere_Grow.l0 : Nat → Int → Int → Int → Option (Int × Int × Int)
 | 0, _, _, _ => none
 | k + 1, x102000, x102001, x102002 => (sphere_Check.f k (wrap64 (2 * x102000)) (wrap64 (2 * x102001)) (wrap64 (2 * x102002))).bind fun t105 => (if t105 = 0 then (sphere_Grow.l0 k (wrap64 (2 * x102000)) (wrap64 (2 * x102001)) (wrap64 (2 * x102002))) else (some (x102000, x102001, x102002)))
def sphere_Grow.f (k : Nat) (a0_0 : Int) (a0_1 : Int) (a0_2 : Int) : Option (Int × Int × Int) := (sphere_Check.f k a0_0 a0_1 a0_2).bind fun t103 => (if t103 = 0 then (sphere_Grow.l0 k a0_0 a0_1 a0_2) else (some (0, 0, 0)))
theorem sphere_Grow.mono_l : ∀ k, (∀ y0 y1 y2, LeO (sphere_Grow.l0 k y0 y1 y2) (sphere_Grow.l0 (k + 1) y0 y1 y2))
 | 0 => fun _ _ _ r h => by simp [sphere_Grow.l0] at h
 | k + 1 => by
  have ih0 := sphere_Grow.mono_l k
  · intro y0 y1 y2
    unfold sphere_Grow.l0
    repeat' first
    | (with_reducible exact ih0 _ _ _)
    | (with_reducible exact sphere_Check.mono _ _ _ _)
    | (with_reducible exact LeO.refl _)
    | (with_reducible exact LeO.none _)
    | (with_reducible refine LeO.ite ?_ ?_)
    | (with_reducible refine LeO.bind ?_ (fun _ => ?_))
theorem sphere_Grow.mono : ∀ a0 a1 a2 k, LeO (sphere_Grow.f k a0 a1 a2) (sphere_Grow.f (k + 1) a0 a1 a2) := by
 intro a0 a1 a2 k
 have ih0 := sphere_Grow.mono_l k
 unfold sphere_Grow.f
 repeat' first
  | (with_reducible exact ih0 _ _ _)
  | (with_reducible exact sphere_Check.mono _ _ _ _)
  | (with_reducible exact LeO.refl _)
  | (with_reducible exact LeO.none _)
  | (with_reducible refine LeO.ite ?_ ?_)
  | (with_reducible refine LeO.bind ?_ (fun _ => ?_))
set_option maxHeartbeats 8000000 in
set_option maxRecDepth 100000 in
theorem sphere_Grow.calls (k : Nat) (a0_0 : Int) (a0_1 : Int) (a0_2 : Int) (r1 : Int) (r2 : Int) (r3 : Int) (w : World) (h : sphere_Grow.f k a0_0 a0_1 a0_2 = some (r1, r2, r3)) :
 Calls Try.prog 18 #[.agg #[.int .i64 a0_0, .int .i64 a0_1, .int .i64 a0_2]] w fun e w' => e = .returned (.agg #[.int .i64 r1, .int .i64 r2, .int .i64 r3]) ∧ Below w.heap.size w w' := by
  have hu32 := Try.underlying32
  have HB := Aside0.mk (Below.refl w.heap.size w)
  have H : ((sphere_Check.f k a0_0 a0_1 a0_2).bind fun t103 => (if t103 = 0 then (sphere_Grow.l0 k a0_0 a0_1 a0_2) else (some (0, 0, 0)))) = some (r1, r2, r3) := h
  clear h
  replace H := bso_ H
  obtain ⟨t103, A20, H⟩ := H
  try dsimp -simprocs only at H
  have A2 := Aside0.mk A20
  clear A20
  by_cases c3 : t103 = 0
  rotate_left
  · rw [if_neg c3] at H
    have c3b0 : (t103 == 0) = false := beq_eq_false_iff_ne.mpr c3
    have c3b1 : (t103 != 0) = true := bne_iff_ne.mpr c3
    simp only [Option.some.injEq, Prod.mk.injEq] at H
    obtain ⟨rfl, rfl, rfl⟩ := H
    go_enter Try.func18, Try.ntmps18
    go_wp2_with (first | ((with_reducible refine gate_dst (N := 1) rfl ?_); refine bxq_ 1 #[.int .i64 a0_0, .int .i64 a0_1, .int .i64 a0_2] 32 ?_; intro gb101 hg w29 hbox hb; have BK101 := Aside0.mk (hbox); have GW101 := gwq_ HB hg rfl; have GE101 := GW101; replace HB := hbs_ HB hb rfl rfl rfl rfl; clear hb hbox hg) | ((with_reducible refine gate_dst (N := 2) rfl ?_); refine bxq_ 2 #[.int .i64 0, .int .i64 0, .int .i64 0] 32 ?_; intro gb102 hg w30 hbox hb; have BK102 := Aside0.mk (hbox); have GW102 := gwq_ HB hg rfl; have GE102 := GW102; have NB101_102 := nbl_ BK101 hg rfl; have NB102_101 := nbg_ BK101 hg rfl; replace BK101 := bkb_ BK101 hb rfl; replace HB := hbs_ HB hb rfl rfl rfl rfl; clear hb hbox hg; have hnb31 := NB101_102.out; have hnc31 := NB102_101.out; have hcz32_0 := bc_ BK101 0 rfl; have hcz32_1 := bc_ BK101 1 rfl; have hcz32_2 := bc_ BK101 2 rfl; have hfz32 := blk_frozen BK101.out) | ((with_reducible refine gate_callee (f := 17) rfl ?_); refine glq_ (some 5) Try.func17 #[.agg #[.int .i64 a0_0, .int .i64 a0_1, .int .i64 a0_2]] ?_; (with_reducible refine (sphere_Check.calls k a0_0 a0_1 a0_2 t103 _ A2.out).mono ?_); rintro e w33 ⟨rfl, hb⟩; refine ⟨_, rfl, ?_⟩; replace BK101 := bkb_ BK101 hb rfl; replace BK102 := bkb_ BK102 hb rfl; replace HB := hbs_ HB hb rfl rfl rfl rfl; (try clear hb); have hcz34_0 := bc_ BK102 0 rfl; have hcz34_1 := bc_ BK102 1 rfl; have hcz34_2 := bc_ BK102 2 rfl; have hfz34 := blk_frozen BK102.out))
    refine bodyPost_ret (results_cell_row rfl _ _ gb102 32 #[.int .i64 0, .int .i64 0, .int .i64 0] (0, 0) _ rfl (by exact blk_put (blk_put (blk_put BK102.out 0 _ rfl) 1 _ rfl) 2 _ rfl) Try.underlying32 rfl (by kernel_rfl)) rfl ?_
    exact ⟨by first | rfl | (simp [errW_none, errW_some] <;> rfl), by repeat (first | exact HB.out | apply below_alloc | refine below_set ?_ GE101.out | refine below_set ?_ GE102.out)⟩
  rw [if_pos c3] at H
  have c3b0 : (t103 == 0) = true := beq_iff_eq.mpr c3
  have c3b1 : (t103 != 0) = false := bne_eq_false_iff_eq.mpr c3
  clear c3
  have H' := Aside0.mk H
  clear H
  go_enter Try.func18, Try.ntmps18
  go_wp2_with (first | ((with_reducible refine gate_dst (N := 1) rfl ?_); refine bxq_ 1 #[.int .i64 a0_0, .int .i64 a0_1, .int .i64 a0_2] 32 ?_; intro gb101 hg w4 hbox hb; have BK101 := Aside0.mk (hbox); have GW101 := gwq_ HB hg rfl; have GE101 := GW101; replace HB := hbs_ HB hb rfl rfl rfl rfl; clear hb hbox hg) | ((with_reducible refine gate_dst (N := 2) rfl ?_); refine bxq_ 2 #[.int .i64 0, .int .i64 0, .int .i64 0] 32 ?_; intro gb102 hg w5 hbox hb; have BK102 := Aside0.mk (hbox); have GW102 := gwq_ HB hg rfl; have GE102 := GW102; have NB101_102 := nbl_ BK101 hg rfl; have NB102_101 := nbg_ BK101 hg rfl; replace BK101 := bkb_ BK101 hb rfl; replace HB := hbs_ HB hb rfl rfl rfl rfl; clear hb hbox hg; have hnb6 := NB101_102.out; have hnc6 := NB102_101.out; have hcz7_0 := bc_ BK101 0 rfl; have hcz7_1 := bc_ BK101 1 rfl; have hcz7_2 := bc_ BK101 2 rfl; have hfz7 := blk_frozen BK101.out) | ((with_reducible refine gate_callee (f := 17) rfl ?_); refine glq_ (some 5) Try.func17 #[.agg #[.int .i64 a0_0, .int .i64 a0_1, .int .i64 a0_2]] ?_; (with_reducible refine (sphere_Check.calls k a0_0 a0_1 a0_2 t103 _ A2.out).mono ?_); rintro e w8 ⟨rfl, hb⟩; refine ⟨_, rfl, ?_⟩; replace BK101 := bkb_ BK101 hb rfl; replace BK102 := bkb_ BK102 hb rfl; replace HB := hbs_ HB hb rfl rfl rfl rfl; (try clear hb)))
  go_loopg [] k (fun kq w' => ∃ (x102000_1 : Int) (x102001_1 : Int) (x102002_1 : Int) (x103000_1 : Int) (x103001_1 : Int) (x103002_1 : Int), Aside0 (sphere_Grow.l0 kq x102000_1 x102001_1 x102002_1 = some (r1, r2, r3)) ∧ Aside0 (kq ≤ k) ∧ Aside0 (w'.heap[gb101]? = some (.cells #[.int .i64 x102000_1, .int .i64 x102001_1, .int .i64 x102002_1] 32 (0, 0))) ∧ Aside0 (w'.heap[gb102]? = some (.cells #[.int .i64 x103000_1, .int .i64 x103001_1, .int .i64 x103002_1] 32 (0, 0))) ∧ Aside0 (Below w.heap.size w w'))
  case atStart => exact ⟨(a0_0), (a0_1), (a0_2), (0), (0), (0), H', ⟨Nat.le_refl _⟩, ⟨by exact BK101.out⟩, ⟨by exact BK102.out⟩, ⟨by repeat (first | exact HB.out | apply below_alloc | refine below_set ?_ GE101.out | refine below_set ?_ GE102.out)⟩⟩
  case round =>
   clear H'
   obtain ⟨x102000_1, x102001_1, x102002_1, x103000_1, x103001_1, x103002_1, HA, HK1, BK101, BK102, HB⟩ := hrel
   cases gk with
   | zero => exact absurd HA.out (by simp [sphere_Grow.l0])
   | succ k1 =>
    have H := HA.out
    clear HA
    simp only [sphere_Grow.l0] at H
    replace H := bso_ H
    obtain ⟨t105, A90, H⟩ := H
    try dsimp -simprocs only at H
    have A9 := Aside0.mk A90
    clear A90
    by_cases c10 : t105 = 0
    · rw [if_pos c10] at H
      have c10b0 : (t105 == 0) = true := beq_iff_eq.mpr c10
      have c10b1 : (t105 != 0) = false := bne_eq_false_iff_eq.mpr c10
      clear c10
      have H' := Aside0.mk H
      clear H
      have hnb11 := NB101_102.out
      have hnc11 := NB102_101.out
      have hcz12_0 := bc_ BK101 0 rfl
      have hcz12_1 := bc_ BK101 1 rfl
      have hcz12_2 := bc_ BK101 2 rfl
      have hfz12 := blk_frozen BK101.out
      go_wp2_with (first | ((with_reducible refine gate_dst (N := 3) rfl ?_); refine bxq_ 3 #[.int .i64 0, .int .i64 0, .int .i64 0] 32 ?_; intro gb104 hg w13 hbox hb; have BK104 := Aside0.mk (hbox); have GW104 := gwq_ HB hg rfl; have GE104 := GW104; have NB101_104 := nbl_ BK101 hg rfl; have NB104_101 := nbg_ BK101 hg rfl; have NB102_104 := nbl_ BK102 hg rfl; have NB104_102 := nbg_ BK102 hg rfl; replace BK101 := bkb_ BK101 hb rfl; replace BK102 := bkb_ BK102 hb rfl; replace HB := hbs_ HB hb rfl rfl rfl rfl; clear hb hbox hg; have hnb14 := NB104_101.out; have hnc14 := NB101_104.out; have hnb15 := NB104_102.out; have hnc15 := NB102_104.out; have hcz16_0 := bc_ BK104 0 rfl; have hcz16_1 := bc_ BK104 1 rfl; have hcz16_2 := bc_ BK104 2 rfl; have hfz16 := blk_frozen BK104.out) | ((with_reducible refine gate_callee (f := 17) rfl ?_); refine glq_ (some 19) Try.func17 #[.agg #[.int .i64 (wrap64 (2 * x102000_1)), .int .i64 (wrap64 (2 * x102001_1)), .int .i64 (wrap64 (2 * x102002_1))]] ?_; (with_reducible refine (sphere_Check.calls k1 (wrap64 (2 * x102000_1)) (wrap64 (2 * x102001_1)) (wrap64 (2 * x102002_1)) t105 _ A9.out).mono ?_); rintro e w17 ⟨rfl, hb⟩; refine ⟨_, rfl, ?_⟩; replace BK101 := Aside0.mk (blk_below (g := gb101) (o := .cells #[.int .i64 x102000_1, .int .i64 x102001_1, .int .i64 x102002_1] 32 (0, 0)) (by exact blk_far (blk_far (blk_far BK101.out NB101_104.out _) NB101_104.out _) NB101_104.out _) hb); replace BK102 := Aside0.mk (blk_below (g := gb102) (o := .cells #[.int .i64 x103000_1, .int .i64 x103001_1, .int .i64 x103002_1] 32 (0, 0)) (by exact blk_far (blk_far (blk_far BK102.out NB102_104.out _) NB102_104.out _) NB102_104.out _) hb); replace BK104 := Aside0.mk (blk_below (g := gb104) (o := .cells #[.int .i64 (wrap64 (2 * x102000_1)), .int .i64 (wrap64 (2 * x102001_1)), .int .i64 (wrap64 (2 * x102002_1))] 32 (0, 0)) (by exact blk_put (blk_put (blk_put BK104.out 0 _ rfl) 1 _ rfl) 2 _ rfl) hb); replace HB := Aside0.mk (below_step (by repeat (first | exact HB.out | apply below_alloc | refine below_set ?_ GE101.out | refine below_set ?_ GE102.out | refine below_set ?_ GE104.out)) hb); (try clear hb); have hcz18_0 := bc_ BK104 0 rfl; have hcz18_1 := bc_ BK104 1 rfl; have hcz18_2 := bc_ BK104 2 rfl; have hfz18 := blk_frozen BK104.out; have hcz19_0 := bc_ BK101 0 rfl; have hcz19_1 := bc_ BK101 1 rfl; have hcz19_2 := bc_ BK101 2 rfl; have hfz19 := blk_frozen BK101.out))
      go_roundg k1
      case measure => have := HK1.out; omega
      case rel => exact ⟨(wrap64 (2 * x102000_1)), (wrap64 (2 * x102001_1)), (wrap64 (2 * x102002_1)), (x103000_1), (x103001_1), (x103002_1), H', ⟨by have := HK1.out; omega⟩, ⟨by refine blk_put (cs := #[.int .i64 (wrap64 (2 * x102000_1)), .int .i64 (wrap64 (2 * x102001_1)), .int .i64 x102002_1]) ?_ 2 _ rfl; refine blk_put (cs := #[.int .i64 (wrap64 (2 * x102000_1)), .int .i64 x102001_1, .int .i64 x102002_1]) ?_ 1 _ rfl; refine blk_put (cs := #[.int .i64 x102000_1, .int .i64 x102001_1, .int .i64 x102002_1]) ?_ 0 _ rfl; exact BK101.out⟩, ⟨by refine blk_far ?_ NB102_101.out _; refine blk_far ?_ NB102_101.out _; refine blk_far ?_ NB102_101.out _; exact BK102.out⟩, ⟨by repeat (first | exact HB.out | apply below_alloc | refine below_set ?_ GE101.out | refine below_set ?_ GE102.out | refine below_set ?_ GE104.out)⟩⟩
    rw [if_neg c10] at H
    have c10b0 : (t105 == 0) = false := beq_eq_false_iff_ne.mpr c10
    have c10b1 : (t105 != 0) = true := bne_iff_ne.mpr c10
    simp only [Option.some.injEq, Prod.mk.injEq] at H
    obtain ⟨rfl, rfl, rfl⟩ := H
    have hnb20 := NB101_102.out
    have hnc20 := NB102_101.out
    have hcz21_0 := bc_ BK101 0 rfl
    have hcz21_1 := bc_ BK101 1 rfl
    have hcz21_2 := bc_ BK101 2 rfl
    have hfz21 := blk_frozen BK101.out
    go_wp2_with (first | ((with_reducible refine gate_dst (N := 3) rfl ?_); refine bxq_ 3 #[.int .i64 0, .int .i64 0, .int .i64 0] 32 ?_; intro gb104 hg w22 hbox hb; have BK104 := Aside0.mk (hbox); have GW104 := gwq_ HB hg rfl; have GE104 := GW104; have NB101_104 := nbl_ BK101 hg rfl; have NB104_101 := nbg_ BK101 hg rfl; have NB102_104 := nbl_ BK102 hg rfl; have NB104_102 := nbg_ BK102 hg rfl; replace BK101 := bkb_ BK101 hb rfl; replace BK102 := bkb_ BK102 hb rfl; replace HB := hbs_ HB hb rfl rfl rfl rfl; clear hb hbox hg; have hnb23 := NB104_101.out; have hnc23 := NB101_104.out; have hnb24 := NB104_102.out; have hnc24 := NB102_104.out; have hcz25_0 := bc_ BK104 0 rfl; have hcz25_1 := bc_ BK104 1 rfl; have hcz25_2 := bc_ BK104 2 rfl; have hfz25 := blk_frozen BK104.out) | ((with_reducible refine gate_callee (f := 17) rfl ?_); refine glq_ (some 19) Try.func17 #[.agg #[.int .i64 (wrap64 (2 * x102000_1)), .int .i64 (wrap64 (2 * x102001_1)), .int .i64 (wrap64 (2 * x102002_1))]] ?_; (with_reducible refine (sphere_Check.calls k1 (wrap64 (2 * x102000_1)) (wrap64 (2 * x102001_1)) (wrap64 (2 * x102002_1)) t105 _ A9.out).mono ?_); rintro e w26 ⟨rfl, hb⟩; refine ⟨_, rfl, ?_⟩; replace BK101 := Aside0.mk (blk_below (g := gb101) (o := .cells #[.int .i64 x102000_1, .int .i64 x102001_1, .int .i64 x102002_1] 32 (0, 0)) (by exact blk_far (blk_far (blk_far BK101.out NB101_104.out _) NB101_104.out _) NB101_104.out _) hb); replace BK102 := Aside0.mk (blk_below (g := gb102) (o := .cells #[.int .i64 x103000_1, .int .i64 x103001_1, .int .i64 x103002_1] 32 (0, 0)) (by exact blk_far (blk_far (blk_far BK102.out NB102_104.out _) NB102_104.out _) NB102_104.out _) hb); replace BK104 := Aside0.mk (blk_below (g := gb104) (o := .cells #[.int .i64 (wrap64 (2 * x102000_1)), .int .i64 (wrap64 (2 * x102001_1)), .int .i64 (wrap64 (2 * x102002_1))] 32 (0, 0)) (by exact blk_put (blk_put (blk_put BK104.out 0 _ rfl) 1 _ rfl) 2 _ rfl) hb); replace HB := Aside0.mk (below_step (by repeat (first | exact HB.out | apply below_alloc | refine below_set ?_ GE101.out | refine below_set ?_ GE102.out | refine below_set ?_ GE104.out)) hb); (try clear hb); have hcz27_0 := bc_ BK101 0 rfl; have hcz27_1 := bc_ BK101 1 rfl; have hcz27_2 := bc_ BK101 2 rfl; have hfz27 := blk_frozen BK101.out; have hcz28_0 := bc_ BK102 0 rfl; have hcz28_1 := bc_ BK102 1 rfl; have hcz28_2 := bc_ BK102 2 rfl; have hfz28 := blk_frozen BK102.out))
    refine bodyPost_ret (results_cell_row rfl _ _ gb102 32 #[.int .i64 x102000_1, .int .i64 x102001_1, .int .i64 x102002_1] (0, 0) _ rfl (by exact blk_put (blk_put (blk_put BK102.out 0 _ rfl) 1 _ rfl) 2 _ rfl) Try.underlying32 rfl (by kernel_rfl)) rfl ?_
    exact ⟨by first | rfl | (simp [errW_none, errW_some] <;> rfl), by repeat (first | exact HB.out | apply below_alloc | refine below_set ?_ GE101.out | refine below_set ?_ GE102.out | refine below_set ?_ GE104.out)⟩

end Go.Proofs.Ytjgikgbolacikaa.Q
