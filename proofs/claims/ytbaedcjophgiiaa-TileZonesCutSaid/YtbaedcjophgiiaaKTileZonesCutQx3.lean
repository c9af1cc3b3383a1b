/- Contracts of Go functions of the seat, one by one: each call returns what the Lean function of the same name says, wherever that is 'some'; no other condition. Written by a program of this session. -/
import Derived.Test.YtbaedcjophgiiaaKTileZonesCutQx0
import Derived.Test.YtbaedcjophgiiaaKTileZonesCutQx1
namespace Go.Proofs.Ytbaedcjophgiiaa.Q
open Go.RowKit Go.Proofs.YtbaedcjophgiiaaW.PrintWords Go.Proofs.YtbaedcjophgiiaaW.PrintLast Go.Proofs.YtbaedcjophgiiaaW.PrintMore
attribute [local go_sem] max2_int min2_int max_two min_two max_three min_three max_four min_four   -- for this text's walks alone
set_option linter.unusedVariables false
set_option linter.unusedSimpArgs false

attribute [local go_sem high] eqA67
/-! ### sphere_Check: function 77 -/
def sphere_Check.j0 : Nat → Bool → Int → Int → Int → Option (Int)
 | 0, _, _, _, _ => none
 | k + 1, x3, x102000, x102001, x102002 => if x3 = true then (some 4) else (if (x102000 == 0 && (x102001 == 0 && (x102002 == 0))) = true then (some 8) else (some 0))
def sphere_Check.f (k : Nat) (a0_0 : Int) (a0_1 : Int) (a0_2 : Int) : Option (Int) := if (mx (mx a0_0 a0_1) a0_2) > 1048576 then (sphere_Check.j0 k true a0_0 a0_1 a0_2) else (sphere_Check.j0 k (decide ((mn (mn a0_0 a0_1) a0_2) < (-1048576))) a0_0 a0_1 a0_2)
theorem sphere_Check.mono_l : ∀ k, (∀ y0 y1 y2 y3, LeO (sphere_Check.j0 k y0 y1 y2 y3) (sphere_Check.j0 (k + 1) y0 y1 y2 y3))
 | 0 => fun _ _ _ _ r h => by simp [sphere_Check.j0] at h
 | k + 1 => by
  have ih0 := sphere_Check.mono_l k
  · intro y0 y1 y2 y3
    unfold sphere_Check.j0
    repeat' first
    | (with_reducible exact ih0 _ _ _ _)
    | (with_reducible exact LeO.refl _)
    | (with_reducible exact LeO.none _)
    | (with_reducible refine LeO.ite ?_ ?_)
    | (with_reducible refine LeO.bind ?_ (fun _ => ?_))
    | exact ih0 _ _ _ _
    | exact LeO.none _
    | refine LeO.ite ?_ ?_
    | refine LeO.bind ?_ (fun _ => ?_)
theorem sphere_Check.mono : ∀ a0 a1 a2 k, LeO (sphere_Check.f k a0 a1 a2) (sphere_Check.f (k + 1) a0 a1 a2) := by
 intro a0 a1 a2 k
 have ih0 := sphere_Check.mono_l k
 unfold sphere_Check.f
 repeat' first
  | (with_reducible exact ih0 _ _ _ _)
  | (with_reducible exact LeO.refl _)
  | (with_reducible exact LeO.none _)
  | (with_reducible refine LeO.ite ?_ ?_)
  | (with_reducible refine LeO.bind ?_ (fun _ => ?_))
  | exact ih0 _ _ _ _
  | exact LeO.none _
  | refine LeO.ite ?_ ?_
  | refine LeO.bind ?_ (fun _ => ?_)
set_option maxHeartbeats 8000000 in
set_option maxRecDepth 100000 in
theorem sphere_Check.calls (k : Nat) (a0_0 : Int) (a0_1 : Int) (a0_2 : Int) (r : Int) (w : World) (h : sphere_Check.f k a0_0 a0_1 a0_2 = some r) :
 Calls Try.prog 77 #[.agg #[.int .i64 a0_0, .int .i64 a0_1, .int .i64 a0_2]] w fun e w' => e = .returned (.int .i64 r) ∧ Below w.heap.size w w' := by
  have hu67 := Try.underlying67
  have HB := Aside0.mk (Below.refl w.heap.size w)
  have H : (if (mx (mx a0_0 a0_1) a0_2) > 1048576 then (sphere_Check.j0 k true a0_0 a0_1 a0_2) else (sphere_Check.j0 k (decide ((mn (mn a0_0 a0_1) a0_2) < (-1048576))) a0_0 a0_1 a0_2)) = some r := h
  clear h
  have HC2 := Aside0.mk H
  clear H
  go_enter Try.func77, Try.ntmps77
  go_upto_region 1 with (first | ((with_reducible refine gate_dst (N := 1) rfl ?_); (try (refine gate_guard (by rfl) ?_; dsimp only)); refine bxq_ 1 #[.int .i64 a0_0, .int .i64 a0_1, .int .i64 a0_2] 67 ?_; intro gb101 hg w3 hbox hb; have BK101 := Aside0.mk (hbox); have GW101 := gwq_ HB hg rfl; have GE101 := GW101; replace HB := hbs_ HB hb rfl rfl rfl rfl; clear hb hbox hg))
  (try simp only [Act.put, List.setIfInBounds_toArray, List.set_cons_zero, List.set_cons_succ])
  go_cut [3] (fun v3 wc => ∃ (kq : Nat) (x3_1 : Bool), v3 = .bool x3_1 ∧ Aside0 (sphere_Check.j0 kq x3_1 a0_0 a0_1 a0_2 = some r) ∧ Aside0 (kq ≤ k) ∧ Aside0 (wc.heap[gb101]? = some (.cells #[.int .i64 a0_0, .int .i64 a0_1, .int .i64 a0_2] 67 (0, 0))) ∧ Aside0 (Below w.heap.size w wc))
  case first =>
   have H := HC2.out
   clear HC2
   obtain ⟨ji4, hji4⟩ : ∃ j_ : Int, (mx a0_0 a0_1) = j_ := ⟨_, rfl⟩
   replace H : (if (mx (ji4) a0_2) > 1048576 then (sphere_Check.j0 k true a0_0 a0_1 a0_2) else (sphere_Check.j0 k (decide ((mn (mn a0_0 a0_1) a0_2) < (-1048576))) a0_0 a0_1 a0_2)) = some r := by first | (rw [hji4] at H; exact H) | (simp only [hji4] at H ⊢; exact H)
   have hji4_ : (if a0_0 < a0_1 then a0_1 else a0_0) = ji4 := hji4
   obtain ⟨ji5, hji5⟩ : ∃ j_ : Int, (mx (ji4) a0_2) = j_ := ⟨_, rfl⟩
   replace H : (if (ji5) > 1048576 then (sphere_Check.j0 k true a0_0 a0_1 a0_2) else (sphere_Check.j0 k (decide ((mn (mn a0_0 a0_1) a0_2) < (-1048576))) a0_0 a0_1 a0_2)) = some r := by first | (rw [hji5] at H; exact H) | (simp only [hji5] at H ⊢; exact H)
   have hji5_ : (if (ji4) < a0_2 then a0_2 else (ji4)) = ji5 := hji5
   by_cases c6 : (ji5) > 1048576
   · rw [if_pos c6] at H
     have c6b0 : decide (1048576 < (ji5)) = true := decide_eq_true c6
     clear c6
     (first | rw [c6b0] | (simp only [i64_w, i32_w]; rw [c6b0]) | skip)
     have H' := Aside0.mk H
     clear H
     have hcz7_0 := bc_ BK101 0 rfl
     have hcz7_1 := bc_ BK101 1 rfl
     have hcz7_2 := bc_ BK101 2 rfl
     have hfz7_0 := blk_frozen BK101.out 0
     have hfz7_1 := blk_frozen BK101.out 1
     have hfz7_2 := blk_frozen BK101.out 2
     go_wp2
     go_meet
     case rel => exact ⟨_, (true), (by first | rfl | (simp; done) | (simp [*]; done)), H', ⟨by first | omega | exact Nat.le_refl _⟩, ⟨by (with_reducible repeat (first | refine blk_drewN ?_ _ | refine blk_drew ?_ | refine blk_alloc ?_ _)); exact BK101.out⟩, ⟨by repeat (first | (with_reducible first | exact HB.out | apply below_alloc | apply pw_below_drewN | apply below_drew1 | refine below_set ?_ GE101.out) | exact HB.out)⟩⟩
   rw [if_neg c6] at H
   have c6b0 : decide (1048576 < (ji5)) = false := decide_eq_false c6
   clear c6
   (first | rw [c6b0] | (simp only [i64_w, i32_w]; rw [c6b0]) | skip)
   obtain ⟨ji8, hji8⟩ : ∃ j_ : Int, (mn a0_0 a0_1) = j_ := ⟨_, rfl⟩
   replace H : (sphere_Check.j0 k (decide ((mn (ji8) a0_2) < (-1048576))) a0_0 a0_1 a0_2) = some r := by first | (rw [hji8] at H; exact H) | (simp only [hji8] at H ⊢; exact H)
   have hji8_ : (if a0_1 < a0_0 then a0_1 else a0_0) = ji8 := hji8
   obtain ⟨ji9, hji9⟩ : ∃ j_ : Int, (mn (ji8) a0_2) = j_ := ⟨_, rfl⟩
   replace H : (sphere_Check.j0 k (decide ((ji9) < (-1048576))) a0_0 a0_1 a0_2) = some r := by first | (rw [hji9] at H; exact H) | (simp only [hji9] at H ⊢; exact H)
   have hji9_ : (if a0_2 < (ji8) then a0_2 else (ji8)) = ji9 := hji9
   have H' := Aside0.mk H
   clear H
   have hcz10_0 := bc_ BK101 0 rfl
   have hcz10_1 := bc_ BK101 1 rfl
   have hcz10_2 := bc_ BK101 2 rfl
   have hfz10_0 := blk_frozen BK101.out 0
   have hfz10_1 := blk_frozen BK101.out 1
   have hfz10_2 := blk_frozen BK101.out 2
   go_wp2
   go_meet
   case rel => exact ⟨_, (decide ((ji9) < (-1048576))), (by first | rfl | (simp; done) | (simp only [← hji9] <;> (first | rfl | simp)) | (simp [*]; done)), H', ⟨by first | omega | exact Nat.le_refl _⟩, ⟨by (with_reducible repeat (first | refine blk_drewN ?_ _ | refine blk_drew ?_ | refine blk_alloc ?_ _)); exact BK101.out⟩, ⟨by repeat (first | (with_reducible first | exact HB.out | apply below_alloc | apply pw_below_drewN | apply below_drew1 | refine below_set ?_ GE101.out) | exact HB.out)⟩⟩
  case rest =>
   clear HC2
   obtain ⟨kq, x3_1, rfl, HA, HJ1, BK101, HB⟩ := hcut
   cases kq with
   | zero => exact absurd HA.out (by simp [sphere_Check.j0])
   | succ kj1 =>
    have H := HA.out
    clear HA
    simp only [sphere_Check.j0] at H
    by_cases c11 : x3_1 = true
    · subst c11
      rw [if_pos rfl] at H
      obtain rfl := Option.some.inj H
      go_wp2
      go_ret
      exact ⟨by first | rfl | (simp [errW_none, errW_some] <;> rfl) | (simp [*, errW_none, errW_some] <;> rfl), by repeat (first | (with_reducible first | exact HB.out | apply below_alloc | apply pw_below_drewN | apply below_drew1 | refine below_set ?_ GE101.out) | exact HB.out)⟩
    replace c11 := Bool.eq_false_iff.mpr c11
    subst c11
    rw [if_neg (show ¬ (false = true) by decide)] at H
    by_cases c12 : (a0_0 == 0 && (a0_1 == 0 && (a0_2 == 0))) = true
    · rw [if_pos c12] at H
      have c12b0 : (a0_0 == 0 && (a0_1 == 0 && (a0_2 == 0))) = true := c12
      (try (have c12b1 : decide (a0_0 = 0 && (a0_1 == 0 && (a0_2 == 0))) = true := by simpa using c12))
      (try (have c12b2 : (a0_0 == 0 && (a0_1 == 0 && (a0_2 == 0))) = true := by simpa using c12))
      clear c12
      obtain rfl := Option.some.inj H
      have hcz13_0 := bc_ BK101 0 rfl
      have hcz13_1 := bc_ BK101 1 rfl
      have hcz13_2 := bc_ BK101 2 rfl
      have hfz13_0 := blk_frozen BK101.out 0
      have hfz13_1 := blk_frozen BK101.out 1
      have hfz13_2 := blk_frozen BK101.out 2
      go_wp2
      go_ret
      exact ⟨by first | rfl | (simp [errW_none, errW_some] <;> rfl) | (simp [*, errW_none, errW_some] <;> rfl), by repeat (first | (with_reducible first | exact HB.out | apply below_alloc | apply pw_below_drewN | apply below_drew1 | refine below_set ?_ GE101.out) | exact HB.out)⟩
    rw [if_neg c12] at H
    have c12b0 : (a0_0 == 0 && (a0_1 == 0 && (a0_2 == 0))) = false := by simpa using c12
    (try (have c12b1 : decide (a0_0 = 0 && (a0_1 == 0 && (a0_2 == 0))) = false := by simpa using c12))
    (try (have c12b2 : (a0_0 == 0 && (a0_1 == 0 && (a0_2 == 0))) = false := by simpa using c12))
    (try (have c12b3 : ¬ (a0_0 = 0 && (a0_1 == 0 && (a0_2 == 0))) := by simpa using c12))
    clear c12
    obtain rfl := Option.some.inj H
    have hcz14_0 := bc_ BK101 0 rfl
    have hcz14_1 := bc_ BK101 1 rfl
    have hcz14_2 := bc_ BK101 2 rfl
    have hfz14_0 := blk_frozen BK101.out 0
    have hfz14_1 := blk_frozen BK101.out 1
    have hfz14_2 := blk_frozen BK101.out 2
    go_wp2
    go_ret
    exact ⟨by first | rfl | (simp [errW_none, errW_some] <;> rfl) | (simp [*, errW_none, errW_some] <;> rfl), by repeat (first | (with_reducible first | exact HB.out | apply below_alloc | apply pw_below_drewN | apply below_drew1 | refine below_set ?_ GE101.out) | exact HB.out)⟩

end Go.Proofs.Ytbaedcjophgiiaa.Q
