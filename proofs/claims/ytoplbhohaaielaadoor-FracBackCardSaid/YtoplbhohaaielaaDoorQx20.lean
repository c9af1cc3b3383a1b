/- Contracts of Go functions of the seat, one by one: each call returns what the Lean function of the same name says, wherever that is 'some'; no other condition. Written by a program of this session. -/
import Derived.Test.YtoplbhohaaielaaDoorQx0
import Derived.Test.YtoplbhohaaielaaDoorQx10
import Derived.Test.YtoplbhohaaielaaDoorQx1
import Derived.Test.YtoplbhohaaielaaDoorQx2
import Derived.Test.YtoplbhohaaielaaDoorQx3
import Derived.Test.YtoplbhohaaielaaDoorQx4
import Derived.Test.YtoplbhohaaielaaDoorQx8
import Derived.Test.YtoplbhohaaielaaDoorQx19
namespace Go.Proofs.YtoplbhohaaielaaDoor.Q
open Go.RowKit Go.Proofs.YtoplbhohaaielaaDoorW.PrintWords Go.Proofs.YtoplbhohaaielaaDoorW.PrintLast Go.Proofs.YtoplbhohaaielaaDoorW.PrintMore
attribute [local go_sem] max2_int min2_int max_two min_two max_three min_three max_four min_four   -- for this text's walks alone
set_option linter.unusedVariables false
set_option linter.unusedSimpArgs false

attribute [local go_sem high] eqA23
/-! ### spykeep1_FracBack: function 3 -/
noncomputable def spykeep1_FracBack.j0 : Nat → Bool → Int → Int → Option (Bool)
 | 0, _, _, _ => none
 | k + 1, x26, x105000, x105001 => if x26 = true then ((spykeep1_fracFact.f k).bind fun t106 => (if t106 = true then (some (x105000 == 0 && (x105001 == 0))) else (none))) else ((frac_Text.f k x105000 x105001).bind fun bt107 => ((frac_Read.f k bt107.1).bind fun bt109 => ((frac_Terms.f k x105000 x105001).bind fun bt113 => ((frac_From.f k bt113.1).bind fun bt117 => (if bt107.2 = 0 then (if bt109.2.2 = 0 then (if bt113.2 = 0 then (if bt117.2.2 = 0 then (if (bt109.1 == x105000 && (bt109.2.1 == x105001)) = true then (some (bt117.1 == x105000 && (bt117.2.1 == x105001))) else (none)) else (none)) else (none)) else (none)) else (none))))))
noncomputable def spykeep1_FracBack.f (k : Nat) (a0 : Int) (a1 : Int) : Option (Bool) := (frac_Make.f k a0 a1).bind fun bt101 => ((spykeep1_fracFact.f k).bind fun t105 => (if t105 = true then (spykeep1_FracBack.j0 k (bt101.2.2 != 0) bt101.1 bt101.2.1) else (spykeep1_FracBack.j0 k true bt101.1 bt101.2.1)))
theorem spykeep1_FracBack.mono_l : ∀ k, (∀ y0 y1 y2, LeO (spykeep1_FracBack.j0 k y0 y1 y2) (spykeep1_FracBack.j0 (k + 1) y0 y1 y2))
 | 0 => fun _ _ _ r h => by simp [spykeep1_FracBack.j0] at h
 | k + 1 => by
  have ih0 := spykeep1_FracBack.mono_l k
  · intro y0 y1 y2
    unfold spykeep1_FracBack.j0
    repeat' first
    | (with_reducible exact ih0 _ _ _)
    | (with_reducible exact frac_From.mono _ _)
    | (with_reducible exact frac_Make.mono _ _ _)
    | (with_reducible exact frac_Read.mono _ _)
    | (with_reducible exact frac_Terms.mono _ _ _)
    | (with_reducible exact frac_Text.mono _ _ _)
    | (with_reducible exact spykeep1_fracFact.mono _)
    | (with_reducible exact LeO.refl _)
    | (with_reducible exact LeO.none _)
    | (with_reducible refine LeO.ite ?_ ?_)
    | (with_reducible refine LeO.bind ?_ (fun _ => ?_))
    | exact ih0 _ _ _
    | exact frac_From.mono _ _
    | exact frac_Make.mono _ _ _
    | exact frac_Read.mono _ _
    | exact frac_Terms.mono _ _ _
    | exact frac_Text.mono _ _ _
    | exact spykeep1_fracFact.mono _
    | exact LeO.none _
    | refine LeO.ite ?_ ?_
    | refine LeO.bind ?_ (fun _ => ?_)
theorem spykeep1_FracBack.mono : ∀ a0 a1 k, LeO (spykeep1_FracBack.f k a0 a1) (spykeep1_FracBack.f (k + 1) a0 a1) := by
 intro a0 a1 k
 have ih0 := spykeep1_FracBack.mono_l k
 unfold spykeep1_FracBack.f
 repeat' first
  | (with_reducible exact ih0 _ _ _)
  | (with_reducible exact frac_From.mono _ _)
  | (with_reducible exact frac_Make.mono _ _ _)
  | (with_reducible exact frac_Read.mono _ _)
  | (with_reducible exact frac_Terms.mono _ _ _)
  | (with_reducible exact frac_Text.mono _ _ _)
  | (with_reducible exact spykeep1_fracFact.mono _)
  | (with_reducible exact LeO.refl _)
  | (with_reducible exact LeO.none _)
  | (with_reducible refine LeO.ite ?_ ?_)
  | (with_reducible refine LeO.bind ?_ (fun _ => ?_))
  | exact ih0 _ _ _
  | exact frac_From.mono _ _
  | exact frac_Make.mono _ _ _
  | exact frac_Read.mono _ _
  | exact frac_Terms.mono _ _ _
  | exact frac_Text.mono _ _ _
  | exact spykeep1_fracFact.mono _
  | exact LeO.none _
  | refine LeO.ite ?_ ?_
  | refine LeO.bind ?_ (fun _ => ?_)
set_option maxHeartbeats 8000000 in
set_option maxRecDepth 100000 in
theorem spykeep1_FracBack.calls (k : Nat) (a0 : Int) (a1 : Int) (r : Bool) (w : World) (ht : ScTab w) (h : spykeep1_FracBack.f k a0 a1 = some r) :
 Calls Tryd.prog 3 #[.int .i64 a0, .int .i64 a1] w fun e w' => e = .returned (.bool r) ∧ Below w.heap.size w w' := by
  have hu23 := Tryd.underlying23
  have HB := Aside0.mk (Below.refl w.heap.size w)
  have H : ((frac_Make.f k a0 a1).bind fun bt101 => ((spykeep1_fracFact.f k).bind fun t105 => (if t105 = true then (spykeep1_FracBack.j0 k (bt101.2.2 != 0) bt101.1 bt101.2.1) else (spykeep1_FracBack.j0 k true bt101.1 bt101.2.1)))) = some r := h
  clear h
  replace H := Option.bind_eq_some_iff.mp H
  obtain ⟨⟨t101, t102, t103⟩, A30, H⟩ := H
  try dsimp -simprocs only at H
  have A3 := Aside0.mk A30
  clear A30
  have HC4 := Aside0.mk H
  clear H
  go_enter Tryd.func3, Tryd.ntmps3
  go_upto_region 2 with (first | ((with_reducible refine gate_callee (f := 4) rfl ?_); refine glq_ (some 18) Tryd.func4 #[.int .i64 a0, .int .i64 a1] ?_; (with_reducible refine (frac_Make.calls k a0 a1 t101 t102 t103 _ A3.out).mono ?_); rintro e w5 ⟨rfl, hb⟩; refine ⟨_, rfl, ?_⟩; replace HB := hbs_ HB hb rfl rfl rfl rfl; (try clear hb)) | ((with_reducible refine gate_dst (N := 5) rfl ?_); refine bxq_ 5 #[.int .i64 0, .int .i64 0] 23 ?_; intro gb104 hg w6 hbox hb; have BK104 := Aside0.mk (hbox); have GW104 := gwq_ HB hg rfl; have GE104 := GW104; replace HB := hbs_ HB hb rfl rfl rfl rfl; clear hb hbox hg; have hcz7_0 := bc_ BK104 0 rfl; have hcz7_1 := bc_ BK104 1 rfl; have hfz7_0 := blk_frozen BK104.out 0; have hfz7_1 := blk_frozen BK104.out 1))
  (try simp only [Act.put, List.setIfInBounds_toArray, List.set_cons_zero, List.set_cons_succ])
  go_cut [26] (fun v26 wc => ∃ (kq : Nat) (x26_3 : Bool), v26 = .bool x26_3 ∧ Aside0 (spykeep1_FracBack.j0 kq x26_3 t101 t102 = some r) ∧ Aside0 (kq ≤ k) ∧ Aside0 (wc.heap[gb104]? = some (.cells #[.int .i64 t101, .int .i64 t102] 23 (0, 0))) ∧ Aside0 (Below w.heap.size w wc))
  case first =>
   have H := HC4.out
   clear HC4
   replace H := Option.bind_eq_some_iff.mp H
   obtain ⟨t105, A80, H⟩ := H
   try dsimp -simprocs only at H
   have A8 := Aside0.mk A80
   clear A80
   by_cases c9 : t105 = true
   · subst c9
     rw [if_pos rfl] at H
     have H' := Aside0.mk H
     clear H
     go_wp2_with (first | ((with_reducible refine gate_callee (f := 5) rfl ?_); refine glq_ (some 21) Tryd.func5 #[] ?_; (with_reducible refine (spykeep1_fracFact.calls k  true _ A8.out).mono ?_); rintro e w10 ⟨rfl, hb⟩; refine ⟨_, rfl, ?_⟩; replace BK104 := Aside0.mk (blk_below (g := gb104) (o := .cells #[.int .i64 t101, .int .i64 t102] 23 (0, 0)) (by (with_reducible repeat (first | refine blk_drewN ?_ _ | refine blk_drew ?_ | refine blk_alloc ?_ _)); refine blk_put (cs := #[.int .i64 t101, .int .i64 0]) ?_ 1 _ rfl; (with_reducible repeat (first | refine blk_drewN ?_ _ | refine blk_drew ?_ | refine blk_alloc ?_ _)); refine blk_put (cs := #[.int .i64 0, .int .i64 0]) ?_ 0 _ rfl; (with_reducible repeat (first | refine blk_drewN ?_ _ | refine blk_drew ?_ | refine blk_alloc ?_ _)); exact BK104.out) hb); replace HB := Aside0.mk (below_step (by repeat (first | (with_reducible first | exact HB.out | apply below_alloc | apply pw_below_drewN | apply below_drew1 | refine below_set ?_ GE104.out) | exact HB.out)) hb); (try clear hb)))
     go_meet
     case rel => exact ⟨_, ((t103 != 0)), (by first | rfl | (simp; done) | (simp [*]; done)), H', ⟨by first | omega | exact Nat.le_refl _⟩, ⟨by (with_reducible repeat (first | refine blk_drewN ?_ _ | refine blk_drew ?_ | refine blk_alloc ?_ _)); exact BK104.out⟩, ⟨by repeat (first | (with_reducible first | exact HB.out | apply below_alloc | apply pw_below_drewN | apply below_drew1 | refine below_set ?_ GE104.out) | exact HB.out)⟩⟩
   replace c9 := Bool.eq_false_iff.mpr c9
   subst c9
   rw [if_neg (show ¬ (false = true) by decide)] at H
   have H' := Aside0.mk H
   clear H
   go_wp2_with (first | ((with_reducible refine gate_callee (f := 5) rfl ?_); refine glq_ (some 21) Tryd.func5 #[] ?_; (with_reducible refine (spykeep1_fracFact.calls k  false _ A8.out).mono ?_); rintro e w11 ⟨rfl, hb⟩; refine ⟨_, rfl, ?_⟩; replace BK104 := Aside0.mk (blk_below (g := gb104) (o := .cells #[.int .i64 t101, .int .i64 t102] 23 (0, 0)) (by (with_reducible repeat (first | refine blk_drewN ?_ _ | refine blk_drew ?_ | refine blk_alloc ?_ _)); refine blk_put (cs := #[.int .i64 t101, .int .i64 0]) ?_ 1 _ rfl; (with_reducible repeat (first | refine blk_drewN ?_ _ | refine blk_drew ?_ | refine blk_alloc ?_ _)); refine blk_put (cs := #[.int .i64 0, .int .i64 0]) ?_ 0 _ rfl; (with_reducible repeat (first | refine blk_drewN ?_ _ | refine blk_drew ?_ | refine blk_alloc ?_ _)); exact BK104.out) hb); replace HB := Aside0.mk (below_step (by repeat (first | (with_reducible first | exact HB.out | apply below_alloc | apply pw_below_drewN | apply below_drew1 | refine below_set ?_ GE104.out) | exact HB.out)) hb); (try clear hb)))
   go_meet
   case rel => exact ⟨_, (true), (by first | rfl | (simp; done) | (simp [*]; done)), H', ⟨by first | omega | exact Nat.le_refl _⟩, ⟨by (with_reducible repeat (first | refine blk_drewN ?_ _ | refine blk_drew ?_ | refine blk_alloc ?_ _)); exact BK104.out⟩, ⟨by repeat (first | (with_reducible first | exact HB.out | apply below_alloc | apply pw_below_drewN | apply below_drew1 | refine below_set ?_ GE104.out) | exact HB.out)⟩⟩
  case rest =>
   clear HC4
   obtain ⟨kq, x26_3, rfl, HA, HJ3, BK104, HB⟩ := hcut
   cases kq with
   | zero => exact absurd HA.out (by simp [spykeep1_FracBack.j0])
   | succ kj3 =>
    have H := HA.out
    clear HA
    simp only [spykeep1_FracBack.j0] at H
    by_cases c12 : x26_3 = true
    · subst c12
      rw [if_pos rfl] at H
      replace H := Option.bind_eq_some_iff.mp H
      obtain ⟨t106, A130, H⟩ := H
      try dsimp -simprocs only at H
      have A13 := Aside0.mk A130
      clear A130
      by_cases c14 : t106 = true
      · subst c14
        rw [if_pos rfl] at H
        obtain rfl := Option.some.inj H
        go_wp2_with (first | ((with_reducible refine gate_callee (f := 5) rfl ?_); refine glq_ (some 27) Tryd.func5 #[] ?_; (with_reducible refine (spykeep1_fracFact.calls kj3  true _ A13.out).mono ?_); rintro e w15 ⟨rfl, hb⟩; refine ⟨_, rfl, ?_⟩; replace BK104 := bkb_ BK104 hb rfl; replace HB := hbs_ HB hb rfl rfl rfl rfl; (try clear hb); have hcz16_0 := bc_ BK104 0 rfl; have hcz16_1 := bc_ BK104 1 rfl; have hfz16_0 := blk_frozen BK104.out 0; have hfz16_1 := blk_frozen BK104.out 1))
        go_ret
        exact ⟨by first | rfl | (simp [errW_none, errW_some] <;> rfl) | (simp [*, errW_none, errW_some] <;> rfl), by repeat (first | (with_reducible first | exact HB.out | apply below_alloc | apply pw_below_drewN | apply below_drew1 | refine below_set ?_ GE104.out) | exact HB.out)⟩
      replace c14 := Bool.eq_false_iff.mpr c14
      subst c14
      rw [if_neg (show ¬ (false = true) by decide)] at H
      exact absurd H (by simp)
    replace c12 := Bool.eq_false_iff.mpr c12
    subst c12
    rw [if_neg (show ¬ (false = true) by decide)] at H
    replace H := Option.bind_eq_some_iff.mp H
    obtain ⟨⟨t107, t108⟩, A170, H⟩ := H
    try dsimp -simprocs only at H
    have A17 := Aside0.mk A170
    clear A170
    replace H := Option.bind_eq_some_iff.mp H
    obtain ⟨⟨t109, t110, t111⟩, A180, H⟩ := H
    try dsimp -simprocs only at H
    have A18 := Aside0.mk A180
    clear A180
    replace H := Option.bind_eq_some_iff.mp H
    obtain ⟨⟨t113, t116⟩, A190, H⟩ := H
    try dsimp -simprocs only at H
    have A19 := Aside0.mk A190
    clear A190
    replace H := Option.bind_eq_some_iff.mp H
    obtain ⟨⟨t117, t118, t119⟩, A200, H⟩ := H
    try dsimp -simprocs only at H
    have A20 := Aside0.mk A200
    clear A200
    by_cases c21 : t108 = 0
    rotate_left
    · rw [if_neg c21] at H
      exact absurd H (by simp)
    rw [if_pos c21] at H
    have c21b0 : (t108 == 0) = true := beq_iff_eq.mpr c21
    have c21b1 : (t108 != 0) = false := bne_eq_false_iff_eq.mpr c21
    clear c21
    by_cases c22 : t111 = 0
    rotate_left
    · rw [if_neg c22] at H
      exact absurd H (by simp)
    rw [if_pos c22] at H
    have c22b0 : (t111 == 0) = true := beq_iff_eq.mpr c22
    have c22b1 : (t111 != 0) = false := bne_eq_false_iff_eq.mpr c22
    clear c22
    by_cases c23 : t116 = 0
    rotate_left
    · rw [if_neg c23] at H
      exact absurd H (by simp)
    rw [if_pos c23] at H
    have c23b0 : (t116 == 0) = true := beq_iff_eq.mpr c23
    have c23b1 : (t116 != 0) = false := bne_eq_false_iff_eq.mpr c23
    clear c23
    by_cases c24 : t119 = 0
    rotate_left
    · rw [if_neg c24] at H
      exact absurd H (by simp)
    rw [if_pos c24] at H
    have c24b0 : (t119 == 0) = true := beq_iff_eq.mpr c24
    have c24b1 : (t119 != 0) = false := bne_eq_false_iff_eq.mpr c24
    clear c24
    by_cases c25 : (t109 == t101 && (t110 == t102)) = true
    rotate_left
    · rw [if_neg c25] at H
      exact absurd H (by simp)
    rw [if_pos c25] at H
    have c25b0 : (t109 == t101 && (t110 == t102)) = true := c25
    (try (have c25b1 : decide (t109 = t101 && (t110 == t102)) = true := by simpa using c25))
    (try (have c25b2 : (t109 == t101 && (t110 == t102)) = true := by simpa using c25))
    clear c25
    obtain rfl := Option.some.inj H
    have hcz26_0 := bc_ BK104 0 rfl
    have hcz26_1 := bc_ BK104 1 rfl
    have hfz26_0 := blk_frozen BK104.out 0
    have hfz26_1 := blk_frozen BK104.out 1
    go_wp2_with (first | ((with_reducible refine gate_callee (f := 6) rfl ?_); refine glq_ (some 35) Tryd.func6 #[.agg #[.int .i64 t101, .int .i64 t102]] ?_; (with_reducible refine (frac_Text.calls kj3 t101 t102 t107 t108 _ (sctab_below ht (by repeat (first | (with_reducible first | exact HB.out | apply below_alloc | apply pw_below_drewN | apply below_drew1) | exact HB.out))) A17.out).mono ?_); rintro e w27 ⟨rfl, hb⟩; refine ⟨_, rfl, ?_⟩; replace BK104 := bkb_ BK104 hb rfl; replace HB := hbs_ HB hb rfl rfl rfl rfl; (try clear hb)) | ((with_reducible refine gate_callee (f := 7) rfl ?_); refine glq_ (some 40) Tryd.func7 #[.string t107] ?_; (with_reducible refine (frac_Read.calls kj3 t107 t109 t110 t111 _ (sctab_below ht (by repeat (first | (with_reducible first | exact HB.out | apply below_alloc | apply pw_below_drewN | apply below_drew1) | exact HB.out))) A18.out).mono ?_); rintro e w28 ⟨rfl, hb⟩; refine ⟨_, rfl, ?_⟩; replace BK104 := bkb_ BK104 hb rfl; replace HB := hbs_ HB hb rfl rfl rfl rfl; (try clear hb)) | ((with_reducible refine gate_dst (N := 9) rfl ?_); refine bxq_ 9 #[.int .i64 0, .int .i64 0] 23 ?_; intro gb112 hg w29 hbox hb; have BK112 := Aside0.mk (hbox); have GW112 := gwq_ HB hg rfl; have GE112 := GW112; have NB104_112 := nbl_ BK104 hg rfl; have NB112_104 := nbg_ BK104 hg rfl; replace BK104 := bkb_ BK104 hb rfl; replace HB := hbs_ HB hb rfl rfl rfl rfl; clear hb hbox hg; have hnb30 := NB112_104.out; have hnc30 := NB104_112.out; have hcz31_0 := bc_ BK112 0 rfl; have hcz31_1 := bc_ BK112 1 rfl; have hfz31_0 := blk_frozen BK112.out 0; have hfz31_1 := blk_frozen BK112.out 1; have hcz32_0 := bc_ BK104 0 rfl; have hcz32_1 := bc_ BK104 1 rfl; have hfz32_0 := blk_frozen BK104.out 0; have hfz32_1 := blk_frozen BK104.out 1) | ((with_reducible refine gate_callee (f := 8) rfl ?_); refine glq_ (some 45) Tryd.func8 #[.agg #[.int .i64 t101, .int .i64 t102]] ?_; (with_reducible refine (frac_Terms.calls kj3 t101 t102 t113 t116 _ A19.out).mono ?_); rintro e w33 ⟨v114, rfl, ho0, hb⟩; refine ⟨_, rfl, ?_⟩; have HO115 := Aside0.mk (Kd.R_lower ho0 (below_size (by repeat (first | (with_reducible first | exact HB.out | apply below_alloc | apply pw_below_drewN | apply below_drew1 | refine below_set ?_ GE104.out | refine below_set ?_ GE112.out) | exact HB.out)))); replace BK104 := Aside0.mk (blk_below (g := gb104) (o := .cells #[.int .i64 t101, .int .i64 t102] 23 (0, 0)) (by (with_reducible repeat (first | refine blk_drewN ?_ _ | refine blk_drew ?_ | refine blk_alloc ?_ _)); refine blk_far ?_ NB104_112.out _; (with_reducible repeat (first | refine blk_drewN ?_ _ | refine blk_drew ?_ | refine blk_alloc ?_ _)); refine blk_far ?_ NB104_112.out _; (with_reducible repeat (first | refine blk_drewN ?_ _ | refine blk_drew ?_ | refine blk_alloc ?_ _)); exact BK104.out) hb); replace BK112 := Aside0.mk (blk_below (g := gb112) (o := .cells #[.int .i64 t109, .int .i64 t110] 23 (0, 0)) (by (with_reducible repeat (first | refine blk_drewN ?_ _ | refine blk_drew ?_ | refine blk_alloc ?_ _)); refine blk_put (cs := #[.int .i64 t109, .int .i64 0]) ?_ 1 _ rfl; (with_reducible repeat (first | refine blk_drewN ?_ _ | refine blk_drew ?_ | refine blk_alloc ?_ _)); refine blk_put (cs := #[.int .i64 0, .int .i64 0]) ?_ 0 _ rfl; (with_reducible repeat (first | refine blk_drewN ?_ _ | refine blk_drew ?_ | refine blk_alloc ?_ _)); exact BK112.out) hb); replace HB := Aside0.mk (below_step (by repeat (first | (with_reducible first | exact HB.out | apply below_alloc | apply pw_below_drewN | apply below_drew1 | refine below_set ?_ GE104.out | refine below_set ?_ GE112.out) | exact HB.out)) hb); (try clear hb); (try clear ho0); obtain ⟨Ao34, co34, eo34⟩ := Kd.R_slice HO115.out; subst eo34) | ((with_reducible refine gate_callee (f := 9) rfl ?_); refine glq_ (some 50) Tryd.func9 #[.slice Ao34 t113.length co34] ?_; (with_reducible refine (frac_From.calls kj3 _ _ t113 t117 t118 t119 _ ?side1 ?side2 A20.out).mono ?_); (case side1 => repeat (first | exact (Kd.R_reads' HO115.out).2.2 | (with_reducible refine Kd.C_alloc ?_ _) | (with_reducible refine Kd.C_drewN ?_ _) | (with_reducible refine Kd.C_drew ?_))); (case side2 => exact (Kd.R_reads' HO115.out).2.1); rintro e w35 ⟨rfl, hb⟩; refine ⟨_, rfl, ?_⟩; replace HO115 := Aside0.mk (Kd.R_below (by (with_reducible repeat (first | apply Kd.R_alloc | apply Kd.R_drewN | apply Kd.R_drew)); exact HO115.out) hb); replace BK104 := bkb_ BK104 hb rfl; replace BK112 := bkb_ BK112 hb rfl; replace HB := hbs_ HB hb rfl rfl rfl rfl; (try clear hb)) | ((with_reducible refine gate_dst (N := 13) rfl ?_); refine bxq_ 13 #[.int .i64 0, .int .i64 0] 23 ?_; intro gb120 hg w36 hbox hb; have BK120 := Aside0.mk (hbox); have GW120 := gwq_ HB hg rfl; have GE120 := GW120; have NB104_120 := nbl_ BK104 hg rfl; have NB120_104 := nbg_ BK104 hg rfl; have NB112_120 := nbl_ BK112 hg rfl; have NB120_112 := nbg_ BK112 hg rfl; replace HO115 := Aside0.mk (Kd.R_below (by (with_reducible repeat (first | apply Kd.R_alloc | apply Kd.R_drewN | apply Kd.R_drew)); exact HO115.out) hb); replace BK104 := bkb_ BK104 hb rfl; replace BK112 := bkb_ BK112 hb rfl; replace HB := hbs_ HB hb rfl rfl rfl rfl; clear hb hbox hg; have hnb37 := NB120_104.out; have hnc37 := NB104_120.out; have hnb38 := NB120_112.out; have hnc38 := NB112_120.out; have hcz39_0 := bc_ BK120 0 rfl; have hcz39_1 := bc_ BK120 1 rfl; have hfz39_0 := blk_frozen BK120.out 0; have hfz39_1 := blk_frozen BK120.out 1; have hcz40_0 := bc_ BK112 0 rfl; have hcz40_1 := bc_ BK112 1 rfl; have hfz40_0 := blk_frozen BK112.out 0; have hfz40_1 := blk_frozen BK112.out 1; have hcz41_0 := bc_ BK104 0 rfl; have hcz41_1 := bc_ BK104 1 rfl; have hfz41_0 := blk_frozen BK104.out 0; have hfz41_1 := blk_frozen BK104.out 1))
    go_ret
    exact ⟨by first | rfl | (simp [errW_none, errW_some] <;> rfl) | (simp [*, errW_none, errW_some] <;> rfl), by repeat (first | (with_reducible first | exact HB.out | apply below_alloc | apply pw_below_drewN | apply below_drew1 | refine below_set ?_ GE104.out | refine below_set ?_ GE112.out | refine below_set ?_ GE120.out) | exact HB.out)⟩
/-- THE ONE PURE STATEMENT of spykeep1_FracBack: yours. -/
def spykeep1_FracBack.Pure : Prop := ∀ (a0 : Int) (a1 : Int), (Lit.int .i64 a0).wf = true → (Lit.int .i64 a1).wf = true → ∃ k, spykeep1_FracBack.f k a0 a1 = some true
theorem spykeep1_FracBack.walk (P : spykeep1_FracBack.Pure) (a0 : Int) (a1 : Int) (w : World) (ht : ScTab w) (w0 : (Lit.int .i64 a0).wf = true) (w1 : (Lit.int .i64 a1).wf = true) :
 Calls Tryd.prog 3 #[.int .i64 a0, .int .i64 a1] w fun e w' => e = .returned (.bool true) ∧ Below w.heap.size w w' := by
 obtain ⟨k, h⟩ := P a0 a1 w0 w1
 refine (spykeep1_FracBack.calls k a0 a1 true w ht h).mono ?_
 rintro e w' ⟨rfl, hd⟩
 exact ⟨rfl, hd⟩

end Go.Proofs.YtoplbhohaaielaaDoor.Q
