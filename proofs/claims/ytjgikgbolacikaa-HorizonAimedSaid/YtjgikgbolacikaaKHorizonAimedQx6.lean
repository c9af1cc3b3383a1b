/- Contracts, as in the first text; no condition. -/
import Derived.Test.YtjgikgbolacikaaKHorizonAimedQx0
import Derived.Test.YtjgikgbolacikaaKHorizonAimedQx5
import Derived.Test.YtjgikgbolacikaaKHorizonAimedQx7
import Derived.Test.YtjgikgbolacikaaKHorizonAimedQx9
namespace Go.Proofs.Ytjgikgbolacikaa.Q
open Go.RowKit Go.Proofs.YtjgikgbolacikaaW.PrintWords Go.Proofs.YtjgikgbolacikaaW.PrintLast Go.Proofs.YtjgikgbolacikaaW.PrintMore
attribute [local go_sem] max2_int min2_int max_two min_two max_three min_three max_four min_four
set_option linter.unusedVariables false
set_option linter.unusedSimpArgs false

def num_Wide_Mod.f (k : Nat) (a0_0 : Int) (a0_1 : Int) (a1 : Int) : Option (Int) := if a1 < 1 then (some 0) else (if a0_0 < 0 then ((num_Wide_Neg.f a0_0 a0_1).bind fun bt103 => (if (IntKind.u64.wrap (a1)) = 0 then (none) else ((bits_Div64.f k (Int.tmod (IntKind.u64.wrap (bt103.1)) (IntKind.u64.wrap (a1))) bt103.2 (IntKind.u64.wrap (a1))).bind fun bt105 => (if bt105.2 > 0 then (some (wrap64 (IntKind.u64.wrap ((IntKind.u64.wrap (a1)) - bt105.2)))) else (some (wrap64 (bt105.2))))))) else (if (IntKind.u64.wrap (a1)) = 0 then (none) else ((bits_Div64.f k (Int.tmod (IntKind.u64.wrap (a0_0)) (IntKind.u64.wrap (a1))) a0_1 (IntKind.u64.wrap (a1))).bind fun bt107 => (some (wrap64 (bt107.2))))))
theorem num_Wide_Mod.mono : ∀ a0 a1 a2 k, LeO (num_Wide_Mod.f k a0 a1 a2) (num_Wide_Mod.f (k + 1) a0 a1 a2) := by
 intro a0 a1 a2 k
 unfold num_Wide_Mod.f
 repeat' first
  | (with_reducible exact bits_Div64.mono _ _ _ _)
  | (with_reducible exact LeO.refl _)
  | (with_reducible exact LeO.none _)
  | (with_reducible refine LeO.ite ?_ ?_)
  | (with_reducible refine LeO.bind ?_ (fun _ => ?_))
set_option maxHeartbeats 8000000 in
set_option maxRecDepth 100000 in
theorem num_Wide_Mod.calls (k : Nat) (a0_0 : Int) (a0_1 : Int) (a1 : Int) (r : Int) (w : World) (h : num_Wide_Mod.f k a0_0 a0_1 a1 = some r) :
 Calls Try.prog 64 #[.agg #[.int .i64 a0_0, .int .u64 a0_1], .int .i64 a1] w fun e w' => e = .returned (.int .i64 r) ∧ Below w.heap.size w w' := by
  have hu84 := Try.underlying84
  have HB := Aside0.mk (Below.refl w.heap.size w)
  have H : (if a1 < 1 then (some 0) else (if a0_0 < 0 then ((num_Wide_Neg.f a0_0 a0_1).bind fun bt103 => (if (IntKind.u64.wrap (a1)) = 0 then (none) else ((bits_Div64.f k (Int.tmod (IntKind.u64.wrap (bt103.1)) (IntKind.u64.wrap (a1))) bt103.2 (IntKind.u64.wrap (a1))).bind fun bt105 => (if bt105.2 > 0 then (some (wrap64 (IntKind.u64.wrap ((IntKind.u64.wrap (a1)) - bt105.2)))) else (some (wrap64 (bt105.2))))))) else (if (IntKind.u64.wrap (a1)) = 0 then (none) else ((bits_Div64.f k (Int.tmod (IntKind.u64.wrap (a0_0)) (IntKind.u64.wrap (a1))) a0_1 (IntKind.u64.wrap (a1))).bind fun bt107 => (some (wrap64 (bt107.2))))))) = some r := h
  clear h
  by_cases c3 : a1 < 1
  · rw [if_pos c3] at H
    have c3b0 : decide (a1 < 1) = true := decide_eq_true c3
    clear c3
    obtain rfl := Option.some.inj H
    go_enter Try.func64, Try.ntmps64
    go_wp2_with (first | ((with_reducible refine gate_dst (N := 2) rfl ?_); refine bxq_ 2 #[.int .i64 a0_0, .int .u64 a0_1] 84 ?_; intro gb101 hg w4 hbox hb; have BK101 := Aside0.mk (hbox); have GW101 := gwq_ HB hg rfl; have GE101 := GW101; replace HB := hbs_ HB hb rfl rfl rfl rfl; clear hb hbox hg))
    repeat (go_quiet (first | ((with_reducible refine gate_dst (N := 2) rfl ?_); refine bxq_ 2 #[.int .i64 a0_0, .int .u64 a0_1] 84 ?_; intro gb101 hg w4 hbox hb; have BK101 := Aside0.mk (hbox); have GW101 := gwq_ HB hg rfl; have GE101 := GW101; replace HB := hbs_ HB hb rfl rfl rfl rfl; clear hb hbox hg)); try go_wp2_with (first | ((with_reducible refine gate_dst (N := 2) rfl ?_); refine bxq_ 2 #[.int .i64 a0_0, .int .u64 a0_1] 84 ?_; intro gb101 hg w4 hbox hb; have BK101 := Aside0.mk (hbox); have GW101 := gwq_ HB hg rfl; have GE101 := GW101; replace HB := hbs_ HB hb rfl rfl rfl rfl; clear hb hbox hg)))
    go_ret
    exact ⟨by first | rfl | (simp [errW_none, errW_some] <;> rfl), by repeat (first | (with_reducible first | exact HB.out | apply below_alloc | apply pw_below_drewN | refine below_set ?_ GE101.out) | exact HB.out)⟩
  rw [if_neg c3] at H
  have c3b0 : decide (a1 < 1) = false := decide_eq_false c3
  clear c3
  by_cases c5 : a0_0 < 0
  · rw [if_pos c5] at H
    have c5b0 : decide (a0_0 < 0) = true := decide_eq_true c5
    clear c5
    replace H := bso_ H
    obtain ⟨⟨t103, t104⟩, A60, H⟩ := H
    try dsimp -simprocs only at H
    have A6 := Aside0.mk A60
    clear A60
    by_cases c7 : (IntKind.u64.wrap (a1)) = 0
    · rw [if_pos c7] at H
      exact absurd H (by simp)
    rw [if_neg c7] at H
    have c7b0 : ((IntKind.u64.wrap (a1)) == 0) = false := beq_eq_false_iff_ne.mpr c7
    have c7b1 : ((IntKind.u64.wrap (a1)) != 0) = true := bne_iff_ne.mpr c7
    replace H := bso_ H
    obtain ⟨⟨t105, t106⟩, A80, H⟩ := H
    try dsimp -simprocs only at H
    have A8 := Aside0.mk A80
    clear A80
    by_cases c9 : t106 > 0
    · rw [if_pos c9] at H
      have c9b0 : decide (0 < t106) = true := decide_eq_true c9
      clear c9
      obtain rfl := Option.some.inj H
      go_enter Try.func64, Try.ntmps64
      go_wp2_with (first | ((with_reducible refine gate_dst (N := 2) rfl ?_); refine bxq_ 2 #[.int .i64 a0_0, .int .u64 a0_1] 84 ?_; intro gb101 hg w10 hbox hb; have BK101 := Aside0.mk (hbox); have GW101 := gwq_ HB hg rfl; have GE101 := GW101; replace HB := hbs_ HB hb rfl rfl rfl rfl; clear hb hbox hg; have hcz11_0 := bc_ BK101 0 rfl; have hcz11_1 := bc_ BK101 1 rfl; have hfz11 := blk_frozen BK101.out) | ((with_reducible refine gate_dst (N := 5) rfl ?_); refine bxq_ 5 #[.int .i64 0, .int .u64 0] 84 ?_; intro gb102 hg w12 hbox hb; have BK102 := Aside0.mk (hbox); have GW102 := gwq_ HB hg rfl; have GE102 := GW102; have NB101_102 := nbl_ BK101 hg rfl; have NB102_101 := nbg_ BK101 hg rfl; replace BK101 := bkb_ BK101 hb rfl; replace HB := hbs_ HB hb rfl rfl rfl rfl; clear hb hbox hg; have hnb13 := NB102_101.out; have hnc13 := NB101_102.out; have hcz14_0 := bc_ BK102 0 rfl; have hcz14_1 := bc_ BK102 1 rfl; have hfz14 := blk_frozen BK102.out; have hcz15_0 := bc_ BK101 0 rfl; have hcz15_1 := bc_ BK101 1 rfl; have hfz15 := blk_frozen BK101.out) | (go_at_call 66; (with_reducible refine (num_Wide_Neg.calls a0_0 a0_1 t103 t104 _ A6.out).mono ?_); rintro e w16 ⟨rfl, hb⟩; replace BK101 := Aside0.mk (blk_below (g := gb101) (o := .cells #[.int .i64 a0_0, .int .u64 a0_1] 84 (0, 0)) (by exact blk_far (blk_far BK101.out NB101_102.out _) NB101_102.out _) hb); replace BK102 := Aside0.mk (blk_below (g := gb102) (o := .cells #[.int .i64 a0_0, .int .u64 a0_1] 84 (0, 0)) (by exact blk_put (blk_put BK102.out 0 _ rfl) 1 _ rfl) hb); replace HB := Aside0.mk (below_step (by repeat (first | (with_reducible first | exact HB.out | apply below_alloc | apply pw_below_drewN | refine below_set ?_ GE101.out | refine below_set ?_ GE102.out) | exact HB.out)) hb); (try clear hb); have hcz17_0 := bc_ BK102 0 rfl; have hcz17_1 := bc_ BK102 1 rfl; have hfz17 := blk_frozen BK102.out) | (go_at_call 74; (with_reducible refine (bits_Div64.calls k (Int.tmod (IntKind.u64.wrap (t103)) (IntKind.u64.wrap (a1))) t104 (IntKind.u64.wrap (a1)) t105 t106 _ A8.out).mono ?_); rintro e w' ⟨rfl, ⟨nd, rfl⟩⟩; (try first | exact ⟨rfl, _, World.drewN_drewN _ _ _⟩ | exact ⟨rfl, _, Eq.trans (World.drewN_drewN _ _ _) (congrArg (World.drewN _) (Nat.add_assoc _ _ _))⟩); have hcz18_0 := bc_ BK101 0 rfl; have hcz18_1 := bc_ BK101 1 rfl; have hfz18 := blk_frozen BK101.out))
      repeat (go_quiet (first | ((with_reducible refine gate_dst (N := 2) rfl ?_); refine bxq_ 2 #[.int .i64 a0_0, .int .u64 a0_1] 84 ?_; intro gb101 hg w10 hbox hb; have BK101 := Aside0.mk (hbox); have GW101 := gwq_ HB hg rfl; have GE101 := GW101; replace HB := hbs_ HB hb rfl rfl rfl rfl; clear hb hbox hg; have hcz11_0 := bc_ BK101 0 rfl; have hcz11_1 := bc_ BK101 1 rfl; have hfz11 := blk_frozen BK101.out) | ((with_reducible refine gate_dst (N := 5) rfl ?_); refine bxq_ 5 #[.int .i64 0, .int .u64 0] 84 ?_; intro gb102 hg w12 hbox hb; have BK102 := Aside0.mk (hbox); have GW102 := gwq_ HB hg rfl; have GE102 := GW102; have NB101_102 := nbl_ BK101 hg rfl; have NB102_101 := nbg_ BK101 hg rfl; replace BK101 := bkb_ BK101 hb rfl; replace HB := hbs_ HB hb rfl rfl rfl rfl; clear hb hbox hg; have hnb13 := NB102_101.out; have hnc13 := NB101_102.out; have hcz14_0 := bc_ BK102 0 rfl; have hcz14_1 := bc_ BK102 1 rfl; have hfz14 := blk_frozen BK102.out; have hcz15_0 := bc_ BK101 0 rfl; have hcz15_1 := bc_ BK101 1 rfl; have hfz15 := blk_frozen BK101.out) | (go_at_call 66; (with_reducible refine (num_Wide_Neg.calls a0_0 a0_1 t103 t104 _ A6.out).mono ?_); rintro e w16 ⟨rfl, hb⟩; replace BK101 := Aside0.mk (blk_below (g := gb101) (o := .cells #[.int .i64 a0_0, .int .u64 a0_1] 84 (0, 0)) (by exact blk_far (blk_far BK101.out NB101_102.out _) NB101_102.out _) hb); replace BK102 := Aside0.mk (blk_below (g := gb102) (o := .cells #[.int .i64 a0_0, .int .u64 a0_1] 84 (0, 0)) (by exact blk_put (blk_put BK102.out 0 _ rfl) 1 _ rfl) hb); replace HB := Aside0.mk (below_step (by repeat (first | (with_reducible first | exact HB.out | apply below_alloc | apply pw_below_drewN | refine below_set ?_ GE101.out | refine below_set ?_ GE102.out) | exact HB.out)) hb); (try clear hb); have hcz17_0 := bc_ BK102 0 rfl; have hcz17_1 := bc_ BK102 1 rfl; have hfz17 := blk_frozen BK102.out) | (go_at_call 74; (with_reducible refine (bits_Div64.calls k (Int.tmod (IntKind.u64.wrap (t103)) (IntKind.u64.wrap (a1))) t104 (IntKind.u64.wrap (a1)) t105 t106 _ A8.out).mono ?_); rintro e w' ⟨rfl, ⟨nd, rfl⟩⟩; (try first | exact ⟨rfl, _, World.drewN_drewN _ _ _⟩ | exact ⟨rfl, _, Eq.trans (World.drewN_drewN _ _ _) (congrArg (World.drewN _) (Nat.add_assoc _ _ _))⟩); have hcz18_0 := bc_ BK101 0 rfl; have hcz18_1 := bc_ BK101 1 rfl; have hfz18 := blk_frozen BK101.out)); try go_wp2_with (first | ((with_reducible refine gate_dst (N := 2) rfl ?_); refine bxq_ 2 #[.int .i64 a0_0, .int .u64 a0_1] 84 ?_; intro gb101 hg w10 hbox hb; have BK101 := Aside0.mk (hbox); have GW101 := gwq_ HB hg rfl; have GE101 := GW101; replace HB := hbs_ HB hb rfl rfl rfl rfl; clear hb hbox hg; have hcz11_0 := bc_ BK101 0 rfl; have hcz11_1 := bc_ BK101 1 rfl; have hfz11 := blk_frozen BK101.out) | ((with_reducible refine gate_dst (N := 5) rfl ?_); refine bxq_ 5 #[.int .i64 0, .int .u64 0] 84 ?_; intro gb102 hg w12 hbox hb; have BK102 := Aside0.mk (hbox); have GW102 := gwq_ HB hg rfl; have GE102 := GW102; have NB101_102 := nbl_ BK101 hg rfl; have NB102_101 := nbg_ BK101 hg rfl; replace BK101 := bkb_ BK101 hb rfl; replace HB := hbs_ HB hb rfl rfl rfl rfl; clear hb hbox hg; have hnb13 := NB102_101.out; have hnc13 := NB101_102.out; have hcz14_0 := bc_ BK102 0 rfl; have hcz14_1 := bc_ BK102 1 rfl; have hfz14 := blk_frozen BK102.out; have hcz15_0 := bc_ BK101 0 rfl; have hcz15_1 := bc_ BK101 1 rfl; have hfz15 := blk_frozen BK101.out) | (go_at_call 66; (with_reducible refine (num_Wide_Neg.calls a0_0 a0_1 t103 t104 _ A6.out).mono ?_); rintro e w16 ⟨rfl, hb⟩; replace BK101 := Aside0.mk (blk_below (g := gb101) (o := .cells #[.int .i64 a0_0, .int .u64 a0_1] 84 (0, 0)) (by exact blk_far (blk_far BK101.out NB101_102.out _) NB101_102.out _) hb); replace BK102 := Aside0.mk (blk_below (g := gb102) (o := .cells #[.int .i64 a0_0, .int .u64 a0_1] 84 (0, 0)) (by exact blk_put (blk_put BK102.out 0 _ rfl) 1 _ rfl) hb); replace HB := Aside0.mk (below_step (by repeat (first | (with_reducible first | exact HB.out | apply below_alloc | apply pw_below_drewN | refine below_set ?_ GE101.out | refine below_set ?_ GE102.out) | exact HB.out)) hb); (try clear hb); have hcz17_0 := bc_ BK102 0 rfl; have hcz17_1 := bc_ BK102 1 rfl; have hfz17 := blk_frozen BK102.out) | (go_at_call 74; (with_reducible refine (bits_Div64.calls k (Int.tmod (IntKind.u64.wrap (t103)) (IntKind.u64.wrap (a1))) t104 (IntKind.u64.wrap (a1)) t105 t106 _ A8.out).mono ?_); rintro e w' ⟨rfl, ⟨nd, rfl⟩⟩; (try first | exact ⟨rfl, _, World.drewN_drewN _ _ _⟩ | exact ⟨rfl, _, Eq.trans (World.drewN_drewN _ _ _) (congrArg (World.drewN _) (Nat.add_assoc _ _ _))⟩); have hcz18_0 := bc_ BK101 0 rfl; have hcz18_1 := bc_ BK101 1 rfl; have hfz18 := blk_frozen BK101.out)))
      go_ret
      exact ⟨by first | rfl | (simp [errW_none, errW_some] <;> rfl), by repeat (first | (with_reducible first | exact HB.out | apply below_alloc | apply pw_below_drewN | refine below_set ?_ GE101.out | refine below_set ?_ GE102.out) | exact HB.out)⟩
    rw [if_neg c9] at H
    have c9b0 : decide (0 < t106) = false := decide_eq_false c9
    clear c9
    obtain rfl := Option.some.inj H
    go_enter Try.func64, Try.ntmps64
    go_wp2_with (first | ((with_reducible refine gate_dst (N := 2) rfl ?_); refine bxq_ 2 #[.int .i64 a0_0, .int .u64 a0_1] 84 ?_; intro gb101 hg w19 hbox hb; have BK101 := Aside0.mk (hbox); have GW101 := gwq_ HB hg rfl; have GE101 := GW101; replace HB := hbs_ HB hb rfl rfl rfl rfl; clear hb hbox hg; have hcz20_0 := bc_ BK101 0 rfl; have hcz20_1 := bc_ BK101 1 rfl; have hfz20 := blk_frozen BK101.out) | ((with_reducible refine gate_dst (N := 5) rfl ?_); refine bxq_ 5 #[.int .i64 0, .int .u64 0] 84 ?_; intro gb102 hg w21 hbox hb; have BK102 := Aside0.mk (hbox); have GW102 := gwq_ HB hg rfl; have GE102 := GW102; have NB101_102 := nbl_ BK101 hg rfl; have NB102_101 := nbg_ BK101 hg rfl; replace BK101 := bkb_ BK101 hb rfl; replace HB := hbs_ HB hb rfl rfl rfl rfl; clear hb hbox hg; have hnb22 := NB102_101.out; have hnc22 := NB101_102.out; have hcz23_0 := bc_ BK102 0 rfl; have hcz23_1 := bc_ BK102 1 rfl; have hfz23 := blk_frozen BK102.out; have hcz24_0 := bc_ BK101 0 rfl; have hcz24_1 := bc_ BK101 1 rfl; have hfz24 := blk_frozen BK101.out) | (go_at_call 66; (with_reducible refine (num_Wide_Neg.calls a0_0 a0_1 t103 t104 _ A6.out).mono ?_); rintro e w25 ⟨rfl, hb⟩; replace BK101 := Aside0.mk (blk_below (g := gb101) (o := .cells #[.int .i64 a0_0, .int .u64 a0_1] 84 (0, 0)) (by exact blk_far (blk_far BK101.out NB101_102.out _) NB101_102.out _) hb); replace BK102 := Aside0.mk (blk_below (g := gb102) (o := .cells #[.int .i64 a0_0, .int .u64 a0_1] 84 (0, 0)) (by exact blk_put (blk_put BK102.out 0 _ rfl) 1 _ rfl) hb); replace HB := Aside0.mk (below_step (by repeat (first | (with_reducible first | exact HB.out | apply below_alloc | apply pw_below_drewN | refine below_set ?_ GE101.out | refine below_set ?_ GE102.out) | exact HB.out)) hb); (try clear hb); have hcz26_0 := bc_ BK102 0 rfl; have hcz26_1 := bc_ BK102 1 rfl; have hfz26 := blk_frozen BK102.out) | (go_at_call 74; (with_reducible refine (bits_Div64.calls k (Int.tmod (IntKind.u64.wrap (t103)) (IntKind.u64.wrap (a1))) t104 (IntKind.u64.wrap (a1)) t105 t106 _ A8.out).mono ?_); rintro e w' ⟨rfl, ⟨nd, rfl⟩⟩; (try first | exact ⟨rfl, _, World.drewN_drewN _ _ _⟩ | exact ⟨rfl, _, Eq.trans (World.drewN_drewN _ _ _) (congrArg (World.drewN _) (Nat.add_assoc _ _ _))⟩); have hcz27_0 := bc_ BK101 0 rfl; have hcz27_1 := bc_ BK101 1 rfl; have hfz27 := blk_frozen BK101.out))
    repeat (go_quiet (first | ((with_reducible refine gate_dst (N := 2) rfl ?_); refine bxq_ 2 #[.int .i64 a0_0, .int .u64 a0_1] 84 ?_; intro gb101 hg w19 hbox hb; have BK101 := Aside0.mk (hbox); have GW101 := gwq_ HB hg rfl; have GE101 := GW101; replace HB := hbs_ HB hb rfl rfl rfl rfl; clear hb hbox hg; have hcz20_0 := bc_ BK101 0 rfl; have hcz20_1 := bc_ BK101 1 rfl; have hfz20 := blk_frozen BK101.out) | ((with_reducible refine gate_dst (N := 5) rfl ?_); refine bxq_ 5 #[.int .i64 0, .int .u64 0] 84 ?_; intro gb102 hg w21 hbox hb; have BK102 := Aside0.mk (hbox); have GW102 := gwq_ HB hg rfl; have GE102 := GW102; have NB101_102 := nbl_ BK101 hg rfl; have NB102_101 := nbg_ BK101 hg rfl; replace BK101 := bkb_ BK101 hb rfl; replace HB := hbs_ HB hb rfl rfl rfl rfl; clear hb hbox hg; have hnb22 := NB102_101.out; have hnc22 := NB101_102.out; have hcz23_0 := bc_ BK102 0 rfl; have hcz23_1 := bc_ BK102 1 rfl; have hfz23 := blk_frozen BK102.out; have hcz24_0 := bc_ BK101 0 rfl; have hcz24_1 := bc_ BK101 1 rfl; have hfz24 := blk_frozen BK101.out) | (go_at_call 66; (with_reducible refine (num_Wide_Neg.calls a0_0 a0_1 t103 t104 _ A6.out).mono ?_); rintro e w25 ⟨rfl, hb⟩; replace BK101 := Aside0.mk (blk_below (g := gb101) (o := .cells #[.int .i64 a0_0, .int .u64 a0_1] 84 (0, 0)) (by exact blk_far (blk_far BK101.out NB101_102.out _) NB101_102.out _) hb); replace BK102 := Aside0.mk (blk_below (g := gb102) (o := .cells #[.int .i64 a0_0, .int .u64 a0_1] 84 (0, 0)) (by exact blk_put (blk_put BK102.out 0 _ rfl) 1 _ rfl) hb); replace HB := Aside0.mk (below_step (by repeat (first | (with_reducible first | exact HB.out | apply below_alloc | apply pw_below_drewN | refine below_set ?_ GE101.out | refine below_set ?_ GE102.out) | exact HB.out)) hb); (try clear hb); have hcz26_0 := bc_ BK102 0 rfl; have hcz26_1 := bc_ BK102 1 rfl; have hfz26 := blk_frozen BK102.out) | (go_at_call 74; (with_reducible refine (bits_Div64.calls k (Int.tmod (IntKind.u64.wrap (t103)) (IntKind.u64.wrap (a1))) t104 (IntKind.u64.wrap (a1)) t105 t106 _ A8.out).mono ?_); rintro e w' ⟨rfl, ⟨nd, rfl⟩⟩; (try first | exact ⟨rfl, _, World.drewN_drewN _ _ _⟩ | exact ⟨rfl, _, Eq.trans (World.drewN_drewN _ _ _) (congrArg (World.drewN _) (Nat.add_assoc _ _ _))⟩); have hcz27_0 := bc_ BK101 0 rfl; have hcz27_1 := bc_ BK101 1 rfl; have hfz27 := blk_frozen BK101.out)); try go_wp2_with (first | ((with_reducible refine gate_dst (N := 2) rfl ?_); refine bxq_ 2 #[.int .i64 a0_0, .int .u64 a0_1] 84 ?_; intro gb101 hg w19 hbox hb; have BK101 := Aside0.mk (hbox); have GW101 := gwq_ HB hg rfl; have GE101 := GW101; replace HB := hbs_ HB hb rfl rfl rfl rfl; clear hb hbox hg; have hcz20_0 := bc_ BK101 0 rfl; have hcz20_1 := bc_ BK101 1 rfl; have hfz20 := blk_frozen BK101.out) | ((with_reducible refine gate_dst (N := 5) rfl ?_); refine bxq_ 5 #[.int .i64 0, .int .u64 0] 84 ?_; intro gb102 hg w21 hbox hb; have BK102 := Aside0.mk (hbox); have GW102 := gwq_ HB hg rfl; have GE102 := GW102; have NB101_102 := nbl_ BK101 hg rfl; have NB102_101 := nbg_ BK101 hg rfl; replace BK101 := bkb_ BK101 hb rfl; replace HB := hbs_ HB hb rfl rfl rfl rfl; clear hb hbox hg; have hnb22 := NB102_101.out; have hnc22 := NB101_102.out; have hcz23_0 := bc_ BK102 0 rfl; have hcz23_1 := bc_ BK102 1 rfl; have hfz23 := blk_frozen BK102.out; have hcz24_0 := bc_ BK101 0 rfl; have hcz24_1 := bc_ BK101 1 rfl; have hfz24 := blk_frozen BK101.out) | (go_at_call 66; (with_reducible refine (num_Wide_Neg.calls a0_0 a0_1 t103 t104 _ A6.out).mono ?_); rintro e w25 ⟨rfl, hb⟩; replace BK101 := Aside0.mk (blk_below (g := gb101) (o := .cells #[.int .i64 a0_0, .int .u64 a0_1] 84 (0, 0)) (by exact blk_far (blk_far BK101.out NB101_102.out _) NB101_102.out _) hb); replace BK102 := Aside0.mk (blk_below (g := gb102) (o := .cells #[.int .i64 a0_0, .int .u64 a0_1] 84 (0, 0)) (by exact blk_put (blk_put BK102.out 0 _ rfl) 1 _ rfl) hb); replace HB := Aside0.mk (below_step (by repeat (first | (with_reducible first | exact HB.out | apply below_alloc | apply pw_below_drewN | refine below_set ?_ GE101.out | refine below_set ?_ GE102.out) | exact HB.out)) hb); (try clear hb); have hcz26_0 := bc_ BK102 0 rfl; have hcz26_1 := bc_ BK102 1 rfl; have hfz26 := blk_frozen BK102.out) | (go_at_call 74; (with_reducible refine (bits_Div64.calls k (Int.tmod (IntKind.u64.wrap (t103)) (IntKind.u64.wrap (a1))) t104 (IntKind.u64.wrap (a1)) t105 t106 _ A8.out).mono ?_); rintro e w' ⟨rfl, ⟨nd, rfl⟩⟩; (try first | exact ⟨rfl, _, World.drewN_drewN _ _ _⟩ | exact ⟨rfl, _, Eq.trans (World.drewN_drewN _ _ _) (congrArg (World.drewN _) (Nat.add_assoc _ _ _))⟩); have hcz27_0 := bc_ BK101 0 rfl; have hcz27_1 := bc_ BK101 1 rfl; have hfz27 := blk_frozen BK101.out)))
    go_ret
    exact ⟨by first | rfl | (simp [errW_none, errW_some] <;> rfl), by repeat (first | (with_reducible first | exact HB.out | apply below_alloc | apply pw_below_drewN | refine below_set ?_ GE101.out | refine below_set ?_ GE102.out) | exact HB.out)⟩
  rw [if_neg c5] at H
  have c5b0 : decide (a0_0 < 0) = false := decide_eq_false c5
  clear c5
  by_cases c28 : (IntKind.u64.wrap (a1)) = 0
  · rw [if_pos c28] at H
    exact absurd H (by simp)
  rw [if_neg c28] at H
  have c28b0 : ((IntKind.u64.wrap (a1)) == 0) = false := beq_eq_false_iff_ne.mpr c28
  have c28b1 : ((IntKind.u64.wrap (a1)) != 0) = true := bne_iff_ne.mpr c28
  replace H := bso_ H
  obtain ⟨⟨t107, t108⟩, A290, H⟩ := H
  try dsimp -simprocs only at H
  have A29 := Aside0.mk A290
  clear A290
  obtain rfl := Option.some.inj H
  go_enter Try.func64, Try.ntmps64
  go_wp2_with (first | ((with_reducible refine gate_dst (N := 2) rfl ?_); refine bxq_ 2 #[.int .i64 a0_0, .int .u64 a0_1] 84 ?_; intro gb101 hg w30 hbox hb; have BK101 := Aside0.mk (hbox); have GW101 := gwq_ HB hg rfl; have GE101 := GW101; replace HB := hbs_ HB hb rfl rfl rfl rfl; clear hb hbox hg; have hcz31_0 := bc_ BK101 0 rfl; have hcz31_1 := bc_ BK101 1 rfl; have hfz31 := blk_frozen BK101.out) | ((with_reducible refine gate_dst (N := 5) rfl ?_); refine bxq_ 5 #[.int .i64 0, .int .u64 0] 84 ?_; intro gb102 hg w32 hbox hb; have BK102 := Aside0.mk (hbox); have GW102 := gwq_ HB hg rfl; have GE102 := GW102; have NB101_102 := nbl_ BK101 hg rfl; have NB102_101 := nbg_ BK101 hg rfl; replace BK101 := bkb_ BK101 hb rfl; replace HB := hbs_ HB hb rfl rfl rfl rfl; clear hb hbox hg; have hnb33 := NB102_101.out; have hnc33 := NB101_102.out; have hcz34_0 := bc_ BK102 0 rfl; have hcz34_1 := bc_ BK102 1 rfl; have hfz34 := blk_frozen BK102.out; have hcz35_0 := bc_ BK101 0 rfl; have hcz35_1 := bc_ BK101 1 rfl; have hfz35 := blk_frozen BK101.out) | (go_at_call 74; (with_reducible refine (bits_Div64.calls k (Int.tmod (IntKind.u64.wrap (a0_0)) (IntKind.u64.wrap (a1))) a0_1 (IntKind.u64.wrap (a1)) t107 t108 _ A29.out).mono ?_); rintro e w' ⟨rfl, ⟨nd, rfl⟩⟩; (try first | exact ⟨rfl, _, World.drewN_drewN _ _ _⟩ | exact ⟨rfl, _, Eq.trans (World.drewN_drewN _ _ _) (congrArg (World.drewN _) (Nat.add_assoc _ _ _))⟩)))
  repeat (go_quiet (first | ((with_reducible refine gate_dst (N := 2) rfl ?_); refine bxq_ 2 #[.int .i64 a0_0, .int .u64 a0_1] 84 ?_; intro gb101 hg w30 hbox hb; have BK101 := Aside0.mk (hbox); have GW101 := gwq_ HB hg rfl; have GE101 := GW101; replace HB := hbs_ HB hb rfl rfl rfl rfl; clear hb hbox hg; have hcz31_0 := bc_ BK101 0 rfl; have hcz31_1 := bc_ BK101 1 rfl; have hfz31 := blk_frozen BK101.out) | ((with_reducible refine gate_dst (N := 5) rfl ?_); refine bxq_ 5 #[.int .i64 0, .int .u64 0] 84 ?_; intro gb102 hg w32 hbox hb; have BK102 := Aside0.mk (hbox); have GW102 := gwq_ HB hg rfl; have GE102 := GW102; have NB101_102 := nbl_ BK101 hg rfl; have NB102_101 := nbg_ BK101 hg rfl; replace BK101 := bkb_ BK101 hb rfl; replace HB := hbs_ HB hb rfl rfl rfl rfl; clear hb hbox hg; have hnb33 := NB102_101.out; have hnc33 := NB101_102.out; have hcz34_0 := bc_ BK102 0 rfl; have hcz34_1 := bc_ BK102 1 rfl; have hfz34 := blk_frozen BK102.out; have hcz35_0 := bc_ BK101 0 rfl; have hcz35_1 := bc_ BK101 1 rfl; have hfz35 := blk_frozen BK101.out) | (go_at_call 74; (with_reducible refine (bits_Div64.calls k (Int.tmod (IntKind.u64.wrap (a0_0)) (IntKind.u64.wrap (a1))) a0_1 (IntKind.u64.wrap (a1)) t107 t108 _ A29.out).mono ?_); rintro e w' ⟨rfl, ⟨nd, rfl⟩⟩; (try first | exact ⟨rfl, _, World.drewN_drewN _ _ _⟩ | exact ⟨rfl, _, Eq.trans (World.drewN_drewN _ _ _) (congrArg (World.drewN _) (Nat.add_assoc _ _ _))⟩))); try go_wp2_with (first | ((with_reducible refine gate_dst (N := 2) rfl ?_); refine bxq_ 2 #[.int .i64 a0_0, .int .u64 a0_1] 84 ?_; intro gb101 hg w30 hbox hb; have BK101 := Aside0.mk (hbox); have GW101 := gwq_ HB hg rfl; have GE101 := GW101; replace HB := hbs_ HB hb rfl rfl rfl rfl; clear hb hbox hg; have hcz31_0 := bc_ BK101 0 rfl; have hcz31_1 := bc_ BK101 1 rfl; have hfz31 := blk_frozen BK101.out) | ((with_reducible refine gate_dst (N := 5) rfl ?_); refine bxq_ 5 #[.int .i64 0, .int .u64 0] 84 ?_; intro gb102 hg w32 hbox hb; have BK102 := Aside0.mk (hbox); have GW102 := gwq_ HB hg rfl; have GE102 := GW102; have NB101_102 := nbl_ BK101 hg rfl; have NB102_101 := nbg_ BK101 hg rfl; replace BK101 := bkb_ BK101 hb rfl; replace HB := hbs_ HB hb rfl rfl rfl rfl; clear hb hbox hg; have hnb33 := NB102_101.out; have hnc33 := NB101_102.out; have hcz34_0 := bc_ BK102 0 rfl; have hcz34_1 := bc_ BK102 1 rfl; have hfz34 := blk_frozen BK102.out; have hcz35_0 := bc_ BK101 0 rfl; have hcz35_1 := bc_ BK101 1 rfl; have hfz35 := blk_frozen BK101.out) | (go_at_call 74; (with_reducible refine (bits_Div64.calls k (Int.tmod (IntKind.u64.wrap (a0_0)) (IntKind.u64.wrap (a1))) a0_1 (IntKind.u64.wrap (a1)) t107 t108 _ A29.out).mono ?_); rintro e w' ⟨rfl, ⟨nd, rfl⟩⟩; (try first | exact ⟨rfl, _, World.drewN_drewN _ _ _⟩ | exact ⟨rfl, _, Eq.trans (World.drewN_drewN _ _ _) (congrArg (World.drewN _) (Nat.add_assoc _ _ _))⟩))))
  go_ret
  exact ⟨by first | rfl | (simp [errW_none, errW_some] <;> rfl), by repeat (first | (with_reducible first | exact HB.out | apply below_alloc | apply pw_below_drewN | refine below_set ?_ GE101.out | refine below_set ?_ GE102.out) | exact HB.out)⟩

def num_MulDivUp.j0 : Nat → Int → Int → Bool → Option (Int × Int)
 | 0, _, _, _ => none
 | k + 1, x9, x10, x27 => if x27 = true then (some (x9, x10)) else (if x9 = 9223372036854775807 then (some (0, 2)) else (some (wrap64 (x9 + 1), 0)))
def num_MulDivUp.f (k : Nat) (a0 : Int) (a1 : Int) (a2 : Int) : Option (Int × Int) := (num_Product.f a0 a1).bind fun bt101 => ((num_Wide_Div.f k bt101.1 bt101.2 a2).bind fun bt104 => (if bt104.2 = 0 then ((num_Wide_Mod.f k bt101.1 bt101.2 a2).bind fun t106 => (num_MulDivUp.j0 k bt104.1 bt104.2 (t106 == 0))) else (num_MulDivUp.j0 k bt104.1 bt104.2 true)))
theorem num_MulDivUp.mono_l : ∀ k, (∀ y0 y1 y2, LeO (num_MulDivUp.j0 k y0 y1 y2) (num_MulDivUp.j0 (k + 1) y0 y1 y2))
 | 0 => fun _ _ _ r h => by simp [num_MulDivUp.j0] at h
 | k + 1 => by
  have ih0 := num_MulDivUp.mono_l k
  · intro y0 y1 y2
    unfold num_MulDivUp.j0
    repeat' first
    | (with_reducible exact ih0 _ _ _)
    | (with_reducible exact num_Wide_Div.mono _ _ _ _)
    | (with_reducible exact num_Wide_Mod.mono _ _ _ _)
    | (with_reducible exact LeO.refl _)
    | (with_reducible exact LeO.none _)
    | (with_reducible refine LeO.ite ?_ ?_)
    | (with_reducible refine LeO.bind ?_ (fun _ => ?_))
theorem num_MulDivUp.mono : ∀ a0 a1 a2 k, LeO (num_MulDivUp.f k a0 a1 a2) (num_MulDivUp.f (k + 1) a0 a1 a2) := by
 intro a0 a1 a2 k
 have ih0 := num_MulDivUp.mono_l k
 unfold num_MulDivUp.f
 repeat' first
  | (with_reducible exact ih0 _ _ _)
  | (with_reducible exact num_Wide_Div.mono _ _ _ _)
  | (with_reducible exact num_Wide_Mod.mono _ _ _ _)
  | (with_reducible exact LeO.refl _)
  | (with_reducible exact LeO.none _)
  | (with_reducible refine LeO.ite ?_ ?_)
  | (with_reducible refine LeO.bind ?_ (fun _ => ?_))
set_option maxHeartbeats 8000000 in
set_option maxRecDepth 100000 in
theorem num_MulDivUp.calls (k : Nat) (a0 : Int) (a1 : Int) (a2 : Int) (r1 : Int) (r2 : Int) (w : World) (h : num_MulDivUp.f k a0 a1 a2 = some (r1, r2)) :
 Calls Try.prog 49 #[.int .i64 a0, .int .i64 a1, .int .i64 a2] w fun e w' => e = .returned (.tuple #[.int .i64 r1, .int .i64 r2]) ∧ Below w.heap.size w w' := by
  have hu84 := Try.underlying84
  have HB := Aside0.mk (Below.refl w.heap.size w)
  have H : ((num_Product.f a0 a1).bind fun bt101 => ((num_Wide_Div.f k bt101.1 bt101.2 a2).bind fun bt104 => (if bt104.2 = 0 then ((num_Wide_Mod.f k bt101.1 bt101.2 a2).bind fun t106 => (num_MulDivUp.j0 k bt104.1 bt104.2 (t106 == 0))) else (num_MulDivUp.j0 k bt104.1 bt104.2 true)))) = some (r1, r2) := h
  clear h
  replace H := bso_ H
  obtain ⟨⟨t101, t102⟩, A40, H⟩ := H
  try dsimp -simprocs only at H
  have A4 := Aside0.mk A40
  clear A40
  replace H := bso_ H
  obtain ⟨⟨t104, t105⟩, A50, H⟩ := H
  try dsimp -simprocs only at H
  have A5 := Aside0.mk A50
  clear A50
  have HC6 := Aside0.mk H
  clear H
  go_enter Try.func49, Try.ntmps49
  go_upto_region 3 with (first | ((with_reducible refine gate_callee (f := 50) rfl ?_); refine glq_ (some 13) Try.func50 #[.int .i64 a0, .int .i64 a1] ?_; (with_reducible refine (num_Product.calls a0 a1 t101 t102 _ A4.out).mono ?_); rintro e w7 ⟨rfl, hb⟩; refine ⟨_, rfl, ?_⟩; replace HB := hbs_ HB hb rfl rfl rfl rfl; (try clear hb)) | ((with_reducible refine gate_dst (N := 8) rfl ?_); refine bxq_ 8 #[.int .i64 0, .int .u64 0] 84 ?_; intro gb103 hg w8 hbox hb; have BK103 := Aside0.mk (hbox); have GW103 := gwq_ HB hg rfl; have GE103 := GW103; replace HB := hbs_ HB hb rfl rfl rfl rfl; clear hb hbox hg; have hcz9_0 := bc_ BK103 0 rfl; have hcz9_1 := bc_ BK103 1 rfl; have hfz9 := blk_frozen BK103.out) | ((with_reducible refine gate_callee (f := 63) rfl ?_); refine glq_ (some 17) Try.func63 #[.agg #[.int .i64 t101, .int .u64 t102], .int .i64 a2] ?_; (with_reducible refine (num_Wide_Div.calls k t101 t102 a2 t104 t105 _ A5.out).mono ?_); rintro e w10 ⟨rfl, hb⟩; refine ⟨_, rfl, ?_⟩; replace BK103 := Aside0.mk (blk_below (g := gb103) (o := .cells #[.int .i64 t101, .int .u64 t102] 84 (0, 0)) (by exact blk_put (blk_put BK103.out 0 _ rfl) 1 _ rfl) hb); replace HB := Aside0.mk (below_step (by repeat (first | (with_reducible first | exact HB.out | apply below_alloc | apply pw_below_drewN | refine below_set ?_ GE103.out) | exact HB.out)) hb); (try clear hb)))
  (try simp only [Act.put, List.setIfInBounds_toArray, List.set_cons_zero, List.set_cons_succ])
  go_cut [27] (fun v27 wc => ∃ (kq : Nat) (x27_5 : Bool), v27 = .bool x27_5 ∧ Aside0 (num_MulDivUp.j0 kq t104 t105 x27_5 = some (r1, r2)) ∧ Aside0 (kq ≤ k) ∧ Aside0 (wc.heap[gb103]? = some (.cells #[.int .i64 t101, .int .u64 t102] 84 (0, 0))) ∧ Aside0 (Below w.heap.size w wc))
  case first =>
   have H := HC6.out
   clear HC6
   by_cases c11 : t105 = 0
   · rw [if_pos c11] at H
     have c11b0 : (t105 == 0) = true := beq_iff_eq.mpr c11
     have c11b1 : (t105 != 0) = false := bne_eq_false_iff_eq.mpr c11
     clear c11
     (first | rw [c11b0] | (simp only [i64_w, i32_w]; rw [c11b0]) | skip)
     replace H := bso_ H
     obtain ⟨t106, A120, H⟩ := H
     try dsimp -simprocs only at H
     have A12 := Aside0.mk A120
     clear A120
     have H' := Aside0.mk H
     clear H
     have hcz13_0 := bc_ BK103 0 rfl
     have hcz13_1 := bc_ BK103 1 rfl
     have hfz13 := blk_frozen BK103.out
     go_wp2_with (first | (go_at_call 64; (with_reducible refine (num_Wide_Mod.calls k t101 t102 a2 t106 _ A12.out).mono ?_); rintro e w14 ⟨rfl, hb⟩; replace BK103 := bkb_ BK103 hb rfl; replace HB := hbs_ HB hb rfl rfl rfl rfl; (try clear hb)))
     go_meet
     case rel => exact ⟨_, ((t106 == 0)), (by first | rfl | (simp; done) | (simp [*]; done)), H', ⟨by first | omega | exact Nat.le_refl _⟩, ⟨by exact BK103.out⟩, ⟨by repeat (first | (with_reducible first | exact HB.out | apply below_alloc | apply pw_below_drewN | refine below_set ?_ GE103.out) | exact HB.out)⟩⟩
   rw [if_neg c11] at H
   have c11b0 : (t105 == 0) = false := beq_eq_false_iff_ne.mpr c11
   have c11b1 : (t105 != 0) = true := bne_iff_ne.mpr c11
   (first | rw [c11b0] | (simp only [i64_w, i32_w]; rw [c11b0]) | skip)
   have H' := Aside0.mk H
   clear H
   go_wp2
   go_meet
   case rel => exact ⟨_, (true), (by first | rfl | (simp; done) | (simp [*]; done)), H', ⟨by first | omega | exact Nat.le_refl _⟩, ⟨by exact BK103.out⟩, ⟨by repeat (first | (with_reducible first | exact HB.out | apply below_alloc | apply pw_below_drewN | refine below_set ?_ GE103.out) | exact HB.out)⟩⟩
  case rest =>
   clear HC6
   obtain ⟨kq, x27_5, rfl, HA, HJ5, BK103, HB⟩ := hcut
   cases kq with
   | zero => exact absurd HA.out (by simp [num_MulDivUp.j0])
   | succ kj5 =>
    have H := HA.out
    clear HA
    simp only [num_MulDivUp.j0] at H
    by_cases c15 : x27_5 = true
    · subst c15
      rw [if_pos rfl] at H
      simp only [Option.some.injEq, Prod.mk.injEq] at H
      obtain ⟨rfl, rfl⟩ := H
      go_wp2
      go_ret2
      exact ⟨by first | rfl | (simp [errW_none, errW_some] <;> rfl), by repeat (first | (with_reducible first | exact HB.out | apply below_alloc | apply pw_below_drewN | refine below_set ?_ GE103.out) | exact HB.out)⟩
    replace c15 := Bool.eq_false_iff.mpr c15
    subst c15
    rw [if_neg (show ¬ (false = true) by decide)] at H
    by_cases c16 : t104 = 9223372036854775807
    · rw [if_pos c16] at H
      have c16b0 : (t104 == 9223372036854775807) = true := beq_iff_eq.mpr c16
      have c16b1 : (t104 != 9223372036854775807) = false := bne_eq_false_iff_eq.mpr c16
      clear c16
      simp only [Option.some.injEq, Prod.mk.injEq] at H
      obtain ⟨rfl, rfl⟩ := H
      go_wp2
      go_ret2
      exact ⟨by first | rfl | (simp [errW_none, errW_some] <;> rfl), by repeat (first | (with_reducible first | exact HB.out | apply below_alloc | apply pw_below_drewN | refine below_set ?_ GE103.out) | exact HB.out)⟩
    rw [if_neg c16] at H
    have c16b0 : (t104 == 9223372036854775807) = false := beq_eq_false_iff_ne.mpr c16
    have c16b1 : (t104 != 9223372036854775807) = true := bne_iff_ne.mpr c16
    simp only [Option.some.injEq, Prod.mk.injEq] at H
    obtain ⟨rfl, rfl⟩ := H
    go_wp2
    go_ret2
    exact ⟨by first | rfl | (simp [errW_none, errW_some] <;> rfl), by repeat (first | (with_reducible first | exact HB.out | apply below_alloc | apply pw_below_drewN | refine below_set ?_ GE103.out) | exact HB.out)⟩

def num_FloorDiv.f (a0 : Int) (a1 : Int) : Option (Int) := if a1 < 1 then (some 0) else (if a1 = 0 then (none) else (if (Int.tmod a0 a1) < 0 then (some (wrap64 ((wrap64 (Int.tdiv a0 a1)) - 1))) else (some (wrap64 (Int.tdiv a0 a1)))))
set_option maxHeartbeats 8000000 in
set_option maxRecDepth 100000 in
theorem num_FloorDiv.calls (a0 : Int) (a1 : Int) (r : Int) (w : World) (h : num_FloorDiv.f a0 a1 = some r) :
 Calls Try.prog 72 #[.int .i64 a0, .int .i64 a1] w fun e w' => e = .returned (.int .i64 r) ∧ Drawn0 w w' := by
  have H : (if a1 < 1 then (some 0) else (if a1 = 0 then (none) else (if (Int.tmod a0 a1) < 0 then (some (wrap64 ((wrap64 (Int.tdiv a0 a1)) - 1))) else (some (wrap64 (Int.tdiv a0 a1)))))) = some r := h
  clear h
  by_cases c3 : a1 < 1
  · rw [if_pos c3] at H
    have c3b0 : decide (a1 < 1) = true := decide_eq_true c3
    clear c3
    obtain rfl := Option.some.inj H
    go_enter Try.func72, Try.ntmps72
    go_wp2
    go_ret
    exact ⟨by first | rfl | (simp; done) | (simp [*]; done), by repeat (first | exact Drawn0.refl _ | apply Drawn0.step)⟩
  rw [if_neg c3] at H
  have c3b0 : decide (a1 < 1) = false := decide_eq_false c3
  clear c3
  by_cases c4 : a1 = 0
  · rw [if_pos c4] at H
    exact absurd H (by simp)
  rw [if_neg c4] at H
  have c4b0 : (a1 == 0) = false := beq_eq_false_iff_ne.mpr c4
  have c4b1 : (a1 != 0) = true := bne_iff_ne.mpr c4
  by_cases c5 : (Int.tmod a0 a1) < 0
  · rw [if_pos c5] at H
    have c5b0 : decide ((Int.tmod a0 a1) < 0) = true := decide_eq_true c5
    clear c5
    obtain rfl := Option.some.inj H
    go_enter Try.func72, Try.ntmps72
    go_wp2
    go_ret
    exact ⟨by first | rfl | (simp; done) | (simp [*]; done), by repeat (first | exact Drawn0.refl _ | apply Drawn0.step)⟩
  rw [if_neg c5] at H
  have c5b0 : decide ((Int.tmod a0 a1) < 0) = false := decide_eq_false c5
  clear c5
  obtain rfl := Option.some.inj H
  go_enter Try.func72, Try.ntmps72
  go_wp2
  go_ret
  exact ⟨by first | rfl | (simp; done) | (simp [*]; done), by repeat (first | exact Drawn0.refl _ | apply Drawn0.step)⟩

def num_CeilDiv.f (a0 : Int) (a1 : Int) : Option (Int) := if a1 < 1 then (some 0) else (if a1 = 0 then (none) else (if (Int.tmod a0 a1) > 0 then (some (wrap64 ((wrap64 (Int.tdiv a0 a1)) + 1))) else (some (wrap64 (Int.tdiv a0 a1)))))
set_option maxHeartbeats 8000000 in
set_option maxRecDepth 100000 in
theorem num_CeilDiv.calls (a0 : Int) (a1 : Int) (r : Int) (w : World) (h : num_CeilDiv.f a0 a1 = some r) :
 Calls Try.prog 73 #[.int .i64 a0, .int .i64 a1] w fun e w' => e = .returned (.int .i64 r) ∧ Drawn0 w w' := by
  have H : (if a1 < 1 then (some 0) else (if a1 = 0 then (none) else (if (Int.tmod a0 a1) > 0 then (some (wrap64 ((wrap64 (Int.tdiv a0 a1)) + 1))) else (some (wrap64 (Int.tdiv a0 a1)))))) = some r := h
  clear h
  by_cases c3 : a1 < 1
  · rw [if_pos c3] at H
    have c3b0 : decide (a1 < 1) = true := decide_eq_true c3
    clear c3
    obtain rfl := Option.some.inj H
    go_enter Try.func73, Try.ntmps73
    go_wp2
    go_ret
    exact ⟨by first | rfl | (simp; done) | (simp [*]; done), by repeat (first | exact Drawn0.refl _ | apply Drawn0.step)⟩
  rw [if_neg c3] at H
  have c3b0 : decide (a1 < 1) = false := decide_eq_false c3
  clear c3
  by_cases c4 : a1 = 0
  · rw [if_pos c4] at H
    exact absurd H (by simp)
  rw [if_neg c4] at H
  have c4b0 : (a1 == 0) = false := beq_eq_false_iff_ne.mpr c4
  have c4b1 : (a1 != 0) = true := bne_iff_ne.mpr c4
  by_cases c5 : (Int.tmod a0 a1) > 0
  · rw [if_pos c5] at H
    have c5b0 : decide (0 < (Int.tmod a0 a1)) = true := decide_eq_true c5
    clear c5
    obtain rfl := Option.some.inj H
    go_enter Try.func73, Try.ntmps73
    go_wp2
    go_ret
    exact ⟨by first | rfl | (simp; done) | (simp [*]; done), by repeat (first | exact Drawn0.refl _ | apply Drawn0.step)⟩
  rw [if_neg c5] at H
  have c5b0 : decide (0 < (Int.tmod a0 a1)) = false := decide_eq_false c5
  clear c5
  obtain rfl := Option.some.inj H
  go_enter Try.func73, Try.ntmps73
  go_wp2
  go_ret
  exact ⟨by first | rfl | (simp; done) | (simp [*]; done), by repeat (first | exact Drawn0.refl _ | apply Drawn0.step)⟩

def num_Wide_Cmp.f (k : Nat) (a0_0 : Int) (a0_1 : Int) (a1_0 : Int) (a1_1 : Int) : Option (Int) := (cmp_Compare_int64.f a0_0 a1_0).bind fun t103 => ((cmp_Compare_uint64.f a0_1 a1_1).bind fun t104 => ((cmp_Or_int.f k (([t103, t104] : List Int))).bind fun t108 => (some t108)))
theorem num_Wide_Cmp.mono : ∀ a0 a1 a2 a3 k, LeO (num_Wide_Cmp.f k a0 a1 a2 a3) (num_Wide_Cmp.f (k + 1) a0 a1 a2 a3) := by
 intro a0 a1 a2 a3 k
 unfold num_Wide_Cmp.f
 repeat' first
  | (with_reducible exact cmp_Or_int.mono _ _)
  | (with_reducible exact LeO.refl _)
  | (with_reducible exact LeO.none _)
  | (with_reducible refine LeO.ite ?_ ?_)
  | (with_reducible refine LeO.bind ?_ (fun _ => ?_))
def num_Wide_Cmp.T1 : Bool × List (List Nat × List Nat) := (true, [([], []), ([0], [0]), ([], []), ([2], [2]), ([1, 3], [1, 3]), ([], []), ([5], [5]), ([], []), ([7], [7]), ([6, 8, 4], [6, 8]), ([4, 9], [4, 9]), ([10, 9], [10]), ([11, 11, 0, 1, 2, 3, 4, 5, 6, 7, 8, 9, 10, 11], [11])])
def num_Wide_Cmp.B1 : List Nat := [0, 1, 0, 4, 15, 0, 32, 0, 128, 511, 1023, 2047, 4095]
theorem num_Wide_Cmp.tab1 : rtab .any (opsOf Try.f51 1) = num_Wide_Cmp.T1 := by kernel_rfl
theorem num_Wide_Cmp.bits1 : waitsOk num_Wide_Cmp.T1.2 num_Wide_Cmp.B1 = true := by kernel_rfl
set_option maxHeartbeats 8000000 in
set_option maxRecDepth 100000 in
theorem num_Wide_Cmp.calls (k : Nat) (a0_0 : Int) (a0_1 : Int) (a1_0 : Int) (a1_1 : Int) (r : Int) (w : World) (h : num_Wide_Cmp.f k a0_0 a0_1 a1_0 a1_1 = some r) :
 Calls Try.prog 51 #[.agg #[.int .i64 a0_0, .int .u64 a0_1], .agg #[.int .i64 a1_0, .int .u64 a1_1]] w fun e w' => e = .returned (.int .i64 r) ∧ Below w.heap.size w w' := by
  have hu84 := Try.underlying84
  have HB := Aside0.mk (Below.refl w.heap.size w)
  have H : ((cmp_Compare_int64.f a0_0 a1_0).bind fun t103 => ((cmp_Compare_uint64.f a0_1 a1_1).bind fun t104 => ((cmp_Or_int.f k (([t103, t104] : List Int))).bind fun t108 => (some t108)))) = some r := h
  clear h
  replace H := bso_ H
  obtain ⟨t103, A30, H⟩ := H
  try dsimp -simprocs only at H
  have A3 := Aside0.mk A30
  clear A30
  replace H := bso_ H
  obtain ⟨t104, A40, H⟩ := H
  try dsimp -simprocs only at H
  have A4 := Aside0.mk A40
  clear A40
  obtain ⟨y105, hy105⟩ : ∃ y_ : List Int, y_ = (([t103, t104] : List Int)) := ⟨_, rfl⟩
  replace H : ((cmp_Or_int.f k y105).bind fun t108 => (some t108)) = some r := by first | (rw [hy105]; with_reducible exact H) | (have H2_ := (Option.bind_some _ _).symm.trans H; rw [hy105]; with_reducible exact H2_) | (have H2_ := (Option.bind_some _ _).symm.trans H; with_reducible exact H2_) | with_reducible exact H | (rw [hy105]; exact H) | exact H
  have Ny105 := Aside0.mk hy105
  clear hy105
  replace H := bso_ H
  obtain ⟨t108, A50, H⟩ := H
  try dsimp -simprocs only at H
  have A5 := Aside0.mk A50
  clear A50
  obtain rfl := Option.some.inj H
  go_enter Try.func51, Try.ntmps51
  try go_wp2_with (first | ((with_reducible refine gate_dst (N := 2) rfl ?_); refine bxq_ 2 #[.int .i64 a0_0, .int .u64 a0_1] 84 ?_; intro gb101 hg w6 hbox hb; have BK101 := Aside0.mk (hbox); have GW101 := gwq_ HB hg rfl; have GE101 := GW101; replace HB := hbs_ HB hb rfl rfl rfl rfl; clear hb hbox hg) | ((with_reducible refine gate_dst (N := 3) rfl ?_); refine bxq_ 3 #[.int .i64 a1_0, .int .u64 a1_1] 84 ?_; intro gb102 hg w7 hbox hb; have BK102 := Aside0.mk (hbox); have GW102 := gwq_ HB hg rfl; have GE102 := GW102; have NB101_102 := nbl_ BK101 hg rfl; have NB102_101 := nbg_ BK101 hg rfl; replace BK101 := bkb_ BK101 hb rfl; replace HB := hbs_ HB hb rfl rfl rfl rfl; clear hb hbox hg))
  replace BK101 := Aside0.mk (blk_drew BK101.out)
  replace BK102 := Aside0.mk (blk_drew BK102.out)
  replace HB := Aside0.mk (below_drew1 HB.out)
  refine start_ (n := 13) (S := fun w' => w'.cell? ⟨gb101, 0, none⟩ = some (.int .i64 a0_0) ∧ w'.cell? ⟨gb101, 1, none⟩ = some (.int .u64 a0_1) ∧ w'.cell? ⟨gb102, 0, none⟩ = some (.int .i64 a1_0) ∧ w'.cell? ⟨gb102, 1, none⟩ = some (.int .u64 a1_1)) (ds := []) (bm_ [0, 13]) (by kernel_rfl) rfl rfl ⟨bc_ BK101 0 rfl, bc_ BK101 1 rfl, bc_ BK102 0 rfl, bc_ BK102 1 rfl⟩ (fun hHeld => ?_); refine with_tabW num_Wide_Cmp.tab1 num_Wide_Cmp.bits1 (fun HT_ HW_ => ?_)
  generalize w7.drew = w8 at BK101 BK102 HB hHeld ⊢
  refine pq_ 0 5 (bm_ [1, 12]) HT_ ?_
  refine pq_ 2 7 (bm_ [1, 1, 1, 10]) HT_ ?_
  refine pq_ 5 10 (bm_ [1, 1, 1, 2, 1, 7]) HT_ ?_
  refine pq_ 7 12 (bm_ [1, 1, 1, 2, 1, 1, 1, 5]) HT_ ?_
  refine tq_ 1 6 (bm_ [3, 2, 1, 1, 1, 5]) HT_ HW_ hHeld ?_
  refine tq_ 3 8 (bm_ [4, 1, 1, 1, 1, 5]) HT_ HW_ hHeld ?_
  refine tq_ 6 11 (bm_ [4, 1, 3, 5]) HT_ HW_ hHeld ?_
  refine tq_ 8 13 (bm_ [4, 1, 4, 4]) HT_ HW_ hHeld ?_
  refine oq_ 4 (some 9) (bm_ [9, 4]) HT_ (fun K hK => ?_)
  refine gq_ Try.func68 #[.int .i64 a0_0, .int .i64 a1_0] ?_
  with_reducible refine (cmp_Compare_int64.calls a0_0 a1_0 t103 _ A3.out).mono ?_
  rintro e w' ⟨rfl, ⟨nd, rfl⟩⟩
  refine ⟨_, rfl, ?_⟩
  refine hK.out _ _ ⟨bc_ BK101 0 rfl, bc_ BK101 1 rfl, bc_ BK102 0 rfl, bc_ BK102 1 rfl⟩ (fun hHeld => ?_)
  clear hK K
  refine nq_ 9 ?_
  refine oq_ 9 (some 14) (bm_ [10, 3]) HT_ (fun K hK => ?_)
  refine gq_ Try.func69 #[.int .u64 a0_1, .int .u64 a1_1] ?_
  with_reducible refine (cmp_Compare_uint64.calls a0_1 a1_1 t104 _ A4.out).mono ?_
  rintro e w' ⟨rfl, ⟨nd, rfl⟩⟩
  refine ⟨_, rfl, ?_⟩
  refine hK.out _ _ ⟨bc_ BK101 0 rfl, bc_ BK101 1 rfl, bc_ BK102 0 rfl, bc_ BK102 1 rfl⟩ (fun hHeld => ?_)
  clear hK K
  refine nq_ 14 ?_
  refine oq_ 10 (some 15) (bm_ [11, 2]) HT_ (fun K hK => ?_)
  refine Kd.R_lit_step (Kd.int .i64) _ 3 ?hg (N := 15) ?hd (xs := ([t103, t104] : List Int)) (inner := [.int .i64 t103, .int .i64 t104]) (ok := fun _ => True) (okp := fun _ => True) ?hr ?hp (fun _ hk => hk) trivial (Below.refl _ _) (Nat.le_refl _) (by simp) ?_; (case hd => rfl); (case hg => rfl); (case hr => first | (go_simp; done) | (go_simp; rfl)); (case hp => exact (Reps.one (show Kd.M (Kd.int .i64) _ _ _ t103 [.int .i64 t103] from rfl) (Reps.one (show Kd.M (Kd.int .i64) _ _ _ t104 [.int .i64 t104] from rfl) (Reps.none _ _))))
  intro v106 w9 ho10 hb hg_ hnew_
  clear hg_ hnew_
  (first | rw [← Ny105.out] at ho10 | (simp only [Int.reduceToNat] at ho10; rw [← Ny105.out] at ho10))
  have HO107 := Aside0.mk (Kd.R_lower ho10 (below_size (by repeat (first | (with_reducible first | exact HB.out | apply below_alloc | apply pw_below_drewN | refine below_set ?_ GE101.out | refine below_set ?_ GE102.out) | exact HB.out))))
  replace BK101 := bkb_ BK101 hb rfl
  replace BK102 := bkb_ BK102 hb rfl
  replace HB := hbs_ HB hb rfl rfl rfl rfl
  clear hb ho10
  obtain ⟨Ao11, co11, eo11⟩ := Kd.R_slice HO107.out
  (first | subst eo11 | (injection eo11 with f1_ f2_ f3_; have f4_ := f1_.symm; have f5_ := f3_.symm; clear f1_ f2_ f3_; subst f4_; subst f5_))
  refine hK.out _ _ ⟨bc_ BK101 0 rfl, bc_ BK101 1 rfl, bc_ BK102 0 rfl, bc_ BK102 1 rfl⟩ (fun hHeld => ?_)
  clear hK K
  refine nq_ 15 ?_
  refine oq_ 11 (some 16) (bm_ [12, 1]) HT_ (fun K hK => ?_)
  refine gq_ Try.func67 #[.slice Ao11 y105.length co11] ?_
  with_reducible refine (cmp_Or_int.calls k _ _ y105 t108 _ ?side1 ?side2 A5.out).mono ?_
  (case side1 => repeat (first | exact (Kd.R_reads' HO107.out).2.2 | (with_reducible refine Kd.C_alloc ?_ _) | (with_reducible refine Kd.C_drewN ?_ _) | (with_reducible refine Kd.C_drew ?_)))
  (case side2 => exact (Kd.R_reads' HO107.out).2.1)
  rintro e w' ⟨rfl, ⟨nd, rfl⟩⟩
  refine ⟨_, rfl, ?_⟩
  refine hK.out _ _ ⟨bc_ BK101 0 rfl, bc_ BK101 1 rfl, bc_ BK102 0 rfl, bc_ BK102 1 rfl⟩ (fun hHeld => ?_)
  clear hK K
  refine nq_ 16 ?_
  refine pq_ 12 4 (bm_ [13]) HT_ ?_
  refine done_ (done_of HT_.out (by kernel_rfl)) ?_
  try go_wp2
  go_ret
  exact ⟨by first | rfl | (simp [errW_none, errW_some] <;> rfl), by repeat (first | (with_reducible first | exact HB.out | apply below_alloc | apply pw_below_drewN | refine below_set ?_ GE101.out | refine below_set ?_ GE102.out) | exact HB.out)⟩

end Go.Proofs.Ytjgikgbolacikaa.Q
