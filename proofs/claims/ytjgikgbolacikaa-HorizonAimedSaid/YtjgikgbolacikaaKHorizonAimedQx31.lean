/- Contracts, as in the first text; no condition. -/
import Derived.Test.YtjgikgbolacikaaKHorizonAimedQx0
import Derived.Test.YtjgikgbolacikaaKHorizonAimedQx16
import Derived.Test.YtjgikgbolacikaaKHorizonAimedQx17
import Derived.Test.YtjgikgbolacikaaKHorizonAimedQx30
namespace Go.Proofs.Ytjgikgbolacikaa.Q
open Go.RowKit Go.Proofs.YtjgikgbolacikaaW.PrintWords Go.Proofs.YtjgikgbolacikaaW.PrintLast Go.Proofs.YtjgikgbolacikaaW.PrintMore
attribute [local go_sem] max2_int min2_int max_two min_two max_three min_three max_four min_four
set_option linter.unusedVariables false
set_option linter.unusedSimpArgs false

def bound_Div_api_Fix.j0 : Nat → Bool → Int → Int → Bool → Int → Int → Bool → Int → Option (Int × Int × Bool)
 | 0, _, _, _, _, _, _, _, _ => none
 | k + 1, x23, x102000, x102001, x102002, x103000, x103001, x103002, x104000 => if x23 = true then ((bound_None_api_Fix.f).bind fun bt106 => (some (bt106.1, bt106.2.1, bt106.2.2))) else (if x103001 < 0 then ((bound_Neg_api_Fix.f k x102000 x102001 x102002).bind fun bt109 => ((bound_Neg_api_Fix.f k x103000 x103001 x103002).bind fun bt112 => ((bound_corners_api_Fix__bound_Div_api_Fix_1_bound_Div_api_Fix_2.f k bt109.1 bt109.2.1 bt109.2.2 bt112.1 bt112.2.1 bt112.2.2 [x104000] [x104000]).bind fun bt115 => (some (bt115.1, bt115.2.1, bt115.2.2))))) else ((bound_corners_api_Fix__bound_Div_api_Fix_1_bound_Div_api_Fix_2.f k x102000 x102001 x102002 x103000 x103001 x103002 [x104000] [x104000]).bind fun bt118 => (some (bt118.1, bt118.2.1, bt118.2.2))))
def bound_Div_api_Fix.f (k : Nat) (a0_0 : Int) (a0_1 : Int) (a0_2 : Bool) (a1_0 : Int) (a1_1 : Int) (a1_2 : Bool) (a2 : Int) : Option (Int × Int × Bool) := (bound_vague_api_Fix.f k a0_0 a0_1 a0_2 a1_0 a1_1 a1_2).bind fun t105 => (if t105 = true then (bound_Div_api_Fix.j0 k true a0_0 a0_1 a0_2 a1_0 a1_1 a1_2 a2) else (if a2 < 1 then (bound_Div_api_Fix.j0 k true a0_0 a0_1 a0_2 a1_0 a1_1 a1_2 a2) else (if a1_0 ≤ 0 then (bound_Div_api_Fix.j0 k (decide (a1_1 ≥ 0)) a0_0 a0_1 a0_2 a1_0 a1_1 a1_2 a2) else (bound_Div_api_Fix.j0 k false a0_0 a0_1 a0_2 a1_0 a1_1 a1_2 a2))))
theorem bound_Div_api_Fix.mono_l : ∀ k, (∀ y0 y1 y2 y3 y4 y5 y6 y7, LeO (bound_Div_api_Fix.j0 k y0 y1 y2 y3 y4 y5 y6 y7) (bound_Div_api_Fix.j0 (k + 1) y0 y1 y2 y3 y4 y5 y6 y7))
 | 0 => fun _ _ _ _ _ _ _ _ r h => by simp [bound_Div_api_Fix.j0] at h
 | k + 1 => by
  have ih0 := bound_Div_api_Fix.mono_l k
  · intro y0 y1 y2 y3 y4 y5 y6 y7
    unfold bound_Div_api_Fix.j0
    repeat' first
    | (with_reducible exact ih0 _ _ _ _ _ _ _ _)
    | (with_reducible exact bound_Neg_api_Fix.mono _ _ _ _)
    | (with_reducible exact bound_corners_api_Fix__bound_Div_api_Fix_1_bound_Div_api_Fix_2.mono _ _ _ _ _ _ _ _ _)
    | (with_reducible exact bound_vague_api_Fix.mono _ _ _ _ _ _ _)
    | (with_reducible exact LeO.refl _)
    | (with_reducible exact LeO.none _)
    | (with_reducible refine LeO.ite ?_ ?_)
    | (with_reducible refine LeO.bind ?_ (fun _ => ?_))
theorem bound_Div_api_Fix.mono : ∀ a0 a1 a2 a3 a4 a5 a6 k, LeO (bound_Div_api_Fix.f k a0 a1 a2 a3 a4 a5 a6) (bound_Div_api_Fix.f (k + 1) a0 a1 a2 a3 a4 a5 a6) := by
 intro a0 a1 a2 a3 a4 a5 a6 k
 have ih0 := bound_Div_api_Fix.mono_l k
 unfold bound_Div_api_Fix.f
 repeat' first
  | (with_reducible exact ih0 _ _ _ _ _ _ _ _)
  | (with_reducible exact bound_Neg_api_Fix.mono _ _ _ _)
  | (with_reducible exact bound_corners_api_Fix__bound_Div_api_Fix_1_bound_Div_api_Fix_2.mono _ _ _ _ _ _ _ _ _)
  | (with_reducible exact bound_vague_api_Fix.mono _ _ _ _ _ _ _)
  | (with_reducible exact LeO.refl _)
  | (with_reducible exact LeO.none _)
  | (with_reducible refine LeO.ite ?_ ?_)
  | (with_reducible refine LeO.bind ?_ (fun _ => ?_))
set_option maxHeartbeats 8000000 in
set_option maxRecDepth 100000 in
theorem bound_Div_api_Fix.calls (k : Nat) (a0_0 : Int) (a0_1 : Int) (a0_2 : Bool) (a1_0 : Int) (a1_1 : Int) (a1_2 : Bool) (a2 : Int) (r1 : Int) (r2 : Int) (r3 : Bool) (w : World) (h : bound_Div_api_Fix.f k a0_0 a0_1 a0_2 a1_0 a1_1 a1_2 a2 = some (r1, r2, r3)) :
 Calls Try.prog 33 #[.agg #[.int .i64 a0_0, .int .i64 a0_1, .bool a0_2], .agg #[.int .i64 a1_0, .int .i64 a1_1, .bool a1_2], .int .i64 a2] w fun e w' => e = .returned (.agg #[.int .i64 r1, .int .i64 r2, .bool r3]) ∧ Below w.heap.size w w' := by
  have hu41 := Try.underlying41
  have hmf : ∀ (fn : Fn) (first cap : Array Value) (w : World), (Instr.makeFunc fn first cap).run Try.prog w = .ok (.func fn first cap) w := fun _ _ _ _ => rfl
  have HB := Aside0.mk (Below.refl w.heap.size w)
  have H : ((bound_vague_api_Fix.f k a0_0 a0_1 a0_2 a1_0 a1_1 a1_2).bind fun t105 => (if t105 = true then (bound_Div_api_Fix.j0 k true a0_0 a0_1 a0_2 a1_0 a1_1 a1_2 a2) else (if a2 < 1 then (bound_Div_api_Fix.j0 k true a0_0 a0_1 a0_2 a1_0 a1_1 a1_2 a2) else (if a1_0 ≤ 0 then (bound_Div_api_Fix.j0 k (decide (a1_1 ≥ 0)) a0_0 a0_1 a0_2 a1_0 a1_1 a1_2 a2) else (bound_Div_api_Fix.j0 k false a0_0 a0_1 a0_2 a1_0 a1_1 a1_2 a2))))) = some (r1, r2, r3) := h
  clear h
  have HC4 := Aside0.mk H
  clear H
  go_enter Try.func33, Try.ntmps33
  go_upto_region 1 with (first | ((with_reducible refine gate_dst (N := 3) rfl ?_); refine bxq_ 3 #[.int .i64 a0_0, .int .i64 a0_1, .bool a0_2] 41 ?_; intro gb101 hg w5 hbox hb; have BK101 := Aside0.mk (hbox); have GW101 := gwq_ HB hg rfl; have GE101 := GW101; replace HB := hbs_ HB hb rfl rfl rfl rfl; clear hb hbox hg) | ((with_reducible refine gate_dst (N := 4) rfl ?_); refine bxq_ 4 #[.int .i64 a1_0, .int .i64 a1_1, .bool a1_2] 41 ?_; intro gb102 hg w6 hbox hb; have BK102 := Aside0.mk (hbox); have GW102 := gwq_ HB hg rfl; have GE102 := GW102; have NB101_102 := nbl_ BK101 hg rfl; have NB102_101 := nbg_ BK101 hg rfl; replace BK101 := bkb_ BK101 hb rfl; replace HB := hbs_ HB hb rfl rfl rfl rfl; clear hb hbox hg) | ((with_reducible refine gate_dst (N := 5) rfl ?_); refine bxq_ 5 #[.int .i64 a2] 2 ?_; intro gb103 hg w7 hbox hb; have BK103 := Aside0.mk (hbox); have GW103 := gwq_ HB hg rfl; have GE103 := GW103; have NB101_103 := nbl_ BK101 hg rfl; have NB103_101 := nbg_ BK101 hg rfl; have NB102_103 := nbl_ BK102 hg rfl; have NB103_102 := nbg_ BK102 hg rfl; replace BK101 := bkb_ BK101 hb rfl; replace BK102 := bkb_ BK102 hb rfl; replace HB := hbs_ HB hb rfl rfl rfl rfl; clear hb hbox hg) | ((with_reducible refine gate_dst (N := 6) rfl ?_); refine bxq_ 6 #[.int .i64 0, .int .i64 0, .bool false] 41 ?_; intro gb104 hg w8 hbox hb; have BK104 := Aside0.mk (hbox); have GW104 := gwq_ HB hg rfl; have GE104 := GW104; have NB101_104 := nbl_ BK101 hg rfl; have NB104_101 := nbg_ BK101 hg rfl; have NB102_104 := nbl_ BK102 hg rfl; have NB104_102 := nbg_ BK102 hg rfl; have NB103_104 := nbl_ BK103 hg rfl; have NB104_103 := nbg_ BK103 hg rfl; replace BK101 := bkb_ BK101 hb rfl; replace BK102 := bkb_ BK102 hb rfl; replace BK103 := bkb_ BK103 hb rfl; replace HB := hbs_ HB hb rfl rfl rfl rfl; clear hb hbox hg))
  (try simp only [Act.put, List.setIfInBounds_toArray, List.set_cons_zero, List.set_cons_succ])
  go_cut [23] (fun v23 wc => ∃ (kq : Nat) (x23_3 : Bool), v23 = .bool x23_3 ∧ Aside0 (bound_Div_api_Fix.j0 kq x23_3 a0_0 a0_1 a0_2 a1_0 a1_1 a1_2 a2 = some (r1, r2, r3)) ∧ Aside0 (kq ≤ k) ∧ Aside0 (wc.heap[gb101]? = some (.cells #[.int .i64 a0_0, .int .i64 a0_1, .bool a0_2] 41 (0, 0))) ∧ Aside0 (wc.heap[gb102]? = some (.cells #[.int .i64 a1_0, .int .i64 a1_1, .bool a1_2] 41 (0, 0))) ∧ Aside0 (wc.heap[gb103]? = some (.cells #[.int .i64 a2] 2 (0, 0))) ∧ Aside0 (wc.heap[gb104]? = some (.cells #[.int .i64 0, .int .i64 0, .bool false] 41 (0, 0))) ∧ Aside0 (Below w.heap.size w wc))
  case first =>
   have H := HC4.out
   clear HC4
   replace H := bso_ H
   obtain ⟨t105, A90, H⟩ := H
   try dsimp -simprocs only at H
   have A9 := Aside0.mk A90
   clear A90
   by_cases c10 : t105 = true
   · subst c10
     rw [if_pos rfl] at H
     have H' := Aside0.mk H
     clear H
     have hnb11 := NB101_102.out
     have hnc11 := NB102_101.out
     have hnb12 := NB101_103.out
     have hnc12 := NB103_101.out
     have hnb13 := NB101_104.out
     have hnc13 := NB104_101.out
     have hcz14_0 := bc_ BK101 0 rfl
     have hcz14_1 := bc_ BK101 1 rfl
     have hcz14_2 := bc_ BK101 2 rfl
     have hfz14 := blk_frozen BK101.out
     have hnb15 := NB102_103.out
     have hnc15 := NB103_102.out
     have hnb16 := NB102_104.out
     have hnc16 := NB104_102.out
     have hcz17_0 := bc_ BK102 0 rfl
     have hcz17_1 := bc_ BK102 1 rfl
     have hcz17_2 := bc_ BK102 2 rfl
     have hfz17 := blk_frozen BK102.out
     go_wp2_with (first | ((with_reducible refine gate_callee (f := 43) rfl ?_); refine glq_ (some 9) Try.func43 #[.agg #[.int .i64 a0_0, .int .i64 a0_1, .bool a0_2], .agg #[.int .i64 a1_0, .int .i64 a1_1, .bool a1_2]] ?_; (with_reducible refine (bound_vague_api_Fix.calls k a0_0 a0_1 a0_2 a1_0 a1_1 a1_2 true _ A9.out).mono ?_); rintro e w18 ⟨rfl, hb⟩; refine ⟨_, rfl, ?_⟩; replace BK101 := bkb_ BK101 hb rfl; replace BK102 := bkb_ BK102 hb rfl; replace BK103 := bkb_ BK103 hb rfl; replace BK104 := bkb_ BK104 hb rfl; replace HB := hbs_ HB hb rfl rfl rfl rfl; (try clear hb)))
     go_meet
     case rel => exact ⟨_, (true), (by first | rfl | (simp; done) | (simp [*]; done)), H', ⟨by first | omega | exact Nat.le_refl _⟩, ⟨by exact BK101.out⟩, ⟨by exact BK102.out⟩, ⟨by exact BK103.out⟩, ⟨by exact BK104.out⟩, ⟨by repeat (first | exact HB.out | apply below_alloc | refine below_set ?_ GE101.out | refine below_set ?_ GE102.out | refine below_set ?_ GE103.out | refine below_set ?_ GE104.out)⟩⟩
   replace c10 := Bool.eq_false_iff.mpr c10
   subst c10
   rw [if_neg (show ¬ (false = true) by decide)] at H
   by_cases c19 : a2 < 1
   · rw [if_pos c19] at H
     have c19b0 : decide (a2 < 1) = true := decide_eq_true c19
     clear c19
     (first | rw [c19b0] | (simp only [i64_w, i32_w]; rw [c19b0]) | skip)
     have H' := Aside0.mk H
     clear H
     have hnb20 := NB101_102.out
     have hnc20 := NB102_101.out
     have hnb21 := NB101_103.out
     have hnc21 := NB103_101.out
     have hnb22 := NB101_104.out
     have hnc22 := NB104_101.out
     have hcz23_0 := bc_ BK101 0 rfl
     have hcz23_1 := bc_ BK101 1 rfl
     have hcz23_2 := bc_ BK101 2 rfl
     have hfz23 := blk_frozen BK101.out
     have hnb24 := NB102_103.out
     have hnc24 := NB103_102.out
     have hnb25 := NB102_104.out
     have hnc25 := NB104_102.out
     have hcz26_0 := bc_ BK102 0 rfl
     have hcz26_1 := bc_ BK102 1 rfl
     have hcz26_2 := bc_ BK102 2 rfl
     have hfz26 := blk_frozen BK102.out
     go_wp2_with (first | ((with_reducible refine gate_callee (f := 43) rfl ?_); refine glq_ (some 9) Try.func43 #[.agg #[.int .i64 a0_0, .int .i64 a0_1, .bool a0_2], .agg #[.int .i64 a1_0, .int .i64 a1_1, .bool a1_2]] ?_; (with_reducible refine (bound_vague_api_Fix.calls k a0_0 a0_1 a0_2 a1_0 a1_1 a1_2 false _ A9.out).mono ?_); rintro e w27 ⟨rfl, hb⟩; refine ⟨_, rfl, ?_⟩; replace BK101 := bkb_ BK101 hb rfl; replace BK102 := bkb_ BK102 hb rfl; replace BK103 := bkb_ BK103 hb rfl; replace BK104 := bkb_ BK104 hb rfl; replace HB := hbs_ HB hb rfl rfl rfl rfl; (try clear hb); have hnb28 := NB103_104.out; have hnc28 := NB104_103.out; have hcz29_0 := bc_ BK103 0 rfl; have hfz29_0 := blk_frozen BK103.out 0))
     go_meet
     case rel => exact ⟨_, (true), (by first | rfl | (simp; done) | (simp [*]; done)), H', ⟨by first | omega | exact Nat.le_refl _⟩, ⟨by exact BK101.out⟩, ⟨by exact BK102.out⟩, ⟨by exact BK103.out⟩, ⟨by exact BK104.out⟩, ⟨by repeat (first | exact HB.out | apply below_alloc | refine below_set ?_ GE101.out | refine below_set ?_ GE102.out | refine below_set ?_ GE103.out | refine below_set ?_ GE104.out)⟩⟩
   rw [if_neg c19] at H
   have c19b0 : decide (a2 < 1) = false := decide_eq_false c19
   clear c19
   (first | rw [c19b0] | (simp only [i64_w, i32_w]; rw [c19b0]) | skip)
   by_cases c30 : a1_0 ≤ 0
   · rw [if_pos c30] at H
     have c30b0 : decide (a1_0 ≤ 0) = true := decide_eq_true c30
     clear c30
     have H' := Aside0.mk H
     clear H
     have hnb31 := NB101_102.out
     have hnc31 := NB102_101.out
     have hnb32 := NB101_103.out
     have hnc32 := NB103_101.out
     have hnb33 := NB101_104.out
     have hnc33 := NB104_101.out
     have hcz34_0 := bc_ BK101 0 rfl
     have hcz34_1 := bc_ BK101 1 rfl
     have hcz34_2 := bc_ BK101 2 rfl
     have hfz34 := blk_frozen BK101.out
     have hnb35 := NB102_103.out
     have hnc35 := NB103_102.out
     have hnb36 := NB102_104.out
     have hnc36 := NB104_102.out
     have hcz37_0 := bc_ BK102 0 rfl
     have hcz37_1 := bc_ BK102 1 rfl
     have hcz37_2 := bc_ BK102 2 rfl
     have hfz37 := blk_frozen BK102.out
     go_wp2_with (first | ((with_reducible refine gate_callee (f := 43) rfl ?_); refine glq_ (some 9) Try.func43 #[.agg #[.int .i64 a0_0, .int .i64 a0_1, .bool a0_2], .agg #[.int .i64 a1_0, .int .i64 a1_1, .bool a1_2]] ?_; (with_reducible refine (bound_vague_api_Fix.calls k a0_0 a0_1 a0_2 a1_0 a1_1 a1_2 false _ A9.out).mono ?_); rintro e w38 ⟨rfl, hb⟩; refine ⟨_, rfl, ?_⟩; replace BK101 := bkb_ BK101 hb rfl; replace BK102 := bkb_ BK102 hb rfl; replace BK103 := bkb_ BK103 hb rfl; replace BK104 := bkb_ BK104 hb rfl; replace HB := hbs_ HB hb rfl rfl rfl rfl; (try clear hb); have hnb39 := NB103_104.out; have hnc39 := NB104_103.out; have hcz40_0 := bc_ BK103 0 rfl; have hfz40_0 := blk_frozen BK103.out 0; have hcz41_0 := bc_ BK102 0 rfl; have hcz41_1 := bc_ BK102 1 rfl; have hcz41_2 := bc_ BK102 2 rfl; have hfz41 := blk_frozen BK102.out))
     go_meet
     case rel => exact ⟨_, (decide (a1_1 ≥ 0)), (by first | rfl | (simp; done) | (simp [*]; done)), H', ⟨by first | omega | exact Nat.le_refl _⟩, ⟨by exact BK101.out⟩, ⟨by exact BK102.out⟩, ⟨by exact BK103.out⟩, ⟨by exact BK104.out⟩, ⟨by repeat (first | exact HB.out | apply below_alloc | refine below_set ?_ GE101.out | refine below_set ?_ GE102.out | refine below_set ?_ GE103.out | refine below_set ?_ GE104.out)⟩⟩
   rw [if_neg c30] at H
   have c30b0 : decide (a1_0 ≤ 0) = false := decide_eq_false c30
   clear c30
   have H' := Aside0.mk H
   clear H
   have hnb42 := NB101_102.out
   have hnc42 := NB102_101.out
   have hnb43 := NB101_103.out
   have hnc43 := NB103_101.out
   have hnb44 := NB101_104.out
   have hnc44 := NB104_101.out
   have hcz45_0 := bc_ BK101 0 rfl
   have hcz45_1 := bc_ BK101 1 rfl
   have hcz45_2 := bc_ BK101 2 rfl
   have hfz45 := blk_frozen BK101.out
   have hnb46 := NB102_103.out
   have hnc46 := NB103_102.out
   have hnb47 := NB102_104.out
   have hnc47 := NB104_102.out
   have hcz48_0 := bc_ BK102 0 rfl
   have hcz48_1 := bc_ BK102 1 rfl
   have hcz48_2 := bc_ BK102 2 rfl
   have hfz48 := blk_frozen BK102.out
   go_wp2_with (first | ((with_reducible refine gate_callee (f := 43) rfl ?_); refine glq_ (some 9) Try.func43 #[.agg #[.int .i64 a0_0, .int .i64 a0_1, .bool a0_2], .agg #[.int .i64 a1_0, .int .i64 a1_1, .bool a1_2]] ?_; (with_reducible refine (bound_vague_api_Fix.calls k a0_0 a0_1 a0_2 a1_0 a1_1 a1_2 false _ A9.out).mono ?_); rintro e w49 ⟨rfl, hb⟩; refine ⟨_, rfl, ?_⟩; replace BK101 := bkb_ BK101 hb rfl; replace BK102 := bkb_ BK102 hb rfl; replace BK103 := bkb_ BK103 hb rfl; replace BK104 := bkb_ BK104 hb rfl; replace HB := hbs_ HB hb rfl rfl rfl rfl; (try clear hb); have hnb50 := NB103_104.out; have hnc50 := NB104_103.out; have hcz51_0 := bc_ BK103 0 rfl; have hfz51_0 := blk_frozen BK103.out 0; have hcz52_0 := bc_ BK102 0 rfl; have hcz52_1 := bc_ BK102 1 rfl; have hcz52_2 := bc_ BK102 2 rfl; have hfz52 := blk_frozen BK102.out))
   go_meet
   case rel => exact ⟨_, (false), (by first | rfl | (simp; done) | (simp [*]; done)), H', ⟨by first | omega | exact Nat.le_refl _⟩, ⟨by exact BK101.out⟩, ⟨by exact BK102.out⟩, ⟨by exact BK103.out⟩, ⟨by exact BK104.out⟩, ⟨by repeat (first | exact HB.out | apply below_alloc | refine below_set ?_ GE101.out | refine below_set ?_ GE102.out | refine below_set ?_ GE103.out | refine below_set ?_ GE104.out)⟩⟩
  case rest =>
   clear HC4
   obtain ⟨kq, x23_3, rfl, HA, HJ3, BK101, BK102, BK103, BK104, HB⟩ := hcut
   cases kq with
   | zero => exact absurd HA.out (by simp [bound_Div_api_Fix.j0])
   | succ kj3 =>
    have H := HA.out
    clear HA
    simp only [bound_Div_api_Fix.j0] at H
    by_cases c53 : x23_3 = true
    · subst c53
      rw [if_pos rfl] at H
      replace H := bso_ H
      obtain ⟨⟨t106, t107, t108⟩, A540, H⟩ := H
      try dsimp -simprocs only at H
      have A54 := Aside0.mk A540
      clear A540
      simp only [Option.some.injEq, Prod.mk.injEq] at H
      obtain ⟨rfl, rfl, rfl⟩ := H
      go_wp2_with (first | ((with_reducible refine gate_callee (f := 24) rfl ?_); refine glq_ (some 24) Try.func24 #[] ?_; (with_reducible refine (bound_None_api_Fix.calls  t106 t107 t108 _ A54.out).mono ?_); rintro e w55 ⟨rfl, hb⟩; refine ⟨_, rfl, ?_⟩; replace BK101 := bkb_ BK101 hb rfl; replace BK102 := bkb_ BK102 hb rfl; replace BK103 := bkb_ BK103 hb rfl; replace BK104 := bkb_ BK104 hb rfl; replace HB := hbs_ HB hb rfl rfl rfl rfl; (try clear hb); have hnb56 := NB104_101.out; have hnc56 := NB101_104.out; have hnb57 := NB104_102.out; have hnc57 := NB102_104.out; have hnb58 := NB104_103.out; have hnc58 := NB103_104.out; have hcz59_0 := bc_ BK104 0 rfl; have hcz59_1 := bc_ BK104 1 rfl; have hcz59_2 := bc_ BK104 2 rfl; have hfz59 := blk_frozen BK104.out))
      refine bodyPost_ret (results_cell_row rfl _ _ gb104 41 #[.int .i64 t106, .int .i64 t107, .bool t108] (0, 0) _ rfl (by exact blk_put (blk_put (blk_put BK104.out 0 _ rfl) 1 _ rfl) 2 _ rfl) Try.underlying41 rfl (by kernel_rfl)) rfl ?_
      exact ⟨by first | rfl | (simp [errW_none, errW_some] <;> rfl), by repeat (first | exact HB.out | apply below_alloc | refine below_set ?_ GE101.out | refine below_set ?_ GE102.out | refine below_set ?_ GE103.out | refine below_set ?_ GE104.out)⟩
    replace c53 := Bool.eq_false_iff.mpr c53
    subst c53
    rw [if_neg (show ¬ (false = true) by decide)] at H
    by_cases c60 : a1_1 < 0
    rotate_left
    · rw [if_neg c60] at H
      have c60b0 : decide (a1_1 < 0) = false := decide_eq_false c60
      clear c60
      replace H := bso_ H
      obtain ⟨⟨t118, t119, t120⟩, A840, H⟩ := H
      try dsimp -simprocs only at H
      have A84 := Aside0.mk A840
      clear A840
      simp only [Option.some.injEq, Prod.mk.injEq] at H
      obtain ⟨rfl, rfl, rfl⟩ := H
      have hnb85 := NB102_101.out
      have hnc85 := NB101_102.out
      have hnb86 := NB102_103.out
      have hnc86 := NB103_102.out
      have hnb87 := NB102_104.out
      have hnc87 := NB104_102.out
      have hcz88_0 := bc_ BK102 0 rfl
      have hcz88_1 := bc_ BK102 1 rfl
      have hcz88_2 := bc_ BK102 2 rfl
      have hfz88 := blk_frozen BK102.out
      have hnb89 := NB101_103.out
      have hnc89 := NB103_101.out
      have hnb90 := NB101_104.out
      have hnc90 := NB104_101.out
      have hcz91_0 := bc_ BK101 0 rfl
      have hcz91_1 := bc_ BK101 1 rfl
      have hcz91_2 := bc_ BK101 2 rfl
      have hfz91 := blk_frozen BK101.out
      go_wp2_with (first | ((with_reducible refine gate_callee (f := 45) rfl ?_); refine glq_ (some 36) Try.func45 #[.agg #[.int .i64 a0_0, .int .i64 a0_1, .bool a0_2], .agg #[.int .i64 a1_0, .int .i64 a1_1, .bool a1_2], .func (.func 53) #[] #[.pointer (some ⟨gb103, 0, none⟩)], .func (.func 54) #[] #[.pointer (some ⟨gb103, 0, none⟩)]] ?_; (with_reducible refine (bound_corners_api_Fix__bound_Div_api_Fix_1_bound_Div_api_Fix_2.calls kj3 a0_0 a0_1 a0_2 a1_0 a1_1 a1_2 _ (List.length [a2]) [a2] _ (List.length [a2]) [a2] t118 t119 t120 _ ?side1 ?side2 ?side3 ?side4 A84.out).mono ?_); (case side1 => exact cap_C (T := 2) (cs := #[.int .i64 a2]) BK103.out (rfl) rfl); (case side2 => exact Nat.le_refl _); (case side3 => exact cap_C (T := 2) (cs := #[.int .i64 a2]) BK103.out (rfl) rfl); (case side4 => exact Nat.le_refl _); rintro e w92 ⟨rfl, hb⟩; refine ⟨_, rfl, ?_⟩; replace BK101 := bkb_ BK101 hb rfl; replace BK102 := bkb_ BK102 hb rfl; replace BK103 := bkb_ BK103 hb rfl; replace BK104 := bkb_ BK104 hb rfl; replace HB := hbs_ HB hb rfl rfl rfl rfl; (try clear hb); have hnb93 := NB104_103.out; have hnc93 := NB103_104.out; have hcz94_0 := bc_ BK104 0 rfl; have hcz94_1 := bc_ BK104 1 rfl; have hcz94_2 := bc_ BK104 2 rfl; have hfz94 := blk_frozen BK104.out))
      refine bodyPost_ret (results_cell_row rfl _ _ gb104 41 #[.int .i64 t118, .int .i64 t119, .bool t120] (0, 0) _ rfl (by exact blk_put (blk_put (blk_put BK104.out 0 _ rfl) 1 _ rfl) 2 _ rfl) Try.underlying41 rfl (by kernel_rfl)) rfl ?_
      exact ⟨by first | rfl | (simp [errW_none, errW_some] <;> rfl), by repeat (first | exact HB.out | apply below_alloc | refine below_set ?_ GE101.out | refine below_set ?_ GE102.out | refine below_set ?_ GE103.out | refine below_set ?_ GE104.out)⟩
    rw [if_pos c60] at H
    have c60b0 : decide (a1_1 < 0) = true := decide_eq_true c60
    clear c60
    replace H := bso_ H
    obtain ⟨⟨t109, t110, t111⟩, A610, H⟩ := H
    try dsimp -simprocs only at H
    have A61 := Aside0.mk A610
    clear A610
    replace H := bso_ H
    obtain ⟨⟨t112, t113, t114⟩, A620, H⟩ := H
    try dsimp -simprocs only at H
    have A62 := Aside0.mk A620
    clear A620
    replace H := bso_ H
    obtain ⟨⟨t115, t116, t117⟩, A630, H⟩ := H
    try dsimp -simprocs only at H
    have A63 := Aside0.mk A630
    clear A630
    simp only [Option.some.injEq, Prod.mk.injEq] at H
    obtain ⟨rfl, rfl, rfl⟩ := H
    have hnb64 := NB102_101.out
    have hnc64 := NB101_102.out
    have hnb65 := NB102_103.out
    have hnc65 := NB103_102.out
    have hnb66 := NB102_104.out
    have hnc66 := NB104_102.out
    have hcz67_0 := bc_ BK102 0 rfl
    have hcz67_1 := bc_ BK102 1 rfl
    have hcz67_2 := bc_ BK102 2 rfl
    have hfz67 := blk_frozen BK102.out
    try go_wp2
    replace BK101 := Aside0.mk (blk_drew BK101.out)
    replace BK102 := Aside0.mk (blk_drew BK102.out)
    replace BK103 := Aside0.mk (blk_drew BK103.out)
    replace BK104 := Aside0.mk (blk_drew BK104.out)
    replace HB := Aside0.mk (below_drew1 HB.out)
    refine start_ (n := 6) (S := fun w' => w'.cell? ⟨gb101, 0, none⟩ = some (.int .i64 a0_0) ∧ w'.cell? ⟨gb101, 1, none⟩ = some (.int .i64 a0_1) ∧ w'.cell? ⟨gb101, 2, none⟩ = some (.bool a0_2) ∧ w'.cell? ⟨gb102, 0, none⟩ = some (.int .i64 a1_0) ∧ w'.cell? ⟨gb102, 1, none⟩ = some (.int .i64 a1_1) ∧ w'.cell? ⟨gb102, 2, none⟩ = some (.bool a1_2)) (ds := [4, 5]) #[false, false, false, false, false, false] (by kernel_rfl) rfl rfl ⟨bc_ BK101 0 rfl, bc_ BK101 1 rfl, bc_ BK101 2 rfl, bc_ BK102 0 rfl, bc_ BK102 1 rfl, bc_ BK102 2 rfl⟩ (fun hHeld => ?_)
    generalize wc.drew = w68 at BK101 BK102 BK103 BK104 HB hHeld ⊢
    refine take_ (i := 0) (N := some 28) (v := ?_) (a' := ?_) #[true, false, false, false, false, false] rfl rfl (by kernel_rfl) (fun _ _ _ h => h) (Or.inl ⟨by rfl, ?_⟩) hHeld ?_ ?_
    rotate_left
    · rintro w' ⟨s0, s1, s2, s3, s4, s5⟩
      go_simp
      with_reducible rfl
    rotate_left
    · simp only [Act.put, List.setIfInBounds_toArray, List.set_cons_zero, List.set_cons_succ, i64_w, i32_w]
      rfl
    refine take_ (i := 2) (N := some 30) (v := ?_) (a' := ?_) #[true, false, true, false, false, false] rfl rfl (by kernel_rfl) (fun _ _ _ h => h) (Or.inl ⟨by rfl, ?_⟩) hHeld ?_ ?_
    rotate_left
    · rintro w' ⟨s0, s1, s2, s3, s4, s5⟩
      go_simp
      with_reducible rfl
    rotate_left
    · simp only [Act.put, List.setIfInBounds_toArray, List.set_cons_zero, List.set_cons_succ, i64_w, i32_w]
      rfl
    refine one_ (i := 1) (N := some 29) #[true, true, true, false, false, false] rfl rfl (by kernel_rfl) (by decide) (fun K hK => ?_)
    refine gq_ Try.func52 #[.agg #[.int .i64 a0_0, .int .i64 a0_1, .bool a0_2]] ?_
    with_reducible refine (bound_Neg_api_Fix.calls kj3 a0_0 a0_1 a0_2 t109 t110 t111 _ A61.out).mono ?_
    rintro e w69 ⟨rfl, hb⟩
    refine ⟨_, rfl, ?_⟩
    replace BK101 := bkb_ BK101 hb rfl
    replace BK102 := bkb_ BK102 hb rfl
    replace BK103 := bkb_ BK103 hb rfl
    replace BK104 := bkb_ BK104 hb rfl
    replace HB := hbs_ HB hb rfl rfl rfl rfl
    (try clear hb)
    refine hK.out _ _ ⟨bc_ BK101 0 rfl, bc_ BK101 1 rfl, bc_ BK101 2 rfl, bc_ BK102 0 rfl, bc_ BK102 1 rfl, bc_ BK102 2 rfl⟩ (fun hHeld => ?_)
    clear hK K
    refine nq_ 29 ?_
    refine one_ (i := 3) (N := some 31) #[true, true, true, true, false, false] rfl rfl (by kernel_rfl) (by decide) (fun K hK => ?_)
    refine gq_ Try.func52 #[.agg #[.int .i64 a1_0, .int .i64 a1_1, .bool a1_2]] ?_
    with_reducible refine (bound_Neg_api_Fix.calls kj3 a1_0 a1_1 a1_2 t112 t113 t114 _ A62.out).mono ?_
    rintro e w70 ⟨rfl, hb⟩
    refine ⟨_, rfl, ?_⟩
    replace BK101 := bkb_ BK101 hb rfl
    replace BK102 := bkb_ BK102 hb rfl
    replace BK103 := bkb_ BK103 hb rfl
    replace BK104 := bkb_ BK104 hb rfl
    replace HB := hbs_ HB hb rfl rfl rfl rfl
    (try clear hb)
    refine hK.out _ _ ⟨bc_ BK101 0 rfl, bc_ BK101 1 rfl, bc_ BK101 2 rfl, bc_ BK102 0 rfl, bc_ BK102 1 rfl, bc_ BK102 2 rfl⟩ (fun hHeld => ?_)
    clear hK K
    refine nq_ 31 ?_
    refine last_ (i := 4) (N := none) #[true, true, true, true, true, false] rfl rfl (by kernel_rfl) (by decide) (fun K hK => ?_)
    have hs71 : w70.cell? ⟨gb101, 0, none⟩ = some (.int .i64 a0_0) := bc_ BK101 0 rfl
    have hfs71 := blk_frozen BK101.out 0
    have hns71_1 := NB102_101.out
    have hns71_2 := NB103_101.out
    have hns71_3 := NB104_101.out
    have hms71_1 := NB101_102.out
    have hms71_2 := NB101_103.out
    have hms71_3 := NB101_104.out
    have hs72 : w70.cell? ⟨gb101, 1, none⟩ = some (.int .i64 a0_1) := bc_ BK101 1 rfl
    have hfs72 := blk_frozen BK101.out 1
    have hns72_1 := NB102_101.out
    have hns72_2 := NB103_101.out
    have hns72_3 := NB104_101.out
    have hms72_1 := NB101_102.out
    have hms72_2 := NB101_103.out
    have hms72_3 := NB101_104.out
    have hs73 : w70.cell? ⟨gb101, 2, none⟩ = some (.bool a0_2) := bc_ BK101 2 rfl
    have hfs73 := blk_frozen BK101.out 2
    have hns73_1 := NB102_101.out
    have hns73_2 := NB103_101.out
    have hns73_3 := NB104_101.out
    have hms73_1 := NB101_102.out
    have hms73_2 := NB101_103.out
    have hms73_3 := NB101_104.out
    refine skip_ (w1 := ?_) (by rfl) rfl ?_ ?_
    rotate_left
    · go_simp
      rfl
    refine hK.out _ _ ?_
    clear hK K
    refine last_ (i := 5) (N := none) #[true, true, true, true, true, true] rfl rfl (by kernel_rfl) (by decide) (fun K hK => ?_)
    have hs74 : w70.cell? ⟨gb102, 0, none⟩ = some (.int .i64 a1_0) := bc_ BK102 0 rfl
    have hfs74 := blk_frozen BK102.out 0
    have hns74_0 := NB101_102.out
    have hns74_2 := NB103_102.out
    have hns74_3 := NB104_102.out
    have hms74_0 := NB102_101.out
    have hms74_2 := NB102_103.out
    have hms74_3 := NB102_104.out
    have hs75 : w70.cell? ⟨gb102, 1, none⟩ = some (.int .i64 a1_1) := bc_ BK102 1 rfl
    have hfs75 := blk_frozen BK102.out 1
    have hns75_0 := NB101_102.out
    have hns75_2 := NB103_102.out
    have hns75_3 := NB104_102.out
    have hms75_0 := NB102_101.out
    have hms75_2 := NB102_103.out
    have hms75_3 := NB102_104.out
    have hs76 : w70.cell? ⟨gb102, 2, none⟩ = some (.bool a1_2) := bc_ BK102 2 rfl
    have hfs76 := blk_frozen BK102.out 2
    have hns76_0 := NB101_102.out
    have hns76_2 := NB103_102.out
    have hns76_3 := NB104_102.out
    have hms76_0 := NB102_101.out
    have hms76_2 := NB102_103.out
    have hms76_3 := NB102_104.out
    refine skip_ (w1 := ?_) (by rfl) rfl ?_ ?_
    rotate_left
    · go_simp
      rfl
    refine hK.out _ _ ?_
    clear hK K
    refine done_ (by kernel_rfl) ?_
    have hnb77 := NB101_103.out
    have hnc77 := NB103_101.out
    have hnb78 := NB101_104.out
    have hnc78 := NB104_101.out
    have hcz79_0 := bc_ BK101 0 rfl
    have hcz79_1 := bc_ BK101 1 rfl
    have hcz79_2 := bc_ BK101 2 rfl
    have hfz79 := blk_frozen BK101.out
    have hcz80_0 := bc_ BK102 0 rfl
    have hcz80_1 := bc_ BK102 1 rfl
    have hcz80_2 := bc_ BK102 2 rfl
    have hfz80 := blk_frozen BK102.out
    try go_wp2_with (first | ((with_reducible refine gate_callee (f := 45) rfl ?_); refine glq_ (some 36) Try.func45 #[.agg #[.int .i64 t109, .int .i64 t110, .bool t111], .agg #[.int .i64 t112, .int .i64 t113, .bool t114], .func (.func 53) #[] #[.pointer (some ⟨gb103, 0, none⟩)], .func (.func 54) #[] #[.pointer (some ⟨gb103, 0, none⟩)]] ?_; (with_reducible refine (bound_corners_api_Fix__bound_Div_api_Fix_1_bound_Div_api_Fix_2.calls kj3 t109 t110 t111 t112 t113 t114 _ (List.length [a2]) [a2] _ (List.length [a2]) [a2] t115 t116 t117 _ ?side1 ?side2 ?side3 ?side4 A63.out).mono ?_); (case side1 => exact cap_C (T := 2) (cs := #[.int .i64 a2]) (by exact blk_far (blk_far (blk_far (blk_far (blk_far (blk_far BK103.out NB103_101.out _) NB103_101.out _) NB103_101.out _) NB103_102.out _) NB103_102.out _) NB103_102.out _) (rfl) rfl); (case side2 => exact Nat.le_refl _); (case side3 => exact cap_C (T := 2) (cs := #[.int .i64 a2]) (by exact blk_far (blk_far (blk_far (blk_far (blk_far (blk_far BK103.out NB103_101.out _) NB103_101.out _) NB103_101.out _) NB103_102.out _) NB103_102.out _) NB103_102.out _) (rfl) rfl); (case side4 => exact Nat.le_refl _); rintro e w81 ⟨rfl, hb⟩; refine ⟨_, rfl, ?_⟩; replace BK101 := Aside0.mk (blk_below (g := gb101) (o := .cells #[.int .i64 t109, .int .i64 t110, .bool t111] 41 (0, 0)) (by refine blk_far ?_ NB101_102.out _; refine blk_far ?_ NB101_102.out _; refine blk_far ?_ NB101_102.out _; exact blk_put (blk_put (blk_put BK101.out 0 _ rfl) 1 _ rfl) 2 _ rfl) hb); replace BK102 := Aside0.mk (blk_below (g := gb102) (o := .cells #[.int .i64 t112, .int .i64 t113, .bool t114] 41 (0, 0)) (by refine blk_put (cs := #[.int .i64 t112, .int .i64 t113, .bool a1_2]) ?_ 2 _ rfl; refine blk_put (cs := #[.int .i64 t112, .int .i64 a1_1, .bool a1_2]) ?_ 1 _ rfl; refine blk_put (cs := #[.int .i64 a1_0, .int .i64 a1_1, .bool a1_2]) ?_ 0 _ rfl; exact blk_far (blk_far (blk_far BK102.out NB102_101.out _) NB102_101.out _) NB102_101.out _) hb); replace BK103 := Aside0.mk (blk_below (g := gb103) (o := .cells #[.int .i64 a2] 2 (0, 0)) (by exact blk_far (blk_far (blk_far (blk_far (blk_far (blk_far BK103.out NB103_101.out _) NB103_101.out _) NB103_101.out _) NB103_102.out _) NB103_102.out _) NB103_102.out _) hb); replace BK104 := Aside0.mk (blk_below (g := gb104) (o := .cells #[.int .i64 0, .int .i64 0, .bool false] 41 (0, 0)) (by exact blk_far (blk_far (blk_far (blk_far (blk_far (blk_far BK104.out NB104_101.out _) NB104_101.out _) NB104_101.out _) NB104_102.out _) NB104_102.out _) NB104_102.out _) hb); replace HB := Aside0.mk (below_step (by repeat (first | exact HB.out | apply below_alloc | refine below_set ?_ GE101.out | refine below_set ?_ GE102.out | refine below_set ?_ GE103.out | refine below_set ?_ GE104.out)) hb); (try clear hb); have hnb82 := NB104_103.out; have hnc82 := NB103_104.out; have hcz83_0 := bc_ BK104 0 rfl; have hcz83_1 := bc_ BK104 1 rfl; have hcz83_2 := bc_ BK104 2 rfl; have hfz83 := blk_frozen BK104.out))
    refine bodyPost_ret (results_cell_row rfl _ _ gb104 41 #[.int .i64 t115, .int .i64 t116, .bool t117] (0, 0) _ rfl (by exact blk_put (blk_put (blk_put BK104.out 0 _ rfl) 1 _ rfl) 2 _ rfl) Try.underlying41 rfl (by kernel_rfl)) rfl ?_
    exact ⟨by first | rfl | (simp [errW_none, errW_some] <;> rfl), by repeat (first | exact HB.out | apply below_alloc | refine below_set ?_ GE101.out | refine below_set ?_ GE102.out | refine below_set ?_ GE103.out | refine below_set ?_ GE104.out)⟩

end Go.Proofs.Ytjgikgbolacikaa.Q
