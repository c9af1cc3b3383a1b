/- Contracts, as in the first text; no condition. -/
import Derived.Test.YtjgikgbolacikaaKHorizonAimedQx0
import Derived.Test.YtjgikgbolacikaaKHorizonAimedQx16
import Derived.Test.YtjgikgbolacikaaKHorizonAimedQx22
namespace Go.Proofs.Ytjgikgbolacikaa.Q
open Go.RowKit Go.Proofs.YtjgikgbolacikaaW.PrintWords Go.Proofs.YtjgikgbolacikaaW.PrintLast Go.Proofs.YtjgikgbolacikaaW.PrintMore
attribute [local go_sem] max2_int min2_int max_two min_two max_three min_three max_four min_four
set_option linter.unusedVariables false
set_option linter.unusedSimpArgs false

def bound_Mul_api_Fix.j0 : Nat → Bool → Int → Int → Bool → Int → Int → Bool → Int → Option (Int × Int × Bool)
 | 0, _, _, _, _, _, _, _, _ => none
 | k + 1, x13, x102000, x102001, x102002, x103000, x103001, x103002, x104000 => if x13 = true then ((bound_None_api_Fix.f).bind fun bt106 => (some (bt106.1, bt106.2.1, bt106.2.2))) else ((bound_corners_api_Fix__bound_Mul_api_Fix_1_bound_Mul_api_Fix_2.f k x102000 x102001 x102002 x103000 x103001 x103002 [x104000] [x104000]).bind fun bt109 => (some (bt109.1, bt109.2.1, bt109.2.2)))
def bound_Mul_api_Fix.f (k : Nat) (a0_0 : Int) (a0_1 : Int) (a0_2 : Bool) (a1_0 : Int) (a1_1 : Int) (a1_2 : Bool) (a2 : Int) : Option (Int × Int × Bool) := (bound_vague_api_Fix.f k a0_0 a0_1 a0_2 a1_0 a1_1 a1_2).bind fun t105 => (if t105 = true then (bound_Mul_api_Fix.j0 k true a0_0 a0_1 a0_2 a1_0 a1_1 a1_2 a2) else (bound_Mul_api_Fix.j0 k (decide (a2 < 1)) a0_0 a0_1 a0_2 a1_0 a1_1 a1_2 a2))
theorem bound_Mul_api_Fix.mono_l : ∀ k, (∀ y0 y1 y2 y3 y4 y5 y6 y7, LeO (bound_Mul_api_Fix.j0 k y0 y1 y2 y3 y4 y5 y6 y7) (bound_Mul_api_Fix.j0 (k + 1) y0 y1 y2 y3 y4 y5 y6 y7))
 | 0 => fun _ _ _ _ _ _ _ _ r h => by simp [bound_Mul_api_Fix.j0] at h
 | k + 1 => by
  have ih0 := bound_Mul_api_Fix.mono_l k
  · intro y0 y1 y2 y3 y4 y5 y6 y7
    unfold bound_Mul_api_Fix.j0
    repeat' first
    | (with_reducible exact ih0 _ _ _ _ _ _ _ _)
    | (with_reducible exact bound_corners_api_Fix__bound_Mul_api_Fix_1_bound_Mul_api_Fix_2.mono _ _ _ _ _ _ _ _ _)
    | (with_reducible exact bound_vague_api_Fix.mono _ _ _ _ _ _ _)
    | (with_reducible exact LeO.refl _)
    | (with_reducible exact LeO.none _)
    | (with_reducible refine LeO.ite ?_ ?_)
    | (with_reducible refine LeO.bind ?_ (fun _ => ?_))
theorem bound_Mul_api_Fix.mono : ∀ a0 a1 a2 a3 a4 a5 a6 k, LeO (bound_Mul_api_Fix.f k a0 a1 a2 a3 a4 a5 a6) (bound_Mul_api_Fix.f (k + 1) a0 a1 a2 a3 a4 a5 a6) := by
 intro a0 a1 a2 a3 a4 a5 a6 k
 have ih0 := bound_Mul_api_Fix.mono_l k
 unfold bound_Mul_api_Fix.f
 repeat' first
  | (with_reducible exact ih0 _ _ _ _ _ _ _ _)
  | (with_reducible exact bound_corners_api_Fix__bound_Mul_api_Fix_1_bound_Mul_api_Fix_2.mono _ _ _ _ _ _ _ _ _)
  | (with_reducible exact bound_vague_api_Fix.mono _ _ _ _ _ _ _)
  | (with_reducible exact LeO.refl _)
  | (with_reducible exact LeO.none _)
  | (with_reducible refine LeO.ite ?_ ?_)
  | (with_reducible refine LeO.bind ?_ (fun _ => ?_))
set_option maxHeartbeats 8000000 in
set_option maxRecDepth 100000 in
theorem bound_Mul_api_Fix.calls (k : Nat) (a0_0 : Int) (a0_1 : Int) (a0_2 : Bool) (a1_0 : Int) (a1_1 : Int) (a1_2 : Bool) (a2 : Int) (r1 : Int) (r2 : Int) (r3 : Bool) (w : World) (h : bound_Mul_api_Fix.f k a0_0 a0_1 a0_2 a1_0 a1_1 a1_2 a2 = some (r1, r2, r3)) :
 Calls Try.prog 30 #[.agg #[.int .i64 a0_0, .int .i64 a0_1, .bool a0_2], .agg #[.int .i64 a1_0, .int .i64 a1_1, .bool a1_2], .int .i64 a2] w fun e w' => e = .returned (.agg #[.int .i64 r1, .int .i64 r2, .bool r3]) ∧ Below w.heap.size w w' := by
  have hu41 := Try.underlying41
  have hmf : ∀ (fn : Fn) (first cap : Array Value) (w : World), (Instr.makeFunc fn first cap).run Try.prog w = .ok (.func fn first cap) w := fun _ _ _ _ => rfl
  have HB := Aside0.mk (Below.refl w.heap.size w)
  have H : ((bound_vague_api_Fix.f k a0_0 a0_1 a0_2 a1_0 a1_1 a1_2).bind fun t105 => (if t105 = true then (bound_Mul_api_Fix.j0 k true a0_0 a0_1 a0_2 a1_0 a1_1 a1_2 a2) else (bound_Mul_api_Fix.j0 k (decide (a2 < 1)) a0_0 a0_1 a0_2 a1_0 a1_1 a1_2 a2))) = some (r1, r2, r3) := h
  clear h
  have HC4 := Aside0.mk H
  clear H
  go_enter Try.func30, Try.ntmps30
  go_upto_region 1 with (first | ((with_reducible refine gate_dst (N := 3) rfl ?_); refine bxq_ 3 #[.int .i64 a0_0, .int .i64 a0_1, .bool a0_2] 41 ?_; intro gb101 hg w5 hbox hb; have BK101 := Aside0.mk (hbox); have GW101 := gwq_ HB hg rfl; have GE101 := GW101; replace HB := hbs_ HB hb rfl rfl rfl rfl; clear hb hbox hg) | ((with_reducible refine gate_dst (N := 4) rfl ?_); refine bxq_ 4 #[.int .i64 a1_0, .int .i64 a1_1, .bool a1_2] 41 ?_; intro gb102 hg w6 hbox hb; have BK102 := Aside0.mk (hbox); have GW102 := gwq_ HB hg rfl; have GE102 := GW102; have NB101_102 := nbl_ BK101 hg rfl; have NB102_101 := nbg_ BK101 hg rfl; replace BK101 := bkb_ BK101 hb rfl; replace HB := hbs_ HB hb rfl rfl rfl rfl; clear hb hbox hg) | ((with_reducible refine gate_dst (N := 5) rfl ?_); refine bxq_ 5 #[.int .i64 a2] 2 ?_; intro gb103 hg w7 hbox hb; have BK103 := Aside0.mk (hbox); have GW103 := gwq_ HB hg rfl; have GE103 := GW103; have NB101_103 := nbl_ BK101 hg rfl; have NB103_101 := nbg_ BK101 hg rfl; have NB102_103 := nbl_ BK102 hg rfl; have NB103_102 := nbg_ BK102 hg rfl; replace BK101 := bkb_ BK101 hb rfl; replace BK102 := bkb_ BK102 hb rfl; replace HB := hbs_ HB hb rfl rfl rfl rfl; clear hb hbox hg) | ((with_reducible refine gate_dst (N := 6) rfl ?_); refine bxq_ 6 #[.int .i64 0, .int .i64 0, .bool false] 41 ?_; intro gb104 hg w8 hbox hb; have BK104 := Aside0.mk (hbox); have GW104 := gwq_ HB hg rfl; have GE104 := GW104; have NB101_104 := nbl_ BK101 hg rfl; have NB104_101 := nbg_ BK101 hg rfl; have NB102_104 := nbl_ BK102 hg rfl; have NB104_102 := nbg_ BK102 hg rfl; have NB103_104 := nbl_ BK103 hg rfl; have NB104_103 := nbg_ BK103 hg rfl; replace BK101 := bkb_ BK101 hb rfl; replace BK102 := bkb_ BK102 hb rfl; replace BK103 := bkb_ BK103 hb rfl; replace HB := hbs_ HB hb rfl rfl rfl rfl; clear hb hbox hg))
  (try simp only [Act.put, List.setIfInBounds_toArray, List.set_cons_zero, List.set_cons_succ])
  go_cut [13] (fun v13 wc => ∃ (kq : Nat) (x13_3 : Bool), v13 = .bool x13_3 ∧ Aside0 (bound_Mul_api_Fix.j0 kq x13_3 a0_0 a0_1 a0_2 a1_0 a1_1 a1_2 a2 = some (r1, r2, r3)) ∧ Aside0 (kq ≤ k) ∧ Aside0 (wc.heap[gb101]? = some (.cells #[.int .i64 a0_0, .int .i64 a0_1, .bool a0_2] 41 (0, 0))) ∧ Aside0 (wc.heap[gb102]? = some (.cells #[.int .i64 a1_0, .int .i64 a1_1, .bool a1_2] 41 (0, 0))) ∧ Aside0 (wc.heap[gb103]? = some (.cells #[.int .i64 a2] 2 (0, 0))) ∧ Aside0 (wc.heap[gb104]? = some (.cells #[.int .i64 0, .int .i64 0, .bool false] 41 (0, 0))) ∧ Aside0 (Below w.heap.size w wc))
  case first =>
   have H := HC4.out
   clear HC4
   replace H := bso_ H
   obtain ⟨t105, A90, H⟩ := H
   try dsimp -simprocs only at H
   have A9 := Aside0.mk A90
   clear A90
   by_cases c10 : t105 = true
   · subst c10
     rw [if_pos rfl] at H
     have H' := Aside0.mk H
     clear H
     have hnb11 := NB101_102.out
     have hnc11 := NB102_101.out
     have hnb12 := NB101_103.out
     have hnc12 := NB103_101.out
     have hnb13 := NB101_104.out
     have hnc13 := NB104_101.out
     have hcz14_0 := bc_ BK101 0 rfl
     have hcz14_1 := bc_ BK101 1 rfl
     have hcz14_2 := bc_ BK101 2 rfl
     have hfz14 := blk_frozen BK101.out
     have hnb15 := NB102_103.out
     have hnc15 := NB103_102.out
     have hnb16 := NB102_104.out
     have hnc16 := NB104_102.out
     have hcz17_0 := bc_ BK102 0 rfl
     have hcz17_1 := bc_ BK102 1 rfl
     have hcz17_2 := bc_ BK102 2 rfl
     have hfz17 := blk_frozen BK102.out
     go_wp2_with (first | ((with_reducible refine gate_callee (f := 43) rfl ?_); refine glq_ (some 9) Try.func43 #[.agg #[.int .i64 a0_0, .int .i64 a0_1, .bool a0_2], .agg #[.int .i64 a1_0, .int .i64 a1_1, .bool a1_2]] ?_; (with_reducible refine (bound_vague_api_Fix.calls k a0_0 a0_1 a0_2 a1_0 a1_1 a1_2 true _ A9.out).mono ?_); rintro e w18 ⟨rfl, hb⟩; refine ⟨_, rfl, ?_⟩; replace BK101 := bkb_ BK101 hb rfl; replace BK102 := bkb_ BK102 hb rfl; replace BK103 := bkb_ BK103 hb rfl; replace BK104 := bkb_ BK104 hb rfl; replace HB := hbs_ HB hb rfl rfl rfl rfl; (try clear hb)))
     go_meet
     case rel => exact ⟨_, (true), (by first | rfl | (simp; done) | (simp [*]; done)), H', ⟨by first | omega | exact Nat.le_refl _⟩, ⟨by exact BK101.out⟩, ⟨by exact BK102.out⟩, ⟨by exact BK103.out⟩, ⟨by exact BK104.out⟩, ⟨by repeat (first | exact HB.out | apply below_alloc | refine below_set ?_ GE101.out | refine below_set ?_ GE102.out | refine below_set ?_ GE103.out | refine below_set ?_ GE104.out)⟩⟩
   replace c10 := Bool.eq_false_iff.mpr c10
   subst c10
   rw [if_neg (show ¬ (false = true) by decide)] at H
   have H' := Aside0.mk H
   clear H
   have hnb19 := NB101_102.out
   have hnc19 := NB102_101.out
   have hnb20 := NB101_103.out
   have hnc20 := NB103_101.out
   have hnb21 := NB101_104.out
   have hnc21 := NB104_101.out
   have hcz22_0 := bc_ BK101 0 rfl
   have hcz22_1 := bc_ BK101 1 rfl
   have hcz22_2 := bc_ BK101 2 rfl
   have hfz22 := blk_frozen BK101.out
   have hnb23 := NB102_103.out
   have hnc23 := NB103_102.out
   have hnb24 := NB102_104.out
   have hnc24 := NB104_102.out
   have hcz25_0 := bc_ BK102 0 rfl
   have hcz25_1 := bc_ BK102 1 rfl
   have hcz25_2 := bc_ BK102 2 rfl
   have hfz25 := blk_frozen BK102.out
   go_wp2_with (first | ((with_reducible refine gate_callee (f := 43) rfl ?_); refine glq_ (some 9) Try.func43 #[.agg #[.int .i64 a0_0, .int .i64 a0_1, .bool a0_2], .agg #[.int .i64 a1_0, .int .i64 a1_1, .bool a1_2]] ?_; (with_reducible refine (bound_vague_api_Fix.calls k a0_0 a0_1 a0_2 a1_0 a1_1 a1_2 false _ A9.out).mono ?_); rintro e w26 ⟨rfl, hb⟩; refine ⟨_, rfl, ?_⟩; replace BK101 := bkb_ BK101 hb rfl; replace BK102 := bkb_ BK102 hb rfl; replace BK103 := bkb_ BK103 hb rfl; replace BK104 := bkb_ BK104 hb rfl; replace HB := hbs_ HB hb rfl rfl rfl rfl; (try clear hb); have hnb27 := NB103_104.out; have hnc27 := NB104_103.out; have hcz28_0 := bc_ BK103 0 rfl; have hfz28_0 := blk_frozen BK103.out 0))
   go_meet
   case rel => exact ⟨_, (decide (a2 < 1)), (by first | rfl | (simp; done) | (simp [*]; done)), H', ⟨by first | omega | exact Nat.le_refl _⟩, ⟨by exact BK101.out⟩, ⟨by exact BK102.out⟩, ⟨by exact BK103.out⟩, ⟨by exact BK104.out⟩, ⟨by repeat (first | exact HB.out | apply below_alloc | refine below_set ?_ GE101.out | refine below_set ?_ GE102.out | refine below_set ?_ GE103.out | refine below_set ?_ GE104.out)⟩⟩
  case rest =>
   clear HC4
   obtain ⟨kq, x13_3, rfl, HA, HJ3, BK101, BK102, BK103, BK104, HB⟩ := hcut
   cases kq with
   | zero => exact absurd HA.out (by simp [bound_Mul_api_Fix.j0])
   | succ kj3 =>
    have H := HA.out
    clear HA
    simp only [bound_Mul_api_Fix.j0] at H
    by_cases c29 : x13_3 = true
    · subst c29
      rw [if_pos rfl] at H
      replace H := bso_ H
      obtain ⟨⟨t106, t107, t108⟩, A300, H⟩ := H
      try dsimp -simprocs only at H
      have A30 := Aside0.mk A300
      clear A300
      simp only [Option.some.injEq, Prod.mk.injEq] at H
      obtain ⟨rfl, rfl, rfl⟩ := H
      go_wp2_with (first | ((with_reducible refine gate_callee (f := 24) rfl ?_); refine glq_ (some 14) Try.func24 #[] ?_; (with_reducible refine (bound_None_api_Fix.calls  t106 t107 t108 _ A30.out).mono ?_); rintro e w31 ⟨rfl, hb⟩; refine ⟨_, rfl, ?_⟩; replace BK101 := bkb_ BK101 hb rfl; replace BK102 := bkb_ BK102 hb rfl; replace BK103 := bkb_ BK103 hb rfl; replace BK104 := bkb_ BK104 hb rfl; replace HB := hbs_ HB hb rfl rfl rfl rfl; (try clear hb); have hnb32 := NB104_101.out; have hnc32 := NB101_104.out; have hnb33 := NB104_102.out; have hnc33 := NB102_104.out; have hnb34 := NB104_103.out; have hnc34 := NB103_104.out; have hcz35_0 := bc_ BK104 0 rfl; have hcz35_1 := bc_ BK104 1 rfl; have hcz35_2 := bc_ BK104 2 rfl; have hfz35 := blk_frozen BK104.out))
      refine bodyPost_ret (results_cell_row rfl _ _ gb104 41 #[.int .i64 t106, .int .i64 t107, .bool t108] (0, 0) _ rfl (by exact blk_put (blk_put (blk_put BK104.out 0 _ rfl) 1 _ rfl) 2 _ rfl) Try.underlying41 rfl (by kernel_rfl)) rfl ?_
      exact ⟨by first | rfl | (simp [errW_none, errW_some] <;> rfl), by repeat (first | exact HB.out | apply below_alloc | refine below_set ?_ GE101.out | refine below_set ?_ GE102.out | refine below_set ?_ GE103.out | refine below_set ?_ GE104.out)⟩
    replace c29 := Bool.eq_false_iff.mpr c29
    subst c29
    rw [if_neg (show ¬ (false = true) by decide)] at H
    replace H := bso_ H
    obtain ⟨⟨t109, t110, t111⟩, A360, H⟩ := H
    try dsimp -simprocs only at H
    have A36 := Aside0.mk A360
    clear A360
    simp only [Option.some.injEq, Prod.mk.injEq] at H
    obtain ⟨rfl, rfl, rfl⟩ := H
    have hnb37 := NB101_102.out
    have hnc37 := NB102_101.out
    have hnb38 := NB101_103.out
    have hnc38 := NB103_101.out
    have hnb39 := NB101_104.out
    have hnc39 := NB104_101.out
    have hcz40_0 := bc_ BK101 0 rfl
    have hcz40_1 := bc_ BK101 1 rfl
    have hcz40_2 := bc_ BK101 2 rfl
    have hfz40 := blk_frozen BK101.out
    have hnb41 := NB102_103.out
    have hnc41 := NB103_102.out
    have hnb42 := NB102_104.out
    have hnc42 := NB104_102.out
    have hcz43_0 := bc_ BK102 0 rfl
    have hcz43_1 := bc_ BK102 1 rfl
    have hcz43_2 := bc_ BK102 2 rfl
    have hfz43 := blk_frozen BK102.out
    go_wp2_with (first | ((with_reducible refine gate_callee (f := 45) rfl ?_); refine glq_ (some 19) Try.func45 #[.agg #[.int .i64 a0_0, .int .i64 a0_1, .bool a0_2], .agg #[.int .i64 a1_0, .int .i64 a1_1, .bool a1_2], .func (.func 46) #[] #[.pointer (some ⟨gb103, 0, none⟩)], .func (.func 48) #[] #[.pointer (some ⟨gb103, 0, none⟩)]] ?_; (with_reducible refine (bound_corners_api_Fix__bound_Mul_api_Fix_1_bound_Mul_api_Fix_2.calls kj3 a0_0 a0_1 a0_2 a1_0 a1_1 a1_2 _ (List.length [a2]) [a2] _ (List.length [a2]) [a2] t109 t110 t111 _ ?side1 ?side2 ?side3 ?side4 A36.out).mono ?_); (case side1 => exact cap_C (T := 2) (cs := #[.int .i64 a2]) BK103.out (rfl) rfl); (case side2 => exact Nat.le_refl _); (case side3 => exact cap_C (T := 2) (cs := #[.int .i64 a2]) BK103.out (rfl) rfl); (case side4 => exact Nat.le_refl _); rintro e w44 ⟨rfl, hb⟩; refine ⟨_, rfl, ?_⟩; replace BK101 := bkb_ BK101 hb rfl; replace BK102 := bkb_ BK102 hb rfl; replace BK103 := bkb_ BK103 hb rfl; replace BK104 := bkb_ BK104 hb rfl; replace HB := hbs_ HB hb rfl rfl rfl rfl; (try clear hb); have hnb45 := NB104_103.out; have hnc45 := NB103_104.out; have hcz46_0 := bc_ BK104 0 rfl; have hcz46_1 := bc_ BK104 1 rfl; have hcz46_2 := bc_ BK104 2 rfl; have hfz46 := blk_frozen BK104.out))
    refine bodyPost_ret (results_cell_row rfl _ _ gb104 41 #[.int .i64 t109, .int .i64 t110, .bool t111] (0, 0) _ rfl (by exact blk_put (blk_put (blk_put BK104.out 0 _ rfl) 1 _ rfl) 2 _ rfl) Try.underlying41 rfl (by kernel_rfl)) rfl ?_
    exact ⟨by first | rfl | (simp [errW_none, errW_some] <;> rfl), by repeat (first | exact HB.out | apply below_alloc | refine below_set ?_ GE101.out | refine below_set ?_ GE102.out | refine below_set ?_ GE103.out | refine below_set ?_ GE104.out)⟩

end Go.Proofs.Ytjgikgbolacikaa.Q
