/- Contracts, as in the first text; no condition. -/
import Derived.Test.YtjgikgbolacikaaKHorizonAimedQx0
import Derived.Test.YtjgikgbolacikaaKHorizonAimedQx5
import Derived.Test.YtjgikgbolacikaaKHorizonAimedQx6
import Derived.Test.YtjgikgbolacikaaKHorizonAimedQx16
import Derived.Test.YtjgikgbolacikaaKHorizonAimedQx23
namespace Go.Proofs.Ytjgikgbolacikaa.Q
open Go.RowKit Go.Proofs.YtjgikgbolacikaaW.PrintWords Go.Proofs.YtjgikgbolacikaaW.PrintLast Go.Proofs.YtjgikgbolacikaaW.PrintMore
attribute [local go_sem] max2_int min2_int max_two min_two max_three min_three max_four min_four
set_option linter.unusedVariables false
set_option linter.unusedSimpArgs false

def bound_Add_api_Fix.f (k : Nat) (a0_0 : Int) (a0_1 : Int) (a0_2 : Bool) (a1_0 : Int) (a1_1 : Int) (a1_2 : Bool) : Option (Int × Int × Bool) := (bound_vague_api_Fix.f k a0_0 a0_1 a0_2 a1_0 a1_1 a1_2).bind fun t104 => (if t104 = true then ((bound_None_api_Fix.f).bind fun bt105 => (some (bt105.1, bt105.2.1, bt105.2.2))) else ((bound_Of_api_Fix.f k (wrap64 (a0_0 + a1_0)) (wrap64 (a0_1 + a1_1))).bind fun bt108 => (some (bt108.1, bt108.2.1, bt108.2.2))))
theorem bound_Add_api_Fix.mono : ∀ a0 a1 a2 a3 a4 a5 k, LeO (bound_Add_api_Fix.f k a0 a1 a2 a3 a4 a5) (bound_Add_api_Fix.f (k + 1) a0 a1 a2 a3 a4 a5) := by
 intro a0 a1 a2 a3 a4 a5 k
 unfold bound_Add_api_Fix.f
 repeat' first
  | (with_reducible exact bound_Of_api_Fix.mono _ _ _)
  | (with_reducible exact bound_vague_api_Fix.mono _ _ _ _ _ _ _)
  | (with_reducible exact LeO.refl _)
  | (with_reducible exact LeO.none _)
  | (with_reducible refine LeO.ite ?_ ?_)
  | (with_reducible refine LeO.bind ?_ (fun _ => ?_))
set_option maxHeartbeats 8000000 in
set_option maxRecDepth 100000 in
theorem bound_Add_api_Fix.calls (k : Nat) (a0_0 : Int) (a0_1 : Int) (a0_2 : Bool) (a1_0 : Int) (a1_1 : Int) (a1_2 : Bool) (r1 : Int) (r2 : Int) (r3 : Bool) (w : World) (h : bound_Add_api_Fix.f k a0_0 a0_1 a0_2 a1_0 a1_1 a1_2 = some (r1, r2, r3)) :
 Calls Try.prog 26 #[.agg #[.int .i64 a0_0, .int .i64 a0_1, .bool a0_2], .agg #[.int .i64 a1_0, .int .i64 a1_1, .bool a1_2]] w fun e w' => e = .returned (.agg #[.int .i64 r1, .int .i64 r2, .bool r3]) ∧ Below w.heap.size w w' := by
  have hu41 := Try.underlying41
  have HB := Aside0.mk (Below.refl w.heap.size w)
  have H : ((bound_vague_api_Fix.f k a0_0 a0_1 a0_2 a1_0 a1_1 a1_2).bind fun t104 => (if t104 = true then ((bound_None_api_Fix.f).bind fun bt105 => (some (bt105.1, bt105.2.1, bt105.2.2))) else ((bound_Of_api_Fix.f k (wrap64 (a0_0 + a1_0)) (wrap64 (a0_1 + a1_1))).bind fun bt108 => (some (bt108.1, bt108.2.1, bt108.2.2))))) = some (r1, r2, r3) := h
  clear h
  replace H := bso_ H
  obtain ⟨t104, A30, H⟩ := H
  try dsimp -simprocs only at H
  have A3 := Aside0.mk A30
  clear A30
  by_cases c4 : t104 = true
  · subst c4
    rw [if_pos rfl] at H
    replace H := bso_ H
    obtain ⟨⟨t105, t106, t107⟩, A50, H⟩ := H
    try dsimp -simprocs only at H
    have A5 := Aside0.mk A50
    clear A50
    simp only [Option.some.injEq, Prod.mk.injEq] at H
    obtain ⟨rfl, rfl, rfl⟩ := H
    go_enter Try.func26, Try.ntmps26
    go_wp2_with (first | ((with_reducible refine gate_dst (N := 2) rfl ?_); refine bxq_ 2 #[.int .i64 a0_0, .int .i64 a0_1, .bool a0_2] 41 ?_; intro gb101 hg w6 hbox hb; have BK101 := Aside0.mk (hbox); have GW101 := gwq_ HB hg rfl; have GE101 := GW101; replace HB := hbs_ HB hb rfl rfl rfl rfl; clear hb hbox hg) | ((with_reducible refine gate_dst (N := 3) rfl ?_); refine bxq_ 3 #[.int .i64 a1_0, .int .i64 a1_1, .bool a1_2] 41 ?_; intro gb102 hg w7 hbox hb; have BK102 := Aside0.mk (hbox); have GW102 := gwq_ HB hg rfl; have GE102 := GW102; have NB101_102 := nbl_ BK101 hg rfl; have NB102_101 := nbg_ BK101 hg rfl; replace BK101 := bkb_ BK101 hb rfl; replace HB := hbs_ HB hb rfl rfl rfl rfl; clear hb hbox hg) | ((with_reducible refine gate_dst (N := 4) rfl ?_); refine bxq_ 4 #[.int .i64 0, .int .i64 0, .bool false] 41 ?_; intro gb103 hg w8 hbox hb; have BK103 := Aside0.mk (hbox); have GW103 := gwq_ HB hg rfl; have GE103 := GW103; have NB101_103 := nbl_ BK101 hg rfl; have NB103_101 := nbg_ BK101 hg rfl; have NB102_103 := nbl_ BK102 hg rfl; have NB103_102 := nbg_ BK102 hg rfl; replace BK101 := bkb_ BK101 hb rfl; replace BK102 := bkb_ BK102 hb rfl; replace HB := hbs_ HB hb rfl rfl rfl rfl; clear hb hbox hg; have hnb9 := NB101_102.out; have hnc9 := NB102_101.out; have hnb10 := NB101_103.out; have hnc10 := NB103_101.out; have hcz11_0 := bc_ BK101 0 rfl; have hcz11_1 := bc_ BK101 1 rfl; have hcz11_2 := bc_ BK101 2 rfl; have hfz11 := blk_frozen BK101.out; have hnb12 := NB102_103.out; have hnc12 := NB103_102.out; have hcz13_0 := bc_ BK102 0 rfl; have hcz13_1 := bc_ BK102 1 rfl; have hcz13_2 := bc_ BK102 2 rfl; have hfz13 := blk_frozen BK102.out) | ((with_reducible refine gate_callee (f := 43) rfl ?_); refine glq_ (some 7) Try.func43 #[.agg #[.int .i64 a0_0, .int .i64 a0_1, .bool a0_2], .agg #[.int .i64 a1_0, .int .i64 a1_1, .bool a1_2]] ?_; (with_reducible refine (bound_vague_api_Fix.calls k a0_0 a0_1 a0_2 a1_0 a1_1 a1_2 true _ A3.out).mono ?_); rintro e w14 ⟨rfl, hb⟩; refine ⟨_, rfl, ?_⟩; replace BK101 := bkb_ BK101 hb rfl; replace BK102 := bkb_ BK102 hb rfl; replace BK103 := bkb_ BK103 hb rfl; replace HB := hbs_ HB hb rfl rfl rfl rfl; (try clear hb)) | ((with_reducible refine gate_callee (f := 24) rfl ?_); refine glq_ (some 8) Try.func24 #[] ?_; (with_reducible refine (bound_None_api_Fix.calls  t105 t106 t107 _ A5.out).mono ?_); rintro e w15 ⟨rfl, hb⟩; refine ⟨_, rfl, ?_⟩; replace BK101 := bkb_ BK101 hb rfl; replace BK102 := bkb_ BK102 hb rfl; replace BK103 := bkb_ BK103 hb rfl; replace HB := hbs_ HB hb rfl rfl rfl rfl; (try clear hb); have hcz16_0 := bc_ BK103 0 rfl; have hcz16_1 := bc_ BK103 1 rfl; have hcz16_2 := bc_ BK103 2 rfl; have hfz16 := blk_frozen BK103.out))
    refine bodyPost_ret (results_cell_row rfl _ _ gb103 41 #[.int .i64 t105, .int .i64 t106, .bool t107] (0, 0) _ rfl (by exact blk_put (blk_put (blk_put BK103.out 0 _ rfl) 1 _ rfl) 2 _ rfl) Try.underlying41 rfl (by kernel_rfl)) rfl ?_
    exact ⟨by first | rfl | (simp [errW_none, errW_some] <;> rfl), by repeat (first | exact HB.out | apply below_alloc | apply pw_below_drewN | refine below_set ?_ GE101.out | refine below_set ?_ GE102.out | refine below_set ?_ GE103.out)⟩
  replace c4 := Bool.eq_false_iff.mpr c4
  subst c4
  rw [if_neg (show ¬ (false = true) by decide)] at H
  replace H := bso_ H
  obtain ⟨⟨t108, t109, t110⟩, A170, H⟩ := H
  try dsimp -simprocs only at H
  have A17 := Aside0.mk A170
  clear A170
  simp only [Option.some.injEq, Prod.mk.injEq] at H
  obtain ⟨rfl, rfl, rfl⟩ := H
  go_enter Try.func26, Try.ntmps26
  go_wp2_with (first | ((with_reducible refine gate_dst (N := 2) rfl ?_); refine bxq_ 2 #[.int .i64 a0_0, .int .i64 a0_1, .bool a0_2] 41 ?_; intro gb101 hg w18 hbox hb; have BK101 := Aside0.mk (hbox); have GW101 := gwq_ HB hg rfl; have GE101 := GW101; replace HB := hbs_ HB hb rfl rfl rfl rfl; clear hb hbox hg) | ((with_reducible refine gate_dst (N := 3) rfl ?_); refine bxq_ 3 #[.int .i64 a1_0, .int .i64 a1_1, .bool a1_2] 41 ?_; intro gb102 hg w19 hbox hb; have BK102 := Aside0.mk (hbox); have GW102 := gwq_ HB hg rfl; have GE102 := GW102; have NB101_102 := nbl_ BK101 hg rfl; have NB102_101 := nbg_ BK101 hg rfl; replace BK101 := bkb_ BK101 hb rfl; replace HB := hbs_ HB hb rfl rfl rfl rfl; clear hb hbox hg) | ((with_reducible refine gate_dst (N := 4) rfl ?_); refine bxq_ 4 #[.int .i64 0, .int .i64 0, .bool false] 41 ?_; intro gb103 hg w20 hbox hb; have BK103 := Aside0.mk (hbox); have GW103 := gwq_ HB hg rfl; have GE103 := GW103; have NB101_103 := nbl_ BK101 hg rfl; have NB103_101 := nbg_ BK101 hg rfl; have NB102_103 := nbl_ BK102 hg rfl; have NB103_102 := nbg_ BK102 hg rfl; replace BK101 := bkb_ BK101 hb rfl; replace BK102 := bkb_ BK102 hb rfl; replace HB := hbs_ HB hb rfl rfl rfl rfl; clear hb hbox hg; have hnb21 := NB101_102.out; have hnc21 := NB102_101.out; have hnb22 := NB101_103.out; have hnc22 := NB103_101.out; have hcz23_0 := bc_ BK101 0 rfl; have hcz23_1 := bc_ BK101 1 rfl; have hcz23_2 := bc_ BK101 2 rfl; have hfz23 := blk_frozen BK101.out; have hnb24 := NB102_103.out; have hnc24 := NB103_102.out; have hcz25_0 := bc_ BK102 0 rfl; have hcz25_1 := bc_ BK102 1 rfl; have hcz25_2 := bc_ BK102 2 rfl; have hfz25 := blk_frozen BK102.out) | ((with_reducible refine gate_callee (f := 43) rfl ?_); refine glq_ (some 7) Try.func43 #[.agg #[.int .i64 a0_0, .int .i64 a0_1, .bool a0_2], .agg #[.int .i64 a1_0, .int .i64 a1_1, .bool a1_2]] ?_; (with_reducible refine (bound_vague_api_Fix.calls k a0_0 a0_1 a0_2 a1_0 a1_1 a1_2 false _ A3.out).mono ?_); rintro e w26 ⟨rfl, hb⟩; refine ⟨_, rfl, ?_⟩; replace BK101 := bkb_ BK101 hb rfl; replace BK102 := bkb_ BK102 hb rfl; replace BK103 := bkb_ BK103 hb rfl; replace HB := hbs_ HB hb rfl rfl rfl rfl; (try clear hb); have hcz27_0 := bc_ BK101 0 rfl; have hcz27_1 := bc_ BK101 1 rfl; have hcz27_2 := bc_ BK101 2 rfl; have hfz27 := blk_frozen BK101.out; have hcz28_0 := bc_ BK102 0 rfl; have hcz28_1 := bc_ BK102 1 rfl; have hcz28_2 := bc_ BK102 2 rfl; have hfz28 := blk_frozen BK102.out) | ((with_reducible refine gate_callee (f := 35) rfl ?_); refine glq_ (some 19) Try.func35 #[.int .i64 (wrap64 (a0_0 + a1_0)), .int .i64 (wrap64 (a0_1 + a1_1))] ?_; (with_reducible refine (bound_Of_api_Fix.calls k (wrap64 (a0_0 + a1_0)) (wrap64 (a0_1 + a1_1)) t108 t109 t110 _ A17.out).mono ?_); rintro e w29 ⟨rfl, hb⟩; refine ⟨_, rfl, ?_⟩; replace BK101 := bkb_ BK101 hb rfl; replace BK102 := bkb_ BK102 hb rfl; replace BK103 := bkb_ BK103 hb rfl; replace HB := hbs_ HB hb rfl rfl rfl rfl; (try clear hb); have hcz30_0 := bc_ BK103 0 rfl; have hcz30_1 := bc_ BK103 1 rfl; have hcz30_2 := bc_ BK103 2 rfl; have hfz30 := blk_frozen BK103.out))
  refine bodyPost_ret (results_cell_row rfl _ _ gb103 41 #[.int .i64 t108, .int .i64 t109, .bool t110] (0, 0) _ rfl (by exact blk_put (blk_put (blk_put BK103.out 0 _ rfl) 1 _ rfl) 2 _ rfl) Try.underlying41 rfl (by kernel_rfl)) rfl ?_
  exact ⟨by first | rfl | (simp [errW_none, errW_some] <;> rfl), by repeat (first | exact HB.out | apply below_alloc | apply pw_below_drewN | refine below_set ?_ GE101.out | refine below_set ?_ GE102.out | refine below_set ?_ GE103.out)⟩

def bound_Exact_api_Fix.f (k : Nat) (a0 : Int) : Option (Int × Int × Bool) := (bound_Of_api_Fix.f k a0 a0).bind fun bt102 => (some (bt102.1, bt102.2.1, bt102.2.2))
theorem bound_Exact_api_Fix.mono : ∀ a0 k, LeO (bound_Exact_api_Fix.f k a0) (bound_Exact_api_Fix.f (k + 1) a0) := by
 intro a0 k
 unfold bound_Exact_api_Fix.f
 repeat' first
  | (with_reducible exact bound_Of_api_Fix.mono _ _ _)
  | (with_reducible exact LeO.refl _)
  | (with_reducible exact LeO.none _)
  | (with_reducible refine LeO.ite ?_ ?_)
  | (with_reducible refine LeO.bind ?_ (fun _ => ?_))
set_option maxHeartbeats 8000000 in
set_option maxRecDepth 100000 in
theorem bound_Exact_api_Fix.calls (k : Nat) (a0 : Int) (r1 : Int) (r2 : Int) (r3 : Bool) (w : World) (h : bound_Exact_api_Fix.f k a0 = some (r1, r2, r3)) :
 Calls Try.prog 32 #[.int .i64 a0] w fun e w' => e = .returned (.agg #[.int .i64 r1, .int .i64 r2, .bool r3]) ∧ Below w.heap.size w w' := by
  have hu41 := Try.underlying41
  have HB := Aside0.mk (Below.refl w.heap.size w)
  have H : ((bound_Of_api_Fix.f k a0 a0).bind fun bt102 => (some (bt102.1, bt102.2.1, bt102.2.2))) = some (r1, r2, r3) := h
  clear h
  replace H := bso_ H
  obtain ⟨⟨t102, t103, t104⟩, A20, H⟩ := H
  try dsimp -simprocs only at H
  have A2 := Aside0.mk A20
  clear A20
  simp only [Option.some.injEq, Prod.mk.injEq] at H
  obtain ⟨rfl, rfl, rfl⟩ := H
  go_enter Try.func32, Try.ntmps32
  go_wp2_with (first | ((with_reducible refine gate_dst (N := 2) rfl ?_); refine bxq_ 2 #[.int .i64 0, .int .i64 0, .bool false] 41 ?_; intro gb101 hg w3 hbox hb; have BK101 := Aside0.mk (hbox); have GW101 := gwq_ HB hg rfl; have GE101 := GW101; replace HB := hbs_ HB hb rfl rfl rfl rfl; clear hb hbox hg) | ((with_reducible refine gate_callee (f := 35) rfl ?_); refine glq_ (some 5) Try.func35 #[.int .i64 a0, .int .i64 a0] ?_; (with_reducible refine (bound_Of_api_Fix.calls k a0 a0 t102 t103 t104 _ A2.out).mono ?_); rintro e w4 ⟨rfl, hb⟩; refine ⟨_, rfl, ?_⟩; replace BK101 := bkb_ BK101 hb rfl; replace HB := hbs_ HB hb rfl rfl rfl rfl; (try clear hb); have hcz5_0 := bc_ BK101 0 rfl; have hcz5_1 := bc_ BK101 1 rfl; have hcz5_2 := bc_ BK101 2 rfl; have hfz5 := blk_frozen BK101.out))
  refine bodyPost_ret (results_cell_row rfl _ _ gb101 41 #[.int .i64 t102, .int .i64 t103, .bool t104] (0, 0) _ rfl (by exact blk_put (blk_put (blk_put BK101.out 0 _ rfl) 1 _ rfl) 2 _ rfl) Try.underlying41 rfl (by kernel_rfl)) rfl ?_
  exact ⟨by first | rfl | (simp [errW_none, errW_some] <;> rfl), by repeat (first | exact HB.out | apply below_alloc | apply pw_below_drewN | refine below_set ?_ GE101.out)⟩

def bound_Scale_api_Fix.f (k : Nat) (a0_0 : Int) (a0_1 : Int) (a0_2 : Bool) (a1 : Int) (a2 : Int) : Option (Int × Int × Bool) := (bound_Exact_api_Fix.f k a1).bind fun bt103 => ((bound_Mul_api_Fix.f k a0_0 a0_1 a0_2 bt103.1 bt103.2.1 bt103.2.2 a2).bind fun bt106 => (some (bt106.1, bt106.2.1, bt106.2.2)))
theorem bound_Scale_api_Fix.mono : ∀ a0 a1 a2 a3 a4 k, LeO (bound_Scale_api_Fix.f k a0 a1 a2 a3 a4) (bound_Scale_api_Fix.f (k + 1) a0 a1 a2 a3 a4) := by
 intro a0 a1 a2 a3 a4 k
 unfold bound_Scale_api_Fix.f
 repeat' first
  | (with_reducible exact bound_Exact_api_Fix.mono _ _)
  | (with_reducible exact bound_Mul_api_Fix.mono _ _ _ _ _ _ _ _)
  | (with_reducible exact LeO.refl _)
  | (with_reducible exact LeO.none _)
  | (with_reducible refine LeO.ite ?_ ?_)
  | (with_reducible refine LeO.bind ?_ (fun _ => ?_))
set_option maxHeartbeats 8000000 in
set_option maxRecDepth 100000 in
theorem bound_Scale_api_Fix.calls (k : Nat) (a0_0 : Int) (a0_1 : Int) (a0_2 : Bool) (a1 : Int) (a2 : Int) (r1 : Int) (r2 : Int) (r3 : Bool) (w : World) (h : bound_Scale_api_Fix.f k a0_0 a0_1 a0_2 a1 a2 = some (r1, r2, r3)) :
 Calls Try.prog 27 #[.agg #[.int .i64 a0_0, .int .i64 a0_1, .bool a0_2], .int .i64 a1, .int .i64 a2] w fun e w' => e = .returned (.agg #[.int .i64 r1, .int .i64 r2, .bool r3]) ∧ Below w.heap.size w w' := by
  have hu41 := Try.underlying41
  have HB := Aside0.mk (Below.refl w.heap.size w)
  have H : ((bound_Exact_api_Fix.f k a1).bind fun bt103 => ((bound_Mul_api_Fix.f k a0_0 a0_1 a0_2 bt103.1 bt103.2.1 bt103.2.2 a2).bind fun bt106 => (some (bt106.1, bt106.2.1, bt106.2.2)))) = some (r1, r2, r3) := h
  clear h
  replace H := bso_ H
  obtain ⟨⟨t103, t104, t105⟩, A40, H⟩ := H
  try dsimp -simprocs only at H
  have A4 := Aside0.mk A40
  clear A40
  replace H := bso_ H
  obtain ⟨⟨t106, t107, t108⟩, A50, H⟩ := H
  try dsimp -simprocs only at H
  have A5 := Aside0.mk A50
  clear A50
  simp only [Option.some.injEq, Prod.mk.injEq] at H
  obtain ⟨rfl, rfl, rfl⟩ := H
  go_enter Try.func27, Try.ntmps27
  try go_wp2_with (first | ((with_reducible refine gate_dst (N := 3) rfl ?_); refine bxq_ 3 #[.int .i64 a0_0, .int .i64 a0_1, .bool a0_2] 41 ?_; intro gb101 hg w6 hbox hb; have BK101 := Aside0.mk (hbox); have GW101 := gwq_ HB hg rfl; have GE101 := GW101; replace HB := hbs_ HB hb rfl rfl rfl rfl; clear hb hbox hg) | ((with_reducible refine gate_dst (N := 6) rfl ?_); refine bxq_ 6 #[.int .i64 0, .int .i64 0, .bool false] 41 ?_; intro gb102 hg w7 hbox hb; have BK102 := Aside0.mk (hbox); have GW102 := gwq_ HB hg rfl; have GE102 := GW102; have NB101_102 := nbl_ BK101 hg rfl; have NB102_101 := nbg_ BK101 hg rfl; replace BK101 := bkb_ BK101 hb rfl; replace HB := hbs_ HB hb rfl rfl rfl rfl; clear hb hbox hg))
  replace BK101 := Aside0.mk (blk_drew BK101.out)
  replace BK102 := Aside0.mk (blk_drew BK102.out)
  replace HB := Aside0.mk (below_drew1 HB.out)
  refine start_ (n := 6) (S := fun w' => w'.cell? ⟨gb101, 0, none⟩ = some (.int .i64 a0_0) ∧ w'.cell? ⟨gb101, 1, none⟩ = some (.int .i64 a0_1) ∧ w'.cell? ⟨gb101, 2, none⟩ = some (.bool a0_2)) (ds := []) #[false, false, false, false, false, false] (by kernel_rfl) rfl rfl ⟨bc_ BK101 0 rfl, bc_ BK101 1 rfl, bc_ BK101 2 rfl⟩ (fun hHeld => ?_)
  generalize w7.drew = w8 at BK101 BK102 HB hHeld ⊢
  refine pure_ (i := 1) (N := some 8) (v := ?_) (a' := ?_) #[false, true, false, false, false, false] rfl rfl (by kernel_rfl) (fun _ _ _ h => h) (Or.inl ⟨by rfl, ?_⟩) ?_ ?_
  rotate_left
  · intro w'
    go_simp
    with_reducible rfl
  rotate_left
  · simp only [Act.put, List.setIfInBounds_toArray, List.set_cons_zero, List.set_cons_succ, i64_w, i32_w]
    rfl
  refine pure_ (i := 3) (N := some 10) (v := ?_) (a' := ?_) #[false, true, false, true, false, false] rfl rfl (by kernel_rfl) (fun _ _ _ h => h) (Or.inl ⟨by rfl, ?_⟩) ?_ ?_
  rotate_left
  · intro w'
    go_simp
    with_reducible rfl
  rotate_left
  · simp only [Act.put, List.setIfInBounds_toArray, List.set_cons_zero, List.set_cons_succ, i64_w, i32_w]
    rfl
  refine take_ (i := 0) (N := some 7) (v := ?_) (a' := ?_) #[true, true, false, true, false, false] rfl rfl (by kernel_rfl) (fun _ _ _ h => h) (Or.inl ⟨by rfl, ?_⟩) hHeld ?_ ?_
  rotate_left
  · rintro w' ⟨s0, s1, s2⟩
    go_simp
    with_reducible rfl
  rotate_left
  · simp only [Act.put, List.setIfInBounds_toArray, List.set_cons_zero, List.set_cons_succ, i64_w, i32_w]
    rfl
  refine one_ (i := 2) (N := some 9) #[true, true, true, true, false, false] rfl rfl (by kernel_rfl) (by decide) (fun K hK => ?_)
  refine gq_ Try.func32 #[.int .i64 a1] ?_
  with_reducible refine (bound_Exact_api_Fix.calls k a1 t103 t104 t105 _ A4.out).mono ?_
  rintro e w9 ⟨rfl, hb⟩
  refine ⟨_, rfl, ?_⟩
  replace BK101 := bkb_ BK101 hb rfl
  replace BK102 := bkb_ BK102 hb rfl
  replace HB := hbs_ HB hb rfl rfl rfl rfl
  (try clear hb)
  refine hK.out _ _ ⟨bc_ BK101 0 rfl, bc_ BK101 1 rfl, bc_ BK101 2 rfl⟩ (fun hHeld => ?_)
  clear hK K
  refine nq_ 9 ?_
  refine one_ (i := 4) (N := some 11) #[true, true, true, true, true, false] rfl rfl (by kernel_rfl) (by decide) (fun K hK => ?_)
  refine gq_ Try.func30 #[.agg #[.int .i64 a0_0, .int .i64 a0_1, .bool a0_2], .agg #[.int .i64 t103, .int .i64 t104, .bool t105], .int .i64 a2] ?_
  with_reducible refine (bound_Mul_api_Fix.calls k a0_0 a0_1 a0_2 t103 t104 t105 a2 t106 t107 t108 _ A5.out).mono ?_
  rintro e w10 ⟨rfl, hb⟩
  refine ⟨_, rfl, ?_⟩
  replace BK101 := bkb_ BK101 hb rfl
  replace BK102 := bkb_ BK102 hb rfl
  replace HB := hbs_ HB hb rfl rfl rfl rfl
  (try clear hb)
  refine hK.out _ _ ⟨bc_ BK101 0 rfl, bc_ BK101 1 rfl, bc_ BK101 2 rfl⟩ (fun hHeld => ?_)
  clear hK K
  refine nq_ 11 ?_
  refine one_ (i := 5) (N := none) #[true, true, true, true, true, true] rfl rfl (by kernel_rfl) (by decide) (fun K hK => ?_)
  have hs11 : w10.cell? ⟨gb102, 0, none⟩ = some (.int .i64 0) := bc_ BK102 0 rfl
  have hfs11 := blk_frozen BK102.out 0
  have hns11_0 := NB101_102.out
  have hms11_0 := NB102_101.out
  have hs12 : w10.cell? ⟨gb102, 1, none⟩ = some (.int .i64 0) := bc_ BK102 1 rfl
  have hfs12 := blk_frozen BK102.out 1
  have hns12_0 := NB101_102.out
  have hms12_0 := NB102_101.out
  have hs13 : w10.cell? ⟨gb102, 2, none⟩ = some (.bool false) := bc_ BK102 2 rfl
  have hfs13 := blk_frozen BK102.out 2
  have hns13_0 := NB101_102.out
  have hms13_0 := NB102_101.out
  refine skip_ (w1 := ?_) (by rfl) rfl ?_ ?_
  rotate_left
  · go_simp
    rfl
  refine hK.out _ _ ⟨((cell_far (p := ⟨gb102, _, none⟩) NB101_102.out _).trans (((cell_far (p := ⟨gb102, _, none⟩) NB101_102.out _).trans (((cell_far (p := ⟨gb102, _, none⟩) NB101_102.out _).trans (hHeld.1)))))), ((cell_far (p := ⟨gb102, _, none⟩) NB101_102.out _).trans (((cell_far (p := ⟨gb102, _, none⟩) NB101_102.out _).trans (((cell_far (p := ⟨gb102, _, none⟩) NB101_102.out _).trans (hHeld.2.1)))))), ((cell_far (p := ⟨gb102, _, none⟩) NB101_102.out _).trans (((cell_far (p := ⟨gb102, _, none⟩) NB101_102.out _).trans (((cell_far (p := ⟨gb102, _, none⟩) NB101_102.out _).trans (hHeld.2.2))))))⟩ (fun hHeld => ?_)
  clear hK K
  refine done_ (by kernel_rfl) ?_
  try go_wp2
  refine bodyPost_ret (results_cell_row rfl _ _ gb102 41 #[.int .i64 t106, .int .i64 t107, .bool t108] (0, 0) _ rfl (by exact blk_put (blk_put (blk_put BK102.out 0 _ rfl) 1 _ rfl) 2 _ rfl) Try.underlying41 rfl (by kernel_rfl)) rfl ?_
  exact ⟨by first | rfl | (simp [errW_none, errW_some] <;> rfl), by repeat (first | exact HB.out | apply below_alloc | apply pw_below_drewN | refine below_set ?_ GE101.out | refine below_set ?_ GE102.out)⟩

def bound_Root_api_Fix.j0 : Nat → Int → Bool → Int → Int → Bool → Option (Int × Int × Bool)
 | 0, _, _, _, _, _ => none
 | k + 1, x1, x18, x102000, x102001, x102002 => if x18 = true then ((bound_None_api_Fix.f).bind fun bt104 => (some (bt104.1, bt104.2.1, bt104.2.2))) else ((num_SqrtMul.f k (mx x102000 0) x1).bind fun t107 => ((num_SqrtMul.f k x102001 x1).bind fun t108 => ((num_Product.f t108 t108).bind fun bt109 => ((num_Product.f x102001 x1).bind fun bt111 => ((num_Wide_Cmp.f k bt109.1 bt109.2 bt111.1 bt111.2).bind fun t113 => (if t113 < 0 then ((bound_Of_api_Fix.f k t107 (wrap64 (t108 + 1))).bind fun bt114 => (some (bt114.1, bt114.2.1, bt114.2.2))) else ((bound_Of_api_Fix.f k t107 t108).bind fun bt117 => (some (bt117.1, bt117.2.1, bt117.2.2)))))))))
def bound_Root_api_Fix.f (k : Nat) (a0_0 : Int) (a0_1 : Int) (a0_2 : Bool) (a1 : Int) : Option (Int × Int × Bool) := (bound_vague_api_Fix.f k a0_0 a0_1 a0_2 a0_0 a0_1 a0_2).bind fun t103 => (if t103 = true then (bound_Root_api_Fix.j0 k a1 true a0_0 a0_1 a0_2) else (if a1 < 1 then (bound_Root_api_Fix.j0 k a1 true a0_0 a0_1 a0_2) else (bound_Root_api_Fix.j0 k a1 (decide (a0_1 < 0)) a0_0 a0_1 a0_2)))
theorem bound_Root_api_Fix.mono_l : ∀ k, (∀ y0 y1 y2 y3 y4, LeO (bound_Root_api_Fix.j0 k y0 y1 y2 y3 y4) (bound_Root_api_Fix.j0 (k + 1) y0 y1 y2 y3 y4))
 | 0 => fun _ _ _ _ _ r h => by simp [bound_Root_api_Fix.j0] at h
 | k + 1 => by
  have ih0 := bound_Root_api_Fix.mono_l k
  · intro y0 y1 y2 y3 y4
    unfold bound_Root_api_Fix.j0
    repeat' first
    | (with_reducible exact ih0 _ _ _ _ _)
    | (with_reducible exact bound_Of_api_Fix.mono _ _ _)
    | (with_reducible exact bound_vague_api_Fix.mono _ _ _ _ _ _ _)
    | (with_reducible exact num_SqrtMul.mono _ _ _)
    | (with_reducible exact num_Wide_Cmp.mono _ _ _ _ _)
    | (with_reducible exact LeO.refl _)
    | (with_reducible exact LeO.none _)
    | (with_reducible refine LeO.ite ?_ ?_)
    | (with_reducible refine LeO.bind ?_ (fun _ => ?_))
theorem bound_Root_api_Fix.mono : ∀ a0 a1 a2 a3 k, LeO (bound_Root_api_Fix.f k a0 a1 a2 a3) (bound_Root_api_Fix.f (k + 1) a0 a1 a2 a3) := by
 intro a0 a1 a2 a3 k
 have ih0 := bound_Root_api_Fix.mono_l k
 unfold bound_Root_api_Fix.f
 repeat' first
  | (with_reducible exact ih0 _ _ _ _ _)
  | (with_reducible exact bound_Of_api_Fix.mono _ _ _)
  | (with_reducible exact bound_vague_api_Fix.mono _ _ _ _ _ _ _)
  | (with_reducible exact num_SqrtMul.mono _ _ _)
  | (with_reducible exact num_Wide_Cmp.mono _ _ _ _ _)
  | (with_reducible exact LeO.refl _)
  | (with_reducible exact LeO.none _)
  | (with_reducible refine LeO.ite ?_ ?_)
  | (with_reducible refine LeO.bind ?_ (fun _ => ?_))
def bound_Root_api_Fix.T3 : Bool × List (List Nat × List Nat) := (true, [([], []), ([0], [0]), ([1], [1]), ([], []), ([2, 3], [2, 3]), ([], []), ([5], [5]), ([], []), ([6, 7, 4], [6, 7]), ([4, 8, 0, 1, 2, 3, 4], [4]), ([8, 9, 0, 1, 2, 3, 4, 5, 6, 7, 8, 9], [8])])
def bound_Root_api_Fix.B3 : List Nat := [0, 1, 3, 0, 15, 0, 32, 0, 255, 511, 1023]
theorem bound_Root_api_Fix.tab3 : rtab .any (opsOf Try.f31 3) = bound_Root_api_Fix.T3 := by kernel_rfl
theorem bound_Root_api_Fix.bits3 : waitsOk bound_Root_api_Fix.T3.2 bound_Root_api_Fix.B3 = true := by kernel_rfl
def bound_Root_api_Fix.T4 : Bool × List (List Nat × List Nat) := (true, [([], []), ([], []), ([0, 1], [0, 1]), ([], []), ([3], [3]), ([], []), ([4, 5, 2], [4, 5]), ([2, 6, 6], [2, 6]), ([7], [7])])
def bound_Root_api_Fix.B4 : List Nat := [0, 0, 3, 0, 8, 0, 63, 127, 255]
theorem bound_Root_api_Fix.tab4 : rtab .any (opsOf Try.f31 4) = bound_Root_api_Fix.T4 := by kernel_rfl
theorem bound_Root_api_Fix.bits4 : waitsOk bound_Root_api_Fix.T4.2 bound_Root_api_Fix.B4 = true := by kernel_rfl
set_option maxHeartbeats 8000000 in
set_option maxRecDepth 100000 in
theorem bound_Root_api_Fix.calls (k : Nat) (a0_0 : Int) (a0_1 : Int) (a0_2 : Bool) (a1 : Int) (r1 : Int) (r2 : Int) (r3 : Bool) (w : World) (h : bound_Root_api_Fix.f k a0_0 a0_1 a0_2 a1 = some (r1, r2, r3)) :
 Calls Try.prog 31 #[.agg #[.int .i64 a0_0, .int .i64 a0_1, .bool a0_2], .int .i64 a1] w fun e w' => e = .returned (.agg #[.int .i64 r1, .int .i64 r2, .bool r3]) ∧ Below w.heap.size w w' := by
  have hu41 := Try.underlying41
  have HB := Aside0.mk (Below.refl w.heap.size w)
  have H : ((bound_vague_api_Fix.f k a0_0 a0_1 a0_2 a0_0 a0_1 a0_2).bind fun t103 => (if t103 = true then (bound_Root_api_Fix.j0 k a1 true a0_0 a0_1 a0_2) else (if a1 < 1 then (bound_Root_api_Fix.j0 k a1 true a0_0 a0_1 a0_2) else (bound_Root_api_Fix.j0 k a1 (decide (a0_1 < 0)) a0_0 a0_1 a0_2)))) = some (r1, r2, r3) := h
  clear h
  have HC3 := Aside0.mk H
  clear H
  go_enter Try.func31, Try.ntmps31
  go_upto_region 1 with (first | ((with_reducible refine gate_dst (N := 2) rfl ?_); refine bxq_ 2 #[.int .i64 a0_0, .int .i64 a0_1, .bool a0_2] 41 ?_; intro gb101 hg w4 hbox hb; have BK101 := Aside0.mk (hbox); have GW101 := gwq_ HB hg rfl; have GE101 := GW101; replace HB := hbs_ HB hb rfl rfl rfl rfl; clear hb hbox hg) | ((with_reducible refine gate_dst (N := 4) rfl ?_); refine bxq_ 4 #[.int .i64 0, .int .i64 0, .bool false] 41 ?_; intro gb102 hg w5 hbox hb; have BK102 := Aside0.mk (hbox); have GW102 := gwq_ HB hg rfl; have GE102 := GW102; have NB101_102 := nbl_ BK101 hg rfl; have NB102_101 := nbg_ BK101 hg rfl; replace BK101 := bkb_ BK101 hb rfl; replace HB := hbs_ HB hb rfl rfl rfl rfl; clear hb hbox hg))
  (try simp only [Act.put, List.setIfInBounds_toArray, List.set_cons_zero, List.set_cons_succ])
  go_cut [18] (fun v18 wc => ∃ (kq : Nat) (x18_2 : Bool), v18 = .bool x18_2 ∧ Aside0 (bound_Root_api_Fix.j0 kq a1 x18_2 a0_0 a0_1 a0_2 = some (r1, r2, r3)) ∧ Aside0 (kq ≤ k) ∧ Aside0 (wc.heap[gb101]? = some (.cells #[.int .i64 a0_0, .int .i64 a0_1, .bool a0_2] 41 (0, 0))) ∧ Aside0 (wc.heap[gb102]? = some (.cells #[.int .i64 0, .int .i64 0, .bool false] 41 (0, 0))) ∧ Aside0 (Below w.heap.size w wc))
  case first =>
   have H := HC3.out
   clear HC3
   replace H := bso_ H
   obtain ⟨t103, A60, H⟩ := H
   try dsimp -simprocs only at H
   have A6 := Aside0.mk A60
   clear A60
   by_cases c7 : t103 = true
   · subst c7
     rw [if_pos rfl] at H
     have H' := Aside0.mk H
     clear H
     have hnb8 := NB101_102.out
     have hnc8 := NB102_101.out
     have hcz9_0 := bc_ BK101 0 rfl
     have hcz9_1 := bc_ BK101 1 rfl
     have hcz9_2 := bc_ BK101 2 rfl
     have hfz9 := blk_frozen BK101.out
     go_wp2_with (first | ((with_reducible refine gate_callee (f := 43) rfl ?_); refine glq_ (some 9) Try.func43 #[.agg #[.int .i64 a0_0, .int .i64 a0_1, .bool a0_2], .agg #[.int .i64 a0_0, .int .i64 a0_1, .bool a0_2]] ?_; (with_reducible refine (bound_vague_api_Fix.calls k a0_0 a0_1 a0_2 a0_0 a0_1 a0_2 true _ A6.out).mono ?_); rintro e w10 ⟨rfl, hb⟩; refine ⟨_, rfl, ?_⟩; replace BK101 := bkb_ BK101 hb rfl; replace BK102 := bkb_ BK102 hb rfl; replace HB := hbs_ HB hb rfl rfl rfl rfl; (try clear hb)))
     go_meet
     case rel => exact ⟨_, (true), (by first | rfl | (simp; done) | (simp [*]; done)), H', ⟨by first | omega | exact Nat.le_refl _⟩, ⟨by exact BK101.out⟩, ⟨by exact BK102.out⟩, ⟨by repeat (first | exact HB.out | apply below_alloc | apply pw_below_drewN | refine below_set ?_ GE101.out | refine below_set ?_ GE102.out)⟩⟩
   replace c7 := Bool.eq_false_iff.mpr c7
   subst c7
   rw [if_neg (show ¬ (false = true) by decide)] at H
   by_cases c11 : a1 < 1
   · rw [if_pos c11] at H
     have c11b0 : decide (a1 < 1) = true := decide_eq_true c11
     clear c11
     (first | rw [c11b0] | (simp only [i64_w, i32_w]; rw [c11b0]) | skip)
     have H' := Aside0.mk H
     clear H
     have hnb12 := NB101_102.out
     have hnc12 := NB102_101.out
     have hcz13_0 := bc_ BK101 0 rfl
     have hcz13_1 := bc_ BK101 1 rfl
     have hcz13_2 := bc_ BK101 2 rfl
     have hfz13 := blk_frozen BK101.out
     go_wp2_with (first | ((with_reducible refine gate_callee (f := 43) rfl ?_); refine glq_ (some 9) Try.func43 #[.agg #[.int .i64 a0_0, .int .i64 a0_1, .bool a0_2], .agg #[.int .i64 a0_0, .int .i64 a0_1, .bool a0_2]] ?_; (with_reducible refine (bound_vague_api_Fix.calls k a0_0 a0_1 a0_2 a0_0 a0_1 a0_2 false _ A6.out).mono ?_); rintro e w14 ⟨rfl, hb⟩; refine ⟨_, rfl, ?_⟩; replace BK101 := bkb_ BK101 hb rfl; replace BK102 := bkb_ BK102 hb rfl; replace HB := hbs_ HB hb rfl rfl rfl rfl; (try clear hb)))
     go_meet
     case rel => exact ⟨_, (true), (by first | rfl | (simp; done) | (simp [*]; done)), H', ⟨by first | omega | exact Nat.le_refl _⟩, ⟨by exact BK101.out⟩, ⟨by exact BK102.out⟩, ⟨by repeat (first | exact HB.out | apply below_alloc | apply pw_below_drewN | refine below_set ?_ GE101.out | refine below_set ?_ GE102.out)⟩⟩
   rw [if_neg c11] at H
   have c11b0 : decide (a1 < 1) = false := decide_eq_false c11
   clear c11
   (first | rw [c11b0] | (simp only [i64_w, i32_w]; rw [c11b0]) | skip)
   have H' := Aside0.mk H
   clear H
   have hnb15 := NB101_102.out
   have hnc15 := NB102_101.out
   have hcz16_0 := bc_ BK101 0 rfl
   have hcz16_1 := bc_ BK101 1 rfl
   have hcz16_2 := bc_ BK101 2 rfl
   have hfz16 := blk_frozen BK101.out
   go_wp2_with (first | ((with_reducible refine gate_callee (f := 43) rfl ?_); refine glq_ (some 9) Try.func43 #[.agg #[.int .i64 a0_0, .int .i64 a0_1, .bool a0_2], .agg #[.int .i64 a0_0, .int .i64 a0_1, .bool a0_2]] ?_; (with_reducible refine (bound_vague_api_Fix.calls k a0_0 a0_1 a0_2 a0_0 a0_1 a0_2 false _ A6.out).mono ?_); rintro e w17 ⟨rfl, hb⟩; refine ⟨_, rfl, ?_⟩; replace BK101 := bkb_ BK101 hb rfl; replace BK102 := bkb_ BK102 hb rfl; replace HB := hbs_ HB hb rfl rfl rfl rfl; (try clear hb); have hcz18_0 := bc_ BK101 0 rfl; have hcz18_1 := bc_ BK101 1 rfl; have hcz18_2 := bc_ BK101 2 rfl; have hfz18 := blk_frozen BK101.out))
   go_meet
   case rel => exact ⟨_, (decide (a0_1 < 0)), (by first | rfl | (simp; done) | (simp [*]; done)), H', ⟨by first | omega | exact Nat.le_refl _⟩, ⟨by exact BK101.out⟩, ⟨by exact BK102.out⟩, ⟨by repeat (first | exact HB.out | apply below_alloc | apply pw_below_drewN | refine below_set ?_ GE101.out | refine below_set ?_ GE102.out)⟩⟩
  case rest =>
   clear HC3
   obtain ⟨kq, x18_2, rfl, HA, HJ2, BK101, BK102, HB⟩ := hcut
   cases kq with
   | zero => exact absurd HA.out (by simp [bound_Root_api_Fix.j0])
   | succ kj2 =>
    have H := HA.out
    clear HA
    simp only [bound_Root_api_Fix.j0] at H
    by_cases c19 : x18_2 = true
    · subst c19
      rw [if_pos rfl] at H
      replace H := bso_ H
      obtain ⟨⟨t104, t105, t106⟩, A200, H⟩ := H
      try dsimp -simprocs only at H
      have A20 := Aside0.mk A200
      clear A200
      simp only [Option.some.injEq, Prod.mk.injEq] at H
      obtain ⟨rfl, rfl, rfl⟩ := H
      go_wp2_with (first | ((with_reducible refine gate_callee (f := 24) rfl ?_); refine glq_ (some 19) Try.func24 #[] ?_; (with_reducible refine (bound_None_api_Fix.calls  t104 t105 t106 _ A20.out).mono ?_); rintro e w21 ⟨rfl, hb⟩; refine ⟨_, rfl, ?_⟩; replace BK101 := bkb_ BK101 hb rfl; replace BK102 := bkb_ BK102 hb rfl; replace HB := hbs_ HB hb rfl rfl rfl rfl; (try clear hb); have hnb22 := NB102_101.out; have hnc22 := NB101_102.out; have hcz23_0 := bc_ BK102 0 rfl; have hcz23_1 := bc_ BK102 1 rfl; have hcz23_2 := bc_ BK102 2 rfl; have hfz23 := blk_frozen BK102.out) | ((with_reducible refine gate_store (t := 41) (p := 4) rfl ?_); refine store_event (t := 41) (p := 4) (v := ?vo_w24) (w1 := (((w21.setCell ⟨gb102, 0, none⟩ (.int .i64 t104)).setCell ⟨gb102, 1, none⟩ (.int .i64 t105)).setCell ⟨gb102, 2, none⟩ (.bool t106))) ?hg ?ho ?hn ?hr ?_; (case ho => rfl); (case hg => rfl); (case hn => rfl); (case hr => first | (go_simp; done) | (go_simp; rfl)); intro w24 hw; replace BK101 : Aside0 (w24.heap[gb101]? = some (.cells #[.int .i64 a0_0, .int .i64 a0_1, .bool a0_2] 41 (0, 0))) := ⟨(by rw [hw]; exact (by exact blk_far (blk_far (blk_far BK101.out NB101_102.out _) NB101_102.out _) NB101_102.out _))⟩; replace BK102 : Aside0 (w24.heap[gb102]? = some (.cells #[.int .i64 t104, .int .i64 t105, .bool t106] 41 (0, 0))) := ⟨(by rw [hw]; exact (by exact blk_put (blk_put (blk_put BK102.out 0 _ rfl) 1 _ rfl) 2 _ rfl))⟩; replace HB : Aside0 (Below w.heap.size w w24) := ⟨(by rw [hw]; exact (by repeat (first | (with_reducible first | exact HB.out | apply below_alloc | apply pw_below_drewN | refine below_set ?_ GE101.out | refine below_set ?_ GE102.out) | exact HB.out)))⟩; clear hw))
      refine bodyPost_ret (results_cell_row rfl _ _ gb102 41 #[.int .i64 t104, .int .i64 t105, .bool t106] (0, 0) _ rfl BK102.out Try.underlying41 rfl (by kernel_rfl)) rfl ?_
      exact ⟨by first | rfl | (simp [errW_none, errW_some] <;> rfl), by repeat (first | exact HB.out | apply below_alloc | apply pw_below_drewN | refine below_set ?_ GE101.out | refine below_set ?_ GE102.out)⟩
    replace c19 := Bool.eq_false_iff.mpr c19
    subst c19
    rw [if_neg (show ¬ (false = true) by decide)] at H
    obtain ⟨ji25, hji25⟩ : ∃ j_ : Int, (mx a0_0 0) = j_ := ⟨_, rfl⟩
    replace H : ((num_SqrtMul.f kj2 (ji25) a1).bind fun t107 => ((num_SqrtMul.f kj2 a0_1 a1).bind fun t108 => ((num_Product.f t108 t108).bind fun bt109 => ((num_Product.f a0_1 a1).bind fun bt111 => ((num_Wide_Cmp.f kj2 bt109.1 bt109.2 bt111.1 bt111.2).bind fun t113 => (if t113 < 0 then ((bound_Of_api_Fix.f kj2 t107 (wrap64 (t108 + 1))).bind fun bt114 => (some (bt114.1, bt114.2.1, bt114.2.2))) else ((bound_Of_api_Fix.f kj2 t107 t108).bind fun bt117 => (some (bt117.1, bt117.2.1, bt117.2.2))))))))) = some (r1, r2, r3) := by first | (rw [hji25] at H; exact H) | (simp only [hji25] at H ⊢; exact H)
    have hji25_ : (if a0_0 < 0 then 0 else a0_0) = ji25 := hji25
    replace H := bso_ H
    obtain ⟨t107, A260, H⟩ := H
    try dsimp -simprocs only at H
    have A26 := Aside0.mk A260
    clear A260
    replace H := bso_ H
    obtain ⟨t108, A270, H⟩ := H
    try dsimp -simprocs only at H
    have A27 := Aside0.mk A270
    clear A270
    replace H := bso_ H
    obtain ⟨⟨t109, t110⟩, A280, H⟩ := H
    try dsimp -simprocs only at H
    have A28 := Aside0.mk A280
    clear A280
    replace H := bso_ H
    obtain ⟨⟨t111, t112⟩, A290, H⟩ := H
    try dsimp -simprocs only at H
    have A29 := Aside0.mk A290
    clear A290
    replace H := bso_ H
    obtain ⟨t113, A300, H⟩ := H
    try dsimp -simprocs only at H
    have A30 := Aside0.mk A300
    clear A300
    by_cases c31 : t113 < 0
    · rw [if_pos c31] at H
      have c31b0 : decide (t113 < 0) = true := decide_eq_true c31
      clear c31
      replace H := bso_ H
      obtain ⟨⟨t114, t115, t116⟩, A320, H⟩ := H
      try dsimp -simprocs only at H
      have A32 := Aside0.mk A320
      clear A320
      simp only [Option.some.injEq, Prod.mk.injEq] at H
      obtain ⟨rfl, rfl, rfl⟩ := H
      try go_wp2
      replace BK101 := Aside0.mk (blk_drew BK101.out)
      replace BK102 := Aside0.mk (blk_drew BK102.out)
      replace HB := Aside0.mk (below_drew1 HB.out)
      refine start_ (n := 11) (S := fun w' => w'.cell? ⟨gb101, 0, none⟩ = some (.int .i64 a0_0) ∧ w'.cell? ⟨gb101, 1, none⟩ = some (.int .i64 a0_1) ∧ w'.cell? ⟨gb101, 2, none⟩ = some (.bool a0_2)) (ds := []) (bm_ [0, 11]) (by kernel_rfl) rfl rfl ⟨bc_ BK101 0 rfl, bc_ BK101 1 rfl, bc_ BK101 2 rfl⟩ (fun hHeld => ?_); refine with_tabW bound_Root_api_Fix.tab3 bound_Root_api_Fix.bits3 (fun HT_ HW_ => ?_)
      generalize wc.drew = w33 at BK101 BK102 HB hHeld ⊢
      refine pq_ 0 20 (bm_ [1, 10]) HT_ ?_
      refine pq_ 3 23 (bm_ [1, 2, 1, 7]) HT_ ?_
      refine pq_ 5 25 (bm_ [1, 2, 1, 1, 1, 5]) HT_ ?_
      refine pq_ 7 27 (bm_ [1, 2, 1, 1, 1, 1, 1, 3]) HT_ ?_
      refine tq_ 1 21 (bm_ [2, 1, 1, 1, 1, 1, 1, 3]) HT_ HW_ hHeld ?_
      refine pq_ 2 22 (bm_ [4, 1, 1, 1, 1, 3]) HT_ ?_
      refine tq_ 6 26 (bm_ [4, 1, 3, 3]) HT_ HW_ hHeld ?_
      refine oq_ 4 (some 24) (bm_ [8, 3]) HT_ (fun K hK => ?_)
      refine goes_ Try.func40 (by kernel_rfl) rfl #[.int .i64 ji25, .int .i64 a1] (by rfl) rfl rfl (by (try simp only [List.map_toArray, List.map_cons, List.map_nil]); first | done | (simp only [hji25]; rfl) | rfl | (simp only [List.length_drop, List.length_take]; rfl)) ?_
      with_reducible refine (num_SqrtMul.calls kj2 ji25 a1 t107 _ A26.out).mono ?_
      rintro e w' ⟨rfl, ⟨nd, rfl⟩⟩
      refine ⟨_, rfl, ?_⟩
      refine hK.out _ _ ⟨bc_ BK101 0 rfl, bc_ BK101 1 rfl, bc_ BK101 2 rfl⟩ (fun hHeld => ?_)
      clear hK K
      refine nq_ 24 ?_
      refine oq_ 8 (some 28) (bm_ [9, 2]) HT_ (fun K hK => ?_)
      refine gq_ Try.func40 #[.int .i64 a0_1, .int .i64 a1] ?_
      with_reducible refine (num_SqrtMul.calls kj2 a0_1 a1 t108 _ A27.out).mono ?_
      rintro e w' ⟨rfl, ⟨nd, rfl⟩⟩
      refine ⟨_, rfl, ?_⟩
      refine hK.out _ _ ⟨bc_ BK101 0 rfl, bc_ BK101 1 rfl, bc_ BK101 2 rfl⟩ (fun hHeld => ?_)
      clear hK K
      refine nq_ 28 ?_
      refine pq_ 9 5 (bm_ [10, 1]) HT_ ?_
      refine pq_ 10 6 (bm_ [11]) HT_ ?_
      refine done_ (done_of HT_.out (by kernel_rfl)) ?_
      try go_wp2
      (repeat (rw [drewN_self w33]; generalize hq_ : World.drewN w33 _ = w33; have n0_ : Aside0 (w33.heap[gb101]? = some (.cells #[.int .i64 a0_0, .int .i64 a0_1, .bool a0_2] 41 (0, 0))) := ⟨by rw [← hq_]; exact BK101.out⟩; have n1_ : Aside0 (w33.heap[gb102]? = some (.cells #[.int .i64 0, .int .i64 0, .bool false] 41 (0, 0))) := ⟨by rw [← hq_]; exact BK102.out⟩; have n2_ : Aside0 (Below w.heap.size w w33) := ⟨by rw [← hq_]; exact (by repeat (first | (with_reducible first | exact HB.out | apply below_alloc | apply pw_below_drewN | refine below_set ?_ GE101.out | refine below_set ?_ GE102.out) | exact HB.out))⟩; clear BK101 BK102 HB hq_; have BK101 := n0_; have BK102 := n1_; have HB := n2_; clear n0_ n1_ n2_))
      replace BK101 := Aside0.mk (blk_drew BK101.out)
      replace BK102 := Aside0.mk (blk_drew BK102.out)
      replace HB := Aside0.mk (below_drew1 HB.out)
      refine start_ (n := 9) (S := fun w' => w'.cell? ⟨gb101, 0, none⟩ = some (.int .i64 a0_0) ∧ w'.cell? ⟨gb101, 1, none⟩ = some (.int .i64 a0_1) ∧ w'.cell? ⟨gb101, 2, none⟩ = some (.bool a0_2)) (ds := []) #[false, false, false, false, false, false, false, false, false] (by kernel_rfl) rfl rfl ⟨bc_ BK101 0 rfl, bc_ BK101 1 rfl, bc_ BK101 2 rfl⟩ (fun hHeld => ?_); refine with_tabW bound_Root_api_Fix.tab4 bound_Root_api_Fix.bits4 (fun HT_ HW_ => ?_)
      generalize w33.drew = w34 at BK101 BK102 HB hHeld ⊢
      refine pq_ 0 29 #[true, false, false, false, false, false, false, false, false] HT_ ?_
      refine pq_ 1 30 #[true, true, false, false, false, false, false, false, false] HT_ ?_
      refine pq_ 3 32 #[true, true, false, true, false, false, false, false, false] HT_ ?_
      refine pq_ 5 34 #[true, true, false, true, false, true, false, false, false] HT_ ?_
      refine tq_ 4 33 #[true, true, false, true, true, true, false, false, false] HT_ HW_ hHeld ?_
      refine oq_ 2 (some 31) #[true, true, true, true, true, true, false, false, false] HT_ (fun K hK => ?_)
      refine gq_ Try.func50 #[.int .i64 t108, .int .i64 t108] ?_
      with_reducible refine (num_Product.calls t108 t108 t109 t110 _ A28.out).mono ?_
      rintro e w35 ⟨rfl, hb⟩
      refine ⟨_, rfl, ?_⟩
      replace BK101 := bkb_ BK101 hb rfl
      replace BK102 := bkb_ BK102 hb rfl
      replace HB := hbs_ HB hb rfl rfl rfl rfl
      (try clear hb)
      refine hK.out _ _ ⟨bc_ BK101 0 rfl, bc_ BK101 1 rfl, bc_ BK101 2 rfl⟩ (fun hHeld => ?_)
      clear hK K
      refine nq_ 31 ?_
      refine oq_ 6 (some 35) #[true, true, true, true, true, true, true, false, false] HT_ (fun K hK => ?_)
      refine gq_ Try.func50 #[.int .i64 a0_1, .int .i64 a1] ?_
      with_reducible refine (num_Product.calls a0_1 a1 t111 t112 _ A29.out).mono ?_
      rintro e w36 ⟨rfl, hb⟩
      refine ⟨_, rfl, ?_⟩
      replace BK101 := bkb_ BK101 hb rfl
      replace BK102 := bkb_ BK102 hb rfl
      replace HB := hbs_ HB hb rfl rfl rfl rfl
      (try clear hb)
      refine hK.out _ _ ⟨bc_ BK101 0 rfl, bc_ BK101 1 rfl, bc_ BK101 2 rfl⟩ (fun hHeld => ?_)
      clear hK K
      refine nq_ 35 ?_
      refine oq_ 7 (some 36) #[true, true, true, true, true, true, true, true, false] HT_ (fun K hK => ?_)
      refine gq_ Try.func51 #[.agg #[.int .i64 t109, .int .u64 t110], .agg #[.int .i64 t111, .int .u64 t112]] ?_
      with_reducible refine (num_Wide_Cmp.calls kj2 t109 t110 t111 t112 t113 _ A30.out).mono ?_
      rintro e w37 ⟨rfl, hb⟩
      refine ⟨_, rfl, ?_⟩
      replace BK101 := bkb_ BK101 hb rfl
      replace BK102 := bkb_ BK102 hb rfl
      replace HB := hbs_ HB hb rfl rfl rfl rfl
      (try clear hb)
      refine hK.out _ _ ⟨bc_ BK101 0 rfl, bc_ BK101 1 rfl, bc_ BK101 2 rfl⟩ (fun hHeld => ?_)
      clear hK K
      refine nq_ 36 ?_
      refine pq_ 8 37 #[true, true, true, true, true, true, true, true, true] HT_ ?_
      refine done_ (done_of HT_.out (by kernel_rfl)) ?_
      try go_wp2_with (first | ((with_reducible refine gate_callee (f := 35) rfl ?_); refine glq_ (some 42) Try.func35 #[.int .i64 t107, .int .i64 (wrap64 (t108 + 1))] ?_; (with_reducible refine (bound_Of_api_Fix.calls kj2 t107 (wrap64 (t108 + 1)) t114 t115 t116 _ A32.out).mono ?_); rintro e w38 ⟨rfl, hb⟩; refine ⟨_, rfl, ?_⟩; replace BK101 := bkb_ BK101 hb rfl; replace BK102 := bkb_ BK102 hb rfl; replace HB := hbs_ HB hb rfl rfl rfl rfl; (try clear hb); have hnb39 := NB102_101.out; have hnc39 := NB101_102.out; have hcz40_0 := bc_ BK102 0 rfl; have hcz40_1 := bc_ BK102 1 rfl; have hcz40_2 := bc_ BK102 2 rfl; have hfz40 := blk_frozen BK102.out) | ((with_reducible refine gate_store (t := 41) (p := 4) rfl ?_); refine store_event (t := 41) (p := 4) (v := ?vo_w41) (w1 := (((w38.setCell ⟨gb102, 0, none⟩ (.int .i64 t114)).setCell ⟨gb102, 1, none⟩ (.int .i64 t115)).setCell ⟨gb102, 2, none⟩ (.bool t116))) ?hg ?ho ?hn ?hr ?_; (case ho => rfl); (case hg => rfl); (case hn => rfl); (case hr => first | (go_simp; done) | (go_simp; rfl)); intro w41 hw; replace BK101 : Aside0 (w41.heap[gb101]? = some (.cells #[.int .i64 a0_0, .int .i64 a0_1, .bool a0_2] 41 (0, 0))) := ⟨(by rw [hw]; exact (by exact blk_far (blk_far (blk_far BK101.out NB101_102.out _) NB101_102.out _) NB101_102.out _))⟩; replace BK102 : Aside0 (w41.heap[gb102]? = some (.cells #[.int .i64 t114, .int .i64 t115, .bool t116] 41 (0, 0))) := ⟨(by rw [hw]; exact (by exact blk_put (blk_put (blk_put BK102.out 0 _ rfl) 1 _ rfl) 2 _ rfl))⟩; replace HB : Aside0 (Below w.heap.size w w41) := ⟨(by rw [hw]; exact (by repeat (first | (with_reducible first | exact HB.out | apply below_alloc | apply pw_below_drewN | refine below_set ?_ GE101.out | refine below_set ?_ GE102.out) | exact HB.out)))⟩; clear hw))
      refine bodyPost_ret (results_cell_row rfl _ _ gb102 41 #[.int .i64 t114, .int .i64 t115, .bool t116] (0, 0) _ rfl BK102.out Try.underlying41 rfl (by kernel_rfl)) rfl ?_
      exact ⟨by first | rfl | (simp [errW_none, errW_some] <;> rfl) | (simp only [← hji25]; first | rfl | (simp [errW_none, errW_some] <;> rfl)), by repeat (first | exact HB.out | apply below_alloc | apply pw_below_drewN | refine below_set ?_ GE101.out | refine below_set ?_ GE102.out)⟩
    rw [if_neg c31] at H
    have c31b0 : decide (t113 < 0) = false := decide_eq_false c31
    clear c31
    replace H := bso_ H
    obtain ⟨⟨t117, t118, t119⟩, A420, H⟩ := H
    try dsimp -simprocs only at H
    have A42 := Aside0.mk A420
    clear A420
    simp only [Option.some.injEq, Prod.mk.injEq] at H
    obtain ⟨rfl, rfl, rfl⟩ := H
    try go_wp2
    replace BK101 := Aside0.mk (blk_drew BK101.out)
    replace BK102 := Aside0.mk (blk_drew BK102.out)
    replace HB := Aside0.mk (below_drew1 HB.out)
    refine start_ (n := 11) (S := fun w' => w'.cell? ⟨gb101, 0, none⟩ = some (.int .i64 a0_0) ∧ w'.cell? ⟨gb101, 1, none⟩ = some (.int .i64 a0_1) ∧ w'.cell? ⟨gb101, 2, none⟩ = some (.bool a0_2)) (ds := []) (bm_ [0, 11]) (by kernel_rfl) rfl rfl ⟨bc_ BK101 0 rfl, bc_ BK101 1 rfl, bc_ BK101 2 rfl⟩ (fun hHeld => ?_); refine with_tabW bound_Root_api_Fix.tab3 bound_Root_api_Fix.bits3 (fun HT_ HW_ => ?_)
    generalize wc.drew = w43 at BK101 BK102 HB hHeld ⊢
    refine pq_ 0 20 (bm_ [1, 10]) HT_ ?_
    refine pq_ 3 23 (bm_ [1, 2, 1, 7]) HT_ ?_
    refine pq_ 5 25 (bm_ [1, 2, 1, 1, 1, 5]) HT_ ?_
    refine pq_ 7 27 (bm_ [1, 2, 1, 1, 1, 1, 1, 3]) HT_ ?_
    refine tq_ 1 21 (bm_ [2, 1, 1, 1, 1, 1, 1, 3]) HT_ HW_ hHeld ?_
    refine pq_ 2 22 (bm_ [4, 1, 1, 1, 1, 3]) HT_ ?_
    refine tq_ 6 26 (bm_ [4, 1, 3, 3]) HT_ HW_ hHeld ?_
    refine oq_ 4 (some 24) (bm_ [8, 3]) HT_ (fun K hK => ?_)
    refine goes_ Try.func40 (by kernel_rfl) rfl #[.int .i64 ji25, .int .i64 a1] (by rfl) rfl rfl (by (try simp only [List.map_toArray, List.map_cons, List.map_nil]); first | done | (simp only [hji25]; rfl) | rfl | (simp only [List.length_drop, List.length_take]; rfl)) ?_
    with_reducible refine (num_SqrtMul.calls kj2 ji25 a1 t107 _ A26.out).mono ?_
    rintro e w' ⟨rfl, ⟨nd, rfl⟩⟩
    refine ⟨_, rfl, ?_⟩
    refine hK.out _ _ ⟨bc_ BK101 0 rfl, bc_ BK101 1 rfl, bc_ BK101 2 rfl⟩ (fun hHeld => ?_)
    clear hK K
    refine nq_ 24 ?_
    refine oq_ 8 (some 28) (bm_ [9, 2]) HT_ (fun K hK => ?_)
    refine gq_ Try.func40 #[.int .i64 a0_1, .int .i64 a1] ?_
    with_reducible refine (num_SqrtMul.calls kj2 a0_1 a1 t108 _ A27.out).mono ?_
    rintro e w' ⟨rfl, ⟨nd, rfl⟩⟩
    refine ⟨_, rfl, ?_⟩
    refine hK.out _ _ ⟨bc_ BK101 0 rfl, bc_ BK101 1 rfl, bc_ BK101 2 rfl⟩ (fun hHeld => ?_)
    clear hK K
    refine nq_ 28 ?_
    refine pq_ 9 5 (bm_ [10, 1]) HT_ ?_
    refine pq_ 10 6 (bm_ [11]) HT_ ?_
    refine done_ (done_of HT_.out (by kernel_rfl)) ?_
    try go_wp2
    (repeat (rw [drewN_self w43]; generalize hq_ : World.drewN w43 _ = w43; have n0_ : Aside0 (w43.heap[gb101]? = some (.cells #[.int .i64 a0_0, .int .i64 a0_1, .bool a0_2] 41 (0, 0))) := ⟨by rw [← hq_]; exact BK101.out⟩; have n1_ : Aside0 (w43.heap[gb102]? = some (.cells #[.int .i64 0, .int .i64 0, .bool false] 41 (0, 0))) := ⟨by rw [← hq_]; exact BK102.out⟩; have n2_ : Aside0 (Below w.heap.size w w43) := ⟨by rw [← hq_]; exact (by repeat (first | (with_reducible first | exact HB.out | apply below_alloc | apply pw_below_drewN | refine below_set ?_ GE101.out | refine below_set ?_ GE102.out) | exact HB.out))⟩; clear BK101 BK102 HB hq_; have BK101 := n0_; have BK102 := n1_; have HB := n2_; clear n0_ n1_ n2_))
    replace BK101 := Aside0.mk (blk_drew BK101.out)
    replace BK102 := Aside0.mk (blk_drew BK102.out)
    replace HB := Aside0.mk (below_drew1 HB.out)
    refine start_ (n := 9) (S := fun w' => w'.cell? ⟨gb101, 0, none⟩ = some (.int .i64 a0_0) ∧ w'.cell? ⟨gb101, 1, none⟩ = some (.int .i64 a0_1) ∧ w'.cell? ⟨gb101, 2, none⟩ = some (.bool a0_2)) (ds := []) #[false, false, false, false, false, false, false, false, false] (by kernel_rfl) rfl rfl ⟨bc_ BK101 0 rfl, bc_ BK101 1 rfl, bc_ BK101 2 rfl⟩ (fun hHeld => ?_); refine with_tabW bound_Root_api_Fix.tab4 bound_Root_api_Fix.bits4 (fun HT_ HW_ => ?_)
    generalize w43.drew = w44 at BK101 BK102 HB hHeld ⊢
    refine pq_ 0 29 #[true, false, false, false, false, false, false, false, false] HT_ ?_
    refine pq_ 1 30 #[true, true, false, false, false, false, false, false, false] HT_ ?_
    refine pq_ 3 32 #[true, true, false, true, false, false, false, false, false] HT_ ?_
    refine pq_ 5 34 #[true, true, false, true, false, true, false, false, false] HT_ ?_
    refine tq_ 4 33 #[true, true, false, true, true, true, false, false, false] HT_ HW_ hHeld ?_
    refine oq_ 2 (some 31) #[true, true, true, true, true, true, false, false, false] HT_ (fun K hK => ?_)
    refine gq_ Try.func50 #[.int .i64 t108, .int .i64 t108] ?_
    with_reducible refine (num_Product.calls t108 t108 t109 t110 _ A28.out).mono ?_
    rintro e w45 ⟨rfl, hb⟩
    refine ⟨_, rfl, ?_⟩
    replace BK101 := bkb_ BK101 hb rfl
    replace BK102 := bkb_ BK102 hb rfl
    replace HB := hbs_ HB hb rfl rfl rfl rfl
    (try clear hb)
    refine hK.out _ _ ⟨bc_ BK101 0 rfl, bc_ BK101 1 rfl, bc_ BK101 2 rfl⟩ (fun hHeld => ?_)
    clear hK K
    refine nq_ 31 ?_
    refine oq_ 6 (some 35) #[true, true, true, true, true, true, true, false, false] HT_ (fun K hK => ?_)
    refine gq_ Try.func50 #[.int .i64 a0_1, .int .i64 a1] ?_
    with_reducible refine (num_Product.calls a0_1 a1 t111 t112 _ A29.out).mono ?_
    rintro e w46 ⟨rfl, hb⟩
    refine ⟨_, rfl, ?_⟩
    replace BK101 := bkb_ BK101 hb rfl
    replace BK102 := bkb_ BK102 hb rfl
    replace HB := hbs_ HB hb rfl rfl rfl rfl
    (try clear hb)
    refine hK.out _ _ ⟨bc_ BK101 0 rfl, bc_ BK101 1 rfl, bc_ BK101 2 rfl⟩ (fun hHeld => ?_)
    clear hK K
    refine nq_ 35 ?_
    refine oq_ 7 (some 36) #[true, true, true, true, true, true, true, true, false] HT_ (fun K hK => ?_)
    refine gq_ Try.func51 #[.agg #[.int .i64 t109, .int .u64 t110], .agg #[.int .i64 t111, .int .u64 t112]] ?_
    with_reducible refine (num_Wide_Cmp.calls kj2 t109 t110 t111 t112 t113 _ A30.out).mono ?_
    rintro e w47 ⟨rfl, hb⟩
    refine ⟨_, rfl, ?_⟩
    replace BK101 := bkb_ BK101 hb rfl
    replace BK102 := bkb_ BK102 hb rfl
    replace HB := hbs_ HB hb rfl rfl rfl rfl
    (try clear hb)
    refine hK.out _ _ ⟨bc_ BK101 0 rfl, bc_ BK101 1 rfl, bc_ BK101 2 rfl⟩ (fun hHeld => ?_)
    clear hK K
    refine nq_ 36 ?_
    refine pq_ 8 37 #[true, true, true, true, true, true, true, true, true] HT_ ?_
    refine done_ (done_of HT_.out (by kernel_rfl)) ?_
    try go_wp2_with (first | ((with_reducible refine gate_callee (f := 35) rfl ?_); refine glq_ (some 42) Try.func35 #[.int .i64 t107, .int .i64 t108] ?_; (with_reducible refine (bound_Of_api_Fix.calls kj2 t107 t108 t117 t118 t119 _ A42.out).mono ?_); rintro e w48 ⟨rfl, hb⟩; refine ⟨_, rfl, ?_⟩; replace BK101 := bkb_ BK101 hb rfl; replace BK102 := bkb_ BK102 hb rfl; replace HB := hbs_ HB hb rfl rfl rfl rfl; (try clear hb); have hnb49 := NB102_101.out; have hnc49 := NB101_102.out; have hcz50_0 := bc_ BK102 0 rfl; have hcz50_1 := bc_ BK102 1 rfl; have hcz50_2 := bc_ BK102 2 rfl; have hfz50 := blk_frozen BK102.out) | ((with_reducible refine gate_store (t := 41) (p := 4) rfl ?_); refine store_event (t := 41) (p := 4) (v := ?vo_w51) (w1 := (((w48.setCell ⟨gb102, 0, none⟩ (.int .i64 t117)).setCell ⟨gb102, 1, none⟩ (.int .i64 t118)).setCell ⟨gb102, 2, none⟩ (.bool t119))) ?hg ?ho ?hn ?hr ?_; (case ho => rfl); (case hg => rfl); (case hn => rfl); (case hr => first | (go_simp; done) | (go_simp; rfl)); intro w51 hw; replace BK101 : Aside0 (w51.heap[gb101]? = some (.cells #[.int .i64 a0_0, .int .i64 a0_1, .bool a0_2] 41 (0, 0))) := ⟨(by rw [hw]; exact (by exact blk_far (blk_far (blk_far BK101.out NB101_102.out _) NB101_102.out _) NB101_102.out _))⟩; replace BK102 : Aside0 (w51.heap[gb102]? = some (.cells #[.int .i64 t117, .int .i64 t118, .bool t119] 41 (0, 0))) := ⟨(by rw [hw]; exact (by exact blk_put (blk_put (blk_put BK102.out 0 _ rfl) 1 _ rfl) 2 _ rfl))⟩; replace HB : Aside0 (Below w.heap.size w w51) := ⟨(by rw [hw]; exact (by repeat (first | (with_reducible first | exact HB.out | apply below_alloc | apply pw_below_drewN | refine below_set ?_ GE101.out | refine below_set ?_ GE102.out) | exact HB.out)))⟩; clear hw))
    refine bodyPost_ret (results_cell_row rfl _ _ gb102 41 #[.int .i64 t117, .int .i64 t118, .bool t119] (0, 0) _ rfl BK102.out Try.underlying41 rfl (by kernel_rfl)) rfl ?_
    exact ⟨by first | rfl | (simp [errW_none, errW_some] <;> rfl) | (simp only [← hji25]; first | rfl | (simp [errW_none, errW_some] <;> rfl)), by repeat (first | exact HB.out | apply below_alloc | apply pw_below_drewN | refine below_set ?_ GE101.out | refine below_set ?_ GE102.out)⟩

def bound_Neg_api_Fix.f (k : Nat) (a0_0 : Int) (a0_1 : Int) (a0_2 : Bool) : Option (Int × Int × Bool) := (bound_Norm_api_Fix.f k a0_0 a0_1 a0_2).bind fun bt103 => (some (wrap64 (-bt103.2.1), wrap64 (-bt103.1), bt103.2.2))
theorem bound_Neg_api_Fix.mono : ∀ a0 a1 a2 k, LeO (bound_Neg_api_Fix.f k a0 a1 a2) (bound_Neg_api_Fix.f (k + 1) a0 a1 a2) := by
 intro a0 a1 a2 k
 unfold bound_Neg_api_Fix.f
 repeat' first
  | (with_reducible exact bound_Norm_api_Fix.mono _ _ _ _)
  | (with_reducible exact LeO.refl _)
  | (with_reducible exact LeO.none _)
  | (with_reducible refine LeO.ite ?_ ?_)
  | (with_reducible refine LeO.bind ?_ (fun _ => ?_))
set_option maxHeartbeats 8000000 in
set_option maxRecDepth 100000 in
theorem bound_Neg_api_Fix.calls (k : Nat) (a0_0 : Int) (a0_1 : Int) (a0_2 : Bool) (r1 : Int) (r2 : Int) (r3 : Bool) (w : World) (h : bound_Neg_api_Fix.f k a0_0 a0_1 a0_2 = some (r1, r2, r3)) :
 Calls Try.prog 52 #[.agg #[.int .i64 a0_0, .int .i64 a0_1, .bool a0_2]] w fun e w' => e = .returned (.agg #[.int .i64 r1, .int .i64 r2, .bool r3]) ∧ Below w.heap.size w w' := by
  have hu41 := Try.underlying41
  have HB := Aside0.mk (Below.refl w.heap.size w)
  have H : ((bound_Norm_api_Fix.f k a0_0 a0_1 a0_2).bind fun bt103 => (some (wrap64 (-bt103.2.1), wrap64 (-bt103.1), bt103.2.2))) = some (r1, r2, r3) := h
  clear h
  replace H := bso_ H
  obtain ⟨⟨t103, t104, t105⟩, A20, H⟩ := H
  try dsimp -simprocs only at H
  have A2 := Aside0.mk A20
  clear A20
  simp only [Option.some.injEq, Prod.mk.injEq] at H
  obtain ⟨rfl, rfl, rfl⟩ := H
  go_enter Try.func52, Try.ntmps52
  go_wp2_with (first | ((with_reducible refine gate_dst (N := 1) rfl ?_); refine bxq_ 1 #[.int .i64 a0_0, .int .i64 a0_1, .bool a0_2] 41 ?_; intro gb101 hg w3 hbox hb; have BK101 := Aside0.mk (hbox); have GW101 := gwq_ HB hg rfl; have GE101 := GW101; replace HB := hbs_ HB hb rfl rfl rfl rfl; clear hb hbox hg) | ((with_reducible refine gate_dst (N := 2) rfl ?_); refine bxq_ 2 #[.int .i64 0, .int .i64 0, .bool false] 41 ?_; intro gb102 hg w4 hbox hb; have BK102 := Aside0.mk (hbox); have GW102 := gwq_ HB hg rfl; have GE102 := GW102; have NB101_102 := nbl_ BK101 hg rfl; have NB102_101 := nbg_ BK101 hg rfl; replace BK101 := bkb_ BK101 hb rfl; replace HB := hbs_ HB hb rfl rfl rfl rfl; clear hb hbox hg; have hnb5 := NB101_102.out; have hnc5 := NB102_101.out; have hcz6_0 := bc_ BK101 0 rfl; have hcz6_1 := bc_ BK101 1 rfl; have hcz6_2 := bc_ BK101 2 rfl; have hfz6 := blk_frozen BK101.out) | ((with_reducible refine gate_callee (f := 55) rfl ?_); refine glq_ (some 4) Try.func55 #[.agg #[.int .i64 a0_0, .int .i64 a0_1, .bool a0_2]] ?_; (with_reducible refine (bound_Norm_api_Fix.calls k a0_0 a0_1 a0_2 t103 t104 t105 _ A2.out).mono ?_); rintro e w7 ⟨rfl, hb⟩; refine ⟨_, rfl, ?_⟩; replace BK101 := bkb_ BK101 hb rfl; replace BK102 := bkb_ BK102 hb rfl; replace HB := hbs_ HB hb rfl rfl rfl rfl; (try clear hb); have hcz8_0 := bc_ BK101 0 rfl; have hcz8_1 := bc_ BK101 1 rfl; have hcz8_2 := bc_ BK101 2 rfl; have hfz8 := blk_frozen BK101.out) | ((with_reducible refine gate_store (t := 41) (p := 1) rfl ?_); refine store_event (t := 41) (p := 1) (v := ?vo_w9) (w1 := (((w7.setCell ⟨gb101, 0, none⟩ (.int .i64 t103)).setCell ⟨gb101, 1, none⟩ (.int .i64 t104)).setCell ⟨gb101, 2, none⟩ (.bool t105))) ?hg ?ho ?hn ?hr ?_; (case ho => rfl); (case hg => rfl); (case hn => rfl); (case hr => first | (go_simp; done) | (go_simp; rfl)); intro w9 hw; replace BK101 : Aside0 (w9.heap[gb101]? = some (.cells #[.int .i64 t103, .int .i64 t104, .bool t105] 41 (0, 0))) := ⟨(by rw [hw]; exact (by exact blk_put (blk_put (blk_put BK101.out 0 _ rfl) 1 _ rfl) 2 _ rfl))⟩; replace BK102 : Aside0 (w9.heap[gb102]? = some (.cells #[.int .i64 0, .int .i64 0, .bool false] 41 (0, 0))) := ⟨(by rw [hw]; exact (by exact blk_far (blk_far (blk_far BK102.out NB102_101.out _) NB102_101.out _) NB102_101.out _))⟩; replace HB : Aside0 (Below w.heap.size w w9) := ⟨(by rw [hw]; exact (by repeat (first | (with_reducible first | exact HB.out | apply below_alloc | apply pw_below_drewN | refine below_set ?_ GE101.out | refine below_set ?_ GE102.out) | exact HB.out)))⟩; clear hw; have hcz10_0 := bc_ BK101 0 rfl; have hcz10_1 := bc_ BK101 1 rfl; have hcz10_2 := bc_ BK101 2 rfl; have hfz10 := blk_frozen BK101.out) | ((with_reducible refine gate_store (t := 39) (p := 11) rfl ?_); refine store_event (t := 39) (p := 11) (v := ?vo_w11) (w1 := (w9.setCell ⟨gb101, 0, none⟩ (.int .i64 (wrap64 (-t104))))) ?hg ?ho ?hn ?hr ?_; (case ho => rfl); (case hg => rfl); (case hn => rfl); (case hr => first | (go_simp; done) | (go_simp; rfl)); intro w11 hw; replace BK101 : Aside0 (w11.heap[gb101]? = some (.cells #[.int .i64 (wrap64 (-t104)), .int .i64 t104, .bool t105] 41 (0, 0))) := ⟨(by rw [hw]; exact (by exact blk_put BK101.out 0 _ rfl))⟩; replace BK102 : Aside0 (w11.heap[gb102]? = some (.cells #[.int .i64 0, .int .i64 0, .bool false] 41 (0, 0))) := ⟨(by rw [hw]; exact (by exact blk_far BK102.out NB102_101.out _))⟩; replace HB : Aside0 (Below w.heap.size w w11) := ⟨(by rw [hw]; exact (by repeat (first | (with_reducible first | exact HB.out | apply below_alloc | apply pw_below_drewN | refine below_set ?_ GE101.out | refine below_set ?_ GE102.out) | exact HB.out)))⟩; clear hw; have hcz12_0 := bc_ BK101 0 rfl; have hcz12_1 := bc_ BK101 1 rfl; have hcz12_2 := bc_ BK101 2 rfl; have hfz12 := blk_frozen BK101.out) | ((with_reducible refine gate_store (t := 39) (p := 12) rfl ?_); refine store_event (t := 39) (p := 12) (v := ?vo_w13) (w1 := (w11.setCell ⟨gb101, 1, none⟩ (.int .i64 (wrap64 (-t103))))) ?hg ?ho ?hn ?hr ?_; (case ho => rfl); (case hg => rfl); (case hn => rfl); (case hr => first | (go_simp; done) | (go_simp; rfl)); intro w13 hw; replace BK101 : Aside0 (w13.heap[gb101]? = some (.cells #[.int .i64 (wrap64 (-t104)), .int .i64 (wrap64 (-t103)), .bool t105] 41 (0, 0))) := ⟨(by rw [hw]; exact (by exact blk_put BK101.out 1 _ rfl))⟩; replace BK102 : Aside0 (w13.heap[gb102]? = some (.cells #[.int .i64 0, .int .i64 0, .bool false] 41 (0, 0))) := ⟨(by rw [hw]; exact (by exact blk_far BK102.out NB102_101.out _))⟩; replace HB : Aside0 (Below w.heap.size w w13) := ⟨(by rw [hw]; exact (by repeat (first | (with_reducible first | exact HB.out | apply below_alloc | apply pw_below_drewN | refine below_set ?_ GE101.out | refine below_set ?_ GE102.out) | exact HB.out)))⟩; clear hw; have hcz14_0 := bc_ BK101 0 rfl; have hcz14_1 := bc_ BK101 1 rfl; have hcz14_2 := bc_ BK101 2 rfl; have hfz14 := blk_frozen BK101.out; have hcz15_0 := bc_ BK102 0 rfl; have hcz15_1 := bc_ BK102 1 rfl; have hcz15_2 := bc_ BK102 2 rfl; have hfz15 := blk_frozen BK102.out) | ((with_reducible refine gate_store (t := 41) (p := 2) rfl ?_); refine store_event (t := 41) (p := 2) (v := ?vo_w16) (w1 := (((w13.setCell ⟨gb102, 0, none⟩ (.int .i64 (wrap64 (-t104)))).setCell ⟨gb102, 1, none⟩ (.int .i64 (wrap64 (-t103)))).setCell ⟨gb102, 2, none⟩ (.bool t105))) ?hg ?ho ?hn ?hr ?_; (case ho => rfl); (case hg => rfl); (case hn => rfl); (case hr => first | (go_simp; done) | (go_simp; rfl)); intro w16 hw; replace BK101 : Aside0 (w16.heap[gb101]? = some (.cells #[.int .i64 (wrap64 (-t104)), .int .i64 (wrap64 (-t103)), .bool t105] 41 (0, 0))) := ⟨(by rw [hw]; exact (by exact blk_far (blk_far (blk_far BK101.out NB101_102.out _) NB101_102.out _) NB101_102.out _))⟩; replace BK102 : Aside0 (w16.heap[gb102]? = some (.cells #[.int .i64 (wrap64 (-t104)), .int .i64 (wrap64 (-t103)), .bool t105] 41 (0, 0))) := ⟨(by rw [hw]; exact (by exact blk_put (blk_put (blk_put BK102.out 0 _ rfl) 1 _ rfl) 2 _ rfl))⟩; replace HB : Aside0 (Below w.heap.size w w16) := ⟨(by rw [hw]; exact (by repeat (first | (with_reducible first | exact HB.out | apply below_alloc | apply pw_below_drewN | refine below_set ?_ GE101.out | refine below_set ?_ GE102.out) | exact HB.out)))⟩; clear hw))
  refine bodyPost_ret (results_cell_row rfl _ _ gb102 41 #[.int .i64 (wrap64 (-t104)), .int .i64 (wrap64 (-t103)), .bool t105] (0, 0) _ rfl BK102.out Try.underlying41 rfl (by kernel_rfl)) rfl ?_
  exact ⟨by first | rfl | (simp [errW_none, errW_some] <;> rfl), by repeat (first | exact HB.out | apply below_alloc | apply pw_below_drewN | refine below_set ?_ GE101.out | refine below_set ?_ GE102.out)⟩

end Go.Proofs.Ytjgikgbolacikaa.Q
