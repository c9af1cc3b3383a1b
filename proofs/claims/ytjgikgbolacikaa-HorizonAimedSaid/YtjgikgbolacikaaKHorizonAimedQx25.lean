/- Contracts, as in the first text; no condition. -/
import Derived.Test.YtjgikgbolacikaaKHorizonAimedQx0
import Derived.Test.YtjgikgbolacikaaKHorizonAimedQx24
namespace Go.Proofs.Ytjgikgbolacikaa.Q
open Go.RowKit Go.Proofs.YtjgikgbolacikaaW.PrintWords Go.Proofs.YtjgikgbolacikaaW.PrintLast Go.Proofs.YtjgikgbolacikaaW.PrintMore
attribute [local go_sem] max2_int min2_int max_two min_two max_three min_three max_four min_four
set_option linter.unusedVariables false
set_option linter.unusedSimpArgs false

def trig_CosBound.f (k : Nat) (a0_0 : Int) (a0_1 : Int) (a0_2 : Bool) : Option (Int × Int × Bool) := (trig_wave__trig_Cos.f k a0_0 a0_1 a0_2 0 0).bind fun bt103 => (some (bt103.1, bt103.2.1, bt103.2.2))
theorem trig_CosBound.mono : ∀ a0 a1 a2 k, LeO (trig_CosBound.f k a0 a1 a2) (trig_CosBound.f (k + 1) a0 a1 a2) := by
 intro a0 a1 a2 k
 unfold trig_CosBound.f
 repeat' first
  | (with_reducible exact trig_wave__trig_Cos.mono _ _ _ _ _ _)
  | (with_reducible exact LeO.refl _)
  | (with_reducible exact LeO.none _)
  | (with_reducible refine LeO.ite ?_ ?_)
  | (with_reducible refine LeO.bind ?_ (fun _ => ?_))
set_option maxHeartbeats 8000000 in
set_option maxRecDepth 100000 in
theorem trig_CosBound.calls (k : Nat) (a0_0 : Int) (a0_1 : Int) (a0_2 : Bool) (r1 : Int) (r2 : Int) (r3 : Bool) (w : World) (h : trig_CosBound.f k a0_0 a0_1 a0_2 = some (r1, r2, r3)) :
 Calls Try.prog 28 #[.agg #[.int .i64 a0_0, .int .i64 a0_1, .bool a0_2]] w fun e w' => e = .returned (.agg #[.int .i64 r1, .int .i64 r2, .bool r3]) ∧ Below w.heap.size w w' := by
  have hu44 := Try.underlying44
  have hu41 := Try.underlying41
  have HB := Aside0.mk (Below.refl w.heap.size w)
  have H : ((trig_wave__trig_Cos.f k a0_0 a0_1 a0_2 0 0).bind fun bt103 => (some (bt103.1, bt103.2.1, bt103.2.2))) = some (r1, r2, r3) := h
  clear h
  replace H := bso_ H
  obtain ⟨⟨t103, t104, t105⟩, A20, H⟩ := H
  try dsimp -simprocs only at H
  have A2 := Aside0.mk A20
  clear A20
  simp only [Option.some.injEq, Prod.mk.injEq] at H
  obtain ⟨rfl, rfl, rfl⟩ := H
  go_enter Try.func28, Try.ntmps28
  go_wp2_with (first | ((with_reducible refine gate_dst (N := 1) rfl ?_); refine bxq_ 1 #[.int .i64 a0_0, .int .i64 a0_1, .bool a0_2] 44 ?_; intro gb101 hg w3 hbox hb; have BK101 := Aside0.mk (hbox); have GW101 := gwq_ HB hg rfl; have GE101 := GW101; replace HB := hbs_ HB hb rfl rfl rfl rfl; clear hb hbox hg) | ((with_reducible refine gate_dst (N := 2) rfl ?_); refine bxq_ 2 #[.int .i64 0, .int .i64 0, .bool false] 41 ?_; intro gb102 hg w4 hbox hb; have BK102 := Aside0.mk (hbox); have GW102 := gwq_ HB hg rfl; have GE102 := GW102; have NB101_102 := nbl_ BK101 hg rfl; have NB102_101 := nbg_ BK101 hg rfl; replace BK101 := bkb_ BK101 hb rfl; replace HB := hbs_ HB hb rfl rfl rfl rfl; clear hb hbox hg; have hnb5 := NB101_102.out; have hnc5 := NB102_101.out; have hcz6_0 := bc_ BK101 0 rfl; have hcz6_1 := bc_ BK101 1 rfl; have hcz6_2 := bc_ BK101 2 rfl; have hfz6 := blk_frozen BK101.out) | ((with_reducible refine gate_callee (f := 44) rfl ?_); refine glq_ (some 4) Try.func44 #[.agg #[.int .i64 a0_0, .int .i64 a0_1, .bool a0_2], .func (.func 20) #[] #[], .int .i64 0] ?_; (with_reducible refine (trig_wave__trig_Cos.calls k a0_0 a0_1 a0_2 0 0 t103 t104 t105 _ A2.out).mono ?_); rintro e w7 ⟨rfl, hb⟩; refine ⟨_, rfl, ?_⟩; replace BK101 := bkb_ BK101 hb rfl; replace BK102 := bkb_ BK102 hb rfl; replace HB := hbs_ HB hb rfl rfl rfl rfl; (try clear hb); have hcz8_0 := bc_ BK102 0 rfl; have hcz8_1 := bc_ BK102 1 rfl; have hcz8_2 := bc_ BK102 2 rfl; have hfz8 := blk_frozen BK102.out))
  refine bodyPost_ret (results_cell_row rfl _ _ gb102 41 #[.int .i64 t103, .int .i64 t104, .bool t105] (0, 0) _ rfl (by exact blk_put (blk_put (blk_put BK102.out 0 _ rfl) 1 _ rfl) 2 _ rfl) Try.underlying41 rfl (by kernel_rfl)) rfl ?_
  exact ⟨by first | rfl | (simp [errW_none, errW_some] <;> rfl), by repeat (first | exact HB.out | apply below_alloc | refine below_set ?_ GE101.out | refine below_set ?_ GE102.out)⟩

end Go.Proofs.Ytjgikgbolacikaa.Q
