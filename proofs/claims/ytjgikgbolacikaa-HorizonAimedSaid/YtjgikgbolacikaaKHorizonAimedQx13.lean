/- Contracts, as in the first text; no condition. -/
import Derived.Test.YtjgikgbolacikaaKHorizonAimedQx0
import Derived.Test.YtjgikgbolacikaaKHorizonAimedQx8
namespace Go.Proofs.Ytjgikgbolacikaa.Q
open Go.RowKit Go.Proofs.YtjgikgbolacikaaW.PrintWords Go.Proofs.YtjgikgbolacikaaW.PrintLast Go.Proofs.YtjgikgbolacikaaW.PrintMore
attribute [local go_sem] max2_int min2_int max_two min_two max_three min_three max_four min_four
set_option linter.unusedVariables false
set_option linter.unusedSimpArgs false

def horizon_Aim_1__trig_Cos.f (k : Nat) (a0 : Int) (a1 : Int) : Option (Int) := (trig_Cos.f k a1).bind fun t101 => (some t101)
theorem horizon_Aim_1__trig_Cos.mono : ∀ a0 a1 k, LeO (horizon_Aim_1__trig_Cos.f k a0 a1) (horizon_Aim_1__trig_Cos.f (k + 1) a0 a1) := by
 intro a0 a1 k
 unfold horizon_Aim_1__trig_Cos.f
 repeat' first
  | (with_reducible exact trig_Cos.mono _ _)
  | (with_reducible exact LeO.refl _)
  | (with_reducible exact LeO.none _)
  | (with_reducible refine LeO.ite ?_ ?_)
  | (with_reducible refine LeO.bind ?_ (fun _ => ?_))
set_option maxHeartbeats 8000000 in
set_option maxRecDepth 100000 in
theorem horizon_Aim_1__trig_Cos.calls (k : Nat) (a0 : Int) (a1 : Int) (r : Int) (w : World) (h : horizon_Aim_1__trig_Cos.f k a0 a1 = some r) :
 Calls Try.prog 19 #[.func (.func 20) #[] #[], .int .i64 a1] w fun e w' => e = .returned (.int .i64 r) ∧ Below w.heap.size w w' := by
  have HB := Aside0.mk (Below.refl w.heap.size w)
  have H : ((trig_Cos.f k a1).bind fun t101 => (some t101)) = some r := h
  clear h
  replace H := bso_ H
  obtain ⟨t101, A30, H⟩ := H
  try dsimp -simprocs only at H
  have A3 := Aside0.mk A30
  clear A30
  obtain rfl := Option.some.inj H
  go_enter Try.func19, Try.ntmps19
  go_wp2_with (first | ((with_reducible refine gatev_ (t := 5) rfl ?_); refine goesvL_ (some 7) rfl rfl Try.func20 (by kernel_rfl) rfl #[.int .i64 a1] rfl (by first | rfl | (simp [Act.eval, Act.put] <;> rfl)) (by (try simp only [List.map_toArray, List.map_cons, List.map_nil]); first | done | rfl | (simp only [List.length_drop, List.length_take]; rfl)) ?_; (with_reducible refine (trig_Cos.calls k a1 t101 _ A3.out).mono ?_); rintro e w4 ⟨rfl, hb⟩; refine ⟨_, rfl, ?_⟩; have n0_ := Aside0.mk (below_step (by repeat (first | exact HB.out | apply below_alloc)) hb); clear HB; have HB := n0_; clear n0_; (try clear hb); (try clear hb2); (try clear hk); (try clear hi)))
  go_ret
  exact ⟨by first | rfl | (simp [errW_none, errW_some] <;> rfl), by repeat (first | exact HB.out | apply below_alloc)⟩

end Go.Proofs.Ytjgikgbolacikaa.Q
