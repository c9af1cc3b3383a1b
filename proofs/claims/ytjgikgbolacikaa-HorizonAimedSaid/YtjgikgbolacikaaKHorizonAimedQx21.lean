/- Contracts, as in the first text; no condition. -/
import Derived.Test.YtjgikgbolacikaaKHorizonAimedQx0
import Derived.Test.YtjgikgbolacikaaKHorizonAimedQx6
namespace Go.Proofs.Ytjgikgbolacikaa.Q
open Go.RowKit Go.Proofs.YtjgikgbolacikaaW.PrintWords Go.Proofs.YtjgikgbolacikaaW.PrintLast Go.Proofs.YtjgikgbolacikaaW.PrintMore
attribute [local go_sem] max2_int min2_int max_two min_two max_three min_three max_four min_four
set_option linter.unusedVariables false
set_option linter.unusedSimpArgs false

def bound_Mul_api_Fix_2.f (k : Nat) (a0 : Int) (a1 : Int) (l2 : List Int) : Option (Int × Int) := if 0 < (l2.length : Int) then ((num_MulDivUp.f k a0 a1 (rd l2 0)).bind fun bt102 => (some (bt102.1, bt102.2))) else (none)
theorem bound_Mul_api_Fix_2.mono : ∀ a0 a1 a2 k, LeO (bound_Mul_api_Fix_2.f k a0 a1 a2) (bound_Mul_api_Fix_2.f (k + 1) a0 a1 a2) := by
 intro a0 a1 a2 k
 unfold bound_Mul_api_Fix_2.f
 repeat' first
  | (with_reducible exact num_MulDivUp.mono _ _ _ _)
  | (with_reducible exact LeO.refl _)
  | (with_reducible exact LeO.none _)
  | (with_reducible refine LeO.ite ?_ ?_)
  | (with_reducible refine LeO.bind ?_ (fun _ => ?_))
set_option maxHeartbeats 8000000 in
set_option maxRecDepth 100000 in
theorem bound_Mul_api_Fix_2.calls (k : Nat) (a0 : Int) (a1 : Int) (A2 : Option Addr) (c2 : Nat) (l2 : List Int) (r1 : Int) (r2 : Int) (w : World) (hr2 : Kd.C (Kd.int .i64) w A2 l2.length l2) (hc2 : l2.length ≤ c2) (h : bound_Mul_api_Fix_2.f k a0 a1 l2 = some (r1, r2)) :
 Calls Try.prog 48 #[.int .i64 a0, .int .i64 a1, .pointer A2] w fun e w' => e = .returned (.tuple #[.int .i64 r1, .int .i64 r2]) ∧ Below w.heap.size w w' := by
  have HR2 := Aside0.mk hr2
  have HC2 := Aside0.mk hc2
  clear hr2 hc2
  have HB := Aside0.mk (Below.refl w.heap.size w)
  have H : (if 0 < (l2.length : Int) then ((num_MulDivUp.f k a0 a1 (rd l2 0)).bind fun bt102 => (some (bt102.1, bt102.2))) else (none)) = some (r1, r2) := h
  clear h
  by_cases c4 : 0 < (l2.length : Int)
  rotate_left
  · rw [if_neg c4] at H
    exact absurd H (by simp)
  rw [if_pos c4] at H
  have c4b0 : decide (0 < (l2.length : Int)) = true := decide_eq_true c4
  have c4b1 : decide (0 < l2.length) = true := decide_eq_true (by omega)
  clear c4
  replace H := bso_ H
  obtain ⟨⟨t102, t103⟩, A50, H⟩ := H
  try dsimp -simprocs only at H
  have A5 := Aside0.mk A50
  clear A50
  simp only [Option.some.injEq, Prod.mk.injEq] at H
  obtain ⟨rfl, rfl⟩ := H
  have p101 : 0 ≤ (0 : Int) := (by omega)
  have q101 : 0 < (l2.length : Int) := of_decide_eq_true (by first | (with_reducible assumption) | assumption)
  obtain ⟨ad101, e101, hx101_0⟩ := Kd.at_int HR2.out 0 p101 q101
  cases e101
  have qi101 : (0 < l2.length) = True := eq_true (by omega)
  (try rw [show ((0 : Int)).toNat = 0 from rfl] at hx101_0)
  (try rw [Addr.add_zero'] at hx101_0)
  replace p101 := eq_true p101
  replace q101 := eq_true q101
  go_enter Try.func48, Try.ntmps48
  go_wp2_with (first | ((with_reducible refine gate_callee (f := 49) rfl ?_); refine glq_ (some 10) Try.func49 #[.int .i64 a0, .int .i64 a1, .int .i64 (rd l2 0)] ?_; (with_reducible refine (num_MulDivUp.calls k a0 a1 (rd l2 0) t102 t103 _ A5.out).mono ?_); rintro e w6 ⟨rfl, hb⟩; refine ⟨_, rfl, ?_⟩; replace HB := hbs_ HB hb rfl rfl rfl rfl; (try clear hb)))
  go_ret2
  exact ⟨by first | rfl | (simp [errW_none, errW_some] <;> rfl), by repeat (first | exact HB.out | apply below_alloc)⟩

end Go.Proofs.Ytjgikgbolacikaa.Q
