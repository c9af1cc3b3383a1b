/- Contracts of Go functions of the seat, one by one: each call returns what the Lean function of the same name says, wherever that is 'some'; no other condition. Written by a program of this session. -/
import Derived.Test.YtpbfjcohiibpcaaDoorQx0
import Derived.Test.YtpbfjcohiibpcaaDoorQx2
namespace Go.Proofs.YtpbfjcohiibpcaaDoor.Q
open Go.RowKit Go.Proofs.YtpbfjcohiibpcaaDoorW.PrintWords Go.Proofs.YtpbfjcohiibpcaaDoorW.PrintLast Go.Proofs.YtpbfjcohiibpcaaDoorW.PrintMore
attribute [local go_sem] max2_int min2_int max_two min_two max_three min_three max_four min_four   -- for this text's walks alone
set_option linter.unusedVariables false
set_option linter.unusedSimpArgs false

/-! ### scale_ToCivil_1: function 15 -/
def scale_ToCivil_1.f (k : Nat) (a0 : Int) (l1 : List (List (S45))) : Option (Int) := if 0 < (l1.length : Int) then ((scale_before.f k (rd_L2 l1 0) a0).bind fun bt102 => (some (wrap64 ((wrap64 (a0 * 86400000)) + (wrap64 (bt102.1 * 1000)))))) else (none)
theorem scale_ToCivil_1.mono : ∀ a0 a1 k, LeO (scale_ToCivil_1.f k a0 a1) (scale_ToCivil_1.f (k + 1) a0 a1) := by
 intro a0 a1 k
 unfold scale_ToCivil_1.f
 repeat' first
  | (with_reducible exact scale_before.mono _ _ _)
  | (with_reducible exact LeO.refl _)
  | (with_reducible exact LeO.none _)
  | (with_reducible refine LeO.ite ?_ ?_)
  | (with_reducible refine LeO.bind ?_ (fun _ => ?_))
  | exact scale_before.mono _ _ _
  | exact LeO.none _
  | refine LeO.ite ?_ ?_
  | refine LeO.bind ?_ (fun _ => ?_)
set_option maxHeartbeats 8000000 in
set_option maxRecDepth 100000 in
theorem scale_ToCivil_1.calls (k : Nat) (a0 : Int) (A1 : Option Addr) (c1 : Nat) (l1 : List (List (S45))) (r : Int) (w : World) (hr1 : Kd.C (Kd.slice 45 k45) w A1 l1.length l1) (hc1 : l1.length ≤ c1) (h : scale_ToCivil_1.f k a0 l1 = some r) :
 Calls Tryd.prog 15 #[.int .i64 a0, .pointer A1] w fun e w' => e = .returned (.int .i64 r) ∧ Below w.heap.size w w' := by
  have HR1 := Aside0.mk hr1
  have HC1 := Aside0.mk hc1
  clear hr1 hc1
  have HB := Aside0.mk (Below.refl w.heap.size w)
  have H : (if 0 < (l1.length : Int) then ((scale_before.f k (rd_L2 l1 0) a0).bind fun bt102 => (some (wrap64 ((wrap64 (a0 * 86400000)) + (wrap64 (bt102.1 * 1000)))))) else (none)) = some r := h
  clear h
  by_cases c3 : 0 < (l1.length : Int)
  rotate_left
  · rw [if_neg c3] at H
    exact absurd H (by simp)
  rw [if_pos c3] at H
  have c3b0 : decide (0 < (l1.length : Int)) = true := decide_eq_true c3
  have c3b1 : decide (0 < l1.length) = true := decide_eq_true (by omega)
  clear c3
  replace H := Option.bind_eq_some_iff.mp H
  obtain ⟨⟨t102, t103⟩, A40, H⟩ := H
  try dsimp -simprocs only at H
  have A4 := Aside0.mk A40
  clear A40
  obtain rfl := Option.some.inj H
  have p101 : 0 ≤ (0 : Int) := (by omega)
  have q101 : 0 < (l1.length : Int) := of_decide_eq_true (by first | (with_reducible assumption) | assumption)
  obtain ⟨ad101, A101_0, c101_0, e101, hx101_0, hl101_0, hi101_0⟩ := at_L2 HR1.out 0 p101 q101
  cases e101
  have qi101 : (0 < l1.length) = True := eq_true (by omega)
  (try rw [show ((0 : Int)).toNat = 0 from rfl] at hx101_0)
  (try rw [Addr.add_zero'] at hx101_0)
  have HR101_0 := Aside0.mk hi101_0
  have HC101_0 := Aside0.mk hl101_0
  clear hi101_0 hl101_0
  replace p101 := eq_true p101
  replace q101 := eq_true q101
  go_enter Tryd.func15, Tryd.ntmps15
  go_wp2_with (first | ((with_reducible refine gate_callee (f := 16) rfl ?_); refine glq_ (some 9) Tryd.func16 #[.slice A101_0 (rd_L2 l1 0).length c101_0, .int .i64 a0] ?_; (with_reducible refine (scale_before.calls k _ _ (rd_L2 l1 0) a0 t102 t103 _ ?side1 ?side2 A4.out).mono ?_); (case side1 => repeat (first | exact HR101_0.out | (with_reducible refine Kd.C_alloc ?_ _) | (with_reducible refine Kd.C_drewN ?_ _) | (with_reducible refine Kd.C_drew ?_))); (case side2 => exact HC101_0.out); rintro e w5 ⟨rfl, hb⟩; refine ⟨_, rfl, ?_⟩; replace HB := hbs_ HB hb rfl rfl rfl rfl; (try clear hb)))
  go_ret
  exact ⟨by first | rfl | (simp [errW_none, errW_some] <;> rfl) | (simp [*, errW_none, errW_some] <;> rfl), by repeat (first | (with_reducible first | exact HB.out | apply below_alloc | apply pw_below_drewN | apply below_drew1) | exact HB.out)⟩

end Go.Proofs.YtpbfjcohiibpcaaDoor.Q
