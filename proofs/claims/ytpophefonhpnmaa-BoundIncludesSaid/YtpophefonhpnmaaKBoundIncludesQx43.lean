/- Contracts of Go functions of the seat, one by one: each call returns what the Lean function of the same name says, wherever that is 'some'; no other condition. Written by a program of this session. -/
import Derived.Test.YtpophefonhpnmaaKBoundIncludesQx0
import Derived.Test.YtpophefonhpnmaaKBoundIncludesQx2
import Derived.Test.YtpophefonhpnmaaKBoundIncludesQx42
namespace Go.Proofs.Ytpophefonhpnmaa.Q
open Go.RowKit Go.Proofs.YtpophefonhpnmaaW.PrintWords Go.Proofs.YtpophefonhpnmaaW.PrintLast Go.Proofs.YtpophefonhpnmaaW.PrintMore
attribute [local go_sem] max2_int min2_int max_two min_two max_three min_three max_four min_four   -- for this text's walks alone
set_option linter.unusedVariables false
set_option linter.unusedSimpArgs false

attribute [local go_sem high] eqA56
/-! ### spykeep1_boundFact: function 25 -/
def spykeep1_boundFact.f (k : Nat)  : Option (Bool) := (bound_Mul_api_Fix.f k (-3) 2 false 5 7 false 2).bind fun bt101 => (some (bt101.1 == (-11) && (bt101.2.1 == 7 && (!bt101.2.2))))
theorem spykeep1_boundFact.mono : ∀ k, LeO (spykeep1_boundFact.f k ) (spykeep1_boundFact.f (k + 1) ) := by
 intro  k
 unfold spykeep1_boundFact.f
 repeat' first
  | (with_reducible exact bound_Mul_api_Fix.mono _ _ _ _ _ _ _ _)
  | (with_reducible exact LeO.refl _)
  | (with_reducible exact LeO.none _)
  | (with_reducible refine LeO.ite ?_ ?_)
  | (with_reducible refine LeO.bind ?_ (fun _ => ?_))
  | exact bound_Mul_api_Fix.mono _ _ _ _ _ _ _ _
  | exact LeO.none _
  | refine LeO.ite ?_ ?_
  | refine LeO.bind ?_ (fun _ => ?_)
set_option maxHeartbeats 8000000 in
set_option maxRecDepth 100000 in
theorem spykeep1_boundFact.calls (k : Nat)  (r : Bool) (w : World) (h : spykeep1_boundFact.f k  = some r) :
 Calls Try.prog 25 #[] w fun e w' => e = .returned (.bool r) ∧ Below w.heap.size w w' := by
  have hu56 := Try.underlying56
  have HB := Aside0.mk (Below.refl w.heap.size w)
  have H : ((bound_Mul_api_Fix.f k (-3) 2 false 5 7 false 2).bind fun bt101 => (some (bt101.1 == (-11) && (bt101.2.1 == 7 && (!bt101.2.2))))) = some r := h
  clear h
  replace H := Option.bind_eq_some_iff.mp H
  obtain ⟨⟨t101, t102, t103⟩, A10, H⟩ := H
  try dsimp -simprocs only at H
  have A1 := Aside0.mk A10
  clear A10
  obtain rfl := Option.some.inj H
  go_enter Try.func25, Try.ntmps25
  go_wp2_with (first | ((with_reducible refine gate_callee (f := 41) rfl ?_); refine glq_ (some 3) Try.func41 #[.agg #[.int .i64 (-3), .int .i64 2, .bool false], .agg #[.int .i64 5, .int .i64 7, .bool false], .int .i64 2] ?_; (with_reducible refine (bound_Mul_api_Fix.calls k (-3) 2 false 5 7 false 2 t101 t102 t103 _ A1.out).mono ?_); rintro e w2 ⟨rfl, hb⟩; refine ⟨_, rfl, ?_⟩; replace HB := hbs_ HB hb rfl rfl rfl rfl; (try clear hb)))
  go_ret
  exact ⟨by first | rfl | (simp [errW_none, errW_some] <;> rfl) | (simp [*, errW_none, errW_some] <;> rfl), by repeat (first | (with_reducible first | exact HB.out | apply below_alloc | apply pw_below_drewN | apply below_drew1) | exact HB.out)⟩

end Go.Proofs.Ytpophefonhpnmaa.Q
