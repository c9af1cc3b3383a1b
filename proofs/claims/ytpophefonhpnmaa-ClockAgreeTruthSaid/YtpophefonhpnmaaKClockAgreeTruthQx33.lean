/- Contracts of Go functions of the seat, one by one: each call returns what the Lean function of the same name says, wherever that is 'some'; no other condition. Written by a program of this session. -/
import Derived.Test.YtpophefonhpnmaaKClockAgreeTruthQx0
import Derived.Test.YtpophefonhpnmaaKClockAgreeTruthQx1
import Derived.Test.YtpophefonhpnmaaKClockAgreeTruthQx30
namespace Go.Proofs.Ytpophefonhpnmaa.Q
open Go.RowKit Go.Proofs.YtpophefonhpnmaaW.PrintWords Go.Proofs.YtpophefonhpnmaaW.PrintLast Go.Proofs.YtpophefonhpnmaaW.PrintMore
attribute [local go_sem] max2_int min2_int max_two min_two max_three min_three max_four min_four   -- for this text's walks alone
set_option linter.unusedVariables false
set_option linter.unusedSimpArgs false

attribute [local go_sem high] eqA31
/-! ### spykeep1_clockFact: function 14 -/
def spykeep1_clockFact.f (k : Nat)  : Option (Bool) := (clock_Uniform.f k 1000 5000 5010 false 100000 1100).bind fun bt101 => (some (bt101.1 == 5090 && (bt101.2.1 == 5123 && (!bt101.2.2))))
theorem spykeep1_clockFact.mono : ∀ k, LeO (spykeep1_clockFact.f k ) (spykeep1_clockFact.f (k + 1) ) := by
 intro  k
 unfold spykeep1_clockFact.f
 repeat' first
  | (with_reducible exact clock_Uniform.mono _ _ _ _ _ _ _)
  | (with_reducible exact LeO.refl _)
  | (with_reducible exact LeO.none _)
  | (with_reducible refine LeO.ite ?_ ?_)
  | (with_reducible refine LeO.bind ?_ (fun _ => ?_))
  | exact clock_Uniform.mono _ _ _ _ _ _ _
  | exact LeO.none _
  | refine LeO.ite ?_ ?_
  | refine LeO.bind ?_ (fun _ => ?_)
set_option maxHeartbeats 8000000 in
set_option maxRecDepth 100000 in
theorem spykeep1_clockFact.calls (k : Nat)  (r : Bool) (w : World) (h : spykeep1_clockFact.f k  = some r) :
 Calls Try.prog 14 #[] w fun e w' => e = .returned (.bool r) ∧ Below w.heap.size w w' := by
 have hu31 := Try.underlying31
 have hu33 := Try.underlying33
 have HB := Aside0.mk (Below.refl w.heap.size w)
 have H : ((clock_Uniform.f k 1000 5000 5010 false 100000 1100).bind fun bt101 => (some (bt101.1 == 5090 && (bt101.2.1 == 5123 && (!bt101.2.2))))) = some r := h
 clear h
 replace H := Option.bind_eq_some_iff.mp H
 obtain ⟨⟨t101, t102, t103⟩, A10, H⟩ := H
 replace H : (some (t101 == 5090 && (t102 == 5123 && (!t103)))) = some r := H
 have A1 := Aside0.mk A10
 clear A10
 obtain rfl := Option.some.inj H
 go_enter Try.func14, Try.ntmps14
 go_wp2_with (first | ((with_reducible refine gate_callee (f := 20) rfl ?_); refine goesL_ (some 3) rfl rfl Try.func20 (by kernel_rfl) rfl #[.agg #[.int .i64 1000, .int .i64 5000, .int .i64 5010, .bool false, .int .i64 100000], .int .i64 1100] rfl (by (try simp only [List.map_toArray, List.map_cons, List.map_nil]); first | done | rfl | (simp only [List.length_drop, List.length_take]; rfl)) ?_; (with_reducible refine (clock_Uniform.calls k 1000 5000 5010 false 100000 1100 t101 t102 t103 _ A1.out).mono ?_); rintro e w2 ⟨rfl, hb⟩; refine ⟨_, rfl, ?_⟩; have n0_ := Aside0.mk (below_step (by repeat (first | (with_reducible first | exact HB.out | apply below_alloc | apply pw_below_drewN | apply below_drew1) | exact HB.out)) hb); clear HB; have HB := n0_; clear n0_; (try clear hb); (try clear hb2); (try clear hk); (try clear hi)))
 go_ret
 exact ⟨by first | rfl | (simp [errW_none, errW_some] <;> rfl) | (simp [*, errW_none, errW_some] <;> rfl), by repeat (first | (with_reducible first | exact HB.out | apply below_alloc | apply pw_below_drewN | apply below_drew1) | exact HB.out)⟩

end Go.Proofs.Ytpophefonhpnmaa.Q
