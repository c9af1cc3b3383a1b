/- Contracts of Go functions of the seat, one by one: each call returns what the Lean function of the same name says, wherever that is 'some'; no other condition. Written by a program of this session. -/
import Derived.Test.YtbaedcjophgiiaaQx0
import Derived.Test.YtbaedcjophgiiaaQx21
import Derived.Test.YtbaedcjophgiiaaQx22
namespace Go.Proofs.Ytbaedcjophgiiaa.Q
open Go.RowKit Go.Proofs.YtbaedcjophgiiaaW.PrintWords Go.Proofs.YtbaedcjophgiiaaW.PrintLast Go.Proofs.YtbaedcjophgiiaaW.PrintMore
attribute [local go_sem] max2_int min2_int max_two min_two max_three min_three max_four min_four   -- for this text's walks alone
set_option linter.unusedVariables false
set_option linter.unusedSimpArgs false

/-! ### spykeep1_TrigCircle: function 8 -/
def spykeep1_TrigCircle.f (k : Nat) (a0 : Int) : Option (Bool) := (trig_Sin.f k a0).bind fun t101 => ((trig_Cos.f k a0).bind fun t102 => ((spykeep1_trigFact.f k).bind fun t103 => (if t103 = true then (if (wrap64 ((wrap64 ((wrap64 (t101 * t101)) + (wrap64 (t102 * t102)))) - 1152921504606846976)) ≤ 2147483648 then (some (decide ((wrap64 ((wrap64 ((wrap64 (t101 * t101)) + (wrap64 (t102 * t102)))) - 1152921504606846976)) ≥ (-2147483648)))) else (none)) else (none))))
theorem spykeep1_TrigCircle.mono : ∀ a0 k, LeO (spykeep1_TrigCircle.f k a0) (spykeep1_TrigCircle.f (k + 1) a0) := by
  intro a0 k
  unfold spykeep1_TrigCircle.f
  repeat' first
      | (with_reducible exact spykeep1_trigFact.mono _)
      | (with_reducible exact trig_Cos.mono _ _)
      | (with_reducible exact trig_Sin.mono _ _)
      | (with_reducible exact LeO.refl _)
      | (with_reducible exact LeO.none _)
      | (with_reducible refine LeO.ite ?_ ?_)
      | (with_reducible refine LeO.bind ?_ (fun _ => ?_))
      | exact spykeep1_trigFact.mono _
      | exact trig_Cos.mono _ _
      | exact trig_Sin.mono _ _
      | exact LeO.none _
      | refine LeO.ite ?_ ?_
      | refine LeO.bind ?_ (fun _ => ?_)
set_option maxHeartbeats 8000000 in
set_option maxRecDepth 100000 in
theorem spykeep1_TrigCircle.calls (k : Nat) (a0 : Int) (r : Bool) (w : World) (h : spykeep1_TrigCircle.f k a0 = some r) :
    Calls Try.prog 8 #[.int .i64 a0] w fun e w' => e = .returned (.bool r) ∧ Below w.heap.size w w' := by
  have HB := Aside0.mk (Below.refl w.heap.size w)
  have H : ((trig_Sin.f k a0).bind fun t101 => ((trig_Cos.f k a0).bind fun t102 => ((spykeep1_trigFact.f k).bind fun t103 => (if t103 = true then (if (wrap64 ((wrap64 ((wrap64 (t101 * t101)) + (wrap64 (t102 * t102)))) - 1152921504606846976)) ≤ 2147483648 then (some (decide ((wrap64 ((wrap64 ((wrap64 (t101 * t101)) + (wrap64 (t102 * t102)))) - 1152921504606846976)) ≥ (-2147483648)))) else (none)) else (none))))) = some r := h
  clear h
  replace H := Option.bind_eq_some_iff.mp H
  obtain ⟨t101, A20, H⟩ := H
  replace H : ((trig_Cos.f k a0).bind fun t102 => ((spykeep1_trigFact.f k).bind fun t103 => (if t103 = true then (if (wrap64 ((wrap64 ((wrap64 (t101 * t101)) + (wrap64 (t102 * t102)))) - 1152921504606846976)) ≤ 2147483648 then (some (decide ((wrap64 ((wrap64 ((wrap64 (t101 * t101)) + (wrap64 (t102 * t102)))) - 1152921504606846976)) ≥ (-2147483648)))) else (none)) else (none)))) = some r := H
  have A2 := Aside0.mk A20
  clear A20
  replace H := Option.bind_eq_some_iff.mp H
  obtain ⟨t102, A30, H⟩ := H
  replace H : ((spykeep1_trigFact.f k).bind fun t103 => (if t103 = true then (if (wrap64 ((wrap64 ((wrap64 (t101 * t101)) + (wrap64 (t102 * t102)))) - 1152921504606846976)) ≤ 2147483648 then (some (decide ((wrap64 ((wrap64 ((wrap64 (t101 * t101)) + (wrap64 (t102 * t102)))) - 1152921504606846976)) ≥ (-2147483648)))) else (none)) else (none))) = some r := H
  have A3 := Aside0.mk A30
  clear A30
  replace H := Option.bind_eq_some_iff.mp H
  obtain ⟨t103, A40, H⟩ := H
  replace H : (if t103 = true then (if (wrap64 ((wrap64 ((wrap64 (t101 * t101)) + (wrap64 (t102 * t102)))) - 1152921504606846976)) ≤ 2147483648 then (some (decide ((wrap64 ((wrap64 ((wrap64 (t101 * t101)) + (wrap64 (t102 * t102)))) - 1152921504606846976)) ≥ (-2147483648)))) else (none)) else (none)) = some r := H
  have A4 := Aside0.mk A40
  clear A40
  by_cases c5 : t103 = true
  · subst c5
    have H1 : (if (wrap64 ((wrap64 ((wrap64 (t101 * t101)) + (wrap64 (t102 * t102)))) - 1152921504606846976)) ≤ 2147483648 then (some (decide ((wrap64 ((wrap64 ((wrap64 (t101 * t101)) + (wrap64 (t102 * t102)))) - 1152921504606846976)) ≥ (-2147483648)))) else (none)) = some r := by rw [if_pos rfl] at H; exact H
    clear H
    have H := H1
    clear H1
    by_cases c6 : (wrap64 ((wrap64 ((wrap64 (t101 * t101)) + (wrap64 (t102 * t102)))) - 1152921504606846976)) ≤ 2147483648
    · rw [if_pos c6] at H
      have c6b0 : decide ((wrap64 ((wrap64 ((wrap64 (t101 * t101)) + (wrap64 (t102 * t102)))) - 1152921504606846976)) ≤ 2147483648) = true := decide_eq_true c6
      clear c6
      obtain rfl := Option.some.inj H
      go_enter Try.func8, Try.ntmps8
      go_wp2_with (first | ((with_reducible refine gate_callee (f := 31) rfl ?_); refine goesL_ (some 7) rfl rfl Try.func31 (by kernel_rfl) rfl #[.int .i64 a0] rfl (by (try simp only [List.map_toArray, List.map_cons, List.map_nil]); first | done | rfl | (simp only [List.length_drop, List.length_take]; rfl)) ?_; (with_reducible refine (trig_Sin.calls k a0 t101 _ A2.out).mono ?_); rintro e w7 ⟨rfl, hb⟩; refine ⟨_, rfl, ?_⟩; have n0_ := Aside0.mk (below_step (by repeat (first | (with_reducible first | exact HB.out | apply below_alloc | apply pw_below_drewN | apply below_drew1) | exact HB.out)) hb); clear HB; have HB := n0_; clear n0_; (try clear hb); (try clear hb2); (try clear hk); (try clear hi)) | ((with_reducible refine gate_callee (f := 32) rfl ?_); refine goesL_ (some 9) rfl rfl Try.func32 (by kernel_rfl) rfl #[.int .i64 a0] rfl (by (try simp only [List.map_toArray, List.map_cons, List.map_nil]); first | done | rfl | (simp only [List.length_drop, List.length_take]; rfl)) ?_; (with_reducible refine (trig_Cos.calls k a0 t102 _ A3.out).mono ?_); rintro e w8 ⟨rfl, hb⟩; refine ⟨_, rfl, ?_⟩; have n0_ := Aside0.mk (below_step (by repeat (first | (with_reducible first | exact HB.out | apply below_alloc | apply pw_below_drewN | apply below_drew1) | exact HB.out)) hb); clear HB; have HB := n0_; clear n0_; (try clear hb); (try clear hb2); (try clear hk); (try clear hi)) | ((with_reducible refine gate_callee (f := 30) rfl ?_); refine goesL_ (some 18) rfl rfl Try.func30 (by kernel_rfl) rfl #[] rfl (by (try simp only [List.map_toArray, List.map_cons, List.map_nil]); first | done | rfl | (simp only [List.length_drop, List.length_take]; rfl)) ?_; (with_reducible refine (spykeep1_trigFact.calls k  true _ A4.out).mono ?_); rintro e w9 ⟨rfl, hb⟩; refine ⟨_, rfl, ?_⟩; have n0_ := Aside0.mk (below_step (by repeat (first | (with_reducible first | exact HB.out | apply below_alloc | apply pw_below_drewN | apply below_drew1) | exact HB.out)) hb); clear HB; have HB := n0_; clear n0_; (try clear hb); (try clear hb2); (try clear hk); (try clear hi)))
      go_ret
      exact ⟨by first | rfl | (simp [errW_none, errW_some] <;> rfl) | (simp [*, errW_none, errW_some] <;> rfl), by repeat (first | (with_reducible first | exact HB.out | apply below_alloc | apply pw_below_drewN | apply below_drew1) | exact HB.out)⟩
    · rw [if_neg c6] at H
      exact absurd H (by simp)
  · replace c5 := Bool.eq_false_iff.mpr c5
    subst c5
    have H1 : (none) = some r := by rw [if_neg (show ¬ (false = true) by decide)] at H; exact H
    clear H
    have H := H1
    clear H1
    exact absurd H (by simp)

/-- THE ONE PURE STATEMENT of spykeep1_TrigCircle: yours. -/
def spykeep1_TrigCircle.Pure : Prop := ∀ (a0 : Int), (Lit.int .i64 a0).wf = true → ∃ k, spykeep1_TrigCircle.f k a0 = some true
theorem spykeep1_TrigCircle.walk (P : spykeep1_TrigCircle.Pure) (a0 : Int) (w : World) (w0 : (Lit.int .i64 a0).wf = true) :
    Calls Try.prog 8 #[.int .i64 a0] w fun e w' => e = .returned (.bool true) ∧ Below w.heap.size w w' := by
  obtain ⟨k, h⟩ := P a0 w0
  refine (spykeep1_TrigCircle.calls k a0 true w h).mono ?_
  rintro e w' ⟨rfl, hd⟩
  exact ⟨rfl, hd⟩

end Go.Proofs.Ytbaedcjophgiiaa.Q
