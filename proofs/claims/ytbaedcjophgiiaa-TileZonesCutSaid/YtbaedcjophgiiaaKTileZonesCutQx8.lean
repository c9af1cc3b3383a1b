/- Contracts of Go functions of the seat, one by one: each call returns what the Lean function of the same name says, wherever that is 'some'; no other condition. Written by a program of this session. -/
import Derived.Test.YtbaedcjophgiiaaKTileZonesCutQx0
import Derived.Test.YtbaedcjophgiiaaKTileZonesCutQx7
namespace Go.Proofs.Ytbaedcjophgiiaa.Q
open Go.RowKit Go.Proofs.YtbaedcjophgiiaaW.PrintWords Go.Proofs.YtbaedcjophgiiaaW.PrintLast Go.Proofs.YtbaedcjophgiiaaW.PrintMore
attribute [local go_sem] max2_int min2_int max_two min_two max_three min_three max_four min_four   -- for this text's walks alone
set_option linter.unusedVariables false
set_option linter.unusedSimpArgs false

/-! ### spykeep1_tileFact: function 42 -/
def spykeep1_tileFact.f (k : Nat)  : Option (Bool) := (tile_Of.f k 3 (-1) 2 1).bind fun bt101 => (if bt101.2 = 0 then (some (bt101.1 == 34)) else (some false))
theorem spykeep1_tileFact.mono : ∀ k, LeO (spykeep1_tileFact.f k ) (spykeep1_tileFact.f (k + 1) ) := by
 intro  k
 unfold spykeep1_tileFact.f
 repeat' first
  | (with_reducible exact tile_Of.mono _ _ _ _ _)
  | (with_reducible exact LeO.refl _)
  | (with_reducible exact LeO.none _)
  | (with_reducible refine LeO.ite ?_ ?_)
  | (with_reducible refine LeO.bind ?_ (fun _ => ?_))
  | exact tile_Of.mono _ _ _ _ _
  | exact LeO.none _
  | refine LeO.ite ?_ ?_
  | refine LeO.bind ?_ (fun _ => ?_)
set_option maxHeartbeats 8000000 in
set_option maxRecDepth 100000 in
theorem spykeep1_tileFact.calls (k : Nat)  (r : Bool) (w : World) (h : spykeep1_tileFact.f k  = some r) :
 Calls Try.prog 42 #[] w fun e w' => e = .returned (.bool r) ∧ Below w.heap.size w w' := by
  have hu67 := Try.underlying67
  have HB := Aside0.mk (Below.refl w.heap.size w)
  have H : ((tile_Of.f k 3 (-1) 2 1).bind fun bt101 => (if bt101.2 = 0 then (some (bt101.1 == 34)) else (some false))) = some r := h
  clear h
  replace H := Option.bind_eq_some_iff.mp H
  obtain ⟨⟨t101, t102⟩, A10, H⟩ := H
  try dsimp -simprocs only at H
  have A1 := Aside0.mk A10
  clear A10
  by_cases c2 : t102 = 0
  · rw [if_pos c2] at H
    have c2b0 : (t102 == 0) = true := beq_iff_eq.mpr c2
    have c2b1 : (t102 != 0) = false := bne_eq_false_iff_eq.mpr c2
    clear c2
    obtain rfl := Option.some.inj H
    go_enter Try.func42, Try.ntmps42
    go_wp2_with (first | ((with_reducible refine gate_callee (f := 41) rfl ?_); refine glq_ (some 5) Try.func41 #[.agg #[.int .i64 3, .int .i64 (-1), .int .i64 2], .int .i64 1] ?_; (with_reducible refine (tile_Of.calls k 3 (-1) 2 1 t101 t102 _ A1.out).mono ?_); rintro e w3 ⟨rfl, hb⟩; refine ⟨_, rfl, ?_⟩; replace HB := hbs_ HB hb rfl rfl rfl rfl; (try clear hb)))
    go_ret
    exact ⟨by first | rfl | (simp [errW_none, errW_some] <;> rfl) | (simp [*, errW_none, errW_some] <;> rfl), by repeat (first | (with_reducible first | exact HB.out | apply below_alloc | apply pw_below_drewN | apply below_drew1) | exact HB.out)⟩
  rw [if_neg c2] at H
  have c2b0 : (t102 == 0) = false := beq_eq_false_iff_ne.mpr c2
  have c2b1 : (t102 != 0) = true := bne_iff_ne.mpr c2
  obtain rfl := Option.some.inj H
  go_enter Try.func42, Try.ntmps42
  go_wp2_with (first | ((with_reducible refine gate_callee (f := 41) rfl ?_); refine glq_ (some 5) Try.func41 #[.agg #[.int .i64 3, .int .i64 (-1), .int .i64 2], .int .i64 1] ?_; (with_reducible refine (tile_Of.calls k 3 (-1) 2 1 t101 t102 _ A1.out).mono ?_); rintro e w4 ⟨rfl, hb⟩; refine ⟨_, rfl, ?_⟩; replace HB := hbs_ HB hb rfl rfl rfl rfl; (try clear hb)))
  go_ret
  exact ⟨by first | rfl | (simp [errW_none, errW_some] <;> rfl) | (simp [*, errW_none, errW_some] <;> rfl), by repeat (first | (with_reducible first | exact HB.out | apply below_alloc | apply pw_below_drewN | apply below_drew1) | exact HB.out)⟩

end Go.Proofs.Ytbaedcjophgiiaa.Q
