/- Contracts of Go functions of the seat, one by one: each call returns what the Lean function of the same name says, wherever that is 'some'; no other condition. Written by a program of this session. -/
import Derived.Test.YtbaedcjophgiiaaQx0
import Derived.Test.YtbaedcjophgiiaaQx4
import Derived.Test.YtbaedcjophgiiaaQx7
import Derived.Test.YtbaedcjophgiiaaQx10
namespace Go.Proofs.Ytbaedcjophgiiaa.Q
open Go.RowKit Go.Proofs.YtbaedcjophgiiaaW.PrintWords Go.Proofs.YtbaedcjophgiiaaW.PrintLast Go.Proofs.YtbaedcjophgiiaaW.PrintMore
attribute [local go_sem] max2_int min2_int max_two min_two max_three min_three max_four min_four   -- for this text's walks alone
set_option linter.unusedVariables false
set_option linter.unusedSimpArgs false

/-! ### spykeep1_ScaleDays: function 3 -/
def spykeep1_ScaleDays.f (k : Nat) (a0 : Int) : Option (Bool) := (spymake_Below.f a0 3600000).bind fun t101 => ((scale_Date.f k (wrap64 (t101 - 700000))).bind fun bt102 => ((scale_Date.f k (wrap64 ((wrap64 (t101 - 700000)) + 1))).bind fun bt106 => ((spykeep1_scaleFact.f k).bind fun t110 => (if t110 = true then (if bt102.2.2.2 = 0 then (if bt106.2.2.2 = 0 then ((scale_Days.f k bt102.1 bt102.2.1 bt102.2.2.1).bind fun bt111 => (if bt106.1 = bt102.1 then (if bt106.2.1 = bt102.2.1 then (if bt106.2.2.1 = (wrap64 (bt102.2.2.1 + 1)) then (if bt111.2 = 0 then (if bt111.1 = (wrap64 (t101 - 700000)) then (some true) else (none)) else (none)) else (if bt106.2.2.1 = 1 then (if bt102.2.2.1 ≥ 28 then (if bt106.2.1 = (wrap64 (bt102.2.1 + 1)) then (if bt111.2 = 0 then (if bt111.1 = (wrap64 (t101 - 700000)) then (some true) else (none)) else (none)) else (if bt106.1 = (wrap64 (bt102.1 + 1)) then (if bt106.2.1 = 1 then (if bt102.2.1 = 12 then (if bt111.2 = 0 then (if bt111.1 = (wrap64 (t101 - 700000)) then (some (bt102.2.2.1 == 31)) else (none)) else (none)) else (none)) else (none)) else (none))) else (none)) else (none))) else (if bt106.2.2.1 = 1 then (if bt102.2.2.1 ≥ 28 then (if bt106.2.1 = (wrap64 (bt102.2.1 + 1)) then (if bt111.2 = 0 then (if bt111.1 = (wrap64 (t101 - 700000)) then (some true) else (none)) else (none)) else (if bt106.1 = (wrap64 (bt102.1 + 1)) then (if bt106.2.1 = 1 then (if bt102.2.1 = 12 then (if bt111.2 = 0 then (if bt111.1 = (wrap64 (t101 - 700000)) then (some (bt102.2.2.1 == 31)) else (none)) else (none)) else (none)) else (none)) else (none))) else (none)) else (none))) else (if bt106.2.2.1 = 1 then (if bt102.2.2.1 ≥ 28 then (if bt106.1 = (wrap64 (bt102.1 + 1)) then (if bt106.2.1 = 1 then (if bt102.2.1 = 12 then (if bt111.2 = 0 then (if bt111.1 = (wrap64 (t101 - 700000)) then (some (bt102.2.2.1 == 31)) else (none)) else (none)) else (none)) else (none)) else (none)) else (none)) else (none)))) else (if (wrap64 ((wrap64 (t101 - 700000)) + 1)) > 2900000 then (some (bt106.2.2.2 == 4)) else (none))) else (if (wrap64 ((wrap64 (t101 - 700000)) + 1)) > 2900000 then (some (bt106.2.2.2 == 4)) else (none))) else (none)))))
theorem spykeep1_ScaleDays.mono : ∀ a0 k, LeO (spykeep1_ScaleDays.f k a0) (spykeep1_ScaleDays.f (k + 1) a0) := by
  intro a0 k
  unfold spykeep1_ScaleDays.f
  repeat' first
      | (with_reducible exact scale_Date.mono _ _)
      | (with_reducible exact scale_Days.mono _ _ _ _)
      | (with_reducible exact spykeep1_scaleFact.mono _)
      | (with_reducible exact LeO.refl _)
      | (with_reducible exact LeO.none _)
      | (with_reducible refine LeO.ite ?_ ?_)
      | (with_reducible refine LeO.bind ?_ (fun _ => ?_))
      | exact scale_Date.mono _ _
      | exact scale_Days.mono _ _ _ _
      | exact spykeep1_scaleFact.mono _
      | exact LeO.none _
      | refine LeO.ite ?_ ?_
      | refine LeO.bind ?_ (fun _ => ?_)
set_option maxHeartbeats 8000000 in
set_option maxRecDepth 100000 in
theorem spykeep1_ScaleDays.calls (k : Nat) (a0 : Int) (r : Bool) (w : World) (h : spykeep1_ScaleDays.f k a0 = some r) :
    Calls Try.prog 3 #[.int .i64 a0] w fun e w' => e = .returned (.bool r) ∧ Below w.heap.size w w' := by
  have HB := Aside0.mk (Below.refl w.heap.size w)
  have H : ((spymake_Below.f a0 3600000).bind fun t101 => ((scale_Date.f k (wrap64 (t101 - 700000))).bind fun bt102 => ((scale_Date.f k (wrap64 ((wrap64 (t101 - 700000)) + 1))).bind fun bt106 => ((spykeep1_scaleFact.f k).bind fun t110 => (if t110 = true then (if bt102.2.2.2 = 0 then (if bt106.2.2.2 = 0 then ((scale_Days.f k bt102.1 bt102.2.1 bt102.2.2.1).bind fun bt111 => (if bt106.1 = bt102.1 then (if bt106.2.1 = bt102.2.1 then (if bt106.2.2.1 = (wrap64 (bt102.2.2.1 + 1)) then (if bt111.2 = 0 then (if bt111.1 = (wrap64 (t101 - 700000)) then (some true) else (none)) else (none)) else (if bt106.2.2.1 = 1 then (if bt102.2.2.1 ≥ 28 then (if bt106.2.1 = (wrap64 (bt102.2.1 + 1)) then (if bt111.2 = 0 then (if bt111.1 = (wrap64 (t101 - 700000)) then (some true) else (none)) else (none)) else (if bt106.1 = (wrap64 (bt102.1 + 1)) then (if bt106.2.1 = 1 then (if bt102.2.1 = 12 then (if bt111.2 = 0 then (if bt111.1 = (wrap64 (t101 - 700000)) then (some (bt102.2.2.1 == 31)) else (none)) else (none)) else (none)) else (none)) else (none))) else (none)) else (none))) else (if bt106.2.2.1 = 1 then (if bt102.2.2.1 ≥ 28 then (if bt106.2.1 = (wrap64 (bt102.2.1 + 1)) then (if bt111.2 = 0 then (if bt111.1 = (wrap64 (t101 - 700000)) then (some true) else (none)) else (none)) else (if bt106.1 = (wrap64 (bt102.1 + 1)) then (if bt106.2.1 = 1 then (if bt102.2.1 = 12 then (if bt111.2 = 0 then (if bt111.1 = (wrap64 (t101 - 700000)) then (some (bt102.2.2.1 == 31)) else (none)) else (none)) else (none)) else (none)) else (none))) else (none)) else (none))) else (if bt106.2.2.1 = 1 then (if bt102.2.2.1 ≥ 28 then (if bt106.1 = (wrap64 (bt102.1 + 1)) then (if bt106.2.1 = 1 then (if bt102.2.1 = 12 then (if bt111.2 = 0 then (if bt111.1 = (wrap64 (t101 - 700000)) then (some (bt102.2.2.1 == 31)) else (none)) else (none)) else (none)) else (none)) else (none)) else (none)) else (none)))) else (if (wrap64 ((wrap64 (t101 - 700000)) + 1)) > 2900000 then (some (bt106.2.2.2 == 4)) else (none))) else (if (wrap64 ((wrap64 (t101 - 700000)) + 1)) > 2900000 then (some (bt106.2.2.2 == 4)) else (none))) else (none)))))) = some r := h
  clear h
  replace H := Option.bind_eq_some_iff.mp H
  obtain ⟨t101, A20, H⟩ := H
  replace H : ((scale_Date.f k (wrap64 (t101 - 700000))).bind fun bt102 => ((scale_Date.f k (wrap64 ((wrap64 (t101 - 700000)) + 1))).bind fun bt106 => ((spykeep1_scaleFact.f k).bind fun t110 => (if t110 = true then (if bt102.2.2.2 = 0 then (if bt106.2.2.2 = 0 then ((scale_Days.f k bt102.1 bt102.2.1 bt102.2.2.1).bind fun bt111 => (if bt106.1 = bt102.1 then (if bt106.2.1 = bt102.2.1 then (if bt106.2.2.1 = (wrap64 (bt102.2.2.1 + 1)) then (if bt111.2 = 0 then (if bt111.1 = (wrap64 (t101 - 700000)) then (some true) else (none)) else (none)) else (if bt106.2.2.1 = 1 then (if bt102.2.2.1 ≥ 28 then (if bt106.2.1 = (wrap64 (bt102.2.1 + 1)) then (if bt111.2 = 0 then (if bt111.1 = (wrap64 (t101 - 700000)) then (some true) else (none)) else (none)) else (if bt106.1 = (wrap64 (bt102.1 + 1)) then (if bt106.2.1 = 1 then (if bt102.2.1 = 12 then (if bt111.2 = 0 then (if bt111.1 = (wrap64 (t101 - 700000)) then (some (bt102.2.2.1 == 31)) else (none)) else (none)) else (none)) else (none)) else (none))) else (none)) else (none))) else (if bt106.2.2.1 = 1 then (if bt102.2.2.1 ≥ 28 then (if bt106.2.1 = (wrap64 (bt102.2.1 + 1)) then (if bt111.2 = 0 then (if bt111.1 = (wrap64 (t101 - 700000)) then (some true) else (none)) else (none)) else (if bt106.1 = (wrap64 (bt102.1 + 1)) then (if bt106.2.1 = 1 then (if bt102.2.1 = 12 then (if bt111.2 = 0 then (if bt111.1 = (wrap64 (t101 - 700000)) then (some (bt102.2.2.1 == 31)) else (none)) else (none)) else (none)) else (none)) else (none))) else (none)) else (none))) else (if bt106.2.2.1 = 1 then (if bt102.2.2.1 ≥ 28 then (if bt106.1 = (wrap64 (bt102.1 + 1)) then (if bt106.2.1 = 1 then (if bt102.2.1 = 12 then (if bt111.2 = 0 then (if bt111.1 = (wrap64 (t101 - 700000)) then (some (bt102.2.2.1 == 31)) else (none)) else (none)) else (none)) else (none)) else (none)) else (none)) else (none)))) else (if (wrap64 ((wrap64 (t101 - 700000)) + 1)) > 2900000 then (some (bt106.2.2.2 == 4)) else (none))) else (if (wrap64 ((wrap64 (t101 - 700000)) + 1)) > 2900000 then (some (bt106.2.2.2 == 4)) else (none))) else (none))))) = some r := H
  have A2 := Aside0.mk A20
  clear A20
  replace H := Option.bind_eq_some_iff.mp H
  obtain ⟨⟨t102, t103, t104, t105⟩, A30, H⟩ := H
  replace H : ((scale_Date.f k (wrap64 ((wrap64 (t101 - 700000)) + 1))).bind fun bt106 => ((spykeep1_scaleFact.f k).bind fun t110 => (if t110 = true then (if t105 = 0 then (if bt106.2.2.2 = 0 then ((scale_Days.f k t102 t103 t104).bind fun bt111 => (if bt106.1 = t102 then (if bt106.2.1 = t103 then (if bt106.2.2.1 = (wrap64 (t104 + 1)) then (if bt111.2 = 0 then (if bt111.1 = (wrap64 (t101 - 700000)) then (some true) else (none)) else (none)) else (if bt106.2.2.1 = 1 then (if t104 ≥ 28 then (if bt106.2.1 = (wrap64 (t103 + 1)) then (if bt111.2 = 0 then (if bt111.1 = (wrap64 (t101 - 700000)) then (some true) else (none)) else (none)) else (if bt106.1 = (wrap64 (t102 + 1)) then (if bt106.2.1 = 1 then (if t103 = 12 then (if bt111.2 = 0 then (if bt111.1 = (wrap64 (t101 - 700000)) then (some (t104 == 31)) else (none)) else (none)) else (none)) else (none)) else (none))) else (none)) else (none))) else (if bt106.2.2.1 = 1 then (if t104 ≥ 28 then (if bt106.2.1 = (wrap64 (t103 + 1)) then (if bt111.2 = 0 then (if bt111.1 = (wrap64 (t101 - 700000)) then (some true) else (none)) else (none)) else (if bt106.1 = (wrap64 (t102 + 1)) then (if bt106.2.1 = 1 then (if t103 = 12 then (if bt111.2 = 0 then (if bt111.1 = (wrap64 (t101 - 700000)) then (some (t104 == 31)) else (none)) else (none)) else (none)) else (none)) else (none))) else (none)) else (none))) else (if bt106.2.2.1 = 1 then (if t104 ≥ 28 then (if bt106.1 = (wrap64 (t102 + 1)) then (if bt106.2.1 = 1 then (if t103 = 12 then (if bt111.2 = 0 then (if bt111.1 = (wrap64 (t101 - 700000)) then (some (t104 == 31)) else (none)) else (none)) else (none)) else (none)) else (none)) else (none)) else (none)))) else (if (wrap64 ((wrap64 (t101 - 700000)) + 1)) > 2900000 then (some (bt106.2.2.2 == 4)) else (none))) else (if (wrap64 ((wrap64 (t101 - 700000)) + 1)) > 2900000 then (some (bt106.2.2.2 == 4)) else (none))) else (none)))) = some r := H
  have A3 := Aside0.mk A30
  clear A30
  replace H := Option.bind_eq_some_iff.mp H
  obtain ⟨⟨t106, t107, t108, t109⟩, A40, H⟩ := H
  replace H : ((spykeep1_scaleFact.f k).bind fun t110 => (if t110 = true then (if t105 = 0 then (if t109 = 0 then ((scale_Days.f k t102 t103 t104).bind fun bt111 => (if t106 = t102 then (if t107 = t103 then (if t108 = (wrap64 (t104 + 1)) then (if bt111.2 = 0 then (if bt111.1 = (wrap64 (t101 - 700000)) then (some true) else (none)) else (none)) else (if t108 = 1 then (if t104 ≥ 28 then (if t107 = (wrap64 (t103 + 1)) then (if bt111.2 = 0 then (if bt111.1 = (wrap64 (t101 - 700000)) then (some true) else (none)) else (none)) else (if t106 = (wrap64 (t102 + 1)) then (if t107 = 1 then (if t103 = 12 then (if bt111.2 = 0 then (if bt111.1 = (wrap64 (t101 - 700000)) then (some (t104 == 31)) else (none)) else (none)) else (none)) else (none)) else (none))) else (none)) else (none))) else (if t108 = 1 then (if t104 ≥ 28 then (if t107 = (wrap64 (t103 + 1)) then (if bt111.2 = 0 then (if bt111.1 = (wrap64 (t101 - 700000)) then (some true) else (none)) else (none)) else (if t106 = (wrap64 (t102 + 1)) then (if t107 = 1 then (if t103 = 12 then (if bt111.2 = 0 then (if bt111.1 = (wrap64 (t101 - 700000)) then (some (t104 == 31)) else (none)) else (none)) else (none)) else (none)) else (none))) else (none)) else (none))) else (if t108 = 1 then (if t104 ≥ 28 then (if t106 = (wrap64 (t102 + 1)) then (if t107 = 1 then (if t103 = 12 then (if bt111.2 = 0 then (if bt111.1 = (wrap64 (t101 - 700000)) then (some (t104 == 31)) else (none)) else (none)) else (none)) else (none)) else (none)) else (none)) else (none)))) else (if (wrap64 ((wrap64 (t101 - 700000)) + 1)) > 2900000 then (some (t109 == 4)) else (none))) else (if (wrap64 ((wrap64 (t101 - 700000)) + 1)) > 2900000 then (some (t109 == 4)) else (none))) else (none))) = some r := H
  have A4 := Aside0.mk A40
  clear A40
  replace H := Option.bind_eq_some_iff.mp H
  obtain ⟨t110, A50, H⟩ := H
  replace H : (if t110 = true then (if t105 = 0 then (if t109 = 0 then ((scale_Days.f k t102 t103 t104).bind fun bt111 => (if t106 = t102 then (if t107 = t103 then (if t108 = (wrap64 (t104 + 1)) then (if bt111.2 = 0 then (if bt111.1 = (wrap64 (t101 - 700000)) then (some true) else (none)) else (none)) else (if t108 = 1 then (if t104 ≥ 28 then (if t107 = (wrap64 (t103 + 1)) then (if bt111.2 = 0 then (if bt111.1 = (wrap64 (t101 - 700000)) then (some true) else (none)) else (none)) else (if t106 = (wrap64 (t102 + 1)) then (if t107 = 1 then (if t103 = 12 then (if bt111.2 = 0 then (if bt111.1 = (wrap64 (t101 - 700000)) then (some (t104 == 31)) else (none)) else (none)) else (none)) else (none)) else (none))) else (none)) else (none))) else (if t108 = 1 then (if t104 ≥ 28 then (if t107 = (wrap64 (t103 + 1)) then (if bt111.2 = 0 then (if bt111.1 = (wrap64 (t101 - 700000)) then (some true) else (none)) else (none)) else (if t106 = (wrap64 (t102 + 1)) then (if t107 = 1 then (if t103 = 12 then (if bt111.2 = 0 then (if bt111.1 = (wrap64 (t101 - 700000)) then (some (t104 == 31)) else (none)) else (none)) else (none)) else (none)) else (none))) else (none)) else (none))) else (if t108 = 1 then (if t104 ≥ 28 then (if t106 = (wrap64 (t102 + 1)) then (if t107 = 1 then (if t103 = 12 then (if bt111.2 = 0 then (if bt111.1 = (wrap64 (t101 - 700000)) then (some (t104 == 31)) else (none)) else (none)) else (none)) else (none)) else (none)) else (none)) else (none)))) else (if (wrap64 ((wrap64 (t101 - 700000)) + 1)) > 2900000 then (some (t109 == 4)) else (none))) else (if (wrap64 ((wrap64 (t101 - 700000)) + 1)) > 2900000 then (some (t109 == 4)) else (none))) else (none)) = some r := H
  have A5 := Aside0.mk A50
  clear A50
  by_cases c6 : t110 = true
  · subst c6
    have H1 : (if t105 = 0 then (if t109 = 0 then ((scale_Days.f k t102 t103 t104).bind fun bt111 => (if t106 = t102 then (if t107 = t103 then (if t108 = (wrap64 (t104 + 1)) then (if bt111.2 = 0 then (if bt111.1 = (wrap64 (t101 - 700000)) then (some true) else (none)) else (none)) else (if t108 = 1 then (if t104 ≥ 28 then (if t107 = (wrap64 (t103 + 1)) then (if bt111.2 = 0 then (if bt111.1 = (wrap64 (t101 - 700000)) then (some true) else (none)) else (none)) else (if t106 = (wrap64 (t102 + 1)) then (if t107 = 1 then (if t103 = 12 then (if bt111.2 = 0 then (if bt111.1 = (wrap64 (t101 - 700000)) then (some (t104 == 31)) else (none)) else (none)) else (none)) else (none)) else (none))) else (none)) else (none))) else (if t108 = 1 then (if t104 ≥ 28 then (if t107 = (wrap64 (t103 + 1)) then (if bt111.2 = 0 then (if bt111.1 = (wrap64 (t101 - 700000)) then (some true) else (none)) else (none)) else (if t106 = (wrap64 (t102 + 1)) then (if t107 = 1 then (if t103 = 12 then (if bt111.2 = 0 then (if bt111.1 = (wrap64 (t101 - 700000)) then (some (t104 == 31)) else (none)) else (none)) else (none)) else (none)) else (none))) else (none)) else (none))) else (if t108 = 1 then (if t104 ≥ 28 then (if t106 = (wrap64 (t102 + 1)) then (if t107 = 1 then (if t103 = 12 then (if bt111.2 = 0 then (if bt111.1 = (wrap64 (t101 - 700000)) then (some (t104 == 31)) else (none)) else (none)) else (none)) else (none)) else (none)) else (none)) else (none)))) else (if (wrap64 ((wrap64 (t101 - 700000)) + 1)) > 2900000 then (some (t109 == 4)) else (none))) else (if (wrap64 ((wrap64 (t101 - 700000)) + 1)) > 2900000 then (some (t109 == 4)) else (none))) = some r := by rw [if_pos rfl] at H; exact H
    clear H
    have H := H1
    clear H1
    by_cases c7 : t105 = 0
    · rw [if_pos c7] at H
      have c7b0 : (t105 == 0) = true := beq_iff_eq.mpr c7
      have c7b1 : (t105 != 0) = false := bne_eq_false_iff_eq.mpr c7
      clear c7
      by_cases c8 : t109 = 0
      · rw [if_pos c8] at H
        have c8b0 : (t109 == 0) = true := beq_iff_eq.mpr c8
        have c8b1 : (t109 != 0) = false := bne_eq_false_iff_eq.mpr c8
        clear c8
        replace H := Option.bind_eq_some_iff.mp H
        obtain ⟨⟨t111, t112⟩, A90, H⟩ := H
        replace H : (if t106 = t102 then (if t107 = t103 then (if t108 = (wrap64 (t104 + 1)) then (if t112 = 0 then (if t111 = (wrap64 (t101 - 700000)) then (some true) else (none)) else (none)) else (if t108 = 1 then (if t104 ≥ 28 then (if t107 = (wrap64 (t103 + 1)) then (if t112 = 0 then (if t111 = (wrap64 (t101 - 700000)) then (some true) else (none)) else (none)) else (if t106 = (wrap64 (t102 + 1)) then (if t107 = 1 then (if t103 = 12 then (if t112 = 0 then (if t111 = (wrap64 (t101 - 700000)) then (some (t104 == 31)) else (none)) else (none)) else (none)) else (none)) else (none))) else (none)) else (none))) else (if t108 = 1 then (if t104 ≥ 28 then (if t107 = (wrap64 (t103 + 1)) then (if t112 = 0 then (if t111 = (wrap64 (t101 - 700000)) then (some true) else (none)) else (none)) else (if t106 = (wrap64 (t102 + 1)) then (if t107 = 1 then (if t103 = 12 then (if t112 = 0 then (if t111 = (wrap64 (t101 - 700000)) then (some (t104 == 31)) else (none)) else (none)) else (none)) else (none)) else (none))) else (none)) else (none))) else (if t108 = 1 then (if t104 ≥ 28 then (if t106 = (wrap64 (t102 + 1)) then (if t107 = 1 then (if t103 = 12 then (if t112 = 0 then (if t111 = (wrap64 (t101 - 700000)) then (some (t104 == 31)) else (none)) else (none)) else (none)) else (none)) else (none)) else (none)) else (none))) = some r := H
        have A9 := Aside0.mk A90
        clear A90
        by_cases c10 : t106 = t102
        · rw [if_pos c10] at H
          have c10b0 : (t106 == t102) = true := beq_iff_eq.mpr c10
          have c10b1 : (t106 != t102) = false := bne_eq_false_iff_eq.mpr c10
          clear c10
          by_cases c11 : t107 = t103
          · rw [if_pos c11] at H
            have c11b0 : (t107 == t103) = true := beq_iff_eq.mpr c11
            have c11b1 : (t107 != t103) = false := bne_eq_false_iff_eq.mpr c11
            clear c11
            by_cases c12 : t108 = (wrap64 (t104 + 1))
            · rw [if_pos c12] at H
              have c12b0 : (t108 == (wrap64 (t104 + 1))) = true := beq_iff_eq.mpr c12
              have c12b1 : (t108 != (wrap64 (t104 + 1))) = false := bne_eq_false_iff_eq.mpr c12
              clear c12
              by_cases c13 : t112 = 0
              · rw [if_pos c13] at H
                have c13b0 : (t112 == 0) = true := beq_iff_eq.mpr c13
                have c13b1 : (t112 != 0) = false := bne_eq_false_iff_eq.mpr c13
                clear c13
                by_cases c14 : t111 = (wrap64 (t101 - 700000))
                · rw [if_pos c14] at H
                  have c14b0 : (t111 == (wrap64 (t101 - 700000))) = true := beq_iff_eq.mpr c14
                  have c14b1 : (t111 != (wrap64 (t101 - 700000))) = false := bne_eq_false_iff_eq.mpr c14
                  clear c14
                  obtain rfl := Option.some.inj H
                  go_enter Try.func3, Try.ntmps3
                  go_wp2_with (first | ((with_reducible refine gate_callee (f := 15) rfl ?_); refine goesL_ (some 15) rfl rfl Try.func15 (by kernel_rfl) rfl #[.int .i64 a0, .int .i64 3600000] rfl (by (try simp only [List.map_toArray, List.map_cons, List.map_nil]); first | done | rfl | (simp only [List.length_drop, List.length_take]; rfl)) ?_; (with_reducible refine (spymake_Below.calls a0 3600000 t101 _ A2.out).mono ?_); rintro e w' ⟨rfl, ⟨nd, rfl⟩⟩; refine ⟨_, rfl, ?_⟩) | ((with_reducible refine gate_callee (f := 16) rfl ?_); refine goesL_ (some 19) rfl rfl Try.func16 (by kernel_rfl) rfl #[.int .i64 (wrap64 (t101 - 700000))] rfl (by (try simp only [List.map_toArray, List.map_cons, List.map_nil]); first | done | rfl | (simp only [List.length_drop, List.length_take]; rfl)) ?_; (with_reducible refine (scale_Date.calls k (wrap64 (t101 - 700000)) t102 t103 t104 t105 _ A3.out).mono ?_); rintro e w15 ⟨rfl, hb⟩; refine ⟨_, rfl, ?_⟩; have n0_ := Aside0.mk (below_step (by repeat (first | (with_reducible first | exact HB.out | apply below_alloc | apply pw_below_drewN | apply below_drew1) | exact HB.out)) hb); clear HB; have HB := n0_; clear n0_; (try clear hb); (try clear hb2); (try clear hk); (try clear hi)) | ((with_reducible refine gate_callee (f := 16) rfl ?_); refine goesL_ (some 27) rfl rfl Try.func16 (by kernel_rfl) rfl #[.int .i64 (wrap64 ((wrap64 (t101 - 700000)) + 1))] rfl (by (try simp only [List.map_toArray, List.map_cons, List.map_nil]); first | done | rfl | (simp only [List.length_drop, List.length_take]; rfl)) ?_; (with_reducible refine (scale_Date.calls k (wrap64 ((wrap64 (t101 - 700000)) + 1)) t106 t107 t108 t109 _ A4.out).mono ?_); rintro e w16 ⟨rfl, hb⟩; refine ⟨_, rfl, ?_⟩; have n0_ := Aside0.mk (below_step (by repeat (first | (with_reducible first | exact HB.out | apply below_alloc | apply pw_below_drewN | apply below_drew1) | exact HB.out)) hb); clear HB; have HB := n0_; clear n0_; (try clear hb); (try clear hb2); (try clear hk); (try clear hi)) | ((with_reducible refine gate_callee (f := 17) rfl ?_); refine goesL_ (some 32) rfl rfl Try.func17 (by kernel_rfl) rfl #[] rfl (by (try simp only [List.map_toArray, List.map_cons, List.map_nil]); first | done | rfl | (simp only [List.length_drop, List.length_take]; rfl)) ?_; (with_reducible refine (spykeep1_scaleFact.calls k  true _ A5.out).mono ?_); rintro e w17 ⟨rfl, hb⟩; refine ⟨_, rfl, ?_⟩; have n0_ := Aside0.mk (below_step (by repeat (first | (with_reducible first | exact HB.out | apply below_alloc | apply pw_below_drewN | apply below_drew1) | exact HB.out)) hb); clear HB; have HB := n0_; clear n0_; (try clear hb); (try clear hb2); (try clear hk); (try clear hi)) | ((with_reducible refine gate_callee (f := 18) rfl ?_); refine goesL_ (some 51) rfl rfl Try.func18 (by kernel_rfl) rfl #[.int .i64 t102, .int .i64 t103, .int .i64 t104] rfl (by (try simp only [List.map_toArray, List.map_cons, List.map_nil]); first | done | rfl | (simp only [List.length_drop, List.length_take]; rfl)) ?_; (with_reducible refine (scale_Days.calls k t102 t103 t104 t111 t112 _ A9.out).mono ?_); rintro e w' ⟨rfl, ⟨nd, rfl⟩⟩; refine ⟨_, rfl, ?_⟩))
                  go_ret
                  exact ⟨by first | rfl | (simp [errW_none, errW_some] <;> rfl) | (simp [*, errW_none, errW_some] <;> rfl), by repeat (first | (with_reducible first | exact HB.out | apply below_alloc | apply pw_below_drewN | apply below_drew1) | exact HB.out)⟩
                · rw [if_neg c14] at H
                  exact absurd H (by simp)
              · rw [if_neg c13] at H
                exact absurd H (by simp)
            · rw [if_neg c12] at H
              have c12b0 : (t108 == (wrap64 (t104 + 1))) = false := beq_eq_false_iff_ne.mpr c12
              have c12b1 : (t108 != (wrap64 (t104 + 1))) = true := bne_iff_ne.mpr c12
              by_cases c18 : t108 = 1
              · rw [if_pos c18] at H
                have c18b0 : (t108 == 1) = true := beq_iff_eq.mpr c18
                have c18b1 : (t108 != 1) = false := bne_eq_false_iff_eq.mpr c18
                clear c18
                by_cases c19 : t104 ≥ 28
                · rw [if_pos c19] at H
                  have c19b0 : decide (28 ≤ t104) = true := decide_eq_true c19
                  clear c19
                  by_cases c20 : t107 = (wrap64 (t103 + 1))
                  · rw [if_pos c20] at H
                    have c20b0 : (t107 == (wrap64 (t103 + 1))) = true := beq_iff_eq.mpr c20
                    have c20b1 : (t107 != (wrap64 (t103 + 1))) = false := bne_eq_false_iff_eq.mpr c20
                    clear c20
                    by_cases c21 : t112 = 0
                    · rw [if_pos c21] at H
                      have c21b0 : (t112 == 0) = true := beq_iff_eq.mpr c21
                      have c21b1 : (t112 != 0) = false := bne_eq_false_iff_eq.mpr c21
                      clear c21
                      by_cases c22 : t111 = (wrap64 (t101 - 700000))
                      · rw [if_pos c22] at H
                        have c22b0 : (t111 == (wrap64 (t101 - 700000))) = true := beq_iff_eq.mpr c22
                        have c22b1 : (t111 != (wrap64 (t101 - 700000))) = false := bne_eq_false_iff_eq.mpr c22
                        clear c22
                        obtain rfl := Option.some.inj H
                        go_enter Try.func3, Try.ntmps3
                        go_wp2_with (first | ((with_reducible refine gate_callee (f := 15) rfl ?_); refine goesL_ (some 15) rfl rfl Try.func15 (by kernel_rfl) rfl #[.int .i64 a0, .int .i64 3600000] rfl (by (try simp only [List.map_toArray, List.map_cons, List.map_nil]); first | done | rfl | (simp only [List.length_drop, List.length_take]; rfl)) ?_; (with_reducible refine (spymake_Below.calls a0 3600000 t101 _ A2.out).mono ?_); rintro e w' ⟨rfl, ⟨nd, rfl⟩⟩; refine ⟨_, rfl, ?_⟩) | ((with_reducible refine gate_callee (f := 16) rfl ?_); refine goesL_ (some 19) rfl rfl Try.func16 (by kernel_rfl) rfl #[.int .i64 (wrap64 (t101 - 700000))] rfl (by (try simp only [List.map_toArray, List.map_cons, List.map_nil]); first | done | rfl | (simp only [List.length_drop, List.length_take]; rfl)) ?_; (with_reducible refine (scale_Date.calls k (wrap64 (t101 - 700000)) t102 t103 t104 t105 _ A3.out).mono ?_); rintro e w23 ⟨rfl, hb⟩; refine ⟨_, rfl, ?_⟩; have n0_ := Aside0.mk (below_step (by repeat (first | (with_reducible first | exact HB.out | apply below_alloc | apply pw_below_drewN | apply below_drew1) | exact HB.out)) hb); clear HB; have HB := n0_; clear n0_; (try clear hb); (try clear hb2); (try clear hk); (try clear hi)) | ((with_reducible refine gate_callee (f := 16) rfl ?_); refine goesL_ (some 27) rfl rfl Try.func16 (by kernel_rfl) rfl #[.int .i64 (wrap64 ((wrap64 (t101 - 700000)) + 1))] rfl (by (try simp only [List.map_toArray, List.map_cons, List.map_nil]); first | done | rfl | (simp only [List.length_drop, List.length_take]; rfl)) ?_; (with_reducible refine (scale_Date.calls k (wrap64 ((wrap64 (t101 - 700000)) + 1)) t106 t107 t108 t109 _ A4.out).mono ?_); rintro e w24 ⟨rfl, hb⟩; refine ⟨_, rfl, ?_⟩; have n0_ := Aside0.mk (below_step (by repeat (first | (with_reducible first | exact HB.out | apply below_alloc | apply pw_below_drewN | apply below_drew1) | exact HB.out)) hb); clear HB; have HB := n0_; clear n0_; (try clear hb); (try clear hb2); (try clear hk); (try clear hi)) | ((with_reducible refine gate_callee (f := 17) rfl ?_); refine goesL_ (some 32) rfl rfl Try.func17 (by kernel_rfl) rfl #[] rfl (by (try simp only [List.map_toArray, List.map_cons, List.map_nil]); first | done | rfl | (simp only [List.length_drop, List.length_take]; rfl)) ?_; (with_reducible refine (spykeep1_scaleFact.calls k  true _ A5.out).mono ?_); rintro e w25 ⟨rfl, hb⟩; refine ⟨_, rfl, ?_⟩; have n0_ := Aside0.mk (below_step (by repeat (first | (with_reducible first | exact HB.out | apply below_alloc | apply pw_below_drewN | apply below_drew1) | exact HB.out)) hb); clear HB; have HB := n0_; clear n0_; (try clear hb); (try clear hb2); (try clear hk); (try clear hi)) | ((with_reducible refine gate_callee (f := 18) rfl ?_); refine goesL_ (some 51) rfl rfl Try.func18 (by kernel_rfl) rfl #[.int .i64 t102, .int .i64 t103, .int .i64 t104] rfl (by (try simp only [List.map_toArray, List.map_cons, List.map_nil]); first | done | rfl | (simp only [List.length_drop, List.length_take]; rfl)) ?_; (with_reducible refine (scale_Days.calls k t102 t103 t104 t111 t112 _ A9.out).mono ?_); rintro e w' ⟨rfl, ⟨nd, rfl⟩⟩; refine ⟨_, rfl, ?_⟩))
                        go_ret
                        exact ⟨by first | rfl | (simp [errW_none, errW_some] <;> rfl) | (simp [*, errW_none, errW_some] <;> rfl), by repeat (first | (with_reducible first | exact HB.out | apply below_alloc | apply pw_below_drewN | apply below_drew1) | exact HB.out)⟩
                      · rw [if_neg c22] at H
                        exact absurd H (by simp)
                    · rw [if_neg c21] at H
                      exact absurd H (by simp)
                  · rw [if_neg c20] at H
                    have c20b0 : (t107 == (wrap64 (t103 + 1))) = false := beq_eq_false_iff_ne.mpr c20
                    have c20b1 : (t107 != (wrap64 (t103 + 1))) = true := bne_iff_ne.mpr c20
                    by_cases c26 : t106 = (wrap64 (t102 + 1))
                    · rw [if_pos c26] at H
                      have c26b0 : (t106 == (wrap64 (t102 + 1))) = true := beq_iff_eq.mpr c26
                      have c26b1 : (t106 != (wrap64 (t102 + 1))) = false := bne_eq_false_iff_eq.mpr c26
                      clear c26
                      by_cases c27 : t107 = 1
                      · rw [if_pos c27] at H
                        have c27b0 : (t107 == 1) = true := beq_iff_eq.mpr c27
                        have c27b1 : (t107 != 1) = false := bne_eq_false_iff_eq.mpr c27
                        clear c27
                        by_cases c28 : t103 = 12
                        · rw [if_pos c28] at H
                          have c28b0 : (t103 == 12) = true := beq_iff_eq.mpr c28
                          have c28b1 : (t103 != 12) = false := bne_eq_false_iff_eq.mpr c28
                          clear c28
                          by_cases c29 : t112 = 0
                          · rw [if_pos c29] at H
                            have c29b0 : (t112 == 0) = true := beq_iff_eq.mpr c29
                            have c29b1 : (t112 != 0) = false := bne_eq_false_iff_eq.mpr c29
                            clear c29
                            by_cases c30 : t111 = (wrap64 (t101 - 700000))
                            · rw [if_pos c30] at H
                              have c30b0 : (t111 == (wrap64 (t101 - 700000))) = true := beq_iff_eq.mpr c30
                              have c30b1 : (t111 != (wrap64 (t101 - 700000))) = false := bne_eq_false_iff_eq.mpr c30
                              clear c30
                              obtain rfl := Option.some.inj H
                              go_enter Try.func3, Try.ntmps3
                              go_wp2_with (first | ((with_reducible refine gate_callee (f := 15) rfl ?_); refine goesL_ (some 15) rfl rfl Try.func15 (by kernel_rfl) rfl #[.int .i64 a0, .int .i64 3600000] rfl (by (try simp only [List.map_toArray, List.map_cons, List.map_nil]); first | done | rfl | (simp only [List.length_drop, List.length_take]; rfl)) ?_; (with_reducible refine (spymake_Below.calls a0 3600000 t101 _ A2.out).mono ?_); rintro e w' ⟨rfl, ⟨nd, rfl⟩⟩; refine ⟨_, rfl, ?_⟩) | ((with_reducible refine gate_callee (f := 16) rfl ?_); refine goesL_ (some 19) rfl rfl Try.func16 (by kernel_rfl) rfl #[.int .i64 (wrap64 (t101 - 700000))] rfl (by (try simp only [List.map_toArray, List.map_cons, List.map_nil]); first | done | rfl | (simp only [List.length_drop, List.length_take]; rfl)) ?_; (with_reducible refine (scale_Date.calls k (wrap64 (t101 - 700000)) t102 t103 t104 t105 _ A3.out).mono ?_); rintro e w31 ⟨rfl, hb⟩; refine ⟨_, rfl, ?_⟩; have n0_ := Aside0.mk (below_step (by repeat (first | (with_reducible first | exact HB.out | apply below_alloc | apply pw_below_drewN | apply below_drew1) | exact HB.out)) hb); clear HB; have HB := n0_; clear n0_; (try clear hb); (try clear hb2); (try clear hk); (try clear hi)) | ((with_reducible refine gate_callee (f := 16) rfl ?_); refine goesL_ (some 27) rfl rfl Try.func16 (by kernel_rfl) rfl #[.int .i64 (wrap64 ((wrap64 (t101 - 700000)) + 1))] rfl (by (try simp only [List.map_toArray, List.map_cons, List.map_nil]); first | done | rfl | (simp only [List.length_drop, List.length_take]; rfl)) ?_; (with_reducible refine (scale_Date.calls k (wrap64 ((wrap64 (t101 - 700000)) + 1)) t106 t107 t108 t109 _ A4.out).mono ?_); rintro e w32 ⟨rfl, hb⟩; refine ⟨_, rfl, ?_⟩; have n0_ := Aside0.mk (below_step (by repeat (first | (with_reducible first | exact HB.out | apply below_alloc | apply pw_below_drewN | apply below_drew1) | exact HB.out)) hb); clear HB; have HB := n0_; clear n0_; (try clear hb); (try clear hb2); (try clear hk); (try clear hi)) | ((with_reducible refine gate_callee (f := 17) rfl ?_); refine goesL_ (some 32) rfl rfl Try.func17 (by kernel_rfl) rfl #[] rfl (by (try simp only [List.map_toArray, List.map_cons, List.map_nil]); first | done | rfl | (simp only [List.length_drop, List.length_take]; rfl)) ?_; (with_reducible refine (spykeep1_scaleFact.calls k  true _ A5.out).mono ?_); rintro e w33 ⟨rfl, hb⟩; refine ⟨_, rfl, ?_⟩; have n0_ := Aside0.mk (below_step (by repeat (first | (with_reducible first | exact HB.out | apply below_alloc | apply pw_below_drewN | apply below_drew1) | exact HB.out)) hb); clear HB; have HB := n0_; clear n0_; (try clear hb); (try clear hb2); (try clear hk); (try clear hi)) | ((with_reducible refine gate_callee (f := 18) rfl ?_); refine goesL_ (some 51) rfl rfl Try.func18 (by kernel_rfl) rfl #[.int .i64 t102, .int .i64 t103, .int .i64 t104] rfl (by (try simp only [List.map_toArray, List.map_cons, List.map_nil]); first | done | rfl | (simp only [List.length_drop, List.length_take]; rfl)) ?_; (with_reducible refine (scale_Days.calls k t102 t103 t104 t111 t112 _ A9.out).mono ?_); rintro e w' ⟨rfl, ⟨nd, rfl⟩⟩; refine ⟨_, rfl, ?_⟩))
                              go_ret
                              exact ⟨by first | rfl | (simp [errW_none, errW_some] <;> rfl) | (simp [*, errW_none, errW_some] <;> rfl), by repeat (first | (with_reducible first | exact HB.out | apply below_alloc | apply pw_below_drewN | apply below_drew1) | exact HB.out)⟩
                            · rw [if_neg c30] at H
                              exact absurd H (by simp)
                          · rw [if_neg c29] at H
                            exact absurd H (by simp)
                        · rw [if_neg c28] at H
                          exact absurd H (by simp)
                      · rw [if_neg c27] at H
                        exact absurd H (by simp)
                    · rw [if_neg c26] at H
                      exact absurd H (by simp)
                · rw [if_neg c19] at H
                  exact absurd H (by simp)
              · rw [if_neg c18] at H
                exact absurd H (by simp)
          · rw [if_neg c11] at H
            have c11b0 : (t107 == t103) = false := beq_eq_false_iff_ne.mpr c11
            have c11b1 : (t107 != t103) = true := bne_iff_ne.mpr c11
            by_cases c34 : t108 = 1
            · rw [if_pos c34] at H
              have c34b0 : (t108 == 1) = true := beq_iff_eq.mpr c34
              have c34b1 : (t108 != 1) = false := bne_eq_false_iff_eq.mpr c34
              clear c34
              by_cases c35 : t104 ≥ 28
              · rw [if_pos c35] at H
                have c35b0 : decide (28 ≤ t104) = true := decide_eq_true c35
                clear c35
                by_cases c36 : t107 = (wrap64 (t103 + 1))
                · rw [if_pos c36] at H
                  have c36b0 : (t107 == (wrap64 (t103 + 1))) = true := beq_iff_eq.mpr c36
                  have c36b1 : (t107 != (wrap64 (t103 + 1))) = false := bne_eq_false_iff_eq.mpr c36
                  clear c36
                  by_cases c37 : t112 = 0
                  · rw [if_pos c37] at H
                    have c37b0 : (t112 == 0) = true := beq_iff_eq.mpr c37
                    have c37b1 : (t112 != 0) = false := bne_eq_false_iff_eq.mpr c37
                    clear c37
                    by_cases c38 : t111 = (wrap64 (t101 - 700000))
                    · rw [if_pos c38] at H
                      have c38b0 : (t111 == (wrap64 (t101 - 700000))) = true := beq_iff_eq.mpr c38
                      have c38b1 : (t111 != (wrap64 (t101 - 700000))) = false := bne_eq_false_iff_eq.mpr c38
                      clear c38
                      obtain rfl := Option.some.inj H
                      go_enter Try.func3, Try.ntmps3
                      go_wp2_with (first | ((with_reducible refine gate_callee (f := 15) rfl ?_); refine goesL_ (some 15) rfl rfl Try.func15 (by kernel_rfl) rfl #[.int .i64 a0, .int .i64 3600000] rfl (by (try simp only [List.map_toArray, List.map_cons, List.map_nil]); first | done | rfl | (simp only [List.length_drop, List.length_take]; rfl)) ?_; (with_reducible refine (spymake_Below.calls a0 3600000 t101 _ A2.out).mono ?_); rintro e w' ⟨rfl, ⟨nd, rfl⟩⟩; refine ⟨_, rfl, ?_⟩) | ((with_reducible refine gate_callee (f := 16) rfl ?_); refine goesL_ (some 19) rfl rfl Try.func16 (by kernel_rfl) rfl #[.int .i64 (wrap64 (t101 - 700000))] rfl (by (try simp only [List.map_toArray, List.map_cons, List.map_nil]); first | done | rfl | (simp only [List.length_drop, List.length_take]; rfl)) ?_; (with_reducible refine (scale_Date.calls k (wrap64 (t101 - 700000)) t102 t103 t104 t105 _ A3.out).mono ?_); rintro e w39 ⟨rfl, hb⟩; refine ⟨_, rfl, ?_⟩; have n0_ := Aside0.mk (below_step (by repeat (first | (with_reducible first | exact HB.out | apply below_alloc | apply pw_below_drewN | apply below_drew1) | exact HB.out)) hb); clear HB; have HB := n0_; clear n0_; (try clear hb); (try clear hb2); (try clear hk); (try clear hi)) | ((with_reducible refine gate_callee (f := 16) rfl ?_); refine goesL_ (some 27) rfl rfl Try.func16 (by kernel_rfl) rfl #[.int .i64 (wrap64 ((wrap64 (t101 - 700000)) + 1))] rfl (by (try simp only [List.map_toArray, List.map_cons, List.map_nil]); first | done | rfl | (simp only [List.length_drop, List.length_take]; rfl)) ?_; (with_reducible refine (scale_Date.calls k (wrap64 ((wrap64 (t101 - 700000)) + 1)) t106 t107 t108 t109 _ A4.out).mono ?_); rintro e w40 ⟨rfl, hb⟩; refine ⟨_, rfl, ?_⟩; have n0_ := Aside0.mk (below_step (by repeat (first | (with_reducible first | exact HB.out | apply below_alloc | apply pw_below_drewN | apply below_drew1) | exact HB.out)) hb); clear HB; have HB := n0_; clear n0_; (try clear hb); (try clear hb2); (try clear hk); (try clear hi)) | ((with_reducible refine gate_callee (f := 17) rfl ?_); refine goesL_ (some 32) rfl rfl Try.func17 (by kernel_rfl) rfl #[] rfl (by (try simp only [List.map_toArray, List.map_cons, List.map_nil]); first | done | rfl | (simp only [List.length_drop, List.length_take]; rfl)) ?_; (with_reducible refine (spykeep1_scaleFact.calls k  true _ A5.out).mono ?_); rintro e w41 ⟨rfl, hb⟩; refine ⟨_, rfl, ?_⟩; have n0_ := Aside0.mk (below_step (by repeat (first | (with_reducible first | exact HB.out | apply below_alloc | apply pw_below_drewN | apply below_drew1) | exact HB.out)) hb); clear HB; have HB := n0_; clear n0_; (try clear hb); (try clear hb2); (try clear hk); (try clear hi)) | ((with_reducible refine gate_callee (f := 18) rfl ?_); refine goesL_ (some 51) rfl rfl Try.func18 (by kernel_rfl) rfl #[.int .i64 t102, .int .i64 t103, .int .i64 t104] rfl (by (try simp only [List.map_toArray, List.map_cons, List.map_nil]); first | done | rfl | (simp only [List.length_drop, List.length_take]; rfl)) ?_; (with_reducible refine (scale_Days.calls k t102 t103 t104 t111 t112 _ A9.out).mono ?_); rintro e w' ⟨rfl, ⟨nd, rfl⟩⟩; refine ⟨_, rfl, ?_⟩))
                      go_ret
                      exact ⟨by first | rfl | (simp [errW_none, errW_some] <;> rfl) | (simp [*, errW_none, errW_some] <;> rfl), by repeat (first | (with_reducible first | exact HB.out | apply below_alloc | apply pw_below_drewN | apply below_drew1) | exact HB.out)⟩
                    · rw [if_neg c38] at H
                      exact absurd H (by simp)
                  · rw [if_neg c37] at H
                    exact absurd H (by simp)
                · rw [if_neg c36] at H
                  have c36b0 : (t107 == (wrap64 (t103 + 1))) = false := beq_eq_false_iff_ne.mpr c36
                  have c36b1 : (t107 != (wrap64 (t103 + 1))) = true := bne_iff_ne.mpr c36
                  by_cases c42 : t106 = (wrap64 (t102 + 1))
                  · rw [if_pos c42] at H
                    have c42b0 : (t106 == (wrap64 (t102 + 1))) = true := beq_iff_eq.mpr c42
                    have c42b1 : (t106 != (wrap64 (t102 + 1))) = false := bne_eq_false_iff_eq.mpr c42
                    clear c42
                    by_cases c43 : t107 = 1
                    · rw [if_pos c43] at H
                      have c43b0 : (t107 == 1) = true := beq_iff_eq.mpr c43
                      have c43b1 : (t107 != 1) = false := bne_eq_false_iff_eq.mpr c43
                      clear c43
                      by_cases c44 : t103 = 12
                      · rw [if_pos c44] at H
                        have c44b0 : (t103 == 12) = true := beq_iff_eq.mpr c44
                        have c44b1 : (t103 != 12) = false := bne_eq_false_iff_eq.mpr c44
                        clear c44
                        by_cases c45 : t112 = 0
                        · rw [if_pos c45] at H
                          have c45b0 : (t112 == 0) = true := beq_iff_eq.mpr c45
                          have c45b1 : (t112 != 0) = false := bne_eq_false_iff_eq.mpr c45
                          clear c45
                          by_cases c46 : t111 = (wrap64 (t101 - 700000))
                          · rw [if_pos c46] at H
                            have c46b0 : (t111 == (wrap64 (t101 - 700000))) = true := beq_iff_eq.mpr c46
                            have c46b1 : (t111 != (wrap64 (t101 - 700000))) = false := bne_eq_false_iff_eq.mpr c46
                            clear c46
                            obtain rfl := Option.some.inj H
                            go_enter Try.func3, Try.ntmps3
                            go_wp2_with (first | ((with_reducible refine gate_callee (f := 15) rfl ?_); refine goesL_ (some 15) rfl rfl Try.func15 (by kernel_rfl) rfl #[.int .i64 a0, .int .i64 3600000] rfl (by (try simp only [List.map_toArray, List.map_cons, List.map_nil]); first | done | rfl | (simp only [List.length_drop, List.length_take]; rfl)) ?_; (with_reducible refine (spymake_Below.calls a0 3600000 t101 _ A2.out).mono ?_); rintro e w' ⟨rfl, ⟨nd, rfl⟩⟩; refine ⟨_, rfl, ?_⟩) | ((with_reducible refine gate_callee (f := 16) rfl ?_); refine goesL_ (some 19) rfl rfl Try.func16 (by kernel_rfl) rfl #[.int .i64 (wrap64 (t101 - 700000))] rfl (by (try simp only [List.map_toArray, List.map_cons, List.map_nil]); first | done | rfl | (simp only [List.length_drop, List.length_take]; rfl)) ?_; (with_reducible refine (scale_Date.calls k (wrap64 (t101 - 700000)) t102 t103 t104 t105 _ A3.out).mono ?_); rintro e w47 ⟨rfl, hb⟩; refine ⟨_, rfl, ?_⟩; have n0_ := Aside0.mk (below_step (by repeat (first | (with_reducible first | exact HB.out | apply below_alloc | apply pw_below_drewN | apply below_drew1) | exact HB.out)) hb); clear HB; have HB := n0_; clear n0_; (try clear hb); (try clear hb2); (try clear hk); (try clear hi)) | ((with_reducible refine gate_callee (f := 16) rfl ?_); refine goesL_ (some 27) rfl rfl Try.func16 (by kernel_rfl) rfl #[.int .i64 (wrap64 ((wrap64 (t101 - 700000)) + 1))] rfl (by (try simp only [List.map_toArray, List.map_cons, List.map_nil]); first | done | rfl | (simp only [List.length_drop, List.length_take]; rfl)) ?_; (with_reducible refine (scale_Date.calls k (wrap64 ((wrap64 (t101 - 700000)) + 1)) t106 t107 t108 t109 _ A4.out).mono ?_); rintro e w48 ⟨rfl, hb⟩; refine ⟨_, rfl, ?_⟩; have n0_ := Aside0.mk (below_step (by repeat (first | (with_reducible first | exact HB.out | apply below_alloc | apply pw_below_drewN | apply below_drew1) | exact HB.out)) hb); clear HB; have HB := n0_; clear n0_; (try clear hb); (try clear hb2); (try clear hk); (try clear hi)) | ((with_reducible refine gate_callee (f := 17) rfl ?_); refine goesL_ (some 32) rfl rfl Try.func17 (by kernel_rfl) rfl #[] rfl (by (try simp only [List.map_toArray, List.map_cons, List.map_nil]); first | done | rfl | (simp only [List.length_drop, List.length_take]; rfl)) ?_; (with_reducible refine (spykeep1_scaleFact.calls k  true _ A5.out).mono ?_); rintro e w49 ⟨rfl, hb⟩; refine ⟨_, rfl, ?_⟩; have n0_ := Aside0.mk (below_step (by repeat (first | (with_reducible first | exact HB.out | apply below_alloc | apply pw_below_drewN | apply below_drew1) | exact HB.out)) hb); clear HB; have HB := n0_; clear n0_; (try clear hb); (try clear hb2); (try clear hk); (try clear hi)) | ((with_reducible refine gate_callee (f := 18) rfl ?_); refine goesL_ (some 51) rfl rfl Try.func18 (by kernel_rfl) rfl #[.int .i64 t102, .int .i64 t103, .int .i64 t104] rfl (by (try simp only [List.map_toArray, List.map_cons, List.map_nil]); first | done | rfl | (simp only [List.length_drop, List.length_take]; rfl)) ?_; (with_reducible refine (scale_Days.calls k t102 t103 t104 t111 t112 _ A9.out).mono ?_); rintro e w' ⟨rfl, ⟨nd, rfl⟩⟩; refine ⟨_, rfl, ?_⟩))
                            go_ret
                            exact ⟨by first | rfl | (simp [errW_none, errW_some] <;> rfl) | (simp [*, errW_none, errW_some] <;> rfl), by repeat (first | (with_reducible first | exact HB.out | apply below_alloc | apply pw_below_drewN | apply below_drew1) | exact HB.out)⟩
                          · rw [if_neg c46] at H
                            exact absurd H (by simp)
                        · rw [if_neg c45] at H
                          exact absurd H (by simp)
                      · rw [if_neg c44] at H
                        exact absurd H (by simp)
                    · rw [if_neg c43] at H
                      exact absurd H (by simp)
                  · rw [if_neg c42] at H
                    exact absurd H (by simp)
              · rw [if_neg c35] at H
                exact absurd H (by simp)
            · rw [if_neg c34] at H
              exact absurd H (by simp)
        · rw [if_neg c10] at H
          have c10b0 : (t106 == t102) = false := beq_eq_false_iff_ne.mpr c10
          have c10b1 : (t106 != t102) = true := bne_iff_ne.mpr c10
          by_cases c50 : t108 = 1
          · rw [if_pos c50] at H
            have c50b0 : (t108 == 1) = true := beq_iff_eq.mpr c50
            have c50b1 : (t108 != 1) = false := bne_eq_false_iff_eq.mpr c50
            clear c50
            by_cases c51 : t104 ≥ 28
            · rw [if_pos c51] at H
              have c51b0 : decide (28 ≤ t104) = true := decide_eq_true c51
              clear c51
              by_cases c52 : t106 = (wrap64 (t102 + 1))
              · rw [if_pos c52] at H
                have c52b0 : (t106 == (wrap64 (t102 + 1))) = true := beq_iff_eq.mpr c52
                have c52b1 : (t106 != (wrap64 (t102 + 1))) = false := bne_eq_false_iff_eq.mpr c52
                clear c52
                by_cases c53 : t107 = 1
                · rw [if_pos c53] at H
                  have c53b0 : (t107 == 1) = true := beq_iff_eq.mpr c53
                  have c53b1 : (t107 != 1) = false := bne_eq_false_iff_eq.mpr c53
                  clear c53
                  by_cases c54 : t103 = 12
                  · rw [if_pos c54] at H
                    have c54b0 : (t103 == 12) = true := beq_iff_eq.mpr c54
                    have c54b1 : (t103 != 12) = false := bne_eq_false_iff_eq.mpr c54
                    clear c54
                    by_cases c55 : t112 = 0
                    · rw [if_pos c55] at H
                      have c55b0 : (t112 == 0) = true := beq_iff_eq.mpr c55
                      have c55b1 : (t112 != 0) = false := bne_eq_false_iff_eq.mpr c55
                      clear c55
                      by_cases c56 : t111 = (wrap64 (t101 - 700000))
                      · rw [if_pos c56] at H
                        have c56b0 : (t111 == (wrap64 (t101 - 700000))) = true := beq_iff_eq.mpr c56
                        have c56b1 : (t111 != (wrap64 (t101 - 700000))) = false := bne_eq_false_iff_eq.mpr c56
                        clear c56
                        obtain rfl := Option.some.inj H
                        go_enter Try.func3, Try.ntmps3
                        go_wp2_with (first | ((with_reducible refine gate_callee (f := 15) rfl ?_); refine goesL_ (some 15) rfl rfl Try.func15 (by kernel_rfl) rfl #[.int .i64 a0, .int .i64 3600000] rfl (by (try simp only [List.map_toArray, List.map_cons, List.map_nil]); first | done | rfl | (simp only [List.length_drop, List.length_take]; rfl)) ?_; (with_reducible refine (spymake_Below.calls a0 3600000 t101 _ A2.out).mono ?_); rintro e w' ⟨rfl, ⟨nd, rfl⟩⟩; refine ⟨_, rfl, ?_⟩) | ((with_reducible refine gate_callee (f := 16) rfl ?_); refine goesL_ (some 19) rfl rfl Try.func16 (by kernel_rfl) rfl #[.int .i64 (wrap64 (t101 - 700000))] rfl (by (try simp only [List.map_toArray, List.map_cons, List.map_nil]); first | done | rfl | (simp only [List.length_drop, List.length_take]; rfl)) ?_; (with_reducible refine (scale_Date.calls k (wrap64 (t101 - 700000)) t102 t103 t104 t105 _ A3.out).mono ?_); rintro e w57 ⟨rfl, hb⟩; refine ⟨_, rfl, ?_⟩; have n0_ := Aside0.mk (below_step (by repeat (first | (with_reducible first | exact HB.out | apply below_alloc | apply pw_below_drewN | apply below_drew1) | exact HB.out)) hb); clear HB; have HB := n0_; clear n0_; (try clear hb); (try clear hb2); (try clear hk); (try clear hi)) | ((with_reducible refine gate_callee (f := 16) rfl ?_); refine goesL_ (some 27) rfl rfl Try.func16 (by kernel_rfl) rfl #[.int .i64 (wrap64 ((wrap64 (t101 - 700000)) + 1))] rfl (by (try simp only [List.map_toArray, List.map_cons, List.map_nil]); first | done | rfl | (simp only [List.length_drop, List.length_take]; rfl)) ?_; (with_reducible refine (scale_Date.calls k (wrap64 ((wrap64 (t101 - 700000)) + 1)) t106 t107 t108 t109 _ A4.out).mono ?_); rintro e w58 ⟨rfl, hb⟩; refine ⟨_, rfl, ?_⟩; have n0_ := Aside0.mk (below_step (by repeat (first | (with_reducible first | exact HB.out | apply below_alloc | apply pw_below_drewN | apply below_drew1) | exact HB.out)) hb); clear HB; have HB := n0_; clear n0_; (try clear hb); (try clear hb2); (try clear hk); (try clear hi)) | ((with_reducible refine gate_callee (f := 17) rfl ?_); refine goesL_ (some 32) rfl rfl Try.func17 (by kernel_rfl) rfl #[] rfl (by (try simp only [List.map_toArray, List.map_cons, List.map_nil]); first | done | rfl | (simp only [List.length_drop, List.length_take]; rfl)) ?_; (with_reducible refine (spykeep1_scaleFact.calls k  true _ A5.out).mono ?_); rintro e w59 ⟨rfl, hb⟩; refine ⟨_, rfl, ?_⟩; have n0_ := Aside0.mk (below_step (by repeat (first | (with_reducible first | exact HB.out | apply below_alloc | apply pw_below_drewN | apply below_drew1) | exact HB.out)) hb); clear HB; have HB := n0_; clear n0_; (try clear hb); (try clear hb2); (try clear hk); (try clear hi)) | ((with_reducible refine gate_callee (f := 18) rfl ?_); refine goesL_ (some 51) rfl rfl Try.func18 (by kernel_rfl) rfl #[.int .i64 t102, .int .i64 t103, .int .i64 t104] rfl (by (try simp only [List.map_toArray, List.map_cons, List.map_nil]); first | done | rfl | (simp only [List.length_drop, List.length_take]; rfl)) ?_; (with_reducible refine (scale_Days.calls k t102 t103 t104 t111 t112 _ A9.out).mono ?_); rintro e w' ⟨rfl, ⟨nd, rfl⟩⟩; refine ⟨_, rfl, ?_⟩))
                        go_ret
                        exact ⟨by first | rfl | (simp [errW_none, errW_some] <;> rfl) | (simp [*, errW_none, errW_some] <;> rfl), by repeat (first | (with_reducible first | exact HB.out | apply below_alloc | apply pw_below_drewN | apply below_drew1) | exact HB.out)⟩
                      · rw [if_neg c56] at H
                        exact absurd H (by simp)
                    · rw [if_neg c55] at H
                      exact absurd H (by simp)
                  · rw [if_neg c54] at H
                    exact absurd H (by simp)
                · rw [if_neg c53] at H
                  exact absurd H (by simp)
              · rw [if_neg c52] at H
                exact absurd H (by simp)
            · rw [if_neg c51] at H
              exact absurd H (by simp)
          · rw [if_neg c50] at H
            exact absurd H (by simp)
      · rw [if_neg c8] at H
        have c8b0 : (t109 == 0) = false := beq_eq_false_iff_ne.mpr c8
        have c8b1 : (t109 != 0) = true := bne_iff_ne.mpr c8
        by_cases c60 : (wrap64 ((wrap64 (t101 - 700000)) + 1)) > 2900000
        · rw [if_pos c60] at H
          have c60b0 : decide (2900000 < (wrap64 ((wrap64 (t101 - 700000)) + 1))) = true := decide_eq_true c60
          clear c60
          obtain rfl := Option.some.inj H
          go_enter Try.func3, Try.ntmps3
          go_wp2_with (first | ((with_reducible refine gate_callee (f := 15) rfl ?_); refine goesL_ (some 15) rfl rfl Try.func15 (by kernel_rfl) rfl #[.int .i64 a0, .int .i64 3600000] rfl (by (try simp only [List.map_toArray, List.map_cons, List.map_nil]); first | done | rfl | (simp only [List.length_drop, List.length_take]; rfl)) ?_; (with_reducible refine (spymake_Below.calls a0 3600000 t101 _ A2.out).mono ?_); rintro e w' ⟨rfl, ⟨nd, rfl⟩⟩; refine ⟨_, rfl, ?_⟩) | ((with_reducible refine gate_callee (f := 16) rfl ?_); refine goesL_ (some 19) rfl rfl Try.func16 (by kernel_rfl) rfl #[.int .i64 (wrap64 (t101 - 700000))] rfl (by (try simp only [List.map_toArray, List.map_cons, List.map_nil]); first | done | rfl | (simp only [List.length_drop, List.length_take]; rfl)) ?_; (with_reducible refine (scale_Date.calls k (wrap64 (t101 - 700000)) t102 t103 t104 t105 _ A3.out).mono ?_); rintro e w61 ⟨rfl, hb⟩; refine ⟨_, rfl, ?_⟩; have n0_ := Aside0.mk (below_step (by repeat (first | (with_reducible first | exact HB.out | apply below_alloc | apply pw_below_drewN | apply below_drew1) | exact HB.out)) hb); clear HB; have HB := n0_; clear n0_; (try clear hb); (try clear hb2); (try clear hk); (try clear hi)) | ((with_reducible refine gate_callee (f := 16) rfl ?_); refine goesL_ (some 27) rfl rfl Try.func16 (by kernel_rfl) rfl #[.int .i64 (wrap64 ((wrap64 (t101 - 700000)) + 1))] rfl (by (try simp only [List.map_toArray, List.map_cons, List.map_nil]); first | done | rfl | (simp only [List.length_drop, List.length_take]; rfl)) ?_; (with_reducible refine (scale_Date.calls k (wrap64 ((wrap64 (t101 - 700000)) + 1)) t106 t107 t108 t109 _ A4.out).mono ?_); rintro e w62 ⟨rfl, hb⟩; refine ⟨_, rfl, ?_⟩; have n0_ := Aside0.mk (below_step (by repeat (first | (with_reducible first | exact HB.out | apply below_alloc | apply pw_below_drewN | apply below_drew1) | exact HB.out)) hb); clear HB; have HB := n0_; clear n0_; (try clear hb); (try clear hb2); (try clear hk); (try clear hi)) | ((with_reducible refine gate_callee (f := 17) rfl ?_); refine goesL_ (some 32) rfl rfl Try.func17 (by kernel_rfl) rfl #[] rfl (by (try simp only [List.map_toArray, List.map_cons, List.map_nil]); first | done | rfl | (simp only [List.length_drop, List.length_take]; rfl)) ?_; (with_reducible refine (spykeep1_scaleFact.calls k  true _ A5.out).mono ?_); rintro e w63 ⟨rfl, hb⟩; refine ⟨_, rfl, ?_⟩; have n0_ := Aside0.mk (below_step (by repeat (first | (with_reducible first | exact HB.out | apply below_alloc | apply pw_below_drewN | apply below_drew1) | exact HB.out)) hb); clear HB; have HB := n0_; clear n0_; (try clear hb); (try clear hb2); (try clear hk); (try clear hi)))
          go_ret
          exact ⟨by first | rfl | (simp [errW_none, errW_some] <;> rfl) | (simp [*, errW_none, errW_some] <;> rfl), by repeat (first | (with_reducible first | exact HB.out | apply below_alloc | apply pw_below_drewN | apply below_drew1) | exact HB.out)⟩
        · rw [if_neg c60] at H
          exact absurd H (by simp)
    · rw [if_neg c7] at H
      have c7b0 : (t105 == 0) = false := beq_eq_false_iff_ne.mpr c7
      have c7b1 : (t105 != 0) = true := bne_iff_ne.mpr c7
      by_cases c64 : (wrap64 ((wrap64 (t101 - 700000)) + 1)) > 2900000
      · rw [if_pos c64] at H
        have c64b0 : decide (2900000 < (wrap64 ((wrap64 (t101 - 700000)) + 1))) = true := decide_eq_true c64
        clear c64
        obtain rfl := Option.some.inj H
        go_enter Try.func3, Try.ntmps3
        go_wp2_with (first | ((with_reducible refine gate_callee (f := 15) rfl ?_); refine goesL_ (some 15) rfl rfl Try.func15 (by kernel_rfl) rfl #[.int .i64 a0, .int .i64 3600000] rfl (by (try simp only [List.map_toArray, List.map_cons, List.map_nil]); first | done | rfl | (simp only [List.length_drop, List.length_take]; rfl)) ?_; (with_reducible refine (spymake_Below.calls a0 3600000 t101 _ A2.out).mono ?_); rintro e w' ⟨rfl, ⟨nd, rfl⟩⟩; refine ⟨_, rfl, ?_⟩) | ((with_reducible refine gate_callee (f := 16) rfl ?_); refine goesL_ (some 19) rfl rfl Try.func16 (by kernel_rfl) rfl #[.int .i64 (wrap64 (t101 - 700000))] rfl (by (try simp only [List.map_toArray, List.map_cons, List.map_nil]); first | done | rfl | (simp only [List.length_drop, List.length_take]; rfl)) ?_; (with_reducible refine (scale_Date.calls k (wrap64 (t101 - 700000)) t102 t103 t104 t105 _ A3.out).mono ?_); rintro e w65 ⟨rfl, hb⟩; refine ⟨_, rfl, ?_⟩; have n0_ := Aside0.mk (below_step (by repeat (first | (with_reducible first | exact HB.out | apply below_alloc | apply pw_below_drewN | apply below_drew1) | exact HB.out)) hb); clear HB; have HB := n0_; clear n0_; (try clear hb); (try clear hb2); (try clear hk); (try clear hi)) | ((with_reducible refine gate_callee (f := 16) rfl ?_); refine goesL_ (some 27) rfl rfl Try.func16 (by kernel_rfl) rfl #[.int .i64 (wrap64 ((wrap64 (t101 - 700000)) + 1))] rfl (by (try simp only [List.map_toArray, List.map_cons, List.map_nil]); first | done | rfl | (simp only [List.length_drop, List.length_take]; rfl)) ?_; (with_reducible refine (scale_Date.calls k (wrap64 ((wrap64 (t101 - 700000)) + 1)) t106 t107 t108 t109 _ A4.out).mono ?_); rintro e w66 ⟨rfl, hb⟩; refine ⟨_, rfl, ?_⟩; have n0_ := Aside0.mk (below_step (by repeat (first | (with_reducible first | exact HB.out | apply below_alloc | apply pw_below_drewN | apply below_drew1) | exact HB.out)) hb); clear HB; have HB := n0_; clear n0_; (try clear hb); (try clear hb2); (try clear hk); (try clear hi)) | ((with_reducible refine gate_callee (f := 17) rfl ?_); refine goesL_ (some 32) rfl rfl Try.func17 (by kernel_rfl) rfl #[] rfl (by (try simp only [List.map_toArray, List.map_cons, List.map_nil]); first | done | rfl | (simp only [List.length_drop, List.length_take]; rfl)) ?_; (with_reducible refine (spykeep1_scaleFact.calls k  true _ A5.out).mono ?_); rintro e w67 ⟨rfl, hb⟩; refine ⟨_, rfl, ?_⟩; have n0_ := Aside0.mk (below_step (by repeat (first | (with_reducible first | exact HB.out | apply below_alloc | apply pw_below_drewN | apply below_drew1) | exact HB.out)) hb); clear HB; have HB := n0_; clear n0_; (try clear hb); (try clear hb2); (try clear hk); (try clear hi)))
        go_ret
        exact ⟨by first | rfl | (simp [errW_none, errW_some] <;> rfl) | (simp [*, errW_none, errW_some] <;> rfl), by repeat (first | (with_reducible first | exact HB.out | apply below_alloc | apply pw_below_drewN | apply below_drew1) | exact HB.out)⟩
      · rw [if_neg c64] at H
        exact absurd H (by simp)
  · replace c6 := Bool.eq_false_iff.mpr c6
    subst c6
    have H1 : (none) = some r := by rw [if_neg (show ¬ (false = true) by decide)] at H; exact H
    clear H
    have H := H1
    clear H1
    exact absurd H (by simp)

/-- THE ONE PURE STATEMENT of spykeep1_ScaleDays: yours. -/
def spykeep1_ScaleDays.Pure : Prop := ∀ (a0 : Int), (Lit.int .i64 a0).wf = true → ∃ k, spykeep1_ScaleDays.f k a0 = some true
theorem spykeep1_ScaleDays.walk (P : spykeep1_ScaleDays.Pure) (a0 : Int) (w : World) (w0 : (Lit.int .i64 a0).wf = true) :
    Calls Try.prog 3 #[.int .i64 a0] w fun e w' => e = .returned (.bool true) ∧ Below w.heap.size w w' := by
  obtain ⟨k, h⟩ := P a0 w0
  refine (spykeep1_ScaleDays.calls k a0 true w h).mono ?_
  rintro e w' ⟨rfl, hd⟩
  exact ⟨rfl, hd⟩

end Go.Proofs.Ytbaedcjophgiiaa.Q
