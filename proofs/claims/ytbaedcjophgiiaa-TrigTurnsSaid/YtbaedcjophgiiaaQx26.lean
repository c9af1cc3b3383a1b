/- Contracts of Go functions of the seat, one by one: each call returns what the Lean function of the same name says, wherever that is 'some'; no other condition. Written by a program of this session. -/
import Derived.Test.YtbaedcjophgiiaaQx0
import Derived.Test.YtbaedcjophgiiaaQx4
import Derived.Test.YtbaedcjophgiiaaQx21
import Derived.Test.YtbaedcjophgiiaaQx22
namespace Go.Proofs.Ytbaedcjophgiiaa.Q
open Go.RowKit Go.Proofs.YtbaedcjophgiiaaW.PrintWords Go.Proofs.YtbaedcjophgiiaaW.PrintLast Go.Proofs.YtbaedcjophgiiaaW.PrintMore
attribute [local go_sem] max2_int min2_int max_two min_two max_three min_three max_four min_four   -- for this text's walks alone
set_option linter.unusedVariables false
set_option linter.unusedSimpArgs false

/-! ### spykeep1_TrigTurns: function 10 -/
mutual
def spykeep1_TrigTurns.j0 : Nat → Int → Int → Int → Int → Int → Bool → Option (Bool)
  | 0, _, _, _, _, _, _ => none
  | k + 1, x11, x12, x13, x14, x15, x49 => if x49 = true then ((spykeep1_trigFact.f k).bind fun t106 => (some t106)) else ((trig_Atan2.f k x12 x11).bind fun bt107 => ((trig_Atan2.f k x14 x13).bind fun bt109 => ((trig_Atan2.f k (wrap64 (x15 * x12)) (wrap64 (x15 * x11))).bind fun bt111 => ((spykeep1_trigFact.f k).bind fun t113 => (if t113 = true then (if bt107.2 = 0 then (if bt109.2 = 0 then (if bt111.2 = 0 then (spykeep1_TrigTurns.j1 k x11 x12 x13 x14 bt107.1 bt109.1 (bt107.1 != bt111.1)) else (none)) else (none)) else (none)) else (none))))))
def spykeep1_TrigTurns.j1 : Nat → Int → Int → Int → Int → Int → Int → Bool → Option (Bool)
  | 0, _, _, _, _, _, _, _ => none
  | k + 1, x11, x12, x13, x14, x16, x18, x91 => if x91 = true then (none) else (if x12 = 0 then (if x11 < 0 then (spykeep1_TrigTurns.j2 k x16 x18 (wrap64 ((wrap64 (x11 * x14)) - (wrap64 (x12 * x13)))) true) else (if x14 = 0 then (spykeep1_TrigTurns.j2 k x16 x18 (wrap64 ((wrap64 (x11 * x14)) - (wrap64 (x12 * x13)))) (decide (x13 < 0))) else (spykeep1_TrigTurns.j2 k x16 x18 (wrap64 ((wrap64 (x11 * x14)) - (wrap64 (x12 * x13)))) false))) else (if x14 = 0 then (spykeep1_TrigTurns.j2 k x16 x18 (wrap64 ((wrap64 (x11 * x14)) - (wrap64 (x12 * x13)))) (decide (x13 < 0))) else (spykeep1_TrigTurns.j2 k x16 x18 (wrap64 ((wrap64 (x11 * x14)) - (wrap64 (x12 * x13)))) false)))
def spykeep1_TrigTurns.j2 : Nat → Int → Int → Int → Bool → Option (Bool)
  | 0, _, _, _, _ => none
  | k + 1, x16, x18, x22, x99 => if x99 = true then (some true) else (if x22 > 0 then (some (decide (x16 ≤ x18))) else (if x22 < 0 then (some (decide (x16 ≥ x18))) else (some (x16 == x18))))
end
def spykeep1_TrigTurns.f (k : Nat) (a0 : Int) (a1 : Int) (a2 : Int) (a3 : Int) (a4 : Int) : Option (Bool) := (spymake_Below.f a0 2001).bind fun t101 => ((spymake_Below.f a1 1001).bind fun t102 => ((spymake_Below.f a2 2001).bind fun t103 => ((spymake_Below.f a3 1001).bind fun t104 => ((spymake_Below.f a4 4000000).bind fun t105 => (if (wrap64 (t101 - 1000)) = 0 then (if t102 = 0 then (spykeep1_TrigTurns.j0 k (wrap64 (t101 - 1000)) t102 (wrap64 (t103 - 1000)) t104 (wrap64 (1 + t105)) true) else (if (wrap64 (t103 - 1000)) = 0 then (spykeep1_TrigTurns.j0 k (wrap64 (t101 - 1000)) t102 (wrap64 (t103 - 1000)) t104 (wrap64 (1 + t105)) (t104 == 0)) else (spykeep1_TrigTurns.j0 k (wrap64 (t101 - 1000)) t102 (wrap64 (t103 - 1000)) t104 (wrap64 (1 + t105)) false))) else (if (wrap64 (t103 - 1000)) = 0 then (spykeep1_TrigTurns.j0 k (wrap64 (t101 - 1000)) t102 (wrap64 (t103 - 1000)) t104 (wrap64 (1 + t105)) (t104 == 0)) else (spykeep1_TrigTurns.j0 k (wrap64 (t101 - 1000)) t102 (wrap64 (t103 - 1000)) t104 (wrap64 (1 + t105)) false)))))))
theorem spykeep1_TrigTurns.mono_l : ∀ k, (∀ y0 y1 y2 y3 y4 y5, LeO (spykeep1_TrigTurns.j0 k y0 y1 y2 y3 y4 y5) (spykeep1_TrigTurns.j0 (k + 1) y0 y1 y2 y3 y4 y5)) ∧ (∀ y0 y1 y2 y3 y4 y5 y6, LeO (spykeep1_TrigTurns.j1 k y0 y1 y2 y3 y4 y5 y6) (spykeep1_TrigTurns.j1 (k + 1) y0 y1 y2 y3 y4 y5 y6)) ∧ (∀ y0 y1 y2 y3, LeO (spykeep1_TrigTurns.j2 k y0 y1 y2 y3) (spykeep1_TrigTurns.j2 (k + 1) y0 y1 y2 y3))
  | 0 => ⟨fun _ _ _ _ _ _ r h => by simp [spykeep1_TrigTurns.j0] at h, fun _ _ _ _ _ _ _ r h => by simp [spykeep1_TrigTurns.j1] at h, fun _ _ _ _ r h => by simp [spykeep1_TrigTurns.j2] at h⟩
  | k + 1 => by
    obtain ⟨ih0, ih1, ih2⟩ := spykeep1_TrigTurns.mono_l k
    refine ⟨?_, ?_, ?_⟩
    · intro y0 y1 y2 y3 y4 y5
      unfold spykeep1_TrigTurns.j0
      repeat' first
      | (with_reducible exact ih0 _ _ _ _ _ _)
      | (with_reducible exact ih1 _ _ _ _ _ _ _)
      | (with_reducible exact ih2 _ _ _ _)
      | (with_reducible exact spykeep1_trigFact.mono _)
      | (with_reducible exact trig_Atan2.mono _ _ _)
      | (with_reducible exact LeO.refl _)
      | (with_reducible exact LeO.none _)
      | (with_reducible refine LeO.ite ?_ ?_)
      | (with_reducible refine LeO.bind ?_ (fun _ => ?_))
      | exact ih0 _ _ _ _ _ _
      | exact ih1 _ _ _ _ _ _ _
      | exact ih2 _ _ _ _
      | exact spykeep1_trigFact.mono _
      | exact trig_Atan2.mono _ _ _
      | exact LeO.none _
      | refine LeO.ite ?_ ?_
      | refine LeO.bind ?_ (fun _ => ?_)
    · intro y0 y1 y2 y3 y4 y5 y6
      unfold spykeep1_TrigTurns.j1
      repeat' first
      | (with_reducible exact ih0 _ _ _ _ _ _)
      | (with_reducible exact ih1 _ _ _ _ _ _ _)
      | (with_reducible exact ih2 _ _ _ _)
      | (with_reducible exact spykeep1_trigFact.mono _)
      | (with_reducible exact trig_Atan2.mono _ _ _)
      | (with_reducible exact LeO.refl _)
      | (with_reducible exact LeO.none _)
      | (with_reducible refine LeO.ite ?_ ?_)
      | (with_reducible refine LeO.bind ?_ (fun _ => ?_))
      | exact ih0 _ _ _ _ _ _
      | exact ih1 _ _ _ _ _ _ _
      | exact ih2 _ _ _ _
      | exact spykeep1_trigFact.mono _
      | exact trig_Atan2.mono _ _ _
      | exact LeO.none _
      | refine LeO.ite ?_ ?_
      | refine LeO.bind ?_ (fun _ => ?_)
    · intro y0 y1 y2 y3
      unfold spykeep1_TrigTurns.j2
      repeat' first
      | (with_reducible exact ih0 _ _ _ _ _ _)
      | (with_reducible exact ih1 _ _ _ _ _ _ _)
      | (with_reducible exact ih2 _ _ _ _)
      | (with_reducible exact spykeep1_trigFact.mono _)
      | (with_reducible exact trig_Atan2.mono _ _ _)
      | (with_reducible exact LeO.refl _)
      | (with_reducible exact LeO.none _)
      | (with_reducible refine LeO.ite ?_ ?_)
      | (with_reducible refine LeO.bind ?_ (fun _ => ?_))
      | exact ih0 _ _ _ _ _ _
      | exact ih1 _ _ _ _ _ _ _
      | exact ih2 _ _ _ _
      | exact spykeep1_trigFact.mono _
      | exact trig_Atan2.mono _ _ _
      | exact LeO.none _
      | refine LeO.ite ?_ ?_
      | refine LeO.bind ?_ (fun _ => ?_)
theorem spykeep1_TrigTurns.mono : ∀ a0 a1 a2 a3 a4 k, LeO (spykeep1_TrigTurns.f k a0 a1 a2 a3 a4) (spykeep1_TrigTurns.f (k + 1) a0 a1 a2 a3 a4) := by
  intro a0 a1 a2 a3 a4 k
  obtain ⟨ih0, ih1, ih2⟩ := spykeep1_TrigTurns.mono_l k
  unfold spykeep1_TrigTurns.f
  repeat' first
      | (with_reducible exact ih0 _ _ _ _ _ _)
      | (with_reducible exact ih1 _ _ _ _ _ _ _)
      | (with_reducible exact ih2 _ _ _ _)
      | (with_reducible exact spykeep1_trigFact.mono _)
      | (with_reducible exact trig_Atan2.mono _ _ _)
      | (with_reducible exact LeO.refl _)
      | (with_reducible exact LeO.none _)
      | (with_reducible refine LeO.ite ?_ ?_)
      | (with_reducible refine LeO.bind ?_ (fun _ => ?_))
      | exact ih0 _ _ _ _ _ _
      | exact ih1 _ _ _ _ _ _ _
      | exact ih2 _ _ _ _
      | exact spykeep1_trigFact.mono _
      | exact trig_Atan2.mono _ _ _
      | exact LeO.none _
      | refine LeO.ite ?_ ?_
      | refine LeO.bind ?_ (fun _ => ?_)
set_option maxHeartbeats 8000000 in
set_option maxRecDepth 100000 in
theorem spykeep1_TrigTurns.calls (k : Nat) (a0 : Int) (a1 : Int) (a2 : Int) (a3 : Int) (a4 : Int) (r : Bool) (w : World) (h : spykeep1_TrigTurns.f k a0 a1 a2 a3 a4 = some r) :
    Calls Try.prog 10 #[.int .i64 a0, .int .i64 a1, .int .i64 a2, .int .i64 a3, .int .i64 a4] w fun e w' => e = .returned (.bool r) ∧ Below w.heap.size w w' := by
  have HB := Aside0.mk (Below.refl w.heap.size w)
  have H : ((spymake_Below.f a0 2001).bind fun t101 => ((spymake_Below.f a1 1001).bind fun t102 => ((spymake_Below.f a2 2001).bind fun t103 => ((spymake_Below.f a3 1001).bind fun t104 => ((spymake_Below.f a4 4000000).bind fun t105 => (if (wrap64 (t101 - 1000)) = 0 then (if t102 = 0 then (spykeep1_TrigTurns.j0 k (wrap64 (t101 - 1000)) t102 (wrap64 (t103 - 1000)) t104 (wrap64 (1 + t105)) true) else (if (wrap64 (t103 - 1000)) = 0 then (spykeep1_TrigTurns.j0 k (wrap64 (t101 - 1000)) t102 (wrap64 (t103 - 1000)) t104 (wrap64 (1 + t105)) (t104 == 0)) else (spykeep1_TrigTurns.j0 k (wrap64 (t101 - 1000)) t102 (wrap64 (t103 - 1000)) t104 (wrap64 (1 + t105)) false))) else (if (wrap64 (t103 - 1000)) = 0 then (spykeep1_TrigTurns.j0 k (wrap64 (t101 - 1000)) t102 (wrap64 (t103 - 1000)) t104 (wrap64 (1 + t105)) (t104 == 0)) else (spykeep1_TrigTurns.j0 k (wrap64 (t101 - 1000)) t102 (wrap64 (t103 - 1000)) t104 (wrap64 (1 + t105)) false)))))))) = some r := h
  clear h
  replace H := Option.bind_eq_some_iff.mp H
  obtain ⟨t101, A60, H⟩ := H
  replace H : ((spymake_Below.f a1 1001).bind fun t102 => ((spymake_Below.f a2 2001).bind fun t103 => ((spymake_Below.f a3 1001).bind fun t104 => ((spymake_Below.f a4 4000000).bind fun t105 => (if (wrap64 (t101 - 1000)) = 0 then (if t102 = 0 then (spykeep1_TrigTurns.j0 k (wrap64 (t101 - 1000)) t102 (wrap64 (t103 - 1000)) t104 (wrap64 (1 + t105)) true) else (if (wrap64 (t103 - 1000)) = 0 then (spykeep1_TrigTurns.j0 k (wrap64 (t101 - 1000)) t102 (wrap64 (t103 - 1000)) t104 (wrap64 (1 + t105)) (t104 == 0)) else (spykeep1_TrigTurns.j0 k (wrap64 (t101 - 1000)) t102 (wrap64 (t103 - 1000)) t104 (wrap64 (1 + t105)) false))) else (if (wrap64 (t103 - 1000)) = 0 then (spykeep1_TrigTurns.j0 k (wrap64 (t101 - 1000)) t102 (wrap64 (t103 - 1000)) t104 (wrap64 (1 + t105)) (t104 == 0)) else (spykeep1_TrigTurns.j0 k (wrap64 (t101 - 1000)) t102 (wrap64 (t103 - 1000)) t104 (wrap64 (1 + t105)) false))))))) = some r := H
  have A6 := Aside0.mk A60
  clear A60
  replace H := Option.bind_eq_some_iff.mp H
  obtain ⟨t102, A70, H⟩ := H
  replace H : ((spymake_Below.f a2 2001).bind fun t103 => ((spymake_Below.f a3 1001).bind fun t104 => ((spymake_Below.f a4 4000000).bind fun t105 => (if (wrap64 (t101 - 1000)) = 0 then (if t102 = 0 then (spykeep1_TrigTurns.j0 k (wrap64 (t101 - 1000)) t102 (wrap64 (t103 - 1000)) t104 (wrap64 (1 + t105)) true) else (if (wrap64 (t103 - 1000)) = 0 then (spykeep1_TrigTurns.j0 k (wrap64 (t101 - 1000)) t102 (wrap64 (t103 - 1000)) t104 (wrap64 (1 + t105)) (t104 == 0)) else (spykeep1_TrigTurns.j0 k (wrap64 (t101 - 1000)) t102 (wrap64 (t103 - 1000)) t104 (wrap64 (1 + t105)) false))) else (if (wrap64 (t103 - 1000)) = 0 then (spykeep1_TrigTurns.j0 k (wrap64 (t101 - 1000)) t102 (wrap64 (t103 - 1000)) t104 (wrap64 (1 + t105)) (t104 == 0)) else (spykeep1_TrigTurns.j0 k (wrap64 (t101 - 1000)) t102 (wrap64 (t103 - 1000)) t104 (wrap64 (1 + t105)) false)))))) = some r := H
  have A7 := Aside0.mk A70
  clear A70
  replace H := Option.bind_eq_some_iff.mp H
  obtain ⟨t103, A80, H⟩ := H
  replace H : ((spymake_Below.f a3 1001).bind fun t104 => ((spymake_Below.f a4 4000000).bind fun t105 => (if (wrap64 (t101 - 1000)) = 0 then (if t102 = 0 then (spykeep1_TrigTurns.j0 k (wrap64 (t101 - 1000)) t102 (wrap64 (t103 - 1000)) t104 (wrap64 (1 + t105)) true) else (if (wrap64 (t103 - 1000)) = 0 then (spykeep1_TrigTurns.j0 k (wrap64 (t101 - 1000)) t102 (wrap64 (t103 - 1000)) t104 (wrap64 (1 + t105)) (t104 == 0)) else (spykeep1_TrigTurns.j0 k (wrap64 (t101 - 1000)) t102 (wrap64 (t103 - 1000)) t104 (wrap64 (1 + t105)) false))) else (if (wrap64 (t103 - 1000)) = 0 then (spykeep1_TrigTurns.j0 k (wrap64 (t101 - 1000)) t102 (wrap64 (t103 - 1000)) t104 (wrap64 (1 + t105)) (t104 == 0)) else (spykeep1_TrigTurns.j0 k (wrap64 (t101 - 1000)) t102 (wrap64 (t103 - 1000)) t104 (wrap64 (1 + t105)) false))))) = some r := H
  have A8 := Aside0.mk A80
  clear A80
  replace H := Option.bind_eq_some_iff.mp H
  obtain ⟨t104, A90, H⟩ := H
  replace H : ((spymake_Below.f a4 4000000).bind fun t105 => (if (wrap64 (t101 - 1000)) = 0 then (if t102 = 0 then (spykeep1_TrigTurns.j0 k (wrap64 (t101 - 1000)) t102 (wrap64 (t103 - 1000)) t104 (wrap64 (1 + t105)) true) else (if (wrap64 (t103 - 1000)) = 0 then (spykeep1_TrigTurns.j0 k (wrap64 (t101 - 1000)) t102 (wrap64 (t103 - 1000)) t104 (wrap64 (1 + t105)) (t104 == 0)) else (spykeep1_TrigTurns.j0 k (wrap64 (t101 - 1000)) t102 (wrap64 (t103 - 1000)) t104 (wrap64 (1 + t105)) false))) else (if (wrap64 (t103 - 1000)) = 0 then (spykeep1_TrigTurns.j0 k (wrap64 (t101 - 1000)) t102 (wrap64 (t103 - 1000)) t104 (wrap64 (1 + t105)) (t104 == 0)) else (spykeep1_TrigTurns.j0 k (wrap64 (t101 - 1000)) t102 (wrap64 (t103 - 1000)) t104 (wrap64 (1 + t105)) false)))) = some r := H
  have A9 := Aside0.mk A90
  clear A90
  replace H := Option.bind_eq_some_iff.mp H
  obtain ⟨t105, A100, H⟩ := H
  replace H : (if (wrap64 (t101 - 1000)) = 0 then (if t102 = 0 then (spykeep1_TrigTurns.j0 k (wrap64 (t101 - 1000)) t102 (wrap64 (t103 - 1000)) t104 (wrap64 (1 + t105)) true) else (if (wrap64 (t103 - 1000)) = 0 then (spykeep1_TrigTurns.j0 k (wrap64 (t101 - 1000)) t102 (wrap64 (t103 - 1000)) t104 (wrap64 (1 + t105)) (t104 == 0)) else (spykeep1_TrigTurns.j0 k (wrap64 (t101 - 1000)) t102 (wrap64 (t103 - 1000)) t104 (wrap64 (1 + t105)) false))) else (if (wrap64 (t103 - 1000)) = 0 then (spykeep1_TrigTurns.j0 k (wrap64 (t101 - 1000)) t102 (wrap64 (t103 - 1000)) t104 (wrap64 (1 + t105)) (t104 == 0)) else (spykeep1_TrigTurns.j0 k (wrap64 (t101 - 1000)) t102 (wrap64 (t103 - 1000)) t104 (wrap64 (1 + t105)) false))) = some r := H
  have A10 := Aside0.mk A100
  clear A100
  have HC11 := Aside0.mk H
  clear H
  go_enter Try.func10, Try.ntmps10
  go_upto_region 4 with (first | ((with_reducible refine gate_callee (f := 15) rfl ?_); refine goesL_ (some 24) rfl rfl Try.func15 (by kernel_rfl) rfl #[.int .i64 a0, .int .i64 2001] rfl (by (try simp only [List.map_toArray, List.map_cons, List.map_nil]); first | done | rfl | (simp only [List.length_drop, List.length_take]; rfl)) ?_; (with_reducible refine (spymake_Below.calls a0 2001 t101 _ A6.out).mono ?_); rintro e w' ⟨rfl, ⟨nd, rfl⟩⟩; refine ⟨_, rfl, ?_⟩) | ((with_reducible refine gate_callee (f := 15) rfl ?_); refine goesL_ (some 27) rfl rfl Try.func15 (by kernel_rfl) rfl #[.int .i64 a1, .int .i64 1001] rfl (by (try simp only [List.map_toArray, List.map_cons, List.map_nil]); first | done | rfl | (simp only [List.length_drop, List.length_take]; rfl)) ?_; (with_reducible refine (spymake_Below.calls a1 1001 t102 _ A7.out).mono ?_); rintro e w' ⟨rfl, ⟨nd, rfl⟩⟩; refine ⟨_, rfl, ?_⟩) | ((with_reducible refine gate_callee (f := 15) rfl ?_); refine goesL_ (some 29) rfl rfl Try.func15 (by kernel_rfl) rfl #[.int .i64 a2, .int .i64 2001] rfl (by (try simp only [List.map_toArray, List.map_cons, List.map_nil]); first | done | rfl | (simp only [List.length_drop, List.length_take]; rfl)) ?_; (with_reducible refine (spymake_Below.calls a2 2001 t103 _ A8.out).mono ?_); rintro e w' ⟨rfl, ⟨nd, rfl⟩⟩; refine ⟨_, rfl, ?_⟩) | ((with_reducible refine gate_callee (f := 15) rfl ?_); refine goesL_ (some 32) rfl rfl Try.func15 (by kernel_rfl) rfl #[.int .i64 a3, .int .i64 1001] rfl (by (try simp only [List.map_toArray, List.map_cons, List.map_nil]); first | done | rfl | (simp only [List.length_drop, List.length_take]; rfl)) ?_; (with_reducible refine (spymake_Below.calls a3 1001 t104 _ A9.out).mono ?_); rintro e w' ⟨rfl, ⟨nd, rfl⟩⟩; refine ⟨_, rfl, ?_⟩) | ((with_reducible refine gate_callee (f := 15) rfl ?_); refine goesL_ (some 34) rfl rfl Try.func15 (by kernel_rfl) rfl #[.int .i64 a4, .int .i64 4000000] rfl (by (try simp only [List.map_toArray, List.map_cons, List.map_nil]); first | done | rfl | (simp only [List.length_drop, List.length_take]; rfl)) ?_; (with_reducible refine (spymake_Below.calls a4 4000000 t105 _ A10.out).mono ?_); rintro e w' ⟨rfl, ⟨nd, rfl⟩⟩; refine ⟨_, rfl, ?_⟩))
  (try simp only [Act.put, List.setIfInBounds_toArray, List.set_cons_zero, List.set_cons_succ])
  go_cut [49] (fun v49 wc => ∃ (kq : Nat) (x49_10 : Bool), v49 = .bool x49_10 ∧ Aside0 (spykeep1_TrigTurns.j0 kq (wrap64 (t101 - 1000)) t102 (wrap64 (t103 - 1000)) t104 (wrap64 (1 + t105)) x49_10 = some r) ∧ Aside0 (kq ≤ k) ∧ Aside0 (Below w.heap.size w wc))
  case first =>
    have H := HC11.out
    clear HC11
    by_cases c12 : (wrap64 (t101 - 1000)) = 0
    · rw [if_pos c12] at H
      have c12b0 : ((wrap64 (t101 - 1000)) == 0) = true := beq_iff_eq.mpr c12
      have c12b1 : ((wrap64 (t101 - 1000)) != 0) = false := bne_eq_false_iff_eq.mpr c12
      clear c12
      (first | rw [c12b0] | (simp only [i64_w, i32_w]; rw [c12b0]) | skip)
      by_cases c13 : t102 = 0
      · rw [if_pos c13] at H
        have c13b0 : (t102 == 0) = true := beq_iff_eq.mpr c13
        have c13b1 : (t102 != 0) = false := bne_eq_false_iff_eq.mpr c13
        clear c13
        have H' := Aside0.mk H
        clear H
        go_wp2
        go_meet
        case rel => exact ⟨_, (true), (by first | rfl | (simp; done) | (simp [*]; done)), H', ⟨by first | omega | exact Nat.le_refl _⟩, ⟨by repeat (first | (with_reducible first | exact HB.out | apply below_alloc | apply pw_below_drewN | apply below_drew1) | exact HB.out)⟩⟩
      · rw [if_neg c13] at H
        have c13b0 : (t102 == 0) = false := beq_eq_false_iff_ne.mpr c13
        have c13b1 : (t102 != 0) = true := bne_iff_ne.mpr c13
        by_cases c14 : (wrap64 (t103 - 1000)) = 0
        · rw [if_pos c14] at H
          have c14b0 : ((wrap64 (t103 - 1000)) == 0) = true := beq_iff_eq.mpr c14
          have c14b1 : ((wrap64 (t103 - 1000)) != 0) = false := bne_eq_false_iff_eq.mpr c14
          clear c14
          have H' := Aside0.mk H
          clear H
          go_wp2
          go_meet
          case rel => exact ⟨_, ((t104 == 0)), (by first | rfl | (simp; done) | (simp [*]; done)), H', ⟨by first | omega | exact Nat.le_refl _⟩, ⟨by repeat (first | (with_reducible first | exact HB.out | apply below_alloc | apply pw_below_drewN | apply below_drew1) | exact HB.out)⟩⟩
        · rw [if_neg c14] at H
          have c14b0 : ((wrap64 (t103 - 1000)) == 0) = false := beq_eq_false_iff_ne.mpr c14
          have c14b1 : ((wrap64 (t103 - 1000)) != 0) = true := bne_iff_ne.mpr c14
          have H' := Aside0.mk H
          clear H
          go_wp2
          go_meet
          case rel => exact ⟨_, (false), (by first | rfl | (simp; done) | (simp [*]; done)), H', ⟨by first | omega | exact Nat.le_refl _⟩, ⟨by repeat (first | (with_reducible first | exact HB.out | apply below_alloc | apply pw_below_drewN | apply below_drew1) | exact HB.out)⟩⟩
    · rw [if_neg c12] at H
      have c12b0 : ((wrap64 (t101 - 1000)) == 0) = false := beq_eq_false_iff_ne.mpr c12
      have c12b1 : ((wrap64 (t101 - 1000)) != 0) = true := bne_iff_ne.mpr c12
      (first | rw [c12b0] | (simp only [i64_w, i32_w]; rw [c12b0]) | skip)
      by_cases c15 : (wrap64 (t103 - 1000)) = 0
      · rw [if_pos c15] at H
        have c15b0 : ((wrap64 (t103 - 1000)) == 0) = true := beq_iff_eq.mpr c15
        have c15b1 : ((wrap64 (t103 - 1000)) != 0) = false := bne_eq_false_iff_eq.mpr c15
        clear c15
        have H' := Aside0.mk H
        clear H
        go_wp2
        go_meet
        case rel => exact ⟨_, ((t104 == 0)), (by first | rfl | (simp; done) | (simp [*]; done)), H', ⟨by first | omega | exact Nat.le_refl _⟩, ⟨by repeat (first | (with_reducible first | exact HB.out | apply below_alloc | apply pw_below_drewN | apply below_drew1) | exact HB.out)⟩⟩
      · rw [if_neg c15] at H
        have c15b0 : ((wrap64 (t103 - 1000)) == 0) = false := beq_eq_false_iff_ne.mpr c15
        have c15b1 : ((wrap64 (t103 - 1000)) != 0) = true := bne_iff_ne.mpr c15
        have H' := Aside0.mk H
        clear H
        go_wp2
        go_meet
        case rel => exact ⟨_, (false), (by first | rfl | (simp; done) | (simp [*]; done)), H', ⟨by first | omega | exact Nat.le_refl _⟩, ⟨by repeat (first | (with_reducible first | exact HB.out | apply below_alloc | apply pw_below_drewN | apply below_drew1) | exact HB.out)⟩⟩
  case rest =>
    clear HC11
    try clear c1
    try clear p1
    try clear p2
    try clear p6
    try clear c10
    try clear c12
    try clear c12b0
    try clear c12b1
    try clear c13
    try clear c13b0
    try clear c13b1
    try clear c14
    try clear c14b0
    try clear c14b1
    try clear c15
    try clear c15b0
    try clear c15b1
    obtain ⟨kq, x49_10, rfl, HA, HJ10, HB⟩ := hcut
    cases kq with
    | zero => exact absurd HA.out (by simp [spykeep1_TrigTurns.j0])
    | succ kj10 =>
      have H := HA.out
      clear HA
      simp only [spykeep1_TrigTurns.j0] at H
      by_cases c16 : x49_10 = true
      · subst c16
        have H1 : ((spykeep1_trigFact.f kj10).bind fun t106 => (some t106)) = some r := by rw [if_pos rfl] at H; exact H
        clear H
        have H := H1
        clear H1
        replace H := Option.bind_eq_some_iff.mp H
        obtain ⟨t106, A170, H⟩ := H
        replace H : (some t106) = some r := H
        have A17 := Aside0.mk A170
        clear A170
        obtain rfl := Option.some.inj H
        go_wp2_with (first | ((with_reducible refine gate_callee (f := 30) rfl ?_); refine goesL_ (some 50) rfl rfl Try.func30 (by kernel_rfl) rfl #[] rfl (by (try simp only [List.map_toArray, List.map_cons, List.map_nil]); first | done | rfl | (simp only [List.length_drop, List.length_take]; rfl)) ?_; (with_reducible refine (spykeep1_trigFact.calls kj10  t106 _ A17.out).mono ?_); rintro e w18 ⟨rfl, hb⟩; refine ⟨_, rfl, ?_⟩; have n0_ := Aside0.mk (below_step (by repeat (first | (with_reducible first | exact HB.out | apply below_alloc | apply pw_below_drewN | apply below_drew1) | exact HB.out)) hb); clear HB; have HB := n0_; clear n0_; (try clear hb); (try clear hb2); (try clear hk); (try clear hi)))
        go_ret
        exact ⟨by first | rfl | (simp [errW_none, errW_some] <;> rfl) | (simp [*, errW_none, errW_some] <;> rfl), by repeat (first | (with_reducible first | exact HB.out | apply below_alloc | apply pw_below_drewN | apply below_drew1) | exact HB.out)⟩
      · replace c16 := Bool.eq_false_iff.mpr c16
        subst c16
        have H1 : ((trig_Atan2.f kj10 t102 (wrap64 (t101 - 1000))).bind fun bt107 => ((trig_Atan2.f kj10 t104 (wrap64 (t103 - 1000))).bind fun bt109 => ((trig_Atan2.f kj10 (wrap64 ((wrap64 (1 + t105)) * t102)) (wrap64 ((wrap64 (1 + t105)) * (wrap64 (t101 - 1000))))).bind fun bt111 => ((spykeep1_trigFact.f kj10).bind fun t113 => (if t113 = true then (if bt107.2 = 0 then (if bt109.2 = 0 then (if bt111.2 = 0 then (spykeep1_TrigTurns.j1 kj10 (wrap64 (t101 - 1000)) t102 (wrap64 (t103 - 1000)) t104 bt107.1 bt109.1 (bt107.1 != bt111.1)) else (none)) else (none)) else (none)) else (none)))))) = some r := by rw [if_neg (show ¬ (false = true) by decide)] at H; exact H
        clear H
        have H := H1
        clear H1
        replace H := Option.bind_eq_some_iff.mp H
        obtain ⟨⟨t107, t108⟩, A190, H⟩ := H
        replace H : ((trig_Atan2.f kj10 t104 (wrap64 (t103 - 1000))).bind fun bt109 => ((trig_Atan2.f kj10 (wrap64 ((wrap64 (1 + t105)) * t102)) (wrap64 ((wrap64 (1 + t105)) * (wrap64 (t101 - 1000))))).bind fun bt111 => ((spykeep1_trigFact.f kj10).bind fun t113 => (if t113 = true then (if t108 = 0 then (if bt109.2 = 0 then (if bt111.2 = 0 then (spykeep1_TrigTurns.j1 kj10 (wrap64 (t101 - 1000)) t102 (wrap64 (t103 - 1000)) t104 t107 bt109.1 (t107 != bt111.1)) else (none)) else (none)) else (none)) else (none))))) = some r := H
        have A19 := Aside0.mk A190
        clear A190
        replace H := Option.bind_eq_some_iff.mp H
        obtain ⟨⟨t109, t110⟩, A200, H⟩ := H
        replace H : ((trig_Atan2.f kj10 (wrap64 ((wrap64 (1 + t105)) * t102)) (wrap64 ((wrap64 (1 + t105)) * (wrap64 (t101 - 1000))))).bind fun bt111 => ((spykeep1_trigFact.f kj10).bind fun t113 => (if t113 = true then (if t108 = 0 then (if t110 = 0 then (if bt111.2 = 0 then (spykeep1_TrigTurns.j1 kj10 (wrap64 (t101 - 1000)) t102 (wrap64 (t103 - 1000)) t104 t107 t109 (t107 != bt111.1)) else (none)) else (none)) else (none)) else (none)))) = some r := H
        have A20 := Aside0.mk A200
        clear A200
        replace H := Option.bind_eq_some_iff.mp H
        obtain ⟨⟨t111, t112⟩, A210, H⟩ := H
        replace H : ((spykeep1_trigFact.f kj10).bind fun t113 => (if t113 = true then (if t108 = 0 then (if t110 = 0 then (if t112 = 0 then (spykeep1_TrigTurns.j1 kj10 (wrap64 (t101 - 1000)) t102 (wrap64 (t103 - 1000)) t104 t107 t109 (t107 != t111)) else (none)) else (none)) else (none)) else (none))) = some r := H
        have A21 := Aside0.mk A210
        clear A210
        have HC22 := Aside0.mk H
        clear H
        go_upto_region 9 with (first | ((with_reducible refine gate_callee (f := 33) rfl ?_); refine goesL_ (some 54) rfl rfl Try.func33 (by kernel_rfl) rfl #[.int .i64 t102, .int .i64 (wrap64 (t101 - 1000))] rfl (by (try simp only [List.map_toArray, List.map_cons, List.map_nil]); first | done | rfl | (simp only [List.length_drop, List.length_take]; rfl)) ?_; (with_reducible refine (trig_Atan2.calls kj10 t102 (wrap64 (t101 - 1000)) t107 t108 _ A19.out).mono ?_); rintro e w23 ⟨rfl, hb⟩; refine ⟨_, rfl, ?_⟩; have n0_ := Aside0.mk (below_step (by repeat (first | (with_reducible first | exact HB.out | apply below_alloc | apply pw_below_drewN | apply below_drew1) | exact HB.out)) hb); clear HB; have HB := n0_; clear n0_; (try clear hb); (try clear hb2); (try clear hk); (try clear hi)) | ((with_reducible refine gate_callee (f := 33) rfl ?_); refine goesL_ (some 60) rfl rfl Try.func33 (by kernel_rfl) rfl #[.int .i64 t104, .int .i64 (wrap64 (t103 - 1000))] rfl (by (try simp only [List.map_toArray, List.map_cons, List.map_nil]); first | done | rfl | (simp only [List.length_drop, List.length_take]; rfl)) ?_; (with_reducible refine (trig_Atan2.calls kj10 t104 (wrap64 (t103 - 1000)) t109 t110 _ A20.out).mono ?_); rintro e w24 ⟨rfl, hb⟩; refine ⟨_, rfl, ?_⟩; have n0_ := Aside0.mk (below_step (by repeat (first | (with_reducible first | exact HB.out | apply below_alloc | apply pw_below_drewN | apply below_drew1) | exact HB.out)) hb); clear HB; have HB := n0_; clear n0_; (try clear hb); (try clear hb2); (try clear hk); (try clear hi)) | ((with_reducible refine gate_callee (f := 33) rfl ?_); refine goesL_ (some 70) rfl rfl Try.func33 (by kernel_rfl) rfl #[.int .i64 (wrap64 ((wrap64 (1 + t105)) * t102)), .int .i64 (wrap64 ((wrap64 (1 + t105)) * (wrap64 (t101 - 1000))))] rfl (by (try simp only [List.map_toArray, List.map_cons, List.map_nil]); first | done | rfl | (simp only [List.length_drop, List.length_take]; rfl)) ?_; (with_reducible refine (trig_Atan2.calls kj10 (wrap64 ((wrap64 (1 + t105)) * t102)) (wrap64 ((wrap64 (1 + t105)) * (wrap64 (t101 - 1000)))) t111 t112 _ A21.out).mono ?_); rintro e w25 ⟨rfl, hb⟩; refine ⟨_, rfl, ?_⟩; have n0_ := Aside0.mk (below_step (by repeat (first | (with_reducible first | exact HB.out | apply below_alloc | apply pw_below_drewN | apply below_drew1) | exact HB.out)) hb); clear HB; have HB := n0_; clear n0_; (try clear hb); (try clear hb2); (try clear hk); (try clear hi)))
        (try simp only [Act.put, List.setIfInBounds_toArray, List.set_cons_zero, List.set_cons_succ])
        go_cut [91] (fun v91 wc => ∃ (kq : Nat) (x91_21 : Bool), v91 = .bool x91_21 ∧ Aside0 (spykeep1_TrigTurns.j1 kq (wrap64 (t101 - 1000)) t102 (wrap64 (t103 - 1000)) t104 t107 t109 x91_21 = some r) ∧ Aside0 (kq ≤ kj10) ∧ Aside0 (Below w.heap.size w wc))
        case first =>
          have H := HC22.out
          clear HC22
          replace H := Option.bind_eq_some_iff.mp H
          obtain ⟨t113, A260, H⟩ := H
          replace H : (if t113 = true then (if t108 = 0 then (if t110 = 0 then (if t112 = 0 then (spykeep1_TrigTurns.j1 kj10 (wrap64 (t101 - 1000)) t102 (wrap64 (t103 - 1000)) t104 t107 t109 (t107 != t111)) else (none)) else (none)) else (none)) else (none)) = some r := H
          have A26 := Aside0.mk A260
          clear A260
          by_cases c27 : t113 = true
          · subst c27
            have H1 : (if t108 = 0 then (if t110 = 0 then (if t112 = 0 then (spykeep1_TrigTurns.j1 kj10 (wrap64 (t101 - 1000)) t102 (wrap64 (t103 - 1000)) t104 t107 t109 (t107 != t111)) else (none)) else (none)) else (none)) = some r := by rw [if_pos rfl] at H; exact H
            clear H
            have H := H1
            clear H1
            by_cases c28 : t108 = 0
            · rw [if_pos c28] at H
              have c28b0 : (t108 == 0) = true := beq_iff_eq.mpr c28
              have c28b1 : (t108 != 0) = false := bne_eq_false_iff_eq.mpr c28
              clear c28
              (first | rw [c28b0] | (simp only [i64_w, i32_w]; rw [c28b0]) | skip)
              by_cases c29 : t110 = 0
              · rw [if_pos c29] at H
                have c29b0 : (t110 == 0) = true := beq_iff_eq.mpr c29
                have c29b1 : (t110 != 0) = false := bne_eq_false_iff_eq.mpr c29
                clear c29
                by_cases c30 : t112 = 0
                · rw [if_pos c30] at H
                  have c30b0 : (t112 == 0) = true := beq_iff_eq.mpr c30
                  have c30b1 : (t112 != 0) = false := bne_eq_false_iff_eq.mpr c30
                  clear c30
                  have H' := Aside0.mk H
                  clear H
                  go_wp2_with (first | ((with_reducible refine gate_callee (f := 30) rfl ?_); refine goesL_ (some 73) rfl rfl Try.func30 (by kernel_rfl) rfl #[] rfl (by (try simp only [List.map_toArray, List.map_cons, List.map_nil]); first | done | rfl | (simp only [List.length_drop, List.length_take]; rfl)) ?_; (with_reducible refine (spykeep1_trigFact.calls kj10  true _ A26.out).mono ?_); rintro e w31 ⟨rfl, hb⟩; refine ⟨_, rfl, ?_⟩; have n0_ := Aside0.mk (below_step (by repeat (first | (with_reducible first | exact HB.out | apply below_alloc | apply pw_below_drewN | apply below_drew1) | exact HB.out)) hb); clear HB; have HB := n0_; clear n0_; (try clear hb); (try clear hb2); (try clear hk); (try clear hi)))
                  go_meet
                  case rel => exact ⟨_, ((t107 != t111)), (by first | rfl | (simp; done) | (simp [*]; done)), H', ⟨by have := HJ10.out; first | omega | exact Nat.le_refl _⟩, ⟨by repeat (first | (with_reducible first | exact HB.out | apply below_alloc | apply pw_below_drewN | apply below_drew1) | exact HB.out)⟩⟩
                · rw [if_neg c30] at H
                  exact absurd H (by simp)
              · rw [if_neg c29] at H
                exact absurd H (by simp)
            · rw [if_neg c28] at H
              exact absurd H (by simp)
          · replace c27 := Bool.eq_false_iff.mpr c27
            subst c27
            have H1 : (none) = some r := by rw [if_neg (show ¬ (false = true) by decide)] at H; exact H
            clear H
            have H := H1
            clear H1
            exact absurd H (by simp)
        case rest =>
          clear HC22
          try clear c1
          try clear p1
          try clear c2
          try clear p2
          try clear c3
          try clear p6
          try clear c10
          try clear c12
          try clear c12b0
          try clear c12b1
          try clear c13
          try clear c13b0
          try clear c13b1
          try clear c14
          try clear c14b0
          try clear c14b1
          try clear c15
          try clear c15b0
          try clear c15b1
          try clear c16
          try clear c27
          try clear c28
          try clear c28b0
          try clear c28b1
          try clear c29
          try clear c29b0
          try clear c29b1
          try clear c30
          try clear c30b0
          try clear c30b1
          try clear p1
          try clear p2
          try clear p6
          obtain ⟨kq, x91_21, rfl, HA, HJ21, HB⟩ := hcut
          cases kq with
          | zero => exact absurd HA.out (by simp [spykeep1_TrigTurns.j1])
          | succ kj21 =>
            have H := HA.out
            clear HA
            simp only [spykeep1_TrigTurns.j1] at H
            by_cases c32 : x91_21 = true
            · subst c32
              have H1 : (none) = some r := by rw [if_pos rfl] at H; exact H
              clear H
              have H := H1
              clear H1
              exact absurd H (by simp)
            · replace c32 := Bool.eq_false_iff.mpr c32
              subst c32
              have H1 : (if t102 = 0 then (if (wrap64 (t101 - 1000)) < 0 then (spykeep1_TrigTurns.j2 kj21 t107 t109 (wrap64 ((wrap64 ((wrap64 (t101 - 1000)) * t104)) - (wrap64 (t102 * (wrap64 (t103 - 1000)))))) true) else (if t104 = 0 then (spykeep1_TrigTurns.j2 kj21 t107 t109 (wrap64 ((wrap64 ((wrap64 (t101 - 1000)) * t104)) - (wrap64 (t102 * (wrap64 (t103 - 1000)))))) (decide ((wrap64 (t103 - 1000)) < 0))) else (spykeep1_TrigTurns.j2 kj21 t107 t109 (wrap64 ((wrap64 ((wrap64 (t101 - 1000)) * t104)) - (wrap64 (t102 * (wrap64 (t103 - 1000)))))) false))) else (if t104 = 0 then (spykeep1_TrigTurns.j2 kj21 t107 t109 (wrap64 ((wrap64 ((wrap64 (t101 - 1000)) * t104)) - (wrap64 (t102 * (wrap64 (t103 - 1000)))))) (decide ((wrap64 (t103 - 1000)) < 0))) else (spykeep1_TrigTurns.j2 kj21 t107 t109 (wrap64 ((wrap64 ((wrap64 (t101 - 1000)) * t104)) - (wrap64 (t102 * (wrap64 (t103 - 1000)))))) false))) = some r := by rw [if_neg (show ¬ (false = true) by decide)] at H; exact H
              clear H
              have H := H1
              clear H1
              have HC33 := Aside0.mk H
              clear H
              go_upto_region 12 with (fail)
              go_cut [99] (fun v99 wc => ∃ (kq : Nat) (x99_32 : Bool), v99 = .bool x99_32 ∧ Aside0 (spykeep1_TrigTurns.j2 kq t107 t109 (wrap64 ((wrap64 ((wrap64 (t101 - 1000)) * t104)) - (wrap64 (t102 * (wrap64 (t103 - 1000)))))) x99_32 = some r) ∧ Aside0 (kq ≤ kj21) ∧ Aside0 (Below w.heap.size w wc))
              case first =>
                have H := HC33.out
                clear HC33
                by_cases c34 : t102 = 0
                · rw [if_pos c34] at H
                  have c34b0 : (t102 == 0) = true := beq_iff_eq.mpr c34
                  have c34b1 : (t102 != 0) = false := bne_eq_false_iff_eq.mpr c34
                  clear c34
                  (first | rw [c34b0] | (simp only [i64_w, i32_w]; rw [c34b0]) | skip)
                  by_cases c35 : (wrap64 (t101 - 1000)) < 0
                  · rw [if_pos c35] at H
                    have c35b0 : decide ((wrap64 (t101 - 1000)) < 0) = true := decide_eq_true c35
                    clear c35
                    have H' := Aside0.mk H
                    clear H
                    go_wp2
                    go_meet
                    case rel => exact ⟨_, (true), (by first | rfl | (simp; done) | (simp [*]; done)), H', ⟨by have := HJ10.out; have := HJ21.out; first | omega | exact Nat.le_refl _⟩, ⟨by repeat (first | (with_reducible first | exact HB.out | apply below_alloc | apply pw_below_drewN | apply below_drew1) | exact HB.out)⟩⟩
                  · rw [if_neg c35] at H
                    have c35b0 : decide ((wrap64 (t101 - 1000)) < 0) = false := decide_eq_false c35
                    clear c35
                    by_cases c36 : t104 = 0
                    · rw [if_pos c36] at H
                      have c36b0 : (t104 == 0) = true := beq_iff_eq.mpr c36
                      have c36b1 : (t104 != 0) = false := bne_eq_false_iff_eq.mpr c36
                      clear c36
                      have H' := Aside0.mk H
                      clear H
                      go_wp2
                      go_meet
                      case rel => exact ⟨_, (decide ((wrap64 (t103 - 1000)) < 0)), (by first | rfl | (simp; done) | (simp [*]; done)), H', ⟨by have := HJ10.out; have := HJ21.out; first | omega | exact Nat.le_refl _⟩, ⟨by repeat (first | (with_reducible first | exact HB.out | apply below_alloc | apply pw_below_drewN | apply below_drew1) | exact HB.out)⟩⟩
                    · rw [if_neg c36] at H
                      have c36b0 : (t104 == 0) = false := beq_eq_false_iff_ne.mpr c36
                      have c36b1 : (t104 != 0) = true := bne_iff_ne.mpr c36
                      have H' := Aside0.mk H
                      clear H
                      go_wp2
                      go_meet
                      case rel => exact ⟨_, (false), (by first | rfl | (simp; done) | (simp [*]; done)), H', ⟨by have := HJ10.out; have := HJ21.out; first | omega | exact Nat.le_refl _⟩, ⟨by repeat (first | (with_reducible first | exact HB.out | apply below_alloc | apply pw_below_drewN | apply below_drew1) | exact HB.out)⟩⟩
                · rw [if_neg c34] at H
                  have c34b0 : (t102 == 0) = false := beq_eq_false_iff_ne.mpr c34
                  have c34b1 : (t102 != 0) = true := bne_iff_ne.mpr c34
                  (first | rw [c34b0] | (simp only [i64_w, i32_w]; rw [c34b0]) | skip)
                  by_cases c37 : t104 = 0
                  · rw [if_pos c37] at H
                    have c37b0 : (t104 == 0) = true := beq_iff_eq.mpr c37
                    have c37b1 : (t104 != 0) = false := bne_eq_false_iff_eq.mpr c37
                    clear c37
                    have H' := Aside0.mk H
                    clear H
                    go_wp2
                    go_meet
                    case rel => exact ⟨_, (decide ((wrap64 (t103 - 1000)) < 0)), (by first | rfl | (simp; done) | (simp [*]; done)), H', ⟨by have := HJ10.out; have := HJ21.out; first | omega | exact Nat.le_refl _⟩, ⟨by repeat (first | (with_reducible first | exact HB.out | apply below_alloc | apply pw_below_drewN | apply below_drew1) | exact HB.out)⟩⟩
                  · rw [if_neg c37] at H
                    have c37b0 : (t104 == 0) = false := beq_eq_false_iff_ne.mpr c37
                    have c37b1 : (t104 != 0) = true := bne_iff_ne.mpr c37
                    have H' := Aside0.mk H
                    clear H
                    go_wp2
                    go_meet
                    case rel => exact ⟨_, (false), (by first | rfl | (simp; done) | (simp [*]; done)), H', ⟨by have := HJ10.out; have := HJ21.out; first | omega | exact Nat.le_refl _⟩, ⟨by repeat (first | (with_reducible first | exact HB.out | apply below_alloc | apply pw_below_drewN | apply below_drew1) | exact HB.out)⟩⟩
              case rest =>
                clear HC33
                try clear c1
                try clear p1
                try clear c2
                try clear p2
                try clear c3
                try clear p6
                try clear c10
                try clear c12
                try clear c12b0
                try clear c12b1
                try clear c13
                try clear c13b0
                try clear c13b1
                try clear c14
                try clear c14b0
                try clear c14b1
                try clear c15
                try clear c15b0
                try clear c15b1
                try clear c16
                try clear c27
                try clear c28
                try clear c28b0
                try clear c28b1
                try clear c29
                try clear c29b0
                try clear c29b1
                try clear c30
                try clear c30b0
                try clear c30b1
                try clear c32
                try clear c33
                try clear c34
                try clear c34b0
                try clear c34b1
                try clear c35
                try clear c35b0
                try clear c36
                try clear c36b0
                try clear c36b1
                try clear c37
                try clear c37b0
                try clear c37b1
                try clear p1
                try clear p2
                try clear p6
                obtain ⟨kq, x99_32, rfl, HA, HJ32, HB⟩ := hcut
                cases kq with
                | zero => exact absurd HA.out (by simp [spykeep1_TrigTurns.j2])
                | succ kj32 =>
                  have H := HA.out
                  clear HA
                  simp only [spykeep1_TrigTurns.j2] at H
                  by_cases c38 : x99_32 = true
                  · subst c38
                    have H1 : (some true) = some r := by rw [if_pos rfl] at H; exact H
                    clear H
                    have H := H1
                    clear H1
                    obtain rfl := Option.some.inj H
                    go_wp2
                    go_ret
                    exact ⟨by first | rfl | (simp [errW_none, errW_some] <;> rfl) | (simp [*, errW_none, errW_some] <;> rfl), by repeat (first | (with_reducible first | exact HB.out | apply below_alloc | apply pw_below_drewN | apply below_drew1) | exact HB.out)⟩
                  · replace c38 := Bool.eq_false_iff.mpr c38
                    subst c38
                    have H1 : (if (wrap64 ((wrap64 ((wrap64 (t101 - 1000)) * t104)) - (wrap64 (t102 * (wrap64 (t103 - 1000)))))) > 0 then (some (decide (t107 ≤ t109))) else (if (wrap64 ((wrap64 ((wrap64 (t101 - 1000)) * t104)) - (wrap64 (t102 * (wrap64 (t103 - 1000)))))) < 0 then (some (decide (t107 ≥ t109))) else (some (t107 == t109)))) = some r := by rw [if_neg (show ¬ (false = true) by decide)] at H; exact H
                    clear H
                    have H := H1
                    clear H1
                    by_cases c39 : (wrap64 ((wrap64 ((wrap64 (t101 - 1000)) * t104)) - (wrap64 (t102 * (wrap64 (t103 - 1000)))))) > 0
                    · rw [if_pos c39] at H
                      have c39b0 : decide (0 < (wrap64 ((wrap64 ((wrap64 (t101 - 1000)) * t104)) - (wrap64 (t102 * (wrap64 (t103 - 1000))))))) = true := decide_eq_true c39
                      clear c39
                      obtain rfl := Option.some.inj H
                      go_wp2
                      go_ret
                      exact ⟨by first | rfl | (simp [errW_none, errW_some] <;> rfl) | (simp [*, errW_none, errW_some] <;> rfl), by repeat (first | (with_reducible first | exact HB.out | apply below_alloc | apply pw_below_drewN | apply below_drew1) | exact HB.out)⟩
                    · rw [if_neg c39] at H
                      have c39b0 : decide (0 < (wrap64 ((wrap64 ((wrap64 (t101 - 1000)) * t104)) - (wrap64 (t102 * (wrap64 (t103 - 1000))))))) = false := decide_eq_false c39
                      clear c39
                      by_cases c40 : (wrap64 ((wrap64 ((wrap64 (t101 - 1000)) * t104)) - (wrap64 (t102 * (wrap64 (t103 - 1000)))))) < 0
                      · rw [if_pos c40] at H
                        have c40b0 : decide ((wrap64 ((wrap64 ((wrap64 (t101 - 1000)) * t104)) - (wrap64 (t102 * (wrap64 (t103 - 1000)))))) < 0) = true := decide_eq_true c40
                        clear c40
                        obtain rfl := Option.some.inj H
                        go_wp2
                        go_ret
                        exact ⟨by first | rfl | (simp [errW_none, errW_some] <;> rfl) | (simp [*, errW_none, errW_some] <;> rfl), by repeat (first | (with_reducible first | exact HB.out | apply below_alloc | apply pw_below_drewN | apply below_drew1) | exact HB.out)⟩
                      · rw [if_neg c40] at H
                        have c40b0 : decide ((wrap64 ((wrap64 ((wrap64 (t101 - 1000)) * t104)) - (wrap64 (t102 * (wrap64 (t103 - 1000)))))) < 0) = false := decide_eq_false c40
                        clear c40
                        obtain rfl := Option.some.inj H
                        go_wp2
                        go_ret
                        exact ⟨by first | rfl | (simp [errW_none, errW_some] <;> rfl) | (simp [*, errW_none, errW_some] <;> rfl), by repeat (first | (with_reducible first | exact HB.out | apply below_alloc | apply pw_below_drewN | apply below_drew1) | exact HB.out)⟩

/-- THE ONE PURE STATEMENT of spykeep1_TrigTurns: yours. -/
def spykeep1_TrigTurns.Pure : Prop := ∀ (a0 : Int) (a1 : Int) (a2 : Int) (a3 : Int) (a4 : Int), (Lit.int .i64 a0).wf = true → (Lit.int .i64 a1).wf = true → (Lit.int .i64 a2).wf = true → (Lit.int .i64 a3).wf = true → (Lit.int .i64 a4).wf = true → ∃ k, spykeep1_TrigTurns.f k a0 a1 a2 a3 a4 = some true
theorem spykeep1_TrigTurns.walk (P : spykeep1_TrigTurns.Pure) (a0 : Int) (a1 : Int) (a2 : Int) (a3 : Int) (a4 : Int) (w : World) (w0 : (Lit.int .i64 a0).wf = true) (w1 : (Lit.int .i64 a1).wf = true) (w2 : (Lit.int .i64 a2).wf = true) (w3 : (Lit.int .i64 a3).wf = true) (w4 : (Lit.int .i64 a4).wf = true) :
    Calls Try.prog 10 #[.int .i64 a0, .int .i64 a1, .int .i64 a2, .int .i64 a3, .int .i64 a4] w fun e w' => e = .returned (.bool true) ∧ Below w.heap.size w w' := by
  obtain ⟨k, h⟩ := P a0 a1 a2 a3 a4 w0 w1 w2 w3 w4
  refine (spykeep1_TrigTurns.calls k a0 a1 a2 a3 a4 true w h).mono ?_
  rintro e w' ⟨rfl, hd⟩
  exact ⟨rfl, hd⟩

end Go.Proofs.Ytbaedcjophgiiaa.Q
