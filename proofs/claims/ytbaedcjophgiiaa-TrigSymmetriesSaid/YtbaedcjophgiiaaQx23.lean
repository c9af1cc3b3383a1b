/- Contracts of Go functions of the seat, one by one: each call returns what the Lean function of the same name says, wherever that is 'some'; no other condition. Written by a program of this session. -/
import Derived.Test.YtbaedcjophgiiaaQx0
import Derived.Test.YtbaedcjophgiiaaQx21
import Derived.Test.YtbaedcjophgiiaaQx22
namespace Go.Proofs.Ytbaedcjophgiiaa.Q
open Go.RowKit Go.Proofs.YtbaedcjophgiiaaW.PrintWords Go.Proofs.YtbaedcjophgiiaaW.PrintLast Go.Proofs.YtbaedcjophgiiaaW.PrintMore
attribute [local go_sem] max2_int min2_int max_two min_two max_three min_three max_four min_four   -- for this text's walks alone
set_option linter.unusedVariables false
set_option linter.unusedSimpArgs false

/-! ### spykeep1_TrigSymmetries: function 7 -/
mutual
def spykeep1_TrigSymmetries.j0 : Nat → Int → Bool → Option (Bool)
  | 0, _, _ => none
  | k + 1, x0, x11 => if x11 = true then ((spykeep1_trigFact.f k).bind fun t102 => (some t102)) else (if (Go.bits .and .i64 x0 4294967295) < 1073741824 then (spykeep1_TrigSymmetries.j1 k x0 (Go.bits .and .i64 x0 4294967295) true) else (spykeep1_TrigSymmetries.j1 k x0 (Go.bits .and .i64 x0 4294967295) (decide ((Go.bits .and .i64 x0 4294967295) ≥ 3221225472))))
def spykeep1_TrigSymmetries.j1 : Nat → Int → Int → Bool → Option (Bool)
  | 0, _, _, _ => none
  | k + 1, x0, x3, x4 => (trig_Sin.f k (wrap64 (x3 + 1))).bind fun t103 => ((trig_Sin.f k x3).bind fun t104 => ((trig_Sin.f k (wrap64 (-x0))).bind fun t105 => ((trig_Sin.f k x0).bind fun t106 => (if t105 = (wrap64 (-t106)) then ((trig_Cos.f k (wrap64 (-x0))).bind fun t107 => ((trig_Cos.f k x0).bind fun t108 => (if t107 = t108 then ((trig_Sin.f k (wrap64 (x3 + 2147483648))).bind fun t109 => ((trig_Sin.f k x0).bind fun t110 => (if t109 = (wrap64 (-t106)) then ((trig_Sin.f k (wrap64 (2147483648 - x3))).bind fun t111 => ((trig_Sin.f k x0).bind fun t112 => (if t111 = t106 then ((trig_Cos.f k x0).bind fun t113 => ((trig_Sin.f k (wrap64 (x3 + 1073741824))).bind fun t114 => (if t108 = t114 then (if (wrap64 (t103 - t104)) ≥ 0 then (if (wrap64 (t103 - t104)) ≤ 0 then (if (wrap64 (t103 - t104)) ≥ (-3) then (some (decide ((wrap64 (t103 - t104)) ≤ 3))) else (none)) else (if x4 = true then (if (wrap64 (t103 - t104)) ≥ (-3) then (some (decide ((wrap64 (t103 - t104)) ≤ 3))) else (none)) else (none))) else (if x4 = true then (none) else (if (wrap64 (t103 - t104)) ≤ 0 then (if (wrap64 (t103 - t104)) ≥ (-3) then (some (decide ((wrap64 (t103 - t104)) ≤ 3))) else (none)) else (none)))) else (none)))) else (none)))) else (none)))) else (none)))) else (none)))))
end
def spykeep1_TrigSymmetries.f (k : Nat) (a0 : Int) : Option (Bool) := (spykeep1_trigFact.f k).bind fun t101 => (if t101 = true then (spykeep1_TrigSymmetries.j0 k a0 (a0 == (-9223372036854775808))) else (spykeep1_TrigSymmetries.j0 k a0 true))
theorem spykeep1_TrigSymmetries.mono_l : ∀ k, (∀ y0 y1, LeO (spykeep1_TrigSymmetries.j0 k y0 y1) (spykeep1_TrigSymmetries.j0 (k + 1) y0 y1)) ∧ (∀ y0 y1 y2, LeO (spykeep1_TrigSymmetries.j1 k y0 y1 y2) (spykeep1_TrigSymmetries.j1 (k + 1) y0 y1 y2))
  | 0 => ⟨fun _ _ r h => by simp [spykeep1_TrigSymmetries.j0] at h, fun _ _ _ r h => by simp [spykeep1_TrigSymmetries.j1] at h⟩
  | k + 1 => by
    obtain ⟨ih0, ih1⟩ := spykeep1_TrigSymmetries.mono_l k
    refine ⟨?_, ?_⟩
    · intro y0 y1
      unfold spykeep1_TrigSymmetries.j0
      repeat' first
      | (with_reducible exact ih0 _ _)
      | (with_reducible exact ih1 _ _ _)
      | (with_reducible exact spykeep1_trigFact.mono _)
      | (with_reducible exact trig_Cos.mono _ _)
      | (with_reducible exact trig_Sin.mono _ _)
      | (with_reducible exact LeO.refl _)
      | (with_reducible exact LeO.none _)
      | (with_reducible refine LeO.ite ?_ ?_)
      | (with_reducible refine LeO.bind ?_ (fun _ => ?_))
      | exact ih0 _ _
      | exact ih1 _ _ _
      | exact spykeep1_trigFact.mono _
      | exact trig_Cos.mono _ _
      | exact trig_Sin.mono _ _
      | exact LeO.none _
      | refine LeO.ite ?_ ?_
      | refine LeO.bind ?_ (fun _ => ?_)
    · intro y0 y1 y2
      unfold spykeep1_TrigSymmetries.j1
      repeat' first
      | (with_reducible exact ih0 _ _)
      | (with_reducible exact ih1 _ _ _)
      | (with_reducible exact spykeep1_trigFact.mono _)
      | (with_reducible exact trig_Cos.mono _ _)
      | (with_reducible exact trig_Sin.mono _ _)
      | (with_reducible exact LeO.refl _)
      | (with_reducible exact LeO.none _)
      | (with_reducible refine LeO.ite ?_ ?_)
      | (with_reducible refine LeO.bind ?_ (fun _ => ?_))
      | exact ih0 _ _
      | exact ih1 _ _ _
      | exact spykeep1_trigFact.mono _
      | exact trig_Cos.mono _ _
      | exact trig_Sin.mono _ _
      | exact LeO.none _
      | refine LeO.ite ?_ ?_
      | refine LeO.bind ?_ (fun _ => ?_)
theorem spykeep1_TrigSymmetries.mono : ∀ a0 k, LeO (spykeep1_TrigSymmetries.f k a0) (spykeep1_TrigSymmetries.f (k + 1) a0) := by
  intro a0 k
  obtain ⟨ih0, ih1⟩ := spykeep1_TrigSymmetries.mono_l k
  unfold spykeep1_TrigSymmetries.f
  repeat' first
      | (with_reducible exact ih0 _ _)
      | (with_reducible exact ih1 _ _ _)
      | (with_reducible exact spykeep1_trigFact.mono _)
      | (with_reducible exact trig_Cos.mono _ _)
      | (with_reducible exact trig_Sin.mono _ _)
      | (with_reducible exact LeO.refl _)
      | (with_reducible exact LeO.none _)
      | (with_reducible refine LeO.ite ?_ ?_)
      | (with_reducible refine LeO.bind ?_ (fun _ => ?_))
      | exact ih0 _ _
      | exact ih1 _ _ _
      | exact spykeep1_trigFact.mono _
      | exact trig_Cos.mono _ _
      | exact trig_Sin.mono _ _
      | exact LeO.none _
      | refine LeO.ite ?_ ?_
      | refine LeO.bind ?_ (fun _ => ?_)
set_option maxHeartbeats 8000000 in
set_option maxRecDepth 100000 in
theorem spykeep1_TrigSymmetries.calls (k : Nat) (a0 : Int) (r : Bool) (w : World) (h : spykeep1_TrigSymmetries.f k a0 = some r) :
    Calls Try.prog 7 #[.int .i64 a0] w fun e w' => e = .returned (.bool r) ∧ Below w.heap.size w w' := by
  have HB := Aside0.mk (Below.refl w.heap.size w)
  have H : ((spykeep1_trigFact.f k).bind fun t101 => (if t101 = true then (spykeep1_TrigSymmetries.j0 k a0 (a0 == (-9223372036854775808))) else (spykeep1_TrigSymmetries.j0 k a0 true))) = some r := h
  clear h
  have HC2 := Aside0.mk H
  clear H
  go_enter Try.func7, Try.ntmps7
  go_upto_region 1 with (fail)
  go_cut [11] (fun v11 wc => ∃ (kq : Nat) (x11_1 : Bool), v11 = .bool x11_1 ∧ Aside0 (spykeep1_TrigSymmetries.j0 kq a0 x11_1 = some r) ∧ Aside0 (kq ≤ k) ∧ Aside0 (Below w.heap.size w wc))
  case first =>
    have H := HC2.out
    clear HC2
    replace H := Option.bind_eq_some_iff.mp H
    obtain ⟨t101, A30, H⟩ := H
    replace H : (if t101 = true then (spykeep1_TrigSymmetries.j0 k a0 (a0 == (-9223372036854775808))) else (spykeep1_TrigSymmetries.j0 k a0 true)) = some r := H
    have A3 := Aside0.mk A30
    clear A30
    by_cases c4 : t101 = true
    · subst c4
      have H1 : (spykeep1_TrigSymmetries.j0 k a0 (a0 == (-9223372036854775808))) = some r := by rw [if_pos rfl] at H; exact H
      clear H
      have H := H1
      clear H1
      have H' := Aside0.mk H
      clear H
      go_wp2_with (first | ((with_reducible refine gate_callee (f := 30) rfl ?_); refine goesL_ (some 6) rfl rfl Try.func30 (by kernel_rfl) rfl #[] rfl (by (try simp only [List.map_toArray, List.map_cons, List.map_nil]); first | done | rfl | (simp only [List.length_drop, List.length_take]; rfl)) ?_; (with_reducible refine (spykeep1_trigFact.calls k  true _ A3.out).mono ?_); rintro e w5 ⟨rfl, hb⟩; refine ⟨_, rfl, ?_⟩; have n0_ := Aside0.mk (below_step (by repeat (first | (with_reducible first | exact HB.out | apply below_alloc | apply pw_below_drewN | apply below_drew1) | exact HB.out)) hb); clear HB; have HB := n0_; clear n0_; (try clear hb); (try clear hb2); (try clear hk); (try clear hi)))
      go_meet
      case rel => exact ⟨_, ((a0 == (-9223372036854775808))), (by first | rfl | (simp; done) | (simp [*]; done)), H', ⟨by first | omega | exact Nat.le_refl _⟩, ⟨by repeat (first | (with_reducible first | exact HB.out | apply below_alloc | apply pw_below_drewN | apply below_drew1) | exact HB.out)⟩⟩
    · replace c4 := Bool.eq_false_iff.mpr c4
      subst c4
      have H1 : (spykeep1_TrigSymmetries.j0 k a0 true) = some r := by rw [if_neg (show ¬ (false = true) by decide)] at H; exact H
      clear H
      have H := H1
      clear H1
      have H' := Aside0.mk H
      clear H
      go_wp2_with (first | ((with_reducible refine gate_callee (f := 30) rfl ?_); refine goesL_ (some 6) rfl rfl Try.func30 (by kernel_rfl) rfl #[] rfl (by (try simp only [List.map_toArray, List.map_cons, List.map_nil]); first | done | rfl | (simp only [List.length_drop, List.length_take]; rfl)) ?_; (with_reducible refine (spykeep1_trigFact.calls k  false _ A3.out).mono ?_); rintro e w6 ⟨rfl, hb⟩; refine ⟨_, rfl, ?_⟩; have n0_ := Aside0.mk (below_step (by repeat (first | (with_reducible first | exact HB.out | apply below_alloc | apply pw_below_drewN | apply below_drew1) | exact HB.out)) hb); clear HB; have HB := n0_; clear n0_; (try clear hb); (try clear hb2); (try clear hk); (try clear hi)))
      go_meet
      case rel => exact ⟨_, (true), (by first | rfl | (simp; done) | (simp [*]; done)), H', ⟨by first | omega | exact Nat.le_refl _⟩, ⟨by repeat (first | (with_reducible first | exact HB.out | apply below_alloc | apply pw_below_drewN | apply below_drew1) | exact HB.out)⟩⟩
  case rest =>
    clear HC2
    try clear p1
    try clear p2
    try clear c3
    try clear c4
    obtain ⟨kq, x11_1, rfl, HA, HJ1, HB⟩ := hcut
    cases kq with
    | zero => exact absurd HA.out (by simp [spykeep1_TrigSymmetries.j0])
    | succ kj1 =>
      have H := HA.out
      clear HA
      simp only [spykeep1_TrigSymmetries.j0] at H
      by_cases c7 : x11_1 = true
      · subst c7
        have H1 : ((spykeep1_trigFact.f kj1).bind fun t102 => (some t102)) = some r := by rw [if_pos rfl] at H; exact H
        clear H
        have H := H1
        clear H1
        replace H := Option.bind_eq_some_iff.mp H
        obtain ⟨t102, A80, H⟩ := H
        replace H : (some t102) = some r := H
        have A8 := Aside0.mk A80
        clear A80
        obtain rfl := Option.some.inj H
        go_wp2_with (first | ((with_reducible refine gate_callee (f := 30) rfl ?_); refine goesL_ (some 12) rfl rfl Try.func30 (by kernel_rfl) rfl #[] rfl (by (try simp only [List.map_toArray, List.map_cons, List.map_nil]); first | done | rfl | (simp only [List.length_drop, List.length_take]; rfl)) ?_; (with_reducible refine (spykeep1_trigFact.calls kj1  t102 _ A8.out).mono ?_); rintro e w9 ⟨rfl, hb⟩; refine ⟨_, rfl, ?_⟩; have n0_ := Aside0.mk (below_step (by repeat (first | (with_reducible first | exact HB.out | apply below_alloc | apply pw_below_drewN | apply below_drew1) | exact HB.out)) hb); clear HB; have HB := n0_; clear n0_; (try clear hb); (try clear hb2); (try clear hk); (try clear hi)))
        go_ret
        exact ⟨by first | rfl | (simp [errW_none, errW_some] <;> rfl) | (simp [*, errW_none, errW_some] <;> rfl), by repeat (first | (with_reducible first | exact HB.out | apply below_alloc | apply pw_below_drewN | apply below_drew1) | exact HB.out)⟩
      · replace c7 := Bool.eq_false_iff.mpr c7
        subst c7
        have H1 : (if (Go.bits .and .i64 a0 4294967295) < 1073741824 then (spykeep1_TrigSymmetries.j1 kj1 a0 (Go.bits .and .i64 a0 4294967295) true) else (spykeep1_TrigSymmetries.j1 kj1 a0 (Go.bits .and .i64 a0 4294967295) (decide ((Go.bits .and .i64 a0 4294967295) ≥ 3221225472)))) = some r := by rw [if_neg (show ¬ (false = true) by decide)] at H; exact H
        clear H
        have H := H1
        clear H1
        have HC10 := Aside0.mk H
        clear H
        go_upto_region 4 with (fail)
        go_cut [4] (fun v4 wc => ∃ (kq : Nat) (x4_9 : Bool), v4 = .bool x4_9 ∧ Aside0 (spykeep1_TrigSymmetries.j1 kq a0 (Go.bits .and .i64 a0 4294967295) x4_9 = some r) ∧ Aside0 (kq ≤ kj1) ∧ Aside0 (Below w.heap.size w wc))
        case first =>
          have H := HC10.out
          clear HC10
          by_cases c11 : (Go.bits .and .i64 a0 4294967295) < 1073741824
          · rw [if_pos c11] at H
            have c11b0 : decide ((Go.bits .and .i64 a0 4294967295) < 1073741824) = true := decide_eq_true c11
            clear c11
            (first | rw [c11b0] | (simp only [i64_w, i32_w]; rw [c11b0]) | skip)
            have H' := Aside0.mk H
            clear H
            go_wp2
            go_meet
            case rel => exact ⟨_, (true), (by first | rfl | (simp; done) | (simp [*]; done)), H', ⟨by have := HJ1.out; first | omega | exact Nat.le_refl _⟩, ⟨by repeat (first | (with_reducible first | exact HB.out | apply below_alloc | apply pw_below_drewN | apply below_drew1) | exact HB.out)⟩⟩
          · rw [if_neg c11] at H
            have c11b0 : decide ((Go.bits .and .i64 a0 4294967295) < 1073741824) = false := decide_eq_false c11
            clear c11
            (first | rw [c11b0] | (simp only [i64_w, i32_w]; rw [c11b0]) | skip)
            have H' := Aside0.mk H
            clear H
            go_wp2
            go_meet
            case rel => exact ⟨_, (decide ((Go.bits .and .i64 a0 4294967295) ≥ 3221225472)), (by first | rfl | (simp; done) | (simp [*]; done)), H', ⟨by have := HJ1.out; first | omega | exact Nat.le_refl _⟩, ⟨by repeat (first | (with_reducible first | exact HB.out | apply below_alloc | apply pw_below_drewN | apply below_drew1) | exact HB.out)⟩⟩
        case rest =>
          clear HC10
          try clear c1
          try clear p1
          try clear p2
          try clear c3
          try clear c4
          try clear c7
          try clear c11
          try clear c11b0
          try clear p1
          try clear p2
          obtain ⟨kq, x4_9, rfl, HA, HJ9, HB⟩ := hcut
          cases kq with
          | zero => exact absurd HA.out (by simp [spykeep1_TrigSymmetries.j1])
          | succ kj9 =>
            have H := HA.out
            clear HA
            simp only [spykeep1_TrigSymmetries.j1] at H
            replace H := Option.bind_eq_some_iff.mp H
            obtain ⟨t103, A120, H⟩ := H
            replace H : ((trig_Sin.f kj9 (Go.bits .and .i64 a0 4294967295)).bind fun t104 => ((trig_Sin.f kj9 (wrap64 (-a0))).bind fun t105 => ((trig_Sin.f kj9 a0).bind fun t106 => (if t105 = (wrap64 (-t106)) then ((trig_Cos.f kj9 (wrap64 (-a0))).bind fun t107 => ((trig_Cos.f kj9 a0).bind fun t108 => (if t107 = t108 then ((trig_Sin.f kj9 (wrap64 ((Go.bits .and .i64 a0 4294967295) + 2147483648))).bind fun t109 => ((trig_Sin.f kj9 a0).bind fun t110 => (if t109 = (wrap64 (-t106)) then ((trig_Sin.f kj9 (wrap64 (2147483648 - (Go.bits .and .i64 a0 4294967295)))).bind fun t111 => ((trig_Sin.f kj9 a0).bind fun t112 => (if t111 = t106 then ((trig_Cos.f kj9 a0).bind fun t113 => ((trig_Sin.f kj9 (wrap64 ((Go.bits .and .i64 a0 4294967295) + 1073741824))).bind fun t114 => (if t108 = t114 then (if (wrap64 (t103 - t104)) ≥ 0 then (if (wrap64 (t103 - t104)) ≤ 0 then (if (wrap64 (t103 - t104)) ≥ (-3) then (some (decide ((wrap64 (t103 - t104)) ≤ 3))) else (none)) else (if x4_9 = true then (if (wrap64 (t103 - t104)) ≥ (-3) then (some (decide ((wrap64 (t103 - t104)) ≤ 3))) else (none)) else (none))) else (if x4_9 = true then (none) else (if (wrap64 (t103 - t104)) ≤ 0 then (if (wrap64 (t103 - t104)) ≥ (-3) then (some (decide ((wrap64 (t103 - t104)) ≤ 3))) else (none)) else (none)))) else (none)))) else (none)))) else (none)))) else (none)))) else (none))))) = some r := H
            have A12 := Aside0.mk A120
            clear A120
            replace H := Option.bind_eq_some_iff.mp H
            obtain ⟨t104, A130, H⟩ := H
            replace H : ((trig_Sin.f kj9 (wrap64 (-a0))).bind fun t105 => ((trig_Sin.f kj9 a0).bind fun t106 => (if t105 = (wrap64 (-t106)) then ((trig_Cos.f kj9 (wrap64 (-a0))).bind fun t107 => ((trig_Cos.f kj9 a0).bind fun t108 => (if t107 = t108 then ((trig_Sin.f kj9 (wrap64 ((Go.bits .and .i64 a0 4294967295) + 2147483648))).bind fun t109 => ((trig_Sin.f kj9 a0).bind fun t110 => (if t109 = (wrap64 (-t106)) then ((trig_Sin.f kj9 (wrap64 (2147483648 - (Go.bits .and .i64 a0 4294967295)))).bind fun t111 => ((trig_Sin.f kj9 a0).bind fun t112 => (if t111 = t106 then ((trig_Cos.f kj9 a0).bind fun t113 => ((trig_Sin.f kj9 (wrap64 ((Go.bits .and .i64 a0 4294967295) + 1073741824))).bind fun t114 => (if t108 = t114 then (if (wrap64 (t103 - t104)) ≥ 0 then (if (wrap64 (t103 - t104)) ≤ 0 then (if (wrap64 (t103 - t104)) ≥ (-3) then (some (decide ((wrap64 (t103 - t104)) ≤ 3))) else (none)) else (if x4_9 = true then (if (wrap64 (t103 - t104)) ≥ (-3) then (some (decide ((wrap64 (t103 - t104)) ≤ 3))) else (none)) else (none))) else (if x4_9 = true then (none) else (if (wrap64 (t103 - t104)) ≤ 0 then (if (wrap64 (t103 - t104)) ≥ (-3) then (some (decide ((wrap64 (t103 - t104)) ≤ 3))) else (none)) else (none)))) else (none)))) else (none)))) else (none)))) else (none)))) else (none)))) = some r := H
            have A13 := Aside0.mk A130
            clear A130
            replace H := Option.bind_eq_some_iff.mp H
            obtain ⟨t105, A140, H⟩ := H
            replace H : ((trig_Sin.f kj9 a0).bind fun t106 => (if t105 = (wrap64 (-t106)) then ((trig_Cos.f kj9 (wrap64 (-a0))).bind fun t107 => ((trig_Cos.f kj9 a0).bind fun t108 => (if t107 = t108 then ((trig_Sin.f kj9 (wrap64 ((Go.bits .and .i64 a0 4294967295) + 2147483648))).bind fun t109 => ((trig_Sin.f kj9 a0).bind fun t110 => (if t109 = (wrap64 (-t106)) then ((trig_Sin.f kj9 (wrap64 (2147483648 - (Go.bits .and .i64 a0 4294967295)))).bind fun t111 => ((trig_Sin.f kj9 a0).bind fun t112 => (if t111 = t106 then ((trig_Cos.f kj9 a0).bind fun t113 => ((trig_Sin.f kj9 (wrap64 ((Go.bits .and .i64 a0 4294967295) + 1073741824))).bind fun t114 => (if t108 = t114 then (if (wrap64 (t103 - t104)) ≥ 0 then (if (wrap64 (t103 - t104)) ≤ 0 then (if (wrap64 (t103 - t104)) ≥ (-3) then (some (decide ((wrap64 (t103 - t104)) ≤ 3))) else (none)) else (if x4_9 = true then (if (wrap64 (t103 - t104)) ≥ (-3) then (some (decide ((wrap64 (t103 - t104)) ≤ 3))) else (none)) else (none))) else (if x4_9 = true then (none) else (if (wrap64 (t103 - t104)) ≤ 0 then (if (wrap64 (t103 - t104)) ≥ (-3) then (some (decide ((wrap64 (t103 - t104)) ≤ 3))) else (none)) else (none)))) else (none)))) else (none)))) else (none)))) else (none)))) else (none))) = some r := H
            have A14 := Aside0.mk A140
            clear A140
            replace H := Option.bind_eq_some_iff.mp H
            obtain ⟨t106, A150, H⟩ := H
            replace H : (if t105 = (wrap64 (-t106)) then ((trig_Cos.f kj9 (wrap64 (-a0))).bind fun t107 => ((trig_Cos.f kj9 a0).bind fun t108 => (if t107 = t108 then ((trig_Sin.f kj9 (wrap64 ((Go.bits .and .i64 a0 4294967295) + 2147483648))).bind fun t109 => ((trig_Sin.f kj9 a0).bind fun t110 => (if t109 = (wrap64 (-t106)) then ((trig_Sin.f kj9 (wrap64 (2147483648 - (Go.bits .and .i64 a0 4294967295)))).bind fun t111 => ((trig_Sin.f kj9 a0).bind fun t112 => (if t111 = t106 then ((trig_Cos.f kj9 a0).bind fun t113 => ((trig_Sin.f kj9 (wrap64 ((Go.bits .and .i64 a0 4294967295) + 1073741824))).bind fun t114 => (if t108 = t114 then (if (wrap64 (t103 - t104)) ≥ 0 then (if (wrap64 (t103 - t104)) ≤ 0 then (if (wrap64 (t103 - t104)) ≥ (-3) then (some (decide ((wrap64 (t103 - t104)) ≤ 3))) else (none)) else (if x4_9 = true then (if (wrap64 (t103 - t104)) ≥ (-3) then (some (decide ((wrap64 (t103 - t104)) ≤ 3))) else (none)) else (none))) else (if x4_9 = true then (none) else (if (wrap64 (t103 - t104)) ≤ 0 then (if (wrap64 (t103 - t104)) ≥ (-3) then (some (decide ((wrap64 (t103 - t104)) ≤ 3))) else (none)) else (none)))) else (none)))) else (none)))) else (none)))) else (none)))) else (none)) = some r := H
            have A15 := Aside0.mk A150
            clear A150
            by_cases c16 : t105 = (wrap64 (-t106))
            · rw [if_pos c16] at H
              have c16b0 : (t105 == (wrap64 (-t106))) = true := beq_iff_eq.mpr c16
              have c16b1 : (t105 != (wrap64 (-t106))) = false := bne_eq_false_iff_eq.mpr c16
              clear c16
              replace H := Option.bind_eq_some_iff.mp H
              obtain ⟨t107, A170, H⟩ := H
              replace H : ((trig_Cos.f kj9 a0).bind fun t108 => (if t107 = t108 then ((trig_Sin.f kj9 (wrap64 ((Go.bits .and .i64 a0 4294967295) + 2147483648))).bind fun t109 => ((trig_Sin.f kj9 a0).bind fun t110 => (if t109 = (wrap64 (-t106)) then ((trig_Sin.f kj9 (wrap64 (2147483648 - (Go.bits .and .i64 a0 4294967295)))).bind fun t111 => ((trig_Sin.f kj9 a0).bind fun t112 => (if t111 = t106 then ((trig_Cos.f kj9 a0).bind fun t113 => ((trig_Sin.f kj9 (wrap64 ((Go.bits .and .i64 a0 4294967295) + 1073741824))).bind fun t114 => (if t108 = t114 then (if (wrap64 (t103 - t104)) ≥ 0 then (if (wrap64 (t103 - t104)) ≤ 0 then (if (wrap64 (t103 - t104)) ≥ (-3) then (some (decide ((wrap64 (t103 - t104)) ≤ 3))) else (none)) else (if x4_9 = true then (if (wrap64 (t103 - t104)) ≥ (-3) then (some (decide ((wrap64 (t103 - t104)) ≤ 3))) else (none)) else (none))) else (if x4_9 = true then (none) else (if (wrap64 (t103 - t104)) ≤ 0 then (if (wrap64 (t103 - t104)) ≥ (-3) then (some (decide ((wrap64 (t103 - t104)) ≤ 3))) else (none)) else (none)))) else (none)))) else (none)))) else (none)))) else (none))) = some r := H
              have A17 := Aside0.mk A170
              clear A170
              replace H := Option.bind_eq_some_iff.mp H
              obtain ⟨t108, A180, H⟩ := H
              replace H : (if t107 = t108 then ((trig_Sin.f kj9 (wrap64 ((Go.bits .and .i64 a0 4294967295) + 2147483648))).bind fun t109 => ((trig_Sin.f kj9 a0).bind fun t110 => (if t109 = (wrap64 (-t106)) then ((trig_Sin.f kj9 (wrap64 (2147483648 - (Go.bits .and .i64 a0 4294967295)))).bind fun t111 => ((trig_Sin.f kj9 a0).bind fun t112 => (if t111 = t106 then ((trig_Cos.f kj9 a0).bind fun t113 => ((trig_Sin.f kj9 (wrap64 ((Go.bits .and .i64 a0 4294967295) + 1073741824))).bind fun t114 => (if t108 = t114 then (if (wrap64 (t103 - t104)) ≥ 0 then (if (wrap64 (t103 - t104)) ≤ 0 then (if (wrap64 (t103 - t104)) ≥ (-3) then (some (decide ((wrap64 (t103 - t104)) ≤ 3))) else (none)) else (if x4_9 = true then (if (wrap64 (t103 - t104)) ≥ (-3) then (some (decide ((wrap64 (t103 - t104)) ≤ 3))) else (none)) else (none))) else (if x4_9 = true then (none) else (if (wrap64 (t103 - t104)) ≤ 0 then (if (wrap64 (t103 - t104)) ≥ (-3) then (some (decide ((wrap64 (t103 - t104)) ≤ 3))) else (none)) else (none)))) else (none)))) else (none)))) else (none)))) else (none)) = some r := H
              have A18 := Aside0.mk A180
              clear A180
              by_cases c19 : t107 = t108
              · rw [if_pos c19] at H
                have c19b0 : (t107 == t108) = true := beq_iff_eq.mpr c19
                have c19b1 : (t107 != t108) = false := bne_eq_false_iff_eq.mpr c19
                clear c19
                replace H := Option.bind_eq_some_iff.mp H
                obtain ⟨t109, A200, H⟩ := H
                replace H : ((trig_Sin.f kj9 a0).bind fun t110 => (if t109 = (wrap64 (-t106)) then ((trig_Sin.f kj9 (wrap64 (2147483648 - (Go.bits .and .i64 a0 4294967295)))).bind fun t111 => ((trig_Sin.f kj9 a0).bind fun t112 => (if t111 = t106 then ((trig_Cos.f kj9 a0).bind fun t113 => ((trig_Sin.f kj9 (wrap64 ((Go.bits .and .i64 a0 4294967295) + 1073741824))).bind fun t114 => (if t108 = t114 then (if (wrap64 (t103 - t104)) ≥ 0 then (if (wrap64 (t103 - t104)) ≤ 0 then (if (wrap64 (t103 - t104)) ≥ (-3) then (some (decide ((wrap64 (t103 - t104)) ≤ 3))) else (none)) else (if x4_9 = true then (if (wrap64 (t103 - t104)) ≥ (-3) then (some (decide ((wrap64 (t103 - t104)) ≤ 3))) else (none)) else (none))) else (if x4_9 = true then (none) else (if (wrap64 (t103 - t104)) ≤ 0 then (if (wrap64 (t103 - t104)) ≥ (-3) then (some (decide ((wrap64 (t103 - t104)) ≤ 3))) else (none)) else (none)))) else (none)))) else (none)))) else (none))) = some r := H
                have A20 := Aside0.mk A200
                clear A200
                replace H := Option.bind_eq_some_iff.mp H
                obtain ⟨t110, A210, H⟩ := H
                replace H : (if t109 = (wrap64 (-t106)) then ((trig_Sin.f kj9 (wrap64 (2147483648 - (Go.bits .and .i64 a0 4294967295)))).bind fun t111 => ((trig_Sin.f kj9 a0).bind fun t112 => (if t111 = t106 then ((trig_Cos.f kj9 a0).bind fun t113 => ((trig_Sin.f kj9 (wrap64 ((Go.bits .and .i64 a0 4294967295) + 1073741824))).bind fun t114 => (if t108 = t114 then (if (wrap64 (t103 - t104)) ≥ 0 then (if (wrap64 (t103 - t104)) ≤ 0 then (if (wrap64 (t103 - t104)) ≥ (-3) then (some (decide ((wrap64 (t103 - t104)) ≤ 3))) else (none)) else (if x4_9 = true then (if (wrap64 (t103 - t104)) ≥ (-3) then (some (decide ((wrap64 (t103 - t104)) ≤ 3))) else (none)) else (none))) else (if x4_9 = true then (none) else (if (wrap64 (t103 - t104)) ≤ 0 then (if (wrap64 (t103 - t104)) ≥ (-3) then (some (decide ((wrap64 (t103 - t104)) ≤ 3))) else (none)) else (none)))) else (none)))) else (none)))) else (none)) = some r := H
                have E_ := Option.some.inj (A15.out.symm.trans A210)
                subst E_
                have A21 := Aside0.mk A210
                clear A210
                by_cases c22 : t109 = (wrap64 (-t106))
                · rw [if_pos c22] at H
                  have c22b0 : (t109 == (wrap64 (-t106))) = true := beq_iff_eq.mpr c22
                  have c22b1 : (t109 != (wrap64 (-t106))) = false := bne_eq_false_iff_eq.mpr c22
                  clear c22
                  replace H := Option.bind_eq_some_iff.mp H
                  obtain ⟨t111, A230, H⟩ := H
                  replace H : ((trig_Sin.f kj9 a0).bind fun t112 => (if t111 = t106 then ((trig_Cos.f kj9 a0).bind fun t113 => ((trig_Sin.f kj9 (wrap64 ((Go.bits .and .i64 a0 4294967295) + 1073741824))).bind fun t114 => (if t108 = t114 then (if (wrap64 (t103 - t104)) ≥ 0 then (if (wrap64 (t103 - t104)) ≤ 0 then (if (wrap64 (t103 - t104)) ≥ (-3) then (some (decide ((wrap64 (t103 - t104)) ≤ 3))) else (none)) else (if x4_9 = true then (if (wrap64 (t103 - t104)) ≥ (-3) then (some (decide ((wrap64 (t103 - t104)) ≤ 3))) else (none)) else (none))) else (if x4_9 = true then (none) else (if (wrap64 (t103 - t104)) ≤ 0 then (if (wrap64 (t103 - t104)) ≥ (-3) then (some (decide ((wrap64 (t103 - t104)) ≤ 3))) else (none)) else (none)))) else (none)))) else (none))) = some r := H
                  have A23 := Aside0.mk A230
                  clear A230
                  replace H := Option.bind_eq_some_iff.mp H
                  obtain ⟨t112, A240, H⟩ := H
                  replace H : (if t111 = t106 then ((trig_Cos.f kj9 a0).bind fun t113 => ((trig_Sin.f kj9 (wrap64 ((Go.bits .and .i64 a0 4294967295) + 1073741824))).bind fun t114 => (if t108 = t114 then (if (wrap64 (t103 - t104)) ≥ 0 then (if (wrap64 (t103 - t104)) ≤ 0 then (if (wrap64 (t103 - t104)) ≥ (-3) then (some (decide ((wrap64 (t103 - t104)) ≤ 3))) else (none)) else (if x4_9 = true then (if (wrap64 (t103 - t104)) ≥ (-3) then (some (decide ((wrap64 (t103 - t104)) ≤ 3))) else (none)) else (none))) else (if x4_9 = true then (none) else (if (wrap64 (t103 - t104)) ≤ 0 then (if (wrap64 (t103 - t104)) ≥ (-3) then (some (decide ((wrap64 (t103 - t104)) ≤ 3))) else (none)) else (none)))) else (none)))) else (none)) = some r := H
                  have E_ := Option.some.inj (A15.out.symm.trans A240)
                  subst E_
                  have A24 := Aside0.mk A240
                  clear A240
                  by_cases c25 : t111 = t106
                  · rw [if_pos c25] at H
                    have c25b0 : (t111 == t106) = true := beq_iff_eq.mpr c25
                    have c25b1 : (t111 != t106) = false := bne_eq_false_iff_eq.mpr c25
                    clear c25
                    replace H := Option.bind_eq_some_iff.mp H
                    obtain ⟨t113, A260, H⟩ := H
                    replace H : ((trig_Sin.f kj9 (wrap64 ((Go.bits .and .i64 a0 4294967295) + 1073741824))).bind fun t114 => (if t108 = t114 then (if (wrap64 (t103 - t104)) ≥ 0 then (if (wrap64 (t103 - t104)) ≤ 0 then (if (wrap64 (t103 - t104)) ≥ (-3) then (some (decide ((wrap64 (t103 - t104)) ≤ 3))) else (none)) else (if x4_9 = true then (if (wrap64 (t103 - t104)) ≥ (-3) then (some (decide ((wrap64 (t103 - t104)) ≤ 3))) else (none)) else (none))) else (if x4_9 = true then (none) else (if (wrap64 (t103 - t104)) ≤ 0 then (if (wrap64 (t103 - t104)) ≥ (-3) then (some (decide ((wrap64 (t103 - t104)) ≤ 3))) else (none)) else (none)))) else (none))) = some r := H
                    have E_ := Option.some.inj (A18.out.symm.trans A260)
                    subst E_
                    have A26 := Aside0.mk A260
                    clear A260
                    replace H := Option.bind_eq_some_iff.mp H
                    obtain ⟨t114, A270, H⟩ := H
                    replace H : (if t108 = t114 then (if (wrap64 (t103 - t104)) ≥ 0 then (if (wrap64 (t103 - t104)) ≤ 0 then (if (wrap64 (t103 - t104)) ≥ (-3) then (some (decide ((wrap64 (t103 - t104)) ≤ 3))) else (none)) else (if x4_9 = true then (if (wrap64 (t103 - t104)) ≥ (-3) then (some (decide ((wrap64 (t103 - t104)) ≤ 3))) else (none)) else (none))) else (if x4_9 = true then (none) else (if (wrap64 (t103 - t104)) ≤ 0 then (if (wrap64 (t103 - t104)) ≥ (-3) then (some (decide ((wrap64 (t103 - t104)) ≤ 3))) else (none)) else (none)))) else (none)) = some r := H
                    have A27 := Aside0.mk A270
                    clear A270
                    by_cases c28 : t108 = t114
                    · rw [if_pos c28] at H
                      have c28b0 : (t108 == t114) = true := beq_iff_eq.mpr c28
                      have c28b1 : (t108 != t114) = false := bne_eq_false_iff_eq.mpr c28
                      clear c28
                      by_cases c29 : (wrap64 (t103 - t104)) ≥ 0
                      · rw [if_pos c29] at H
                        have c29b0 : decide (0 ≤ (wrap64 (t103 - t104))) = true := decide_eq_true c29
                        clear c29
                        by_cases c30 : (wrap64 (t103 - t104)) ≤ 0
                        · rw [if_pos c30] at H
                          have c30b0 : decide ((wrap64 (t103 - t104)) ≤ 0) = true := decide_eq_true c30
                          clear c30
                          by_cases c31 : (wrap64 (t103 - t104)) ≥ (-3)
                          · rw [if_pos c31] at H
                            have c31b0 : decide ((-3) ≤ (wrap64 (t103 - t104))) = true := decide_eq_true c31
                            clear c31
                            obtain rfl := Option.some.inj H
                            go_wp2_with (first | ((with_reducible refine gate_callee (f := 31) rfl ?_); refine goesL_ (some 23) rfl rfl Try.func31 (by kernel_rfl) rfl #[.int .i64 (wrap64 ((Go.bits .and .i64 a0 4294967295) + 1))] rfl (by (try simp only [List.map_toArray, List.map_cons, List.map_nil]); first | done | rfl | (simp only [List.length_drop, List.length_take]; rfl)) ?_; (with_reducible refine (trig_Sin.calls kj9 (wrap64 ((Go.bits .and .i64 a0 4294967295) + 1)) t103 _ A12.out).mono ?_); rintro e w32 ⟨rfl, hb⟩; refine ⟨_, rfl, ?_⟩; have n0_ := Aside0.mk (below_step (by repeat (first | (with_reducible first | exact HB.out | apply below_alloc | apply pw_below_drewN | apply below_drew1) | exact HB.out)) hb); clear HB; have HB := n0_; clear n0_; (try clear hb); (try clear hb2); (try clear hk); (try clear hi)) | ((with_reducible refine gate_callee (f := 31) rfl ?_); refine goesL_ (some 25) rfl rfl Try.func31 (by kernel_rfl) rfl #[.int .i64 (Go.bits .and .i64 a0 4294967295)] rfl (by (try simp only [List.map_toArray, List.map_cons, List.map_nil]); first | done | rfl | (simp only [List.length_drop, List.length_take]; rfl)) ?_; (with_reducible refine (trig_Sin.calls kj9 (Go.bits .and .i64 a0 4294967295) t104 _ A13.out).mono ?_); rintro e w33 ⟨rfl, hb⟩; refine ⟨_, rfl, ?_⟩; have n0_ := Aside0.mk (below_step (by repeat (first | (with_reducible first | exact HB.out | apply below_alloc | apply pw_below_drewN | apply below_drew1) | exact HB.out)) hb); clear HB; have HB := n0_; clear n0_; (try clear hb); (try clear hb2); (try clear hk); (try clear hi)) | ((with_reducible refine gate_callee (f := 31) rfl ?_); refine goesL_ (some 29) rfl rfl Try.func31 (by kernel_rfl) rfl #[.int .i64 (wrap64 (-a0))] rfl (by (try simp only [List.map_toArray, List.map_cons, List.map_nil]); first | done | rfl | (simp only [List.length_drop, List.length_take]; rfl)) ?_; (with_reducible refine (trig_Sin.calls kj9 (wrap64 (-a0)) t105 _ A14.out).mono ?_); rintro e w34 ⟨rfl, hb⟩; refine ⟨_, rfl, ?_⟩; have n0_ := Aside0.mk (below_step (by repeat (first | (with_reducible first | exact HB.out | apply below_alloc | apply pw_below_drewN | apply below_drew1) | exact HB.out)) hb); clear HB; have HB := n0_; clear n0_; (try clear hb); (try clear hb2); (try clear hk); (try clear hi)) | ((with_reducible refine gate_callee (f := 31) rfl ?_); refine goesL_ (some 31) rfl rfl Try.func31 (by kernel_rfl) rfl #[.int .i64 a0] rfl (by (try simp only [List.map_toArray, List.map_cons, List.map_nil]); first | done | rfl | (simp only [List.length_drop, List.length_take]; rfl)) ?_; (with_reducible refine (trig_Sin.calls kj9 a0 t106 _ A15.out).mono ?_); rintro e w35 ⟨rfl, hb⟩; refine ⟨_, rfl, ?_⟩; have n0_ := Aside0.mk (below_step (by repeat (first | (with_reducible first | exact HB.out | apply below_alloc | apply pw_below_drewN | apply below_drew1) | exact HB.out)) hb); clear HB; have HB := n0_; clear n0_; (try clear hb); (try clear hb2); (try clear hk); (try clear hi)) | (go_at_call 32; (with_reducible refine (trig_Cos.calls kj9 (wrap64 (-a0)) t107 _ A17.out).mono ?_); rintro e w36 ⟨rfl, hb⟩; have n0_ := Aside0.mk (below_step (by repeat (first | (with_reducible first | exact HB.out | apply below_alloc | apply pw_below_drewN | apply below_drew1) | exact HB.out)) hb); clear HB; have HB := n0_; clear n0_; (try clear hb); (try clear hb2); (try clear hk); (try clear hi)) | (go_at_call 32; (with_reducible refine (trig_Cos.calls kj9 a0 t108 _ A18.out).mono ?_); rintro e w37 ⟨rfl, hb⟩; have n0_ := Aside0.mk (below_step (by repeat (first | (with_reducible first | exact HB.out | apply below_alloc | apply pw_below_drewN | apply below_drew1) | exact HB.out)) hb); clear HB; have HB := n0_; clear n0_; (try clear hb); (try clear hb2); (try clear hk); (try clear hi)) | (go_at_call 31; (with_reducible refine (trig_Sin.calls kj9 (wrap64 ((Go.bits .and .i64 a0 4294967295) + 2147483648)) t109 _ A20.out).mono ?_); rintro e w38 ⟨rfl, hb⟩; have n0_ := Aside0.mk (below_step (by repeat (first | (with_reducible first | exact HB.out | apply below_alloc | apply pw_below_drewN | apply below_drew1) | exact HB.out)) hb); clear HB; have HB := n0_; clear n0_; (try clear hb); (try clear hb2); (try clear hk); (try clear hi)) | (go_at_call 31; (with_reducible refine (trig_Sin.calls kj9 a0 t106 _ A21.out).mono ?_); rintro e w39 ⟨rfl, hb⟩; have n0_ := Aside0.mk (below_step (by repeat (first | (with_reducible first | exact HB.out | apply below_alloc | apply pw_below_drewN | apply below_drew1) | exact HB.out)) hb); clear HB; have HB := n0_; clear n0_; (try clear hb); (try clear hb2); (try clear hk); (try clear hi)) | (go_at_call 31; (with_reducible refine (trig_Sin.calls kj9 (wrap64 (2147483648 - (Go.bits .and .i64 a0 4294967295))) t111 _ A23.out).mono ?_); rintro e w40 ⟨rfl, hb⟩; have n0_ := Aside0.mk (below_step (by repeat (first | (with_reducible first | exact HB.out | apply below_alloc | apply pw_below_drewN | apply below_drew1) | exact HB.out)) hb); clear HB; have HB := n0_; clear n0_; (try clear hb); (try clear hb2); (try clear hk); (try clear hi)) | (go_at_call 31; (with_reducible refine (trig_Sin.calls kj9 a0 t106 _ A24.out).mono ?_); rintro e w41 ⟨rfl, hb⟩; have n0_ := Aside0.mk (below_step (by repeat (first | (with_reducible first | exact HB.out | apply below_alloc | apply pw_below_drewN | apply below_drew1) | exact HB.out)) hb); clear HB; have HB := n0_; clear n0_; (try clear hb); (try clear hb2); (try clear hk); (try clear hi)) | (go_at_call 32; (with_reducible refine (trig_Cos.calls kj9 a0 t108 _ A26.out).mono ?_); rintro e w42 ⟨rfl, hb⟩; have n0_ := Aside0.mk (below_step (by repeat (first | (with_reducible first | exact HB.out | apply below_alloc | apply pw_below_drewN | apply below_drew1) | exact HB.out)) hb); clear HB; have HB := n0_; clear n0_; (try clear hb); (try clear hb2); (try clear hk); (try clear hi)) | (go_at_call 31; (with_reducible refine (trig_Sin.calls kj9 (wrap64 ((Go.bits .and .i64 a0 4294967295) + 1073741824)) t114 _ A27.out).mono ?_); rintro e w43 ⟨rfl, hb⟩; have n0_ := Aside0.mk (below_step (by repeat (first | (with_reducible first | exact HB.out | apply below_alloc | apply pw_below_drewN | apply below_drew1) | exact HB.out)) hb); clear HB; have HB := n0_; clear n0_; (try clear hb); (try clear hb2); (try clear hk); (try clear hi)))
                            go_ret
                            exact ⟨by first | rfl | (simp [errW_none, errW_some] <;> rfl) | (simp [*, errW_none, errW_some] <;> rfl), by repeat (first | (with_reducible first | exact HB.out | apply below_alloc | apply pw_below_drewN | apply below_drew1) | exact HB.out)⟩
                          · rw [if_neg c31] at H
                            exact absurd H (by simp)
                        · rw [if_neg c30] at H
                          have c30b0 : decide ((wrap64 (t103 - t104)) ≤ 0) = false := decide_eq_false c30
                          clear c30
                          by_cases c44 : x4_9 = true
                          · subst c44
                            have H1 : (if (wrap64 (t103 - t104)) ≥ (-3) then (some (decide ((wrap64 (t103 - t104)) ≤ 3))) else (none)) = some r := by rw [if_pos rfl] at H; exact H
                            clear H
                            have H := H1
                            clear H1
                            by_cases c45 : (wrap64 (t103 - t104)) ≥ (-3)
                            · rw [if_pos c45] at H
                              have c45b0 : decide ((-3) ≤ (wrap64 (t103 - t104))) = true := decide_eq_true c45
                              clear c45
                              obtain rfl := Option.some.inj H
                              go_wp2_with (first | ((with_reducible refine gate_callee (f := 31) rfl ?_); refine goesL_ (some 23) rfl rfl Try.func31 (by kernel_rfl) rfl #[.int .i64 (wrap64 ((Go.bits .and .i64 a0 4294967295) + 1))] rfl (by (try simp only [List.map_toArray, List.map_cons, List.map_nil]); first | done | rfl | (simp only [List.length_drop, List.length_take]; rfl)) ?_; (with_reducible refine (trig_Sin.calls kj9 (wrap64 ((Go.bits .and .i64 a0 4294967295) + 1)) t103 _ A12.out).mono ?_); rintro e w46 ⟨rfl, hb⟩; refine ⟨_, rfl, ?_⟩; have n0_ := Aside0.mk (below_step (by repeat (first | (with_reducible first | exact HB.out | apply below_alloc | apply pw_below_drewN | apply below_drew1) | exact HB.out)) hb); clear HB; have HB := n0_; clear n0_; (try clear hb); (try clear hb2); (try clear hk); (try clear hi)) | ((with_reducible refine gate_callee (f := 31) rfl ?_); refine goesL_ (some 25) rfl rfl Try.func31 (by kernel_rfl) rfl #[.int .i64 (Go.bits .and .i64 a0 4294967295)] rfl (by (try simp only [List.map_toArray, List.map_cons, List.map_nil]); first | done | rfl | (simp only [List.length_drop, List.length_take]; rfl)) ?_; (with_reducible refine (trig_Sin.calls kj9 (Go.bits .and .i64 a0 4294967295) t104 _ A13.out).mono ?_); rintro e w47 ⟨rfl, hb⟩; refine ⟨_, rfl, ?_⟩; have n0_ := Aside0.mk (below_step (by repeat (first | (with_reducible first | exact HB.out | apply below_alloc | apply pw_below_drewN | apply below_drew1) | exact HB.out)) hb); clear HB; have HB := n0_; clear n0_; (try clear hb); (try clear hb2); (try clear hk); (try clear hi)) | ((with_reducible refine gate_callee (f := 31) rfl ?_); refine goesL_ (some 29) rfl rfl Try.func31 (by kernel_rfl) rfl #[.int .i64 (wrap64 (-a0))] rfl (by (try simp only [List.map_toArray, List.map_cons, List.map_nil]); first | done | rfl | (simp only [List.length_drop, List.length_take]; rfl)) ?_; (with_reducible refine (trig_Sin.calls kj9 (wrap64 (-a0)) t105 _ A14.out).mono ?_); rintro e w48 ⟨rfl, hb⟩; refine ⟨_, rfl, ?_⟩; have n0_ := Aside0.mk (below_step (by repeat (first | (with_reducible first | exact HB.out | apply below_alloc | apply pw_below_drewN | apply below_drew1) | exact HB.out)) hb); clear HB; have HB := n0_; clear n0_; (try clear hb); (try clear hb2); (try clear hk); (try clear hi)) | ((with_reducible refine gate_callee (f := 31) rfl ?_); refine goesL_ (some 31) rfl rfl Try.func31 (by kernel_rfl) rfl #[.int .i64 a0] rfl (by (try simp only [List.map_toArray, List.map_cons, List.map_nil]); first | done | rfl | (simp only [List.length_drop, List.length_take]; rfl)) ?_; (with_reducible refine (trig_Sin.calls kj9 a0 t106 _ A15.out).mono ?_); rintro e w49 ⟨rfl, hb⟩; refine ⟨_, rfl, ?_⟩; have n0_ := Aside0.mk (below_step (by repeat (first | (with_reducible first | exact HB.out | apply below_alloc | apply pw_below_drewN | apply below_drew1) | exact HB.out)) hb); clear HB; have HB := n0_; clear n0_; (try clear hb); (try clear hb2); (try clear hk); (try clear hi)) | (go_at_call 32; (with_reducible refine (trig_Cos.calls kj9 (wrap64 (-a0)) t107 _ A17.out).mono ?_); rintro e w50 ⟨rfl, hb⟩; have n0_ := Aside0.mk (below_step (by repeat (first | (with_reducible first | exact HB.out | apply below_alloc | apply pw_below_drewN | apply below_drew1) | exact HB.out)) hb); clear HB; have HB := n0_; clear n0_; (try clear hb); (try clear hb2); (try clear hk); (try clear hi)) | (go_at_call 32; (with_reducible refine (trig_Cos.calls kj9 a0 t108 _ A18.out).mono ?_); rintro e w51 ⟨rfl, hb⟩; have n0_ := Aside0.mk (below_step (by repeat (first | (with_reducible first | exact HB.out | apply below_alloc | apply pw_below_drewN | apply below_drew1) | exact HB.out)) hb); clear HB; have HB := n0_; clear n0_; (try clear hb); (try clear hb2); (try clear hk); (try clear hi)) | (go_at_call 31; (with_reducible refine (trig_Sin.calls kj9 (wrap64 ((Go.bits .and .i64 a0 4294967295) + 2147483648)) t109 _ A20.out).mono ?_); rintro e w52 ⟨rfl, hb⟩; have n0_ := Aside0.mk (below_step (by repeat (first | (with_reducible first | exact HB.out | apply below_alloc | apply pw_below_drewN | apply below_drew1) | exact HB.out)) hb); clear HB; have HB := n0_; clear n0_; (try clear hb); (try clear hb2); (try clear hk); (try clear hi)) | (go_at_call 31; (with_reducible refine (trig_Sin.calls kj9 a0 t106 _ A21.out).mono ?_); rintro e w53 ⟨rfl, hb⟩; have n0_ := Aside0.mk (below_step (by repeat (first | (with_reducible first | exact HB.out | apply below_alloc | apply pw_below_drewN | apply below_drew1) | exact HB.out)) hb); clear HB; have HB := n0_; clear n0_; (try clear hb); (try clear hb2); (try clear hk); (try clear hi)) | (go_at_call 31; (with_reducible refine (trig_Sin.calls kj9 (wrap64 (2147483648 - (Go.bits .and .i64 a0 4294967295))) t111 _ A23.out).mono ?_); rintro e w54 ⟨rfl, hb⟩; have n0_ := Aside0.mk (below_step (by repeat (first | (with_reducible first | exact HB.out | apply below_alloc | apply pw_below_drewN | apply below_drew1) | exact HB.out)) hb); clear HB; have HB := n0_; clear n0_; (try clear hb); (try clear hb2); (try clear hk); (try clear hi)) | (go_at_call 31; (with_reducible refine (trig_Sin.calls kj9 a0 t106 _ A24.out).mono ?_); rintro e w55 ⟨rfl, hb⟩; have n0_ := Aside0.mk (below_step (by repeat (first | (with_reducible first | exact HB.out | apply below_alloc | apply pw_below_drewN | apply below_drew1) | exact HB.out)) hb); clear HB; have HB := n0_; clear n0_; (try clear hb); (try clear hb2); (try clear hk); (try clear hi)) | (go_at_call 32; (with_reducible refine (trig_Cos.calls kj9 a0 t108 _ A26.out).mono ?_); rintro e w56 ⟨rfl, hb⟩; have n0_ := Aside0.mk (below_step (by repeat (first | (with_reducible first | exact HB.out | apply below_alloc | apply pw_below_drewN | apply below_drew1) | exact HB.out)) hb); clear HB; have HB := n0_; clear n0_; (try clear hb); (try clear hb2); (try clear hk); (try clear hi)) | (go_at_call 31; (with_reducible refine (trig_Sin.calls kj9 (wrap64 ((Go.bits .and .i64 a0 4294967295) + 1073741824)) t114 _ A27.out).mono ?_); rintro e w57 ⟨rfl, hb⟩; have n0_ := Aside0.mk (below_step (by repeat (first | (with_reducible first | exact HB.out | apply below_alloc | apply pw_below_drewN | apply below_drew1) | exact HB.out)) hb); clear HB; have HB := n0_; clear n0_; (try clear hb); (try clear hb2); (try clear hk); (try clear hi)))
                              go_ret
                              exact ⟨by first | rfl | (simp [errW_none, errW_some] <;> rfl) | (simp [*, errW_none, errW_some] <;> rfl), by repeat (first | (with_reducible first | exact HB.out | apply below_alloc | apply pw_below_drewN | apply below_drew1) | exact HB.out)⟩
                            · rw [if_neg c45] at H
                              exact absurd H (by simp)
                          · replace c44 := Bool.eq_false_iff.mpr c44
                            subst c44
                            have H1 : (none) = some r := by rw [if_neg (show ¬ (false = true) by decide)] at H; exact H
                            clear H
                            have H := H1
                            clear H1
                            exact absurd H (by simp)
                      · rw [if_neg c29] at H
                        have c29b0 : decide (0 ≤ (wrap64 (t103 - t104))) = false := decide_eq_false c29
                        clear c29
                        by_cases c58 : x4_9 = true
                        · subst c58
                          have H1 : (none) = some r := by rw [if_pos rfl] at H; exact H
                          clear H
                          have H := H1
                          clear H1
                          exact absurd H (by simp)
                        · replace c58 := Bool.eq_false_iff.mpr c58
                          subst c58
                          have H1 : (if (wrap64 (t103 - t104)) ≤ 0 then (if (wrap64 (t103 - t104)) ≥ (-3) then (some (decide ((wrap64 (t103 - t104)) ≤ 3))) else (none)) else (none)) = some r := by rw [if_neg (show ¬ (false = true) by decide)] at H; exact H
                          clear H
                          have H := H1
                          clear H1
                          by_cases c59 : (wrap64 (t103 - t104)) ≤ 0
                          · rw [if_pos c59] at H
                            have c59b0 : decide ((wrap64 (t103 - t104)) ≤ 0) = true := decide_eq_true c59
                            clear c59
                            by_cases c60 : (wrap64 (t103 - t104)) ≥ (-3)
                            · rw [if_pos c60] at H
                              have c60b0 : decide ((-3) ≤ (wrap64 (t103 - t104))) = true := decide_eq_true c60
                              clear c60
                              obtain rfl := Option.some.inj H
                              go_wp2_with (first | ((with_reducible refine gate_callee (f := 31) rfl ?_); refine goesL_ (some 23) rfl rfl Try.func31 (by kernel_rfl) rfl #[.int .i64 (wrap64 ((Go.bits .and .i64 a0 4294967295) + 1))] rfl (by (try simp only [List.map_toArray, List.map_cons, List.map_nil]); first | done | rfl | (simp only [List.length_drop, List.length_take]; rfl)) ?_; (with_reducible refine (trig_Sin.calls kj9 (wrap64 ((Go.bits .and .i64 a0 4294967295) + 1)) t103 _ A12.out).mono ?_); rintro e w61 ⟨rfl, hb⟩; refine ⟨_, rfl, ?_⟩; have n0_ := Aside0.mk (below_step (by repeat (first | (with_reducible first | exact HB.out | apply below_alloc | apply pw_below_drewN | apply below_drew1) | exact HB.out)) hb); clear HB; have HB := n0_; clear n0_; (try clear hb); (try clear hb2); (try clear hk); (try clear hi)) | ((with_reducible refine gate_callee (f := 31) rfl ?_); refine goesL_ (some 25) rfl rfl Try.func31 (by kernel_rfl) rfl #[.int .i64 (Go.bits .and .i64 a0 4294967295)] rfl (by (try simp only [List.map_toArray, List.map_cons, List.map_nil]); first | done | rfl | (simp only [List.length_drop, List.length_take]; rfl)) ?_; (with_reducible refine (trig_Sin.calls kj9 (Go.bits .and .i64 a0 4294967295) t104 _ A13.out).mono ?_); rintro e w62 ⟨rfl, hb⟩; refine ⟨_, rfl, ?_⟩; have n0_ := Aside0.mk (below_step (by repeat (first | (with_reducible first | exact HB.out | apply below_alloc | apply pw_below_drewN | apply below_drew1) | exact HB.out)) hb); clear HB; have HB := n0_; clear n0_; (try clear hb); (try clear hb2); (try clear hk); (try clear hi)) | ((with_reducible refine gate_callee (f := 31) rfl ?_); refine goesL_ (some 29) rfl rfl Try.func31 (by kernel_rfl) rfl #[.int .i64 (wrap64 (-a0))] rfl (by (try simp only [List.map_toArray, List.map_cons, List.map_nil]); first | done | rfl | (simp only [List.length_drop, List.length_take]; rfl)) ?_; (with_reducible refine (trig_Sin.calls kj9 (wrap64 (-a0)) t105 _ A14.out).mono ?_); rintro e w63 ⟨rfl, hb⟩; refine ⟨_, rfl, ?_⟩; have n0_ := Aside0.mk (below_step (by repeat (first | (with_reducible first | exact HB.out | apply below_alloc | apply pw_below_drewN | apply below_drew1) | exact HB.out)) hb); clear HB; have HB := n0_; clear n0_; (try clear hb); (try clear hb2); (try clear hk); (try clear hi)) | ((with_reducible refine gate_callee (f := 31) rfl ?_); refine goesL_ (some 31) rfl rfl Try.func31 (by kernel_rfl) rfl #[.int .i64 a0] rfl (by (try simp only [List.map_toArray, List.map_cons, List.map_nil]); first | done | rfl | (simp only [List.length_drop, List.length_take]; rfl)) ?_; (with_reducible refine (trig_Sin.calls kj9 a0 t106 _ A15.out).mono ?_); rintro e w64 ⟨rfl, hb⟩; refine ⟨_, rfl, ?_⟩; have n0_ := Aside0.mk (below_step (by repeat (first | (with_reducible first | exact HB.out | apply below_alloc | apply pw_below_drewN | apply below_drew1) | exact HB.out)) hb); clear HB; have HB := n0_; clear n0_; (try clear hb); (try clear hb2); (try clear hk); (try clear hi)) | (go_at_call 32; (with_reducible refine (trig_Cos.calls kj9 (wrap64 (-a0)) t107 _ A17.out).mono ?_); rintro e w65 ⟨rfl, hb⟩; have n0_ := Aside0.mk (below_step (by repeat (first | (with_reducible first | exact HB.out | apply below_alloc | apply pw_below_drewN | apply below_drew1) | exact HB.out)) hb); clear HB; have HB := n0_; clear n0_; (try clear hb); (try clear hb2); (try clear hk); (try clear hi)) | (go_at_call 32; (with_reducible refine (trig_Cos.calls kj9 a0 t108 _ A18.out).mono ?_); rintro e w66 ⟨rfl, hb⟩; have n0_ := Aside0.mk (below_step (by repeat (first | (with_reducible first | exact HB.out | apply below_alloc | apply pw_below_drewN | apply below_drew1) | exact HB.out)) hb); clear HB; have HB := n0_; clear n0_; (try clear hb); (try clear hb2); (try clear hk); (try clear hi)) | (go_at_call 31; (with_reducible refine (trig_Sin.calls kj9 (wrap64 ((Go.bits .and .i64 a0 4294967295) + 2147483648)) t109 _ A20.out).mono ?_); rintro e w67 ⟨rfl, hb⟩; have n0_ := Aside0.mk (below_step (by repeat (first | (with_reducible first | exact HB.out | apply below_alloc | apply pw_below_drewN | apply below_drew1) | exact HB.out)) hb); clear HB; have HB := n0_; clear n0_; (try clear hb); (try clear hb2); (try clear hk); (try clear hi)) | (go_at_call 31; (with_reducible refine (trig_Sin.calls kj9 a0 t106 _ A21.out).mono ?_); rintro e w68 ⟨rfl, hb⟩; have n0_ := Aside0.mk (below_step (by repeat (first | (with_reducible first | exact HB.out | apply below_alloc | apply pw_below_drewN | apply below_drew1) | exact HB.out)) hb); clear HB; have HB := n0_; clear n0_; (try clear hb); (try clear hb2); (try clear hk); (try clear hi)) | (go_at_call 31; (with_reducible refine (trig_Sin.calls kj9 (wrap64 (2147483648 - (Go.bits .and .i64 a0 4294967295))) t111 _ A23.out).mono ?_); rintro e w69 ⟨rfl, hb⟩; have n0_ := Aside0.mk (below_step (by repeat (first | (with_reducible first | exact HB.out | apply below_alloc | apply pw_below_drewN | apply below_drew1) | exact HB.out)) hb); clear HB; have HB := n0_; clear n0_; (try clear hb); (try clear hb2); (try clear hk); (try clear hi)) | (go_at_call 31; (with_reducible refine (trig_Sin.calls kj9 a0 t106 _ A24.out).mono ?_); rintro e w70 ⟨rfl, hb⟩; have n0_ := Aside0.mk (below_step (by repeat (first | (with_reducible first | exact HB.out | apply below_alloc | apply pw_below_drewN | apply below_drew1) | exact HB.out)) hb); clear HB; have HB := n0_; clear n0_; (try clear hb); (try clear hb2); (try clear hk); (try clear hi)) | (go_at_call 32; (with_reducible refine (trig_Cos.calls kj9 a0 t108 _ A26.out).mono ?_); rintro e w71 ⟨rfl, hb⟩; have n0_ := Aside0.mk (below_step (by repeat (first | (with_reducible first | exact HB.out | apply below_alloc | apply pw_below_drewN | apply below_drew1) | exact HB.out)) hb); clear HB; have HB := n0_; clear n0_; (try clear hb); (try clear hb2); (try clear hk); (try clear hi)) | (go_at_call 31; (with_reducible refine (trig_Sin.calls kj9 (wrap64 ((Go.bits .and .i64 a0 4294967295) + 1073741824)) t114 _ A27.out).mono ?_); rintro e w72 ⟨rfl, hb⟩; have n0_ := Aside0.mk (below_step (by repeat (first | (with_reducible first | exact HB.out | apply below_alloc | apply pw_below_drewN | apply below_drew1) | exact HB.out)) hb); clear HB; have HB := n0_; clear n0_; (try clear hb); (try clear hb2); (try clear hk); (try clear hi)))
                              go_ret
                              exact ⟨by first | rfl | (simp [errW_none, errW_some] <;> rfl) | (simp [*, errW_none, errW_some] <;> rfl), by repeat (first | (with_reducible first | exact HB.out | apply below_alloc | apply pw_below_drewN | apply below_drew1) | exact HB.out)⟩
                            · rw [if_neg c60] at H
                              exact absurd H (by simp)
                          · rw [if_neg c59] at H
                            exact absurd H (by simp)
                    · rw [if_neg c28] at H
                      exact absurd H (by simp)
                  · rw [if_neg c25] at H
                    exact absurd H (by simp)
                · rw [if_neg c22] at H
                  exact absurd H (by simp)
              · rw [if_neg c19] at H
                exact absurd H (by simp)
            · rw [if_neg c16] at H
              exact absurd H (by simp)

/-- THE ONE PURE STATEMENT of spykeep1_TrigSymmetries: yours. -/
def spykeep1_TrigSymmetries.Pure : Prop := ∀ (a0 : Int), (Lit.int .i64 a0).wf = true → ∃ k, spykeep1_TrigSymmetries.f k a0 = some true
theorem spykeep1_TrigSymmetries.walk (P : spykeep1_TrigSymmetries.Pure) (a0 : Int) (w : World) (w0 : (Lit.int .i64 a0).wf = true) :
    Calls Try.prog 7 #[.int .i64 a0] w fun e w' => e = .returned (.bool true) ∧ Below w.heap.size w w' := by
  obtain ⟨k, h⟩ := P a0 w0
  refine (spykeep1_TrigSymmetries.calls k a0 true w h).mono ?_
  rintro e w' ⟨rfl, hd⟩
  exact ⟨rfl, hd⟩

end Go.Proofs.Ytbaedcjophgiiaa.Q
