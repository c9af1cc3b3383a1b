/- Contracts of Go functions of the seat, one by one: each call returns what the Lean function of the same name says, wherever that is 'some'; no other condition. Written by a program of this session. -/
import Derived.Test.YthcdbpbimmjknaaDoorKAlertOrdersQx0
import Derived.Test.YthcdbpbimmjknaaDoorKAlertOrdersQx11
import Derived.Lib.SlBytesConst
namespace Go.Proofs.YthcdbpbimmjknaaDoor.Q
open Go.RowKit Go.Proofs.YthcdbpbimmjknaaDoorW.PrintWords Go.Proofs.YthcdbpbimmjknaaDoorW.PrintLast Go.Proofs.YthcdbpbimmjknaaDoorW.PrintMore
attribute [local go_sem] max2_int min2_int max_two min_two max_three min_three max_four min_four   -- for this text's walks alone
set_option linter.unusedVariables false
set_option linter.unusedSimpArgs false

-- IMPORTS: Derived.Lib.SlBytesConst
theorem bytes_row (w : World) (xs : List Int) (e : TypeId) (fz : Nat × Nat) (hn : xs.length ≤ 1000) : Kd.C (Kd.int .u8) (w.alloc (.cells (xs.map (Value.int .u8)).toArray e fz)) (some ⟨w.heap.size, 0, none⟩) xs.length xs := by
  refine Kd.C_of_reads (d := (0 : Int)) (h1 := fun _ => rfl) ⟨rfl, by omega, fun _ => ⟨_, rfl, fun j hj => ?_⟩⟩
  rw [add_plain]
  unfold World.cell?
  rw [show (w.alloc (.cells (xs.map (Value.int .u8)).toArray e fz)).heap[w.heap.size]? = some (.cells (xs.map (Value.int .u8)).toArray e fz) from by show (w.heap.push _)[w.heap.size]? = _; simp]
  simp [hj]
/-! ### spykeep1_alertFact: function 8 -/
def spykeep1_alertFact.f (k : Nat)  : Option (Bool) := (alert_Text.f k 3 6 0 0 0 false 0 0 false 0 0 false 0 0 false 2).bind fun bt101 => ((alert_Sum.f k (([49, 50, 51, 52, 53, 54, 55, 56, 57] : List Int))).bind fun t106 => (if t106 = 3421780262 then (if bt101.2 = 0 then (some (bt101.1.toList == ([97, 108, 101, 114, 116, 32, 51, 32, 114, 101, 116, 114, 97, 99, 116, 101, 100, 32, 97, 116, 32, 48, 46, 46, 48, 32, 111, 102, 32, 50] : List UInt8))) else (some false)) else (some false)))
theorem spykeep1_alertFact.mono : ∀ k, LeO (spykeep1_alertFact.f k ) (spykeep1_alertFact.f (k + 1) ) := by
 intro  k
 unfold spykeep1_alertFact.f
 repeat' first
  | (with_reducible exact alert_Sum.mono _ _)
  | (with_reducible exact alert_Text.mono _ _ _ _ _ _ _ _ _ _ _ _ _ _ _ _ _)
  | (with_reducible exact LeO.refl _)
  | (with_reducible exact LeO.none _)
  | (with_reducible refine LeO.ite ?_ ?_)
  | (with_reducible refine LeO.bind ?_ (fun _ => ?_))
  | exact alert_Sum.mono _ _
  | exact alert_Text.mono _ _ _ _ _ _ _ _ _ _ _ _ _ _ _ _ _
  | exact LeO.none _
  | refine LeO.ite ?_ ?_
  | refine LeO.bind ?_ (fun _ => ?_)
set_option maxHeartbeats 8000000 in
set_option maxRecDepth 100000 in
theorem spykeep1_alertFact.calls (k : Nat)  (r : Bool) (w : World) (h : spykeep1_alertFact.f k  = some r) :
 Calls Tryd.prog 8 #[] w fun e w' => e = .returned (.bool r) ∧ Below w.heap.size w w' := by
  have hu36 := Tryd.underlying36
  have HB := Aside0.mk (Below.refl w.heap.size w)
  have kc := fun (w : World) (C : Array Value) (n c : Nat) => Lib.run_convert_bytes_const (P := Tryd.prog) w 63 5 C n c Tryd.underlying63 Tryd.underlying5
  have H : ((alert_Text.f k 3 6 0 0 0 false 0 0 false 0 0 false 0 0 false 2).bind fun bt101 => ((alert_Sum.f k (([49, 50, 51, 52, 53, 54, 55, 56, 57] : List Int))).bind fun t106 => (if t106 = 3421780262 then (if bt101.2 = 0 then (some (bt101.1.toList == ([97, 108, 101, 114, 116, 32, 51, 32, 114, 101, 116, 114, 97, 99, 116, 101, 100, 32, 97, 116, 32, 48, 46, 46, 48, 32, 111, 102, 32, 50] : List UInt8))) else (some false)) else (some false)))) = some r := h
  clear h
  replace H := Option.bind_eq_some_iff.mp H
  obtain ⟨⟨t101, t102⟩, A10, H⟩ := H
  try dsimp -simprocs only at H
  have A1 := Aside0.mk A10
  clear A10
  obtain ⟨y103, hy103⟩ : ∃ y_ : List Int, y_ = (([49, 50, 51, 52, 53, 54, 55, 56, 57] : List Int)) := ⟨_, rfl⟩
  replace H : ((alert_Sum.f k y103).bind fun t106 => (if t106 = 3421780262 then (if t102 = 0 then (some (t101.toList == ([97, 108, 101, 114, 116, 32, 51, 32, 114, 101, 116, 114, 97, 99, 116, 101, 100, 32, 97, 116, 32, 48, 46, 46, 48, 32, 111, 102, 32, 50] : List UInt8))) else (some false)) else (some false))) = some r := by first | (rw [hy103]; with_reducible exact H) | (have H2_ := (Option.bind_some _ _).symm.trans H; rw [hy103]; with_reducible exact H2_) | (have H2_ := (Option.bind_some _ _).symm.trans H; with_reducible exact H2_) | with_reducible exact H | (rw [hy103]; exact H) | exact H
  have Ny103 := Aside0.mk hy103
  clear hy103
  replace H := Option.bind_eq_some_iff.mp H
  obtain ⟨t106, A20, H⟩ := H
  try dsimp -simprocs only at H
  have A2 := Aside0.mk A20
  clear A20
  by_cases c3 : t106 = 3421780262
  · rw [if_pos c3] at H
    have c3b0 : (t106 == 3421780262) = true := beq_iff_eq.mpr c3
    have c3b1 : (t106 != 3421780262) = false := bne_eq_false_iff_eq.mpr c3
    clear c3
    by_cases c4 : t102 = 0
    · rw [if_pos c4] at H
      have c4b0 : (t102 == 0) = true := beq_iff_eq.mpr c4
      have c4b1 : (t102 != 0) = false := bne_eq_false_iff_eq.mpr c4
      clear c4
      obtain rfl := Option.some.inj H
      go_enter Tryd.func8, Tryd.ntmps8
      go_wp2_with (first | ((with_reducible refine gate_callee (f := 24) rfl ?_); refine glq_ (some 5) Tryd.func24 #[.agg #[.int .i64 3, .int .i64 6, .int .i64 0, .int .i64 0, .int .i64 0, .bool false, .int .i64 0, .int .i64 0, .bool false, .int .i64 0, .int .i64 0, .bool false, .int .i64 0, .int .i64 0, .bool false, .int .i64 2]] ?_; (with_reducible refine (alert_Text.calls k 3 6 0 0 0 false 0 0 false 0 0 false 0 0 false 2 t101 t102 _ A1.out).mono ?_); rintro e w5 ⟨rfl, hb⟩; refine ⟨_, rfl, ?_⟩; replace HB := hbs_ HB hb rfl rfl rfl rfl; (try clear hb)))
      refine (alert_Sum.calls k (some ⟨w5.heap.size, 0, none⟩) 9 [49, 50, 51, 52, 53, 54, 55, 56, 57] t106 _ (bytes_row _ _ _ _ (by decide)) (by decide) (by have h_ := A2.out; rw [Ny103.out] at h_; exact h_)).mono ?_
      rintro e w' ⟨rfl, ⟨nd, rfl⟩⟩
      go_wp2_with (fail)
      go_ret
      exact ⟨by first | rfl | (simp [errW_none, errW_some] <;> rfl) | (simp [*, errW_none, errW_some] <;> rfl), by repeat (first | (with_reducible first | exact HB.out | apply below_alloc | apply pw_below_drewN | apply below_drew1) | exact HB.out)⟩
    rw [if_neg c4] at H
    have c4b0 : (t102 == 0) = false := beq_eq_false_iff_ne.mpr c4
    have c4b1 : (t102 != 0) = true := bne_iff_ne.mpr c4
    obtain rfl := Option.some.inj H
    go_enter Tryd.func8, Tryd.ntmps8
    go_wp2_with (first | ((with_reducible refine gate_callee (f := 24) rfl ?_); refine glq_ (some 5) Tryd.func24 #[.agg #[.int .i64 3, .int .i64 6, .int .i64 0, .int .i64 0, .int .i64 0, .bool false, .int .i64 0, .int .i64 0, .bool false, .int .i64 0, .int .i64 0, .bool false, .int .i64 0, .int .i64 0, .bool false, .int .i64 2]] ?_; (with_reducible refine (alert_Text.calls k 3 6 0 0 0 false 0 0 false 0 0 false 0 0 false 2 t101 t102 _ A1.out).mono ?_); rintro e w9 ⟨rfl, hb⟩; refine ⟨_, rfl, ?_⟩; replace HB := hbs_ HB hb rfl rfl rfl rfl; (try clear hb)))
    refine (alert_Sum.calls k (some ⟨w9.heap.size, 0, none⟩) 9 [49, 50, 51, 52, 53, 54, 55, 56, 57] t106 _ (bytes_row _ _ _ _ (by decide)) (by decide) (by have h_ := A2.out; rw [Ny103.out] at h_; exact h_)).mono ?_
    rintro e w' ⟨rfl, ⟨nd, rfl⟩⟩
    go_wp2_with (fail)
    go_ret
    exact ⟨by first | rfl | (simp [errW_none, errW_some] <;> rfl) | (simp [*, errW_none, errW_some] <;> rfl), by repeat (first | (with_reducible first | exact HB.out | apply below_alloc | apply pw_below_drewN | apply below_drew1) | exact HB.out)⟩
  rw [if_neg c3] at H
  have c3b0 : (t106 == 3421780262) = false := beq_eq_false_iff_ne.mpr c3
  have c3b1 : (t106 != 3421780262) = true := bne_iff_ne.mpr c3
  obtain rfl := Option.some.inj H
  go_enter Tryd.func8, Tryd.ntmps8
  go_wp2_with (first | ((with_reducible refine gate_callee (f := 24) rfl ?_); refine glq_ (some 5) Tryd.func24 #[.agg #[.int .i64 3, .int .i64 6, .int .i64 0, .int .i64 0, .int .i64 0, .bool false, .int .i64 0, .int .i64 0, .bool false, .int .i64 0, .int .i64 0, .bool false, .int .i64 0, .int .i64 0, .bool false, .int .i64 2]] ?_; (with_reducible refine (alert_Text.calls k 3 6 0 0 0 false 0 0 false 0 0 false 0 0 false 2 t101 t102 _ A1.out).mono ?_); rintro e w13 ⟨rfl, hb⟩; refine ⟨_, rfl, ?_⟩; replace HB := hbs_ HB hb rfl rfl rfl rfl; (try clear hb)))
  refine (alert_Sum.calls k (some ⟨w13.heap.size, 0, none⟩) 9 [49, 50, 51, 52, 53, 54, 55, 56, 57] t106 _ (bytes_row _ _ _ _ (by decide)) (by decide) (by have h_ := A2.out; rw [Ny103.out] at h_; exact h_)).mono ?_
  rintro e w' ⟨rfl, ⟨nd, rfl⟩⟩
  go_wp2_with (fail)
  go_ret
  exact ⟨by first | rfl | (simp [errW_none, errW_some] <;> rfl) | (simp [*, errW_none, errW_some] <;> rfl), by repeat (first | (with_reducible first | exact HB.out | apply below_alloc | apply pw_below_drewN | apply below_drew1) | exact HB.out)⟩

end Go.Proofs.YthcdbpbimmjknaaDoor.Q
