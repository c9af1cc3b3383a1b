/- Contracts, as in the first text; no condition. -/
import Derived.Test.YtjgikgbolacikaaKHorizonAimedQx0
import Derived.Test.YtjgikgbolacikaaKHorizonAimedQx2
import Derived.Test.YtjgikgbolacikaaKHorizonAimedQx15
namespace Go.Proofs.Ytjgikgbolacikaa.Q
open Go.RowKit Go.Proofs.YtjgikgbolacikaaW.PrintWords Go.Proofs.YtjgikgbolacikaaW.PrintLast Go.Proofs.YtjgikgbolacikaaW.PrintMore
attribute [local go_sem] max2_int min2_int max_two min_two max_three min_three max_four min_four
set_option linter.unusedVariables false
set_option linter.unusedSimpArgs false

attribute [local go_sem high] eqA35
def spykeep1_horizonFact.f (k : Nat)  : Option (Bool) := (horizon_Aim.f k 536870912 0 0 0 0 1).bind fun bt101 => (if bt101.2.2 = 0 then (some (bt101.1 == 0 && (bt101.2.1 == 536870912))) else (some false))
theorem spykeep1_horizonFact.mono : ∀ k, LeO (spykeep1_horizonFact.f k ) (spykeep1_horizonFact.f (k + 1) ) := by
 intro  k
 unfold spykeep1_horizonFact.f
 repeat' first
  | (with_reducible exact horizon_Aim.mono _ _ _ _ _ _ _)
  | (with_reducible exact LeO.refl _)
  | (with_reducible exact LeO.none _)
  | (with_reducible refine LeO.ite ?_ ?_)
  | (with_reducible refine LeO.bind ?_ (fun _ => ?_))
set_option maxHeartbeats 8000000 in
set_option maxRecDepth 100000 in
theorem spykeep1_horizonFact.calls (k : Nat)  (r : Bool) (w : World) (h : spykeep1_horizonFact.f k  = some r) :
 Calls Try.prog 11 #[] w fun e w' => e = .returned (.bool r) ∧ Below w.heap.size w w' := by
  have hu28 := Try.underlying28
  have hu32 := Try.underlying32
  have hu35 := Try.underlying35
  have HB := Aside0.mk (Below.refl w.heap.size w)
  have H : ((horizon_Aim.f k 536870912 0 0 0 0 1).bind fun bt101 => (if bt101.2.2 = 0 then (some (bt101.1 == 0 && (bt101.2.1 == 536870912))) else (some false))) = some r := h
  clear h
  replace H := bso_ H
  obtain ⟨⟨t101, t102, t103⟩, A10, H⟩ := H
  try dsimp -simprocs only at H
  have A1 := Aside0.mk A10
  clear A10
  by_cases c2 : t103 = 0
  · rw [if_pos c2] at H
    have c2b0 : (t103 == 0) = true := beq_iff_eq.mpr c2
    have c2b1 : (t103 != 0) = false := bne_eq_false_iff_eq.mpr c2
    clear c2
    obtain rfl := Option.some.inj H
    go_enter Try.func11, Try.ntmps11
    go_wp2_with (first | ((with_reducible refine gate_callee (f := 7) rfl ?_); refine glq_ (some 6) Try.func7 #[.agg #[.int .i64 536870912, .int .i64 0], .int .i64 0, .agg #[.int .i64 0, .int .i64 0, .int .i64 1]] ?_; (with_reducible refine (horizon_Aim.calls k 536870912 0 0 0 0 1 t101 t102 t103 _ A1.out).mono ?_); rintro e w3 ⟨rfl, hb⟩; refine ⟨_, rfl, ?_⟩; replace HB := hbs_ HB hb rfl rfl rfl rfl; (try clear hb)) | ((with_reducible refine gate_dst (N := 1) rfl ?_); refine bxq_ 1 #[.int .i64 0, .int .i64 0] 35 ?_; intro gb104 hg w4 hbox hb; have BK104 := Aside0.mk (hbox); have GW104 := gwq_ HB hg rfl; have GE104 := GW104; replace HB := hbs_ HB hb rfl rfl rfl rfl; clear hb hbox hg; have hcz5_0 := bc_ BK104 0 rfl; have hcz5_1 := bc_ BK104 1 rfl; have hfz5 := blk_frozen BK104.out))
    go_ret
    exact ⟨by first | rfl | (simp [errW_none, errW_some] <;> rfl), by repeat (first | exact HB.out | apply below_alloc | refine below_set ?_ GE104.out)⟩
  rw [if_neg c2] at H
  have c2b0 : (t103 == 0) = false := beq_eq_false_iff_ne.mpr c2
  have c2b1 : (t103 != 0) = true := bne_iff_ne.mpr c2
  obtain rfl := Option.some.inj H
  go_enter Try.func11, Try.ntmps11
  go_wp2_with (first | ((with_reducible refine gate_callee (f := 7) rfl ?_); refine glq_ (some 6) Try.func7 #[.agg #[.int .i64 536870912, .int .i64 0], .int .i64 0, .agg #[.int .i64 0, .int .i64 0, .int .i64 1]] ?_; (with_reducible refine (horizon_Aim.calls k 536870912 0 0 0 0 1 t101 t102 t103 _ A1.out).mono ?_); rintro e w6 ⟨rfl, hb⟩; refine ⟨_, rfl, ?_⟩; replace HB := hbs_ HB hb rfl rfl rfl rfl; (try clear hb)) | ((with_reducible refine gate_dst (N := 1) rfl ?_); refine bxq_ 1 #[.int .i64 0, .int .i64 0] 35 ?_; intro gb104 hg w7 hbox hb; have BK104 := Aside0.mk (hbox); have GW104 := gwq_ HB hg rfl; have GE104 := GW104; replace HB := hbs_ HB hb rfl rfl rfl rfl; clear hb hbox hg; have hcz8_0 := bc_ BK104 0 rfl; have hcz8_1 := bc_ BK104 1 rfl; have hfz8 := blk_frozen BK104.out))
  go_ret
  exact ⟨by first | rfl | (simp [errW_none, errW_some] <;> rfl), by repeat (first | exact HB.out | apply below_alloc | refine below_set ?_ GE104.out)⟩

end Go.Proofs.Ytjgikgbolacikaa.Q
