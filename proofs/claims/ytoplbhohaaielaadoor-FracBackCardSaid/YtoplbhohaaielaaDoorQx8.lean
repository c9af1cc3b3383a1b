/- Contracts of Go functions of the seat, one by one: each call returns what the Lean function of the same name says, wherever that is 'some'; no other condition. Written by a program of this session. -/
import Derived.Test.YtoplbhohaaielaaDoorQx0
import Derived.Test.YtoplbhohaaielaaDoorQx1
import Derived.Test.YtoplbhohaaielaaDoorQx3
namespace Go.Proofs.YtoplbhohaaielaaDoor.Q
open Go.RowKit Go.Proofs.YtoplbhohaaielaaDoorW.PrintWords Go.Proofs.YtoplbhohaaielaaDoorW.PrintLast Go.Proofs.YtoplbhohaaielaaDoorW.PrintMore
attribute [local go_sem] max2_int min2_int max_two min_two max_three min_three max_four min_four   -- for this text's walks alone
set_option linter.unusedVariables false
set_option linter.unusedSimpArgs false

attribute [local go_sem high] eqA23
/-! ### spykeep1_fracFact: function 5 -/
def spykeep1_fracFact.f (k : Nat)  : Option (Bool) := (frac_Add.f k 1 6 1 10).bind fun bt101 => (if bt101.2.2 = 0 then (some (bt101.1 == 4 && (bt101.2.1 == 15))) else (some false))
theorem spykeep1_fracFact.mono : ∀ k, LeO (spykeep1_fracFact.f k ) (spykeep1_fracFact.f (k + 1) ) := by
 intro  k
 unfold spykeep1_fracFact.f
 repeat' first
  | (with_reducible exact frac_Add.mono _ _ _ _ _)
  | (with_reducible exact LeO.refl _)
  | (with_reducible exact LeO.none _)
  | (with_reducible refine LeO.ite ?_ ?_)
  | (with_reducible refine LeO.bind ?_ (fun _ => ?_))
  | exact frac_Add.mono _ _ _ _ _
  | exact LeO.none _
  | refine LeO.ite ?_ ?_
  | refine LeO.bind ?_ (fun _ => ?_)
set_option maxHeartbeats 8000000 in
set_option maxRecDepth 100000 in
theorem spykeep1_fracFact.calls (k : Nat)  (r : Bool) (w : World) (h : spykeep1_fracFact.f k  = some r) :
 Calls Tryd.prog 5 #[] w fun e w' => e = .returned (.bool r) ∧ Below w.heap.size w w' := by
  have hu23 := Tryd.underlying23
  have HB := Aside0.mk (Below.refl w.heap.size w)
  have H : ((frac_Add.f k 1 6 1 10).bind fun bt101 => (if bt101.2.2 = 0 then (some (bt101.1 == 4 && (bt101.2.1 == 15))) else (some false))) = some r := h
  clear h
  replace H := Option.bind_eq_some_iff.mp H
  obtain ⟨⟨t101, t102, t103⟩, A10, H⟩ := H
  try dsimp -simprocs only at H
  have A1 := Aside0.mk A10
  clear A10
  by_cases c2 : t103 = 0
  · rw [if_pos c2] at H
    have c2b0 : (t103 == 0) = true := beq_iff_eq.mpr c2
    have c2b1 : (t103 != 0) = false := bne_eq_false_iff_eq.mpr c2
    clear c2
    obtain rfl := Option.some.inj H
    go_enter Tryd.func5, Tryd.ntmps5
    go_wp2_with (first | ((with_reducible refine gate_callee (f := 11) rfl ?_); refine glq_ (some 6) Tryd.func11 #[.agg #[.int .i64 1, .int .i64 6], .agg #[.int .i64 1, .int .i64 10]] ?_; (with_reducible refine (frac_Add.calls k 1 6 1 10 t101 t102 t103 _ A1.out).mono ?_); rintro e w3 ⟨rfl, hb⟩; refine ⟨_, rfl, ?_⟩; replace HB := hbs_ HB hb rfl rfl rfl rfl; (try clear hb)) | ((with_reducible refine gate_dst (N := 1) rfl ?_); refine bxq_ 1 #[.int .i64 0, .int .i64 0] 23 ?_; intro gb104 hg w4 hbox hb; have BK104 := Aside0.mk (hbox); have GW104 := gwq_ HB hg rfl; have GE104 := GW104; replace HB := hbs_ HB hb rfl rfl rfl rfl; clear hb hbox hg; have hcz5_0 := bc_ BK104 0 rfl; have hcz5_1 := bc_ BK104 1 rfl; have hfz5_0 := blk_frozen BK104.out 0; have hfz5_1 := blk_frozen BK104.out 1))
    go_ret
    exact ⟨by first | rfl | (simp [errW_none, errW_some] <;> rfl) | (simp [*, errW_none, errW_some] <;> rfl), by repeat (first | (with_reducible first | exact HB.out | apply below_alloc | apply pw_below_drewN | apply below_drew1 | refine below_set ?_ GE104.out) | exact HB.out)⟩
  rw [if_neg c2] at H
  have c2b0 : (t103 == 0) = false := beq_eq_false_iff_ne.mpr c2
  have c2b1 : (t103 != 0) = true := bne_iff_ne.mpr c2
  obtain rfl := Option.some.inj H
  go_enter Tryd.func5, Tryd.ntmps5
  go_wp2_with (first | ((with_reducible refine gate_callee (f := 11) rfl ?_); refine glq_ (some 6) Tryd.func11 #[.agg #[.int .i64 1, .int .i64 6], .agg #[.int .i64 1, .int .i64 10]] ?_; (with_reducible refine (frac_Add.calls k 1 6 1 10 t101 t102 t103 _ A1.out).mono ?_); rintro e w6 ⟨rfl, hb⟩; refine ⟨_, rfl, ?_⟩; replace HB := hbs_ HB hb rfl rfl rfl rfl; (try clear hb)) | ((with_reducible refine gate_dst (N := 1) rfl ?_); refine bxq_ 1 #[.int .i64 0, .int .i64 0] 23 ?_; intro gb104 hg w7 hbox hb; have BK104 := Aside0.mk (hbox); have GW104 := gwq_ HB hg rfl; have GE104 := GW104; replace HB := hbs_ HB hb rfl rfl rfl rfl; clear hb hbox hg; have hcz8_0 := bc_ BK104 0 rfl; have hcz8_1 := bc_ BK104 1 rfl; have hfz8_0 := blk_frozen BK104.out 0; have hfz8_1 := blk_frozen BK104.out 1))
  go_ret
  exact ⟨by first | rfl | (simp [errW_none, errW_some] <;> rfl) | (simp [*, errW_none, errW_some] <;> rfl), by repeat (first | (with_reducible first | exact HB.out | apply below_alloc | apply pw_below_drewN | apply below_drew1 | refine below_set ?_ GE104.out) | exact HB.out)⟩

end Go.Proofs.YtoplbhohaaielaaDoor.Q
