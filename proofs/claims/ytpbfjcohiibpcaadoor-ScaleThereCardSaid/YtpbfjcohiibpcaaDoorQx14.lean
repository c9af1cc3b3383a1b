/- Contracts of Go functions of the seat, one by one: each call returns what the Lean function of the same name says, wherever that is 'some'; no other condition. Written by a program of this session. -/
import Derived.Test.YtpbfjcohiibpcaaDoorQx0
import Derived.Test.YtpbfjcohiibpcaaDoorQx6
namespace Go.Proofs.YtpbfjcohiibpcaaDoor.Q
open Go.RowKit Go.Proofs.YtpbfjcohiibpcaaDoorW.PrintWords Go.Proofs.YtpbfjcohiibpcaaDoorW.PrintLast Go.Proofs.YtpbfjcohiibpcaaDoorW.PrintMore
attribute [local go_sem] max2_int min2_int max_two min_two max_three min_three max_four min_four   -- for this text's walks alone
set_option linter.unusedVariables false
set_option linter.unusedSimpArgs false

/-! ### spykeep1_scaleFact: function 11 -/
def spykeep1_scaleFact.f (k : Nat)  : Option (Bool) := (scale_ToUniform.f k 2000 12 31 23 59 60 500 (([(⟨365, 1⟩ : S45)] : List (S45)))).bind fun bt104 => (if bt104.2 = 0 then (some (bt104.1 == 31622400500)) else (some false))
theorem spykeep1_scaleFact.mono : ∀ k, LeO (spykeep1_scaleFact.f k ) (spykeep1_scaleFact.f (k + 1) ) := by
 intro  k
 unfold spykeep1_scaleFact.f
 repeat' first
  | (with_reducible exact scale_ToUniform.mono _ _ _ _ _ _ _ _ _)
  | (with_reducible exact LeO.refl _)
  | (with_reducible exact LeO.none _)
  | (with_reducible refine LeO.ite ?_ ?_)
  | (with_reducible refine LeO.bind ?_ (fun _ => ?_))
  | exact scale_ToUniform.mono _ _ _ _ _ _ _ _ _
  | exact LeO.none _
  | refine LeO.ite ?_ ?_
  | refine LeO.bind ?_ (fun _ => ?_)
set_option maxHeartbeats 8000000 in
set_option maxRecDepth 100000 in
theorem spykeep1_scaleFact.calls (k : Nat)  (r : Bool) (w : World) (h : spykeep1_scaleFact.f k  = some r) :
 Calls Tryd.prog 11 #[] w fun e w' => e = .returned (.bool r) ∧ Below w.heap.size w w' := by
  have hu32 := Tryd.underlying32
  have hu45 := Tryd.underlying45
  have HB := Aside0.mk (Below.refl w.heap.size w)
  have H : ((scale_ToUniform.f k 2000 12 31 23 59 60 500 (([(⟨365, 1⟩ : S45)] : List (S45)))).bind fun bt104 => (if bt104.2 = 0 then (some (bt104.1 == 31622400500)) else (some false))) = some r := h
  clear h
  obtain ⟨y101, hy101⟩ : ∃ y_ : List (S45), y_ = (([(⟨365, 1⟩ : S45)] : List (S45))) := ⟨_, rfl⟩
  replace H : ((scale_ToUniform.f k 2000 12 31 23 59 60 500 y101).bind fun bt104 => (if bt104.2 = 0 then (some (bt104.1 == 31622400500)) else (some false))) = some r := by first | (rw [hy101]; with_reducible exact H) | (have H2_ := (Option.bind_some _ _).symm.trans H; rw [hy101]; with_reducible exact H2_) | (have H2_ := (Option.bind_some _ _).symm.trans H; with_reducible exact H2_) | with_reducible exact H | (rw [hy101]; exact H) | exact H
  have Ny101 := Aside0.mk hy101
  clear hy101
  replace H := Option.bind_eq_some_iff.mp H
  obtain ⟨⟨t104, t105⟩, A10, H⟩ := H
  try dsimp -simprocs only at H
  have A1 := Aside0.mk A10
  clear A10
  by_cases c2 : t105 = 0
  · rw [if_pos c2] at H
    have c2b0 : (t105 == 0) = true := beq_iff_eq.mpr c2
    have c2b1 : (t105 != 0) = false := bne_eq_false_iff_eq.mpr c2
    clear c2
    obtain rfl := Option.some.inj H
    go_enter Tryd.func11, Tryd.ntmps11
    go_wp2_with (first | ((with_reducible refine gate_dst (N := 6) rfl ?_); refine Kd.R_lit k45 _ 45 ?hg (N := 6) ?hd (xs := ([(⟨365, 1⟩ : S45)] : List (S45))) (inner := [.int .i64 365, .int .i64 1]) (ok := fun _ => True) (okp := fun _ => True) ?hr ?hp (fun _ hk => hk) trivial (Below.refl _ _) (Nat.le_refl _) (by simp) ?_; (case hd => rfl); (case hg => rfl); (case hr => first | (go_simp; done) | (go_simp; rfl)); (case hp => exact (Reps.c2 (show Kd.M k45 _ _ _ (⟨365, 1⟩ : S45) [.int .i64 365, .int .i64 1] from (k45_mkM _ _ _ (⟨365, 1⟩ : S45) )) (Reps.none _ _))); intro v102 w3 ho4 hb hg_ hnew_; clear hg_ hnew_; (first | rw [← Ny101.out] at ho4 | (simp only [Int.reduceToNat] at ho4; rw [← Ny101.out] at ho4)); have HO103 := Aside0.mk (Kd.R_lower ho4 (below_size (by repeat (first | (with_reducible first | exact HB.out | apply below_alloc | apply pw_below_drewN | apply below_drew1) | exact HB.out)))); replace HB := hbs_ HB hb rfl rfl rfl rfl; clear hb ho4; obtain ⟨Ao5, co5, eo5⟩ := Kd.R_slice HO103.out; subst eo5) | ((with_reducible refine gate_callee (f := 10) rfl ?_); refine glq_ (some 7) Tryd.func10 #[.agg #[.int .i64 2000, .int .i64 12, .int .i64 31, .int .i64 23, .int .i64 59, .int .i64 60, .int .i64 500], .slice Ao5 y101.length co5] ?_; (with_reducible refine (scale_ToUniform.calls k 2000 12 31 23 59 60 500 _ _ y101 t104 t105 _ ?side1 ?side2 A1.out).mono ?_); (case side1 => repeat (first | exact (Kd.R_reads' HO103.out).2.2 | (with_reducible refine Kd.C_alloc ?_ _) | (with_reducible refine Kd.C_drewN ?_ _) | (with_reducible refine Kd.C_drew ?_))); (case side2 => exact (Kd.R_reads' HO103.out).2.1); rintro e w6 ⟨rfl, hb⟩; refine ⟨_, rfl, ?_⟩; replace HO103 := Aside0.mk (Kd.R_below (by (with_reducible repeat (first | apply Kd.R_alloc | apply Kd.R_drewN | apply Kd.R_drew)); exact HO103.out) hb); replace HB := hbs_ HB hb rfl rfl rfl rfl; (try clear hb)))
    go_ret
    exact ⟨by first | rfl | (simp [errW_none, errW_some] <;> rfl) | (simp [*, errW_none, errW_some] <;> rfl), by repeat (first | (with_reducible first | exact HB.out | apply below_alloc | apply pw_below_drewN | apply below_drew1) | exact HB.out)⟩
  rw [if_neg c2] at H
  have c2b0 : (t105 == 0) = false := beq_eq_false_iff_ne.mpr c2
  have c2b1 : (t105 != 0) = true := bne_iff_ne.mpr c2
  obtain rfl := Option.some.inj H
  go_enter Tryd.func11, Tryd.ntmps11
  go_wp2_with (first | ((with_reducible refine gate_dst (N := 6) rfl ?_); refine Kd.R_lit k45 _ 45 ?hg (N := 6) ?hd (xs := ([(⟨365, 1⟩ : S45)] : List (S45))) (inner := [.int .i64 365, .int .i64 1]) (ok := fun _ => True) (okp := fun _ => True) ?hr ?hp (fun _ hk => hk) trivial (Below.refl _ _) (Nat.le_refl _) (by simp) ?_; (case hd => rfl); (case hg => rfl); (case hr => first | (go_simp; done) | (go_simp; rfl)); (case hp => exact (Reps.c2 (show Kd.M k45 _ _ _ (⟨365, 1⟩ : S45) [.int .i64 365, .int .i64 1] from (k45_mkM _ _ _ (⟨365, 1⟩ : S45) )) (Reps.none _ _))); intro v102 w7 ho8 hb hg_ hnew_; clear hg_ hnew_; (first | rw [← Ny101.out] at ho8 | (simp only [Int.reduceToNat] at ho8; rw [← Ny101.out] at ho8)); have HO103 := Aside0.mk (Kd.R_lower ho8 (below_size (by repeat (first | (with_reducible first | exact HB.out | apply below_alloc | apply pw_below_drewN | apply below_drew1) | exact HB.out)))); replace HB := hbs_ HB hb rfl rfl rfl rfl; clear hb ho8; obtain ⟨Ao9, co9, eo9⟩ := Kd.R_slice HO103.out; subst eo9) | ((with_reducible refine gate_callee (f := 10) rfl ?_); refine glq_ (some 7) Tryd.func10 #[.agg #[.int .i64 2000, .int .i64 12, .int .i64 31, .int .i64 23, .int .i64 59, .int .i64 60, .int .i64 500], .slice Ao9 y101.length co9] ?_; (with_reducible refine (scale_ToUniform.calls k 2000 12 31 23 59 60 500 _ _ y101 t104 t105 _ ?side1 ?side2 A1.out).mono ?_); (case side1 => repeat (first | exact (Kd.R_reads' HO103.out).2.2 | (with_reducible refine Kd.C_alloc ?_ _) | (with_reducible refine Kd.C_drewN ?_ _) | (with_reducible refine Kd.C_drew ?_))); (case side2 => exact (Kd.R_reads' HO103.out).2.1); rintro e w10 ⟨rfl, hb⟩; refine ⟨_, rfl, ?_⟩; replace HO103 := Aside0.mk (Kd.R_below (by (with_reducible repeat (first | apply Kd.R_alloc | apply Kd.R_drewN | apply Kd.R_drew)); exact HO103.out) hb); replace HB := hbs_ HB hb rfl rfl rfl rfl; (try clear hb)))
  go_ret
  exact ⟨by first | rfl | (simp [errW_none, errW_some] <;> rfl) | (simp [*, errW_none, errW_some] <;> rfl), by repeat (first | (with_reducible first | exact HB.out | apply below_alloc | apply pw_below_drewN | apply below_drew1) | exact HB.out)⟩

end Go.Proofs.YtpbfjcohiibpcaaDoor.Q
