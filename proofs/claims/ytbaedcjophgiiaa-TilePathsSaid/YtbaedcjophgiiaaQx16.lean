/- Contracts of Go functions of the seat, one by one: each call returns what the Lean function of the same name says, wherever that is 'some'; no other condition. Written by a program of this session. -/
import Derived.Test.YtbaedcjophgiiaaQx0
import Derived.Test.YtbaedcjophgiiaaQx4
import Derived.Test.YtbaedcjophgiiaaQx15
namespace Go.Proofs.Ytbaedcjophgiiaa.Q
open Go.RowKit Go.Proofs.YtbaedcjophgiiaaW.PrintWords Go.Proofs.YtbaedcjophgiiaaW.PrintLast Go.Proofs.YtbaedcjophgiiaaW.PrintMore
attribute [local go_sem] max2_int min2_int max_two min_two max_three min_three max_four min_four   -- for this text's walks alone
set_option linter.unusedVariables false
set_option linter.unusedSimpArgs false

/-! ### tile_Corners: function 48 -/
def tile_Corners.f (k : Nat) (a0 : Int) : Option ((List (S67))) := (tile_Check.f k a0).bind fun t101 => (if t101 = 0 then ((tile_spot.f k a0).bind fun bt102 => ((tile_point.f bt102.1 bt102.2.1 bt102.2.2.1 bt102.2.2.2).bind fun bt106 => ((tile_point.f bt102.1 (wrap64 (bt102.2.1 + 1)) bt102.2.2.1 bt102.2.2.2).bind fun bt109 => ((tile_point.f bt102.1 bt102.2.1 (wrap64 (bt102.2.2.1 + 1)) bt102.2.2.2).bind fun bt112 => ((tile_point.f bt102.1 (wrap64 (bt102.2.1 + 1)) (wrap64 (bt102.2.2.1 + 1)) bt102.2.2.2).bind fun bt115 => (some (([(⟨bt106.1, bt106.2.1, bt106.2.2⟩ : S67), (⟨bt109.1, bt109.2.1, bt109.2.2⟩ : S67), (⟨bt112.1, bt112.2.1, bt112.2.2⟩ : S67), (⟨bt115.1, bt115.2.1, bt115.2.2⟩ : S67)] : List (S67))))))))) else (some ([] : List (S67))))
theorem tile_Corners.mono : ∀ a0 k, LeO (tile_Corners.f k a0) (tile_Corners.f (k + 1) a0) := by
 intro a0 k
 unfold tile_Corners.f
 repeat' first
  | (with_reducible exact tile_Check.mono _ _)
  | (with_reducible exact tile_spot.mono _ _)
  | (with_reducible exact LeO.refl _)
  | (with_reducible exact LeO.none _)
  | (with_reducible refine LeO.ite ?_ ?_)
  | (with_reducible refine LeO.bind ?_ (fun _ => ?_))
  | exact tile_Check.mono _ _
  | exact tile_spot.mono _ _
  | exact LeO.none _
  | refine LeO.ite ?_ ?_
  | refine LeO.bind ?_ (fun _ => ?_)
set_option maxHeartbeats 8000000 in
set_option maxRecDepth 100000 in
theorem tile_Corners.calls (k : Nat) (a0 : Int) (r : List (S67)) (w : World) (h : tile_Corners.f k a0 = some r) :
 Calls Try.prog 48 #[.int .i64 a0] w fun e w' => ∃ v0_ : Value, e = .returned (v0_) ∧ Kd.R k67 67 w' w.heap.size (fun _ => True) v0_ r ∧ Below w.heap.size w w' := by
  have HB := Aside0.mk (Below.refl w.heap.size w)
  have H : ((tile_Check.f k a0).bind fun t101 => (if t101 = 0 then ((tile_spot.f k a0).bind fun bt102 => ((tile_point.f bt102.1 bt102.2.1 bt102.2.2.1 bt102.2.2.2).bind fun bt106 => ((tile_point.f bt102.1 (wrap64 (bt102.2.1 + 1)) bt102.2.2.1 bt102.2.2.2).bind fun bt109 => ((tile_point.f bt102.1 bt102.2.1 (wrap64 (bt102.2.2.1 + 1)) bt102.2.2.2).bind fun bt112 => ((tile_point.f bt102.1 (wrap64 (bt102.2.1 + 1)) (wrap64 (bt102.2.2.1 + 1)) bt102.2.2.2).bind fun bt115 => (some (([(⟨bt106.1, bt106.2.1, bt106.2.2⟩ : S67), (⟨bt109.1, bt109.2.1, bt109.2.2⟩ : S67), (⟨bt112.1, bt112.2.1, bt112.2.2⟩ : S67), (⟨bt115.1, bt115.2.1, bt115.2.2⟩ : S67)] : List (S67))))))))) else (some ([] : List (S67))))) = some r := h
  clear h
  replace H := Option.bind_eq_some_iff.mp H
  obtain ⟨t101, A20, H⟩ := H
  try dsimp -simprocs only at H
  have A2 := Aside0.mk A20
  clear A20
  by_cases c3 : t101 = 0
  rotate_left
  · rw [if_neg c3] at H
    have c3b0 : (t101 == 0) = false := beq_eq_false_iff_ne.mpr c3
    have c3b1 : (t101 != 0) = true := bne_iff_ne.mpr c3
    obtain rfl := Option.some.inj H
    go_enter Try.func48, Try.ntmps48
    go_wp2_with (first | ((with_reducible refine gate_callee (f := 83) rfl ?_); refine glq_ (some 8) Try.func83 #[.int .i64 a0] ?_; (with_reducible refine (tile_Check.calls k a0 t101 _ A2.out).mono ?_); rintro e w' ⟨rfl, ⟨nd, rfl⟩⟩; refine ⟨_, rfl, ?_⟩))
    go_ret
    exact ⟨_, by first | rfl | (simp [errW_none, errW_some] <;> rfl) | (simp [*, errW_none, errW_some] <;> rfl), by first | exact Kd.R_nil _ _ _ _ _ | exact Kd.N_nil _ _ _ _ _ | exact Kd.V_nil _ _ _ _ _ | exact Kd.Q_nil _ _ _ _ _ | exact Kd.S_nil _ _ _ _ _, by repeat (first | (with_reducible first | exact HB.out | apply below_alloc | apply pw_below_drewN | apply below_drew1) | exact HB.out)⟩
  rw [if_pos c3] at H
  have c3b0 : (t101 == 0) = true := beq_iff_eq.mpr c3
  have c3b1 : (t101 != 0) = false := bne_eq_false_iff_eq.mpr c3
  clear c3
  replace H := Option.bind_eq_some_iff.mp H
  obtain ⟨⟨t102, t103, t104, t105⟩, A40, H⟩ := H
  try dsimp -simprocs only at H
  have A4 := Aside0.mk A40
  clear A40
  replace H := Option.bind_eq_some_iff.mp H
  obtain ⟨⟨t106, t107, t108⟩, A50, H⟩ := H
  try dsimp -simprocs only at H
  have A5 := Aside0.mk A50
  clear A50
  replace H := Option.bind_eq_some_iff.mp H
  obtain ⟨⟨t109, t110, t111⟩, A60, H⟩ := H
  try dsimp -simprocs only at H
  have A6 := Aside0.mk A60
  clear A60
  replace H := Option.bind_eq_some_iff.mp H
  obtain ⟨⟨t112, t113, t114⟩, A70, H⟩ := H
  try dsimp -simprocs only at H
  have A7 := Aside0.mk A70
  clear A70
  replace H := Option.bind_eq_some_iff.mp H
  obtain ⟨⟨t115, t116, t117⟩, A80, H⟩ := H
  try dsimp -simprocs only at H
  have A8 := Aside0.mk A80
  clear A80
  obtain ⟨y118, hy118⟩ : ∃ y_ : List (S67), y_ = (([(⟨t106, t107, t108⟩ : S67), (⟨t109, t110, t111⟩ : S67), (⟨t112, t113, t114⟩ : S67), (⟨t115, t116, t117⟩ : S67)] : List (S67))) := ⟨_, rfl⟩
  replace H : (some y118) = some r := by first | (rw [hy118]; with_reducible exact H) | (have H2_ := (Option.bind_some _ _).symm.trans H; rw [hy118]; with_reducible exact H2_) | (have H2_ := (Option.bind_some _ _).symm.trans H; with_reducible exact H2_) | with_reducible exact H | (rw [hy118]; exact H) | exact H
  have Ny118 := Aside0.mk hy118
  clear hy118
  obtain rfl := Option.some.inj H
  go_enter Try.func48, Try.ntmps48
  go_wp2_with (first | ((with_reducible refine gate_callee (f := 83) rfl ?_); refine glq_ (some 8) Try.func83 #[.int .i64 a0] ?_; (with_reducible refine (tile_Check.calls k a0 t101 _ A2.out).mono ?_); rintro e w' ⟨rfl, ⟨nd, rfl⟩⟩; refine ⟨_, rfl, ?_⟩) | ((with_reducible refine gate_callee (f := 84) rfl ?_); refine glq_ (some 12) Try.func84 #[.int .i64 a0] ?_; (with_reducible refine (tile_spot.calls k a0 t102 t103 t104 t105 _ A4.out).mono ?_); rintro e w' ⟨rfl, ⟨nd, rfl⟩⟩; refine ⟨_, rfl, ?_⟩) | ((with_reducible refine gate_callee (f := 88) rfl ?_); refine glq_ (some 21) Try.func88 #[.int .i64 t102, .int .i64 t103, .int .i64 t104, .int .i64 t105] ?_; (with_reducible refine (tile_point.calls t102 t103 t104 t105 t106 t107 t108 _ A5.out).mono ?_); rintro e w9 ⟨rfl, hb⟩; refine ⟨_, rfl, ?_⟩; replace HB := hbs_ HB hb rfl rfl rfl rfl; (try clear hb)) | ((with_reducible refine gate_callee (f := 88) rfl ?_); refine glq_ (some 27) Try.func88 #[.int .i64 t102, .int .i64 (wrap64 (t103 + 1)), .int .i64 t104, .int .i64 t105] ?_; (with_reducible refine (tile_point.calls t102 (wrap64 (t103 + 1)) t104 t105 t109 t110 t111 _ A6.out).mono ?_); rintro e w10 ⟨rfl, hb⟩; refine ⟨_, rfl, ?_⟩; replace HB := hbs_ HB hb rfl rfl rfl rfl; (try clear hb)) | ((with_reducible refine gate_callee (f := 88) rfl ?_); refine glq_ (some 33) Try.func88 #[.int .i64 t102, .int .i64 t103, .int .i64 (wrap64 (t104 + 1)), .int .i64 t105] ?_; (with_reducible refine (tile_point.calls t102 t103 (wrap64 (t104 + 1)) t105 t112 t113 t114 _ A7.out).mono ?_); rintro e w11 ⟨rfl, hb⟩; refine ⟨_, rfl, ?_⟩; replace HB := hbs_ HB hb rfl rfl rfl rfl; (try clear hb)) | ((with_reducible refine gate_callee (f := 88) rfl ?_); refine glq_ (some 40) Try.func88 #[.int .i64 t102, .int .i64 (wrap64 (t103 + 1)), .int .i64 (wrap64 (t104 + 1)), .int .i64 t105] ?_; (with_reducible refine (tile_point.calls t102 (wrap64 (t103 + 1)) (wrap64 (t104 + 1)) t105 t115 t116 t117 _ A8.out).mono ?_); rintro e w12 ⟨rfl, hb⟩; refine ⟨_, rfl, ?_⟩; replace HB := hbs_ HB hb rfl rfl rfl rfl; (try clear hb)) | ((with_reducible refine gate_dst (N := 41) rfl ?_); refine Kd.R_lit k67 _ 67 ?hg (N := 41) ?hd (xs := ([(⟨t106, t107, t108⟩ : S67), (⟨t109, t110, t111⟩ : S67), (⟨t112, t113, t114⟩ : S67), (⟨t115, t116, t117⟩ : S67)] : List (S67))) (inner := [.int .i64 t106, .int .i64 t107, .int .i64 t108, .int .i64 t109, .int .i64 t110, .int .i64 t111, .int .i64 t112, .int .i64 t113, .int .i64 t114, .int .i64 t115, .int .i64 t116, .int .i64 t117]) (ok := fun _ => True) (okp := fun _ => True) ?hr ?hp (fun _ hk => hk) trivial (Below.refl _ _) (Nat.le_refl _) (by simp) ?_; (case hd => rfl); (case hg => rfl); (case hr => first | (go_simp; done) | (go_simp; rfl)); (case hp => exact (Reps.c3 (show Kd.M k67 _ _ _ (⟨t106, t107, t108⟩ : S67) [.int .i64 t106, .int .i64 t107, .int .i64 t108] from (k67_mkM _ _ _ (⟨t106, t107, t108⟩ : S67) )) (Reps.c3 (show Kd.M k67 _ _ _ (⟨t109, t110, t111⟩ : S67) [.int .i64 t109, .int .i64 t110, .int .i64 t111] from (k67_mkM _ _ _ (⟨t109, t110, t111⟩ : S67) )) (Reps.c3 (show Kd.M k67 _ _ _ (⟨t112, t113, t114⟩ : S67) [.int .i64 t112, .int .i64 t113, .int .i64 t114] from (k67_mkM _ _ _ (⟨t112, t113, t114⟩ : S67) )) (Reps.c3 (show Kd.M k67 _ _ _ (⟨t115, t116, t117⟩ : S67) [.int .i64 t115, .int .i64 t116, .int .i64 t117] from (k67_mkM _ _ _ (⟨t115, t116, t117⟩ : S67) )) (Reps.none _ _)))))); intro v119 w13 ho14 hb hg_ hnew_; clear hg_ hnew_; (first | rw [← Ny118.out] at ho14 | (simp only [Int.reduceToNat] at ho14; rw [← Ny118.out] at ho14)); have HO120 := Aside0.mk (Kd.R_lower ho14 (below_size (by repeat (first | (with_reducible first | exact HB.out | apply below_alloc | apply pw_below_drewN | apply below_drew1) | exact HB.out)))); replace HB := hbs_ HB hb rfl rfl rfl rfl; clear hb ho14))
  go_ret
  exact ⟨_, by first | rfl | (simp [errW_none, errW_some] <;> rfl) | (simp [*, errW_none, errW_some] <;> rfl), by (with_reducible repeat (first | apply Kd.R_alloc | apply Kd.R_drewN | apply Kd.R_drew)); exact HO120.out, by repeat (first | (with_reducible first | exact HB.out | apply below_alloc | apply pw_below_drewN | apply below_drew1) | exact HB.out)⟩

end Go.Proofs.Ytbaedcjophgiiaa.Q
