/- Contracts of Go functions of the seat, one by one: each call returns what the Lean function of the same name says, wherever that is 'some'; no other condition. Written by a program of this session. -/
import Derived.Test.YtoplbhohaaielaaDoorQx0
import Derived.Test.YtoplbhohaaielaaDoorQx2
import Derived.Test.YtoplbhohaaielaaDoorQx5
import Derived.Test.YtoplbhohaaielaaDoorQx10
import Derived.Test.YtoplbhohaaielaaDoorQx17
import Derived.Test.YtoplbhohaaielaaDoorQx18
namespace Go.Proofs.YtoplbhohaaielaaDoor.Q
open Go.RowKit Go.Proofs.YtoplbhohaaielaaDoorW.PrintWords Go.Proofs.YtoplbhohaaielaaDoorW.PrintLast Go.Proofs.YtoplbhohaaielaaDoorW.PrintMore
attribute [local go_sem] max2_int min2_int max_two min_two max_three min_three max_four min_four   -- for this text's walks alone
set_option linter.unusedVariables false
set_option linter.unusedSimpArgs false

/-! ### frac_Add: function 11 -/
def frac_Add.f (k : Nat) (a0_0 : Int) (a0_1 : Int) (a1_0 : Int) (a1_1 : Int) : Option (Int × Int × Int) := (frac_both.f k a0_0 a0_1 a1_0 a1_1).bind fun t104 => (if t104 = 0 then ((num_Gcd.f k a0_1 a1_1).bind fun t105 => (if t105 = 0 then (none) else ((num_Product.f a0_0 (wrap64 (Int.tdiv a1_1 t105))).bind fun bt106 => ((num_Product.f a1_0 (wrap64 (Int.tdiv a0_1 t105))).bind fun bt108 => ((num_Wide_Plus.f bt106.1 bt106.2 bt108.1 bt108.2).bind fun bt110 => ((num_Wide_Mod.f k bt110.1 bt110.2 t105).bind fun t113 => ((num_Gcd.f k t113 t105).bind fun t114 => ((num_Wide_Div.f k bt110.1 bt110.2 t114).bind fun bt115 => (if t114 = 0 then (none) else ((num_Mul.f (wrap64 (Int.tdiv a0_1 t105)) (wrap64 (Int.tdiv a1_1 t114))).bind fun bt117 => ((frac_made.f k bt115.1 bt117.1 (([(bt115.2 == 0), bt117.2] : List Bool))).bind fun bt122 => (some (bt122.1, bt122.2.1, bt122.2.2))))))))))))) else (some (0, 0, t104)))
theorem frac_Add.mono : ∀ a0 a1 a2 a3 k, LeO (frac_Add.f k a0 a1 a2 a3) (frac_Add.f (k + 1) a0 a1 a2 a3) := by
 intro a0 a1 a2 a3 k
 unfold frac_Add.f
 repeat' first
  | (with_reducible exact frac_both.mono _ _ _ _ _)
  | (with_reducible exact frac_made.mono _ _ _ _)
  | (with_reducible exact num_Gcd.mono _ _ _)
  | (with_reducible exact num_Wide_Div.mono _ _ _ _)
  | (with_reducible exact num_Wide_Mod.mono _ _ _ _)
  | (with_reducible exact LeO.refl _)
  | (with_reducible exact LeO.none _)
  | (with_reducible refine LeO.ite ?_ ?_)
  | (with_reducible refine LeO.bind ?_ (fun _ => ?_))
  | exact frac_both.mono _ _ _ _ _
  | exact frac_made.mono _ _ _ _
  | exact num_Gcd.mono _ _ _
  | exact num_Wide_Div.mono _ _ _ _
  | exact num_Wide_Mod.mono _ _ _ _
  | exact LeO.none _
  | refine LeO.ite ?_ ?_
  | refine LeO.bind ?_ (fun _ => ?_)
def frac_Add.T5 : Bool × List (List Nat × List Nat) := (true, [([], []), ([0], [0]), ([], []), ([2], [2]), ([], []), ([3, 4], [3, 4]), ([1, 5], [1, 5]), ([], []), ([7], [7]), ([], []), ([9], [9]), ([], []), ([10, 11], [10, 11]), ([8, 12, 6], [8, 12]), ([6, 13, 13], [6, 13]), ([], []), ([15, 14, 14, 0, 1, 2, 3, 4, 5, 6, 7, 8, 9, 10, 11, 12, 13, 14, 15], [14, 15])])
def frac_Add.B5 : List Nat := [0, 1, 0, 4, 0, 28, 63, 0, 128, 0, 512, 0, 3584, 8191, 16383, 0, 65535]
theorem frac_Add.tab5 : rtab .any (opsOf Tryd.f11 5) = frac_Add.T5 := by kernel_rfl
theorem frac_Add.bits5 : waitsOk frac_Add.T5.2 frac_Add.B5 = true := by kernel_rfl
def frac_Add.T8 : Bool × List (List Nat × List Nat) := (true, [([], []), ([0], [0]), ([], []), ([1, 2], [1, 2]), ([], []), ([4], [4]), ([], []), ([5, 6], [5, 6]), ([3, 7], [3, 7]), ([8], [8]), ([9], [9]), ([9], [9]), ([10, 8, 0, 1, 2, 3, 4, 5, 6, 7, 8, 9, 10], [10]), ([11, 12, 0, 1, 2, 3, 4, 5, 6, 7, 8, 9, 10, 11, 12], [11])])
def frac_Add.B8 : List Nat := [0, 1, 0, 7, 0, 16, 0, 112, 255, 511, 1023, 1023, 2047, 8191]
theorem frac_Add.tab8 : rtab .any (opsOf Tryd.f11 8) = frac_Add.T8 := by kernel_rfl
theorem frac_Add.bits8 : waitsOk frac_Add.T8.2 frac_Add.B8 = true := by kernel_rfl
set_option maxHeartbeats 8000000 in
set_option maxRecDepth 100000 in
theorem frac_Add.calls (k : Nat) (a0_0 : Int) (a0_1 : Int) (a1_0 : Int) (a1_1 : Int) (r1 : Int) (r2 : Int) (r3 : Int) (w : World) (h : frac_Add.f k a0_0 a0_1 a1_0 a1_1 = some (r1, r2, r3)) :
 Calls Tryd.prog 11 #[.agg #[.int .i64 a0_0, .int .i64 a0_1], .agg #[.int .i64 a1_0, .int .i64 a1_1]] w fun e w' => e = .returned (.tuple #[.agg #[.int .i64 r1, .int .i64 r2], .int .i64 r3]) ∧ Below w.heap.size w w' := by
  have hu23 := Tryd.underlying23
  have hu53 := Tryd.underlying53
  have HB := Aside0.mk (Below.refl w.heap.size w)
  have H : ((frac_both.f k a0_0 a0_1 a1_0 a1_1).bind fun t104 => (if t104 = 0 then ((num_Gcd.f k a0_1 a1_1).bind fun t105 => (if t105 = 0 then (none) else ((num_Product.f a0_0 (wrap64 (Int.tdiv a1_1 t105))).bind fun bt106 => ((num_Product.f a1_0 (wrap64 (Int.tdiv a0_1 t105))).bind fun bt108 => ((num_Wide_Plus.f bt106.1 bt106.2 bt108.1 bt108.2).bind fun bt110 => ((num_Wide_Mod.f k bt110.1 bt110.2 t105).bind fun t113 => ((num_Gcd.f k t113 t105).bind fun t114 => ((num_Wide_Div.f k bt110.1 bt110.2 t114).bind fun bt115 => (if t114 = 0 then (none) else ((num_Mul.f (wrap64 (Int.tdiv a0_1 t105)) (wrap64 (Int.tdiv a1_1 t114))).bind fun bt117 => ((frac_made.f k bt115.1 bt117.1 (([(bt115.2 == 0), bt117.2] : List Bool))).bind fun bt122 => (some (bt122.1, bt122.2.1, bt122.2.2))))))))))))) else (some (0, 0, t104)))) = some (r1, r2, r3) := h
  clear h
  replace H := Option.bind_eq_some_iff.mp H
  obtain ⟨t104, A30, H⟩ := H
  try dsimp -simprocs only at H
  have A3 := Aside0.mk A30
  clear A30
  by_cases c4 : t104 = 0
  rotate_left
  · rw [if_neg c4] at H
    have c4b0 : (t104 == 0) = false := beq_eq_false_iff_ne.mpr c4
    have c4b1 : (t104 != 0) = true := bne_iff_ne.mpr c4
    simp only [Option.some.injEq, Prod.mk.injEq] at H
    obtain ⟨rfl, rfl, rfl⟩ := H
    go_enter Tryd.func11, Tryd.ntmps11
    go_wp2_with (first | ((with_reducible refine gate_dst (N := 2) rfl ?_); refine bxq_ 2 #[.int .i64 a0_0, .int .i64 a0_1] 23 ?_; intro gb101 hg w51 hbox hb; have BK101 := Aside0.mk (hbox); have GW101 := gwq_ HB hg rfl; have GE101 := GW101; replace HB := hbs_ HB hb rfl rfl rfl rfl; clear hb hbox hg) | ((with_reducible refine gate_dst (N := 3) rfl ?_); refine bxq_ 3 #[.int .i64 a1_0, .int .i64 a1_1] 23 ?_; intro gb102 hg w52 hbox hb; have BK102 := Aside0.mk (hbox); have GW102 := gwq_ HB hg rfl; have GE102 := GW102; have NB101_102 := nbl_ BK101 hg rfl; have NB102_101 := nbg_ BK101 hg rfl; replace BK101 := bkb_ BK101 hb rfl; replace HB := hbs_ HB hb rfl rfl rfl rfl; clear hb hbox hg) | ((with_reducible refine gate_dst (N := 4) rfl ?_); refine bxq_ 4 #[.int .i64 0, .int .i64 0] 23 ?_; intro gb103 hg w53 hbox hb; have BK103 := Aside0.mk (hbox); have GW103 := gwq_ HB hg rfl; have GE103 := GW103; have NB101_103 := nbl_ BK101 hg rfl; have NB103_101 := nbg_ BK101 hg rfl; have NB102_103 := nbl_ BK102 hg rfl; have NB103_102 := nbg_ BK102 hg rfl; replace BK101 := bkb_ BK101 hb rfl; replace BK102 := bkb_ BK102 hb rfl; replace HB := hbs_ HB hb rfl rfl rfl rfl; clear hb hbox hg; have hnb54 := NB101_102.out; have hnc54 := NB102_101.out; have hnb55 := NB101_103.out; have hnc55 := NB103_101.out; have hcz56_0 := bc_ BK101 0 rfl; have hcz56_1 := bc_ BK101 1 rfl; have hfz56_0 := blk_frozen BK101.out 0; have hfz56_1 := blk_frozen BK101.out 1; have hnb57 := NB102_103.out; have hnc57 := NB103_102.out; have hcz58_0 := bc_ BK102 0 rfl; have hcz58_1 := bc_ BK102 1 rfl; have hfz58_0 := blk_frozen BK102.out 0; have hfz58_1 := blk_frozen BK102.out 1) | ((with_reducible refine gate_callee (f := 20) rfl ?_); refine glq_ (some 16) Tryd.func20 #[.agg #[.int .i64 a0_0, .int .i64 a0_1], .agg #[.int .i64 a1_0, .int .i64 a1_1]] ?_; (with_reducible refine (frac_both.calls k a0_0 a0_1 a1_0 a1_1 t104 _ A3.out).mono ?_); rintro e w59 ⟨rfl, hb⟩; refine ⟨_, rfl, ?_⟩; replace BK101 := bkb_ BK101 hb rfl; replace BK102 := bkb_ BK102 hb rfl; replace BK103 := bkb_ BK103 hb rfl; replace HB := hbs_ HB hb rfl rfl rfl rfl; (try clear hb); have hcz60_0 := bc_ BK103 0 rfl; have hcz60_1 := bc_ BK103 1 rfl; have hfz60_0 := blk_frozen BK103.out 0; have hfz60_1 := blk_frozen BK103.out 1))
    refine bodyPost_ret (results_ct rfl _ _ gb103 23 #[.int .i64 0, .int .i64 0] (0, 0) _ rfl (by (with_reducible repeat (first | refine blk_drewN ?_ _ | refine blk_drew ?_ | refine blk_alloc ?_ _)); refine blk_put (cs := #[.int .i64 0, .int .i64 0]) ?_ 1 _ rfl; (with_reducible repeat (first | refine blk_drewN ?_ _ | refine blk_drew ?_ | refine blk_alloc ?_ _)); refine blk_put (cs := #[.int .i64 0, .int .i64 0]) ?_ 0 _ rfl; (with_reducible repeat (first | refine blk_drewN ?_ _ | refine blk_drew ?_ | refine blk_alloc ?_ _)); exact BK103.out) Tryd.underlying23 rfl (by kernel_rfl)) rfl ?_
    exact ⟨by first | rfl | (simp [errW_none, errW_some] <;> rfl) | (simp [*, errW_none, errW_some] <;> rfl), by repeat (first | (with_reducible first | exact HB.out | apply below_alloc | apply pw_below_drewN | apply below_drew1 | refine below_set ?_ GE101.out | refine below_set ?_ GE102.out | refine below_set ?_ GE103.out) | exact HB.out)⟩
  rw [if_pos c4] at H
  have c4b0 : (t104 == 0) = true := beq_iff_eq.mpr c4
  have c4b1 : (t104 != 0) = false := bne_eq_false_iff_eq.mpr c4
  clear c4
  replace H := Option.bind_eq_some_iff.mp H
  obtain ⟨t105, A50, H⟩ := H
  try dsimp -simprocs only at H
  have A5 := Aside0.mk A50
  clear A50
  by_cases c6 : t105 = 0
  · rw [if_pos c6] at H
    exact absurd H (by simp)
  rw [if_neg c6] at H
  have c6b0 : (t105 == 0) = false := beq_eq_false_iff_ne.mpr c6
  have c6b1 : (t105 != 0) = true := bne_iff_ne.mpr c6
  replace H := Option.bind_eq_some_iff.mp H
  obtain ⟨⟨t106, t107⟩, A70, H⟩ := H
  try dsimp -simprocs only at H
  have A7 := Aside0.mk A70
  clear A70
  replace H := Option.bind_eq_some_iff.mp H
  obtain ⟨⟨t108, t109⟩, A80, H⟩ := H
  try dsimp -simprocs only at H
  have A8 := Aside0.mk A80
  clear A80
  replace H := Option.bind_eq_some_iff.mp H
  obtain ⟨⟨t110, t111⟩, A90, H⟩ := H
  try dsimp -simprocs only at H
  have A9 := Aside0.mk A90
  clear A90
  replace H := Option.bind_eq_some_iff.mp H
  obtain ⟨t113, A100, H⟩ := H
  try dsimp -simprocs only at H
  have A10 := Aside0.mk A100
  clear A100
  replace H := Option.bind_eq_some_iff.mp H
  obtain ⟨t114, A110, H⟩ := H
  try dsimp -simprocs only at H
  have A11 := Aside0.mk A110
  clear A110
  replace H := Option.bind_eq_some_iff.mp H
  obtain ⟨⟨t115, t116⟩, A120, H⟩ := H
  try dsimp -simprocs only at H
  have A12 := Aside0.mk A120
  clear A120
  by_cases c13 : t114 = 0
  · rw [if_pos c13] at H
    exact absurd H (by simp)
  rw [if_neg c13] at H
  have c13b0 : (t114 == 0) = false := beq_eq_false_iff_ne.mpr c13
  have c13b1 : (t114 != 0) = true := bne_iff_ne.mpr c13
  replace H := Option.bind_eq_some_iff.mp H
  obtain ⟨⟨t117, t118⟩, A140, H⟩ := H
  try dsimp -simprocs only at H
  have A14 := Aside0.mk A140
  clear A140
  obtain ⟨y119, hy119⟩ : ∃ y_ : List Bool, y_ = (([(t116 == 0), t118] : List Bool)) := ⟨_, rfl⟩
  replace H : ((frac_made.f k t115 t117 y119).bind fun bt122 => (some (bt122.1, bt122.2.1, bt122.2.2))) = some (r1, r2, r3) := by first | (rw [hy119]; with_reducible exact H) | (have H2_ := (Option.bind_some _ _).symm.trans H; rw [hy119]; with_reducible exact H2_) | (have H2_ := (Option.bind_some _ _).symm.trans H; with_reducible exact H2_) | with_reducible exact H | (rw [hy119]; exact H) | exact H
  have Ny119 := Aside0.mk hy119
  clear hy119
  replace H := Option.bind_eq_some_iff.mp H
  obtain ⟨⟨t122, t123, t124⟩, A150, H⟩ := H
  try dsimp -simprocs only at H
  have A15 := Aside0.mk A150
  clear A150
  simp only [Option.some.injEq, Prod.mk.injEq] at H
  obtain ⟨rfl, rfl, rfl⟩ := H
  go_enter Tryd.func11, Tryd.ntmps11
  try go_wp2_with (first | ((with_reducible refine gate_dst (N := 2) rfl ?_); refine bxq_ 2 #[.int .i64 a0_0, .int .i64 a0_1] 23 ?_; intro gb101 hg w16 hbox hb; have BK101 := Aside0.mk (hbox); have GW101 := gwq_ HB hg rfl; have GE101 := GW101; replace HB := hbs_ HB hb rfl rfl rfl rfl; clear hb hbox hg) | ((with_reducible refine gate_dst (N := 3) rfl ?_); refine bxq_ 3 #[.int .i64 a1_0, .int .i64 a1_1] 23 ?_; intro gb102 hg w17 hbox hb; have BK102 := Aside0.mk (hbox); have GW102 := gwq_ HB hg rfl; have GE102 := GW102; have NB101_102 := nbl_ BK101 hg rfl; have NB102_101 := nbg_ BK101 hg rfl; replace BK101 := bkb_ BK101 hb rfl; replace HB := hbs_ HB hb rfl rfl rfl rfl; clear hb hbox hg) | ((with_reducible refine gate_dst (N := 4) rfl ?_); refine bxq_ 4 #[.int .i64 0, .int .i64 0] 23 ?_; intro gb103 hg w18 hbox hb; have BK103 := Aside0.mk (hbox); have GW103 := gwq_ HB hg rfl; have GE103 := GW103; have NB101_103 := nbl_ BK101 hg rfl; have NB103_101 := nbg_ BK101 hg rfl; have NB102_103 := nbl_ BK102 hg rfl; have NB103_102 := nbg_ BK102 hg rfl; replace BK101 := bkb_ BK101 hb rfl; replace BK102 := bkb_ BK102 hb rfl; replace HB := hbs_ HB hb rfl rfl rfl rfl; clear hb hbox hg; have hnb19 := NB101_102.out; have hnc19 := NB102_101.out; have hnb20 := NB101_103.out; have hnc20 := NB103_101.out; have hcz21_0 := bc_ BK101 0 rfl; have hcz21_1 := bc_ BK101 1 rfl; have hfz21_0 := blk_frozen BK101.out 0; have hfz21_1 := blk_frozen BK101.out 1; have hnb22 := NB102_103.out; have hnc22 := NB103_102.out; have hcz23_0 := bc_ BK102 0 rfl; have hcz23_1 := bc_ BK102 1 rfl; have hfz23_0 := blk_frozen BK102.out 0; have hfz23_1 := blk_frozen BK102.out 1) | ((with_reducible refine gate_callee (f := 20) rfl ?_); refine glq_ (some 16) Tryd.func20 #[.agg #[.int .i64 a0_0, .int .i64 a0_1], .agg #[.int .i64 a1_0, .int .i64 a1_1]] ?_; (with_reducible refine (frac_both.calls k a0_0 a0_1 a1_0 a1_1 t104 _ A3.out).mono ?_); rintro e w24 ⟨rfl, hb⟩; refine ⟨_, rfl, ?_⟩; replace BK101 := bkb_ BK101 hb rfl; replace BK102 := bkb_ BK102 hb rfl; replace BK103 := bkb_ BK103 hb rfl; replace HB := hbs_ HB hb rfl rfl rfl rfl; (try clear hb); have hcz25_0 := bc_ BK101 0 rfl; have hcz25_1 := bc_ BK101 1 rfl; have hfz25_0 := blk_frozen BK101.out 0; have hfz25_1 := blk_frozen BK101.out 1; have hcz26_0 := bc_ BK102 0 rfl; have hcz26_1 := bc_ BK102 1 rfl; have hfz26_0 := blk_frozen BK102.out 0; have hfz26_1 := blk_frozen BK102.out 1) | ((with_reducible refine gate_callee (f := 17) rfl ?_); refine glq_ (some 25) Tryd.func17 #[.int .i64 a0_1, .int .i64 a1_1] ?_; (with_reducible refine (num_Gcd.calls k a0_1 a1_1 t105 _ A5.out).mono ?_); rintro e w27 ⟨rfl, hb⟩; refine ⟨_, rfl, ?_⟩; replace BK101 := bkb_ BK101 hb rfl; replace BK102 := bkb_ BK102 hb rfl; replace BK103 := bkb_ BK103 hb rfl; replace HB := hbs_ HB hb rfl rfl rfl rfl; (try clear hb)))
  replace BK101 := Aside0.mk (blk_drew BK101.out)
  replace BK102 := Aside0.mk (blk_drew BK102.out)
  replace BK103 := Aside0.mk (blk_drew BK103.out)
  replace HB := Aside0.mk (below_drew1 HB.out)
  refine start_ (n := 17) (S := fun w' => w'.cell? ⟨gb101, 0, none⟩ = some (.int .i64 a0_0) ∧ w'.cell? ⟨gb101, 1, none⟩ = some (.int .i64 a0_1) ∧ w'.cell? ⟨gb102, 0, none⟩ = some (.int .i64 a1_0) ∧ w'.cell? ⟨gb102, 1, none⟩ = some (.int .i64 a1_1)) (ds := []) (bm_ [0, 17]) (by kernel_rfl) rfl rfl ⟨bc_ BK101 0 rfl, bc_ BK101 1 rfl, bc_ BK102 0 rfl, bc_ BK102 1 rfl⟩ (fun hHeld => ?_); refine with_tabW frac_Add.tab5 frac_Add.bits5 (fun HT_ HW_ => ?_)
  generalize w27.drew = w28 at BK101 BK102 BK103 HB hHeld ⊢
  refine pq_ 0 26 (bm_ [1, 16]) HT_ ?_
  refine pq_ 2 28 (bm_ [1, 1, 1, 14]) HT_ ?_
  refine pq_ 4 30 (bm_ [1, 1, 1, 1, 1, 12]) HT_ ?_
  refine pq_ 7 33 (bm_ [1, 1, 1, 1, 1, 2, 1, 9]) HT_ ?_
  refine pq_ 9 35 (bm_ [1, 1, 1, 1, 1, 2, 1, 1, 1, 7]) HT_ ?_
  refine pq_ 11 37 (bm_ [1, 1, 1, 1, 1, 2, 1, 1, 1, 1, 1, 5]) HT_ ?_
  refine tq_ 1 27 (bm_ [3, 1, 1, 2, 1, 1, 1, 1, 1, 5]) HT_ HW_ hHeld ?_
  refine tq_ 3 29 (bm_ [5, 2, 1, 1, 1, 1, 1, 5]) HT_ HW_ hHeld ?_
  refine pq_ 5 31 (bm_ [6, 1, 1, 1, 1, 1, 1, 5]) HT_ ?_
  refine tq_ 8 34 (bm_ [6, 1, 3, 1, 1, 5]) HT_ HW_ hHeld ?_
  refine tq_ 10 36 (bm_ [6, 1, 5, 5]) HT_ HW_ hHeld ?_
  refine pq_ 12 38 (bm_ [6, 1, 6, 4]) HT_ ?_
  refine join_ (σ := Nat) 1 (bm_ [16, 1]) (fun s_ => [(32, .agg #[.int .i64 t106, .int .u64 t107]), (39, .agg #[.int .i64 t108, .int .u64 t109]), (40, .agg #[.int .i64 t110, .int .u64 t111]), (8, .pointer (some ⟨s_, 0, none⟩))]) (fun s_ w' => (w'.cell? ⟨gb101, 0, none⟩ = some (.int .i64 a0_0) ∧ w'.cell? ⟨gb101, 1, none⟩ = some (.int .i64 a0_1) ∧ w'.cell? ⟨gb102, 0, none⟩ = some (.int .i64 a1_0) ∧ w'.cell? ⟨gb102, 1, none⟩ = some (.int .i64 a1_1)) ∧ (w'.heap[gb101]? = some (.cells #[.int .i64 a0_0, .int .i64 a0_1] 23 (0, 0))) ∧ (w'.heap[gb102]? = some (.cells #[.int .i64 a1_0, .int .i64 a1_1] 23 (0, 0))) ∧ (w'.heap[gb103]? = some (.cells #[.int .i64 0, .int .i64 0] 23 (0, 0))) ∧ (w'.heap[s_]? = some (.cells #[.int .i64 0, .int .u64 0] 53 (0, 0))) ∧ (w.heap.size ≤ s_) ∧ (w.heap.size ≤ s_) ∧ (gb101 ≠ s_) ∧ (s_ ≠ gb101) ∧ (gb102 ≠ s_) ∧ (s_ ≠ gb102) ∧ (gb103 ≠ s_) ∧ (s_ ≠ gb103) ∧ (Below w.heap.size w w')) ?_ ?_
  rotate_left
  · intro hCont
    refine two_ (i := 6) (j := 15) (Ni := some 32) (Nj := some 8) (bm_ [13, 4]) (bm_ [6, 1, 6, 2, 1, 1]) rfl rfl rfl rfl (two_of HT_.out (by kernel_rfl)) (by decide) (by decide) (fun K hK => ?_) (fun K hK => ?_)
    · skip
      refine gq_ Tryd.func21 #[.int .i64 a0_0, .int .i64 (wrap64 (Int.tdiv a1_1 t105))] ?_
      with_reducible refine (num_Product.calls a0_0 (wrap64 (Int.tdiv a1_1 t105)) t106 t107 _ A7.out).mono ?_
      rintro e w29 ⟨rfl, hb⟩
      refine ⟨_, rfl, ?_⟩
      replace BK101 := bkb_ BK101 hb rfl
      replace BK102 := bkb_ BK102 hb rfl
      replace BK103 := bkb_ BK103 hb rfl
      replace HB := hbs_ HB hb rfl rfl rfl rfl
      (try clear hb)
      refine hK.out _ _ ⟨bc_ BK101 0 rfl, bc_ BK101 1 rfl, bc_ BK102 0 rfl, bc_ BK102 1 rfl⟩ (fun hHeld => ?_)
      clear hK K
      refine nq_ 32 ?_
      refine two_ (i := 13) (j := 15) (Ni := some 39) (Nj := some 8) (bm_ [14, 3]) (bm_ [13, 2, 1, 1]) rfl rfl rfl rfl (two_of HT_.out (by kernel_rfl)) (by decide) (by decide) (fun K hK => ?_) (fun K hK => ?_)
      · skip
        refine gq_ Tryd.func21 #[.int .i64 a1_0, .int .i64 (wrap64 (Int.tdiv a0_1 t105))] ?_
        with_reducible refine (num_Product.calls a1_0 (wrap64 (Int.tdiv a0_1 t105)) t108 t109 _ A8.out).mono ?_
        rintro e w30 ⟨rfl, hb⟩
        refine ⟨_, rfl, ?_⟩
        replace BK101 := bkb_ BK101 hb rfl
        replace BK102 := bkb_ BK102 hb rfl
        replace BK103 := bkb_ BK103 hb rfl
        replace HB := hbs_ HB hb rfl rfl rfl rfl
        (try clear hb)
        refine hK.out _ _ ⟨bc_ BK101 0 rfl, bc_ BK101 1 rfl, bc_ BK102 0 rfl, bc_ BK102 1 rfl⟩ (fun hHeld => ?_)
        clear hK K
        refine nq_ 39 ?_
        refine two_ (i := 14) (j := 15) (Ni := some 40) (Nj := some 8) (bm_ [15, 2]) (bm_ [14, 1, 1, 1]) rfl rfl rfl rfl (two_of HT_.out (by kernel_rfl)) (by decide) (by decide) (fun K hK => ?_) (fun K hK => ?_)
        · skip
          refine gq_ Tryd.func22 #[.agg #[.int .i64 t106, .int .u64 t107], .agg #[.int .i64 t108, .int .u64 t109]] ?_
          with_reducible refine (num_Wide_Plus.calls t106 t107 t108 t109 t110 t111 _ A9.out).mono ?_
          rintro e w31 ⟨rfl, hb⟩
          refine ⟨_, rfl, ?_⟩
          replace BK101 := bkb_ BK101 hb rfl
          replace BK102 := bkb_ BK102 hb rfl
          replace BK103 := bkb_ BK103 hb rfl
          replace HB := hbs_ HB hb rfl rfl rfl rfl
          (try clear hb)
          refine hK.out _ _ ⟨bc_ BK101 0 rfl, bc_ BK101 1 rfl, bc_ BK102 0 rfl, bc_ BK102 1 rfl⟩ (fun hHeld => ?_)
          clear hK K
          refine nq_ 40 ?_
          refine oq_ 15 (some 8) (bm_ [16, 1]) HT_ (fun K hK => ?_)
          refine bsq_ 8 #[.int .i64 0, .int .u64 0] 53 ?_
          intro gb112 hg w32 hbox hb
          have BK112 := Aside0.mk (hbox)
          have GW112 := gwq_ HB hg rfl
          have GE112 := GW112
          have NB101_112 := nbl_ BK101 hg rfl
          have NB112_101 := nbg_ BK101 hg rfl
          have NB102_112 := nbl_ BK102 hg rfl
          have NB112_102 := nbg_ BK102 hg rfl
          have NB103_112 := nbl_ BK103 hg rfl
          have NB112_103 := nbg_ BK103 hg rfl
          replace BK101 := bkb_ BK101 hb rfl
          replace BK102 := bkb_ BK102 hb rfl
          replace BK103 := bkb_ BK103 hb rfl
          replace HB := hbs_ HB hb rfl rfl rfl rfl
          clear hb hbox hg
          refine hK.out _ _ ⟨bc_ BK101 0 rfl, bc_ BK101 1 rfl, bc_ BK102 0 rfl, bc_ BK102 1 rfl⟩ (fun hHeld => ?_)
          clear hK K
          refine nq_ 8 ?_
          exact norm_ (by simp only [putAll, Act.put, List.setIfInBounds_toArray, List.set_cons_zero, List.set_cons_succ]) (hCont (gb112) _ ⟨hHeld, BK101.out, BK102.out, BK103.out, BK112.out, GW112.out, GE112.out, NB101_112.out, NB112_101.out, NB102_112.out, NB112_102.out, NB103_112.out, NB112_103.out, HB.out⟩)
        skip
        refine bsq_ 8 #[.int .i64 0, .int .u64 0] 53 ?_
        intro gb112 hg w31 hbox hb
        have BK112 := Aside0.mk (hbox)
        have GW112 := gwq_ HB hg rfl
        have GE112 := GW112
        have NB101_112 := nbl_ BK101 hg rfl
        have NB112_101 := nbg_ BK101 hg rfl
        have NB102_112 := nbl_ BK102 hg rfl
        have NB112_102 := nbg_ BK102 hg rfl
        have NB103_112 := nbl_ BK103 hg rfl
        have NB112_103 := nbg_ BK103 hg rfl
        replace BK101 := bkb_ BK101 hb rfl
        replace BK102 := bkb_ BK102 hb rfl
        replace BK103 := bkb_ BK103 hb rfl
        replace HB := hbs_ HB hb rfl rfl rfl rfl
        clear hb hbox hg
        refine hK.out _ _ ⟨bc_ BK101 0 rfl, bc_ BK101 1 rfl, bc_ BK102 0 rfl, bc_ BK102 1 rfl⟩ (fun hHeld => ?_)
        clear hK K
        refine nq_ 8 ?_
        refine oq_ 14 (some 40) (bm_ [16, 1]) HT_ (fun K hK => ?_)
        refine gq_ Tryd.func22 #[.agg #[.int .i64 t106, .int .u64 t107], .agg #[.int .i64 t108, .int .u64 t109]] ?_
        with_reducible refine (num_Wide_Plus.calls t106 t107 t108 t109 t110 t111 _ A9.out).mono ?_
        rintro e w32 ⟨rfl, hb⟩
        refine ⟨_, rfl, ?_⟩
        replace BK101 := bkb_ BK101 hb rfl
        replace BK102 := bkb_ BK102 hb rfl
        replace BK103 := bkb_ BK103 hb rfl
        replace BK112 := bkb_ BK112 hb rfl
        replace HB := hbs_ HB hb rfl rfl rfl rfl
        (try clear hb)
        refine hK.out _ _ ⟨bc_ BK101 0 rfl, bc_ BK101 1 rfl, bc_ BK102 0 rfl, bc_ BK102 1 rfl⟩ (fun hHeld => ?_)
        clear hK K
        refine nq_ 40 ?_
        exact norm_ (by simp only [putAll, Act.put, List.setIfInBounds_toArray, List.set_cons_zero, List.set_cons_succ]) (hCont (gb112) _ ⟨hHeld, BK101.out, BK102.out, BK103.out, BK112.out, GW112.out, GE112.out, NB101_112.out, NB112_101.out, NB102_112.out, NB112_102.out, NB103_112.out, NB112_103.out, HB.out⟩)
      skip
      refine bsq_ 8 #[.int .i64 0, .int .u64 0] 53 ?_
      intro gb112 hg w30 hbox hb
      have BK112 := Aside0.mk (hbox)
      have GW112 := gwq_ HB hg rfl
      have GE112 := GW112
      have NB101_112 := nbl_ BK101 hg rfl
      have NB112_101 := nbg_ BK101 hg rfl
      have NB102_112 := nbl_ BK102 hg rfl
      have NB112_102 := nbg_ BK102 hg rfl
      have NB103_112 := nbl_ BK103 hg rfl
      have NB112_103 := nbg_ BK103 hg rfl
      replace BK101 := bkb_ BK101 hb rfl
      replace BK102 := bkb_ BK102 hb rfl
      replace BK103 := bkb_ BK103 hb rfl
      replace HB := hbs_ HB hb rfl rfl rfl rfl
      clear hb hbox hg
      refine hK.out _ _ ⟨bc_ BK101 0 rfl, bc_ BK101 1 rfl, bc_ BK102 0 rfl, bc_ BK102 1 rfl⟩ (fun hHeld => ?_)
      clear hK K
      refine nq_ 8 ?_
      refine oq_ 13 (some 39) (bm_ [14, 1, 1, 1]) HT_ (fun K hK => ?_)
      refine gq_ Tryd.func21 #[.int .i64 a1_0, .int .i64 (wrap64 (Int.tdiv a0_1 t105))] ?_
      with_reducible refine (num_Product.calls a1_0 (wrap64 (Int.tdiv a0_1 t105)) t108 t109 _ A8.out).mono ?_
      rintro e w31 ⟨rfl, hb⟩
      refine ⟨_, rfl, ?_⟩
      replace BK101 := bkb_ BK101 hb rfl
      replace BK102 := bkb_ BK102 hb rfl
      replace BK103 := bkb_ BK103 hb rfl
      replace BK112 := bkb_ BK112 hb rfl
      replace HB := hbs_ HB hb rfl rfl rfl rfl
      (try clear hb)
      refine hK.out _ _ ⟨bc_ BK101 0 rfl, bc_ BK101 1 rfl, bc_ BK102 0 rfl, bc_ BK102 1 rfl⟩ (fun hHeld => ?_)
      clear hK K
      refine nq_ 39 ?_
      refine oq_ 14 (some 40) (bm_ [16, 1]) HT_ (fun K hK => ?_)
      refine gq_ Tryd.func22 #[.agg #[.int .i64 t106, .int .u64 t107], .agg #[.int .i64 t108, .int .u64 t109]] ?_
      with_reducible refine (num_Wide_Plus.calls t106 t107 t108 t109 t110 t111 _ A9.out).mono ?_
      rintro e w32 ⟨rfl, hb⟩
      refine ⟨_, rfl, ?_⟩
      replace BK101 := bkb_ BK101 hb rfl
      replace BK102 := bkb_ BK102 hb rfl
      replace BK103 := bkb_ BK103 hb rfl
      replace BK112 := bkb_ BK112 hb rfl
      replace HB := hbs_ HB hb rfl rfl rfl rfl
      (try clear hb)
      refine hK.out _ _ ⟨bc_ BK101 0 rfl, bc_ BK101 1 rfl, bc_ BK102 0 rfl, bc_ BK102 1 rfl⟩ (fun hHeld => ?_)
      clear hK K
      refine nq_ 40 ?_
      exact norm_ (by simp only [putAll, Act.put, List.setIfInBounds_toArray, List.set_cons_zero, List.set_cons_succ]) (hCont (gb112) _ ⟨hHeld, BK101.out, BK102.out, BK103.out, BK112.out, GW112.out, GE112.out, NB101_112.out, NB112_101.out, NB102_112.out, NB112_102.out, NB103_112.out, NB112_103.out, HB.out⟩)
    skip
    refine bsq_ 8 #[.int .i64 0, .int .u64 0] 53 ?_
    intro gb112 hg w29 hbox hb
    have BK112 := Aside0.mk (hbox)
    have GW112 := gwq_ HB hg rfl
    have GE112 := GW112
    have NB101_112 := nbl_ BK101 hg rfl
    have NB112_101 := nbg_ BK101 hg rfl
    have NB102_112 := nbl_ BK102 hg rfl
    have NB112_102 := nbg_ BK102 hg rfl
    have NB103_112 := nbl_ BK103 hg rfl
    have NB112_103 := nbg_ BK103 hg rfl
    replace BK101 := bkb_ BK101 hb rfl
    replace BK102 := bkb_ BK102 hb rfl
    replace BK103 := bkb_ BK103 hb rfl
    replace HB := hbs_ HB hb rfl rfl rfl rfl
    clear hb hbox hg
    refine hK.out _ _ ⟨bc_ BK101 0 rfl, bc_ BK101 1 rfl, bc_ BK102 0 rfl, bc_ BK102 1 rfl⟩ (fun hHeld => ?_)
    clear hK K
    refine nq_ 8 ?_
    refine oq_ 6 (some 32) (bm_ [13, 2, 1, 1]) HT_ (fun K hK => ?_)
    refine gq_ Tryd.func21 #[.int .i64 a0_0, .int .i64 (wrap64 (Int.tdiv a1_1 t105))] ?_
    with_reducible refine (num_Product.calls a0_0 (wrap64 (Int.tdiv a1_1 t105)) t106 t107 _ A7.out).mono ?_
    rintro e w30 ⟨rfl, hb⟩
    refine ⟨_, rfl, ?_⟩
    replace BK101 := bkb_ BK101 hb rfl
    replace BK102 := bkb_ BK102 hb rfl
    replace BK103 := bkb_ BK103 hb rfl
    replace BK112 := bkb_ BK112 hb rfl
    replace HB := hbs_ HB hb rfl rfl rfl rfl
    (try clear hb)
    refine hK.out _ _ ⟨bc_ BK101 0 rfl, bc_ BK101 1 rfl, bc_ BK102 0 rfl, bc_ BK102 1 rfl⟩ (fun hHeld => ?_)
    clear hK K
    refine nq_ 32 ?_
    refine oq_ 13 (some 39) (bm_ [14, 1, 1, 1]) HT_ (fun K hK => ?_)
    refine gq_ Tryd.func21 #[.int .i64 a1_0, .int .i64 (wrap64 (Int.tdiv a0_1 t105))] ?_
    with_reducible refine (num_Product.calls a1_0 (wrap64 (Int.tdiv a0_1 t105)) t108 t109 _ A8.out).mono ?_
    rintro e w31 ⟨rfl, hb⟩
    refine ⟨_, rfl, ?_⟩
    replace BK101 := bkb_ BK101 hb rfl
    replace BK102 := bkb_ BK102 hb rfl
    replace BK103 := bkb_ BK103 hb rfl
    replace BK112 := bkb_ BK112 hb rfl
    replace HB := hbs_ HB hb rfl rfl rfl rfl
    (try clear hb)
    refine hK.out _ _ ⟨bc_ BK101 0 rfl, bc_ BK101 1 rfl, bc_ BK102 0 rfl, bc_ BK102 1 rfl⟩ (fun hHeld => ?_)
    clear hK K
    refine nq_ 39 ?_
    refine oq_ 14 (some 40) (bm_ [16, 1]) HT_ (fun K hK => ?_)
    refine gq_ Tryd.func22 #[.agg #[.int .i64 t106, .int .u64 t107], .agg #[.int .i64 t108, .int .u64 t109]] ?_
    with_reducible refine (num_Wide_Plus.calls t106 t107 t108 t109 t110 t111 _ A9.out).mono ?_
    rintro e w32 ⟨rfl, hb⟩
    refine ⟨_, rfl, ?_⟩
    replace BK101 := bkb_ BK101 hb rfl
    replace BK102 := bkb_ BK102 hb rfl
    replace BK103 := bkb_ BK103 hb rfl
    replace BK112 := bkb_ BK112 hb rfl
    replace HB := hbs_ HB hb rfl rfl rfl rfl
    (try clear hb)
    refine hK.out _ _ ⟨bc_ BK101 0 rfl, bc_ BK101 1 rfl, bc_ BK102 0 rfl, bc_ BK102 1 rfl⟩ (fun hHeld => ?_)
    clear hK K
    refine nq_ 40 ?_
    exact norm_ (by simp only [putAll, Act.put, List.setIfInBounds_toArray, List.set_cons_zero, List.set_cons_succ]) (hCont (gb112) _ ⟨hHeld, BK101.out, BK102.out, BK103.out, BK112.out, GW112.out, GE112.out, NB101_112.out, NB112_101.out, NB102_112.out, NB112_102.out, NB103_112.out, NB112_103.out, HB.out⟩)
  rintro gb112 w33 ⟨hS_, h0_, h1_, h2_, h3_, h4_, h5_, h6_, h7_, h8_, h9_, h10_, h11_, h12_⟩
  have BK112 : Aside0 (w33.heap[gb112]? = some (.cells #[.int .i64 0, .int .u64 0] 53 (0, 0))) := ⟨h3_⟩
  have GW112 : Aside0 (w.heap.size ≤ gb112) := ⟨h4_⟩
  have GE112 : Aside0 (w.heap.size ≤ gb112) := ⟨h5_⟩
  have NB101_112 : Aside0 (gb101 ≠ gb112) := ⟨h6_⟩
  have NB112_101 : Aside0 (gb112 ≠ gb101) := ⟨h7_⟩
  have NB102_112 : Aside0 (gb102 ≠ gb112) := ⟨h8_⟩
  have NB112_102 : Aside0 (gb112 ≠ gb102) := ⟨h9_⟩
  have NB103_112 : Aside0 (gb103 ≠ gb112) := ⟨h10_⟩
  have NB112_103 : Aside0 (gb112 ≠ gb103) := ⟨h11_⟩
  replace BK101 : Aside0 (w33.heap[gb101]? = some (.cells #[.int .i64 a0_0, .int .i64 a0_1] 23 (0, 0))) := ⟨h0_⟩
  replace BK102 : Aside0 (w33.heap[gb102]? = some (.cells #[.int .i64 a1_0, .int .i64 a1_1] 23 (0, 0))) := ⟨h1_⟩
  replace BK103 : Aside0 (w33.heap[gb103]? = some (.cells #[.int .i64 0, .int .i64 0] 23 (0, 0))) := ⟨h2_⟩
  replace HB : Aside0 (Below w.heap.size w w33) := ⟨h12_⟩
  clear h0_ h1_ h2_ h3_ h4_ h5_ h6_ h7_ h8_ h9_ h10_ h11_ h12_
  have hHeld : w33.cell? ⟨gb101, 0, none⟩ = some (.int .i64 a0_0) ∧ w33.cell? ⟨gb101, 1, none⟩ = some (.int .i64 a0_1) ∧ w33.cell? ⟨gb102, 0, none⟩ = some (.int .i64 a1_0) ∧ w33.cell? ⟨gb102, 1, none⟩ = some (.int .i64 a1_1) := hS_
  refine norm_ (a' := ?_) ?_ ?_
  rotate_left
  · simp only [putAll, Act.put, List.setIfInBounds_toArray, List.set_cons_zero, List.set_cons_succ]
    rfl
  refine oq_ 16 none (bm_ [17]) HT_ (fun K hK => ?_)
  have hs34 : w33.cell? ⟨gb112, 0, none⟩ = some (.int .i64 0) := bc_ BK112 0 rfl
  have hfs34 := blk_frozen BK112.out 0
  have hns34_0 := NB101_112.out
  have hns34_1 := NB102_112.out
  have hns34_2 := NB103_112.out
  have hms34_0 := NB112_101.out
  have hms34_1 := NB112_102.out
  have hms34_2 := NB112_103.out
  have hs35 : w33.cell? ⟨gb112, 1, none⟩ = some (.int .u64 0) := bc_ BK112 1 rfl
  have hfs35 := blk_frozen BK112.out 1
  have hns35_0 := NB101_112.out
  have hns35_1 := NB102_112.out
  have hns35_2 := NB103_112.out
  have hms35_0 := NB112_101.out
  have hms35_1 := NB112_102.out
  have hms35_2 := NB112_103.out
  refine skip_ (w1 := ?_) (by rfl) rfl ?_ ?_
  rotate_left
  · go_simp
    rfl
  refine hK.out _ _ ⟨((cell_far (p := ⟨gb112, _, none⟩) NB101_112.out _).trans (((cell_far (p := ⟨gb112, _, none⟩) NB101_112.out _).trans (hHeld.1)))), ((cell_far (p := ⟨gb112, _, none⟩) NB101_112.out _).trans (((cell_far (p := ⟨gb112, _, none⟩) NB101_112.out _).trans (hHeld.2.1)))), ((cell_far (p := ⟨gb112, _, none⟩) NB102_112.out _).trans (((cell_far (p := ⟨gb112, _, none⟩) NB102_112.out _).trans (hHeld.2.2.1)))), ((cell_far (p := ⟨gb112, _, none⟩) NB102_112.out _).trans (((cell_far (p := ⟨gb112, _, none⟩) NB102_112.out _).trans (hHeld.2.2.2))))⟩ (fun hHeld => ?_)
  clear hK K
  refine done_ (done_of HT_.out (by kernel_rfl)) ?_
  have hnb36 := NB112_101.out
  have hnc36 := NB101_112.out
  have hnb37 := NB112_102.out
  have hnc37 := NB102_112.out
  have hnb38 := NB112_103.out
  have hnc38 := NB103_112.out
  have hcz39_0 := bc_ BK112 0 rfl
  have hcz39_1 := bc_ BK112 1 rfl
  have hfz39_0 := blk_frozen BK112.out 0
  have hfz39_1 := blk_frozen BK112.out 1
  try go_wp2_with (first | ((with_reducible refine gate_callee (f := 23) rfl ?_); refine glq_ (some 43) Tryd.func23 #[.agg #[.int .i64 t110, .int .u64 t111], .int .i64 t105] ?_; (with_reducible refine (num_Wide_Mod.calls k t110 t111 t105 t113 _ A10.out).mono ?_); rintro e w40 ⟨rfl, hb⟩; refine ⟨_, rfl, ?_⟩; replace BK101 := Aside0.mk (blk_below (g := gb101) (o := .cells #[.int .i64 a0_0, .int .i64 a0_1] 23 (0, 0)) (by (with_reducible repeat (first | refine blk_drewN ?_ _ | refine blk_drew ?_ | refine blk_alloc ?_ _)); refine blk_far ?_ NB101_112.out _; (with_reducible repeat (first | refine blk_drewN ?_ _ | refine blk_drew ?_ | refine blk_alloc ?_ _)); refine blk_far ?_ NB101_112.out _; (with_reducible repeat (first | refine blk_drewN ?_ _ | refine blk_drew ?_ | refine blk_alloc ?_ _)); exact BK101.out) hb); replace BK102 := Aside0.mk (blk_below (g := gb102) (o := .cells #[.int .i64 a1_0, .int .i64 a1_1] 23 (0, 0)) (by (with_reducible repeat (first | refine blk_drewN ?_ _ | refine blk_drew ?_ | refine blk_alloc ?_ _)); refine blk_far ?_ NB102_112.out _; (with_reducible repeat (first | refine blk_drewN ?_ _ | refine blk_drew ?_ | refine blk_alloc ?_ _)); refine blk_far ?_ NB102_112.out _; (with_reducible repeat (first | refine blk_drewN ?_ _ | refine blk_drew ?_ | refine blk_alloc ?_ _)); exact BK102.out) hb); replace BK103 := Aside0.mk (blk_below (g := gb103) (o := .cells #[.int .i64 0, .int .i64 0] 23 (0, 0)) (by (with_reducible repeat (first | refine blk_drewN ?_ _ | refine blk_drew ?_ | refine blk_alloc ?_ _)); refine blk_far ?_ NB103_112.out _; (with_reducible repeat (first | refine blk_drewN ?_ _ | refine blk_drew ?_ | refine blk_alloc ?_ _)); refine blk_far ?_ NB103_112.out _; (with_reducible repeat (first | refine blk_drewN ?_ _ | refine blk_drew ?_ | refine blk_alloc ?_ _)); exact BK103.out) hb); replace BK112 := Aside0.mk (blk_below (g := gb112) (o := .cells #[.int .i64 t110, .int .u64 t111] 53 (0, 0)) (by (with_reducible repeat (first | refine blk_drewN ?_ _ | refine blk_drew ?_ | refine blk_alloc ?_ _)); refine blk_put (cs := #[.int .i64 t110, .int .u64 0]) ?_ 1 _ rfl; (with_reducible repeat (first | refine blk_drewN ?_ _ | refine blk_drew ?_ | refine blk_alloc ?_ _)); refine blk_put (cs := #[.int .i64 0, .int .u64 0]) ?_ 0 _ rfl; (with_reducible repeat (first | refine blk_drewN ?_ _ | refine blk_drew ?_ | refine blk_alloc ?_ _)); exact BK112.out) hb); replace HB := Aside0.mk (below_step (by repeat (first | (with_reducible first | exact HB.out | apply below_alloc | apply pw_below_drewN | apply below_drew1 | refine below_set ?_ GE101.out | refine below_set ?_ GE102.out | refine below_set ?_ GE103.out | refine below_set ?_ GE112.out) | exact HB.out)) hb); (try clear hb)) | ((with_reducible refine gate_callee (f := 17) rfl ?_); refine glq_ (some 45) Tryd.func17 #[.int .i64 t113, .int .i64 t105] ?_; (with_reducible refine (num_Gcd.calls k t113 t105 t114 _ A11.out).mono ?_); rintro e w41 ⟨rfl, hb⟩; refine ⟨_, rfl, ?_⟩; replace BK101 := bkb_ BK101 hb rfl; replace BK102 := bkb_ BK102 hb rfl; replace BK103 := bkb_ BK103 hb rfl; replace BK112 := bkb_ BK112 hb rfl; replace HB := hbs_ HB hb rfl rfl rfl rfl; (try clear hb); have hcz42_0 := bc_ BK112 0 rfl; have hcz42_1 := bc_ BK112 1 rfl; have hfz42_0 := blk_frozen BK112.out 0; have hfz42_1 := blk_frozen BK112.out 1) | ((with_reducible refine gate_callee (f := 24) rfl ?_); refine glq_ (some 49) Tryd.func24 #[.agg #[.int .i64 t110, .int .u64 t111], .int .i64 t114] ?_; (with_reducible refine (num_Wide_Div.calls k t110 t111 t114 t115 t116 _ A12.out).mono ?_); rintro e w43 ⟨rfl, hb⟩; refine ⟨_, rfl, ?_⟩; replace BK101 := bkb_ BK101 hb rfl; replace BK102 := bkb_ BK102 hb rfl; replace BK103 := bkb_ BK103 hb rfl; replace BK112 := bkb_ BK112 hb rfl; replace HB := hbs_ HB hb rfl rfl rfl rfl; (try clear hb)))
  replace BK101 := Aside0.mk (blk_drew BK101.out)
  replace BK102 := Aside0.mk (blk_drew BK102.out)
  replace BK103 := Aside0.mk (blk_drew BK103.out)
  replace BK112 := Aside0.mk (blk_drew BK112.out)
  replace HB := Aside0.mk (below_drew1 HB.out)
  refine start_ (n := 14) (S := fun w' => w'.cell? ⟨gb101, 0, none⟩ = some (.int .i64 a0_0) ∧ w'.cell? ⟨gb101, 1, none⟩ = some (.int .i64 a0_1) ∧ w'.cell? ⟨gb102, 0, none⟩ = some (.int .i64 a1_0) ∧ w'.cell? ⟨gb102, 1, none⟩ = some (.int .i64 a1_1)) (ds := []) (bm_ [0, 14]) (by kernel_rfl) rfl rfl ⟨bc_ BK101 0 rfl, bc_ BK101 1 rfl, bc_ BK102 0 rfl, bc_ BK102 1 rfl⟩ (fun hHeld => ?_); refine with_tabW frac_Add.tab8 frac_Add.bits8 (fun HT_ HW_ => ?_)
  generalize w43.drew = w44 at BK101 BK102 BK103 BK112 HB hHeld ⊢
  refine pq_ 0 53 (bm_ [1, 13]) HT_ ?_
  refine pq_ 2 55 (bm_ [1, 1, 1, 11]) HT_ ?_
  refine pq_ 4 57 (bm_ [1, 1, 1, 1, 1, 9]) HT_ ?_
  refine pq_ 6 59 (bm_ [1, 1, 1, 1, 1, 1, 1, 7]) HT_ ?_
  refine tq_ 1 54 (bm_ [3, 1, 1, 1, 1, 7]) HT_ HW_ hHeld ?_
  refine pq_ 3 56 (bm_ [5, 1, 1, 7]) HT_ ?_
  refine tq_ 5 58 (bm_ [7, 7]) HT_ HW_ hHeld ?_
  refine pq_ 7 60 (bm_ [8, 6]) HT_ ?_
  refine oq_ 8 (some 61) (bm_ [9, 5]) HT_ (fun K hK => ?_)
  refine gq_ Tryd.func25 #[.int .i64 (wrap64 (Int.tdiv a0_1 t105)), .int .i64 (wrap64 (Int.tdiv a1_1 t114))] ?_
  with_reducible refine (num_Mul.calls (wrap64 (Int.tdiv a0_1 t105)) (wrap64 (Int.tdiv a1_1 t114)) t117 t118 _ A14.out).mono ?_
  rintro e w45 ⟨rfl, hb⟩
  refine ⟨_, rfl, ?_⟩
  replace BK101 := bkb_ BK101 hb rfl
  replace BK102 := bkb_ BK102 hb rfl
  replace BK103 := bkb_ BK103 hb rfl
  replace BK112 := bkb_ BK112 hb rfl
  replace HB := hbs_ HB hb rfl rfl rfl rfl
  (try clear hb)
  refine hK.out _ _ ⟨bc_ BK101 0 rfl, bc_ BK101 1 rfl, bc_ BK102 0 rfl, bc_ BK102 1 rfl⟩ (fun hHeld => ?_)
  clear hK K
  refine nq_ 61 ?_
  refine pq_ 9 52 (bm_ [10, 4]) HT_ ?_
  refine pq_ 10 62 (bm_ [11, 3]) HT_ ?_
  refine pq_ 11 63 (bm_ [12, 2]) HT_ ?_
  refine pq_ 12 12 (bm_ [13, 1]) HT_ ?_
  refine pq_ 13 13 (bm_ [14]) HT_ ?_
  refine done_ (done_of HT_.out (by kernel_rfl)) ?_
  try go_wp2_with (first | ((with_reducible refine gate_dst (N := 69) rfl ?_); refine Kd.R_lit Kd.bool _ 4 ?hg (N := 69) ?hd (xs := ([(t116 == 0), t118] : List Bool)) (inner := [.bool (t116 == 0), .bool t118]) (ok := fun _ => True) (okp := fun _ => True) ?hr ?hp (fun _ hk => hk) trivial (Below.refl _ _) (Nat.le_refl _) (by simp) ?_; (case hd => rfl); (case hg => rfl); (case hr => first | (go_simp; done) | (go_simp; rfl)); (case hp => exact (Reps.one (show Kd.M Kd.bool _ _ _ (t116 == 0) [.bool (t116 == 0)] from rfl) (Reps.one (show Kd.M Kd.bool _ _ _ t118 [.bool t118] from rfl) (Reps.none _ _)))); intro v120 w46 ho47 hb hg_ hnew_; clear hg_ hnew_; (first | rw [← Ny119.out] at ho47 | (simp only [Int.reduceToNat] at ho47; rw [← Ny119.out] at ho47)); have HO121 := Aside0.mk (Kd.R_lower ho47 (below_size (by repeat (first | (with_reducible first | exact HB.out | apply below_alloc | apply pw_below_drewN | apply below_drew1 | refine below_set ?_ GE101.out | refine below_set ?_ GE102.out | refine below_set ?_ GE103.out | refine below_set ?_ GE112.out) | exact HB.out)))); replace BK101 := bkb_ BK101 hb rfl; replace BK102 := bkb_ BK102 hb rfl; replace BK103 := bkb_ BK103 hb rfl; replace BK112 := bkb_ BK112 hb rfl; replace HB := hbs_ HB hb rfl rfl rfl rfl; clear hb ho47; obtain ⟨Ao48, co48, eo48⟩ := Kd.R_slice HO121.out; subst eo48) | ((with_reducible refine gate_callee (f := 26) rfl ?_); refine glq_ (some 70) Tryd.func26 #[.int .i64 t115, .int .i64 t117, .slice Ao48 y119.length co48] ?_; (with_reducible refine (frac_made.calls k t115 t117 _ _ y119 t122 t123 t124 _ ?side1 ?side2 A15.out).mono ?_); (case side1 => repeat (first | exact (Kd.R_reads' HO121.out).2.2 | (with_reducible refine Kd.C_alloc ?_ _) | (with_reducible refine Kd.C_drewN ?_ _) | (with_reducible refine Kd.C_drew ?_))); (case side2 => exact (Kd.R_reads' HO121.out).2.1); rintro e w49 ⟨rfl, hb⟩; refine ⟨_, rfl, ?_⟩; replace HO121 := Aside0.mk (Kd.R_below (by (with_reducible repeat (first | apply Kd.R_alloc | apply Kd.R_drewN | apply Kd.R_drew)); exact HO121.out) hb); replace BK101 := bkb_ BK101 hb rfl; replace BK102 := bkb_ BK102 hb rfl; replace BK103 := bkb_ BK103 hb rfl; replace BK112 := bkb_ BK112 hb rfl; replace HB := hbs_ HB hb rfl rfl rfl rfl; (try clear hb); have hcz50_0 := bc_ BK103 0 rfl; have hcz50_1 := bc_ BK103 1 rfl; have hfz50_0 := blk_frozen BK103.out 0; have hfz50_1 := blk_frozen BK103.out 1))
  refine bodyPost_ret (results_ct rfl _ _ gb103 23 #[.int .i64 t122, .int .i64 t123] (0, 0) _ rfl (by (with_reducible repeat (first | refine blk_drewN ?_ _ | refine blk_drew ?_ | refine blk_alloc ?_ _)); refine blk_put (cs := #[.int .i64 t122, .int .i64 0]) ?_ 1 _ rfl; (with_reducible repeat (first | refine blk_drewN ?_ _ | refine blk_drew ?_ | refine blk_alloc ?_ _)); refine blk_put (cs := #[.int .i64 0, .int .i64 0]) ?_ 0 _ rfl; (with_reducible repeat (first | refine blk_drewN ?_ _ | refine blk_drew ?_ | refine blk_alloc ?_ _)); exact BK103.out) Tryd.underlying23 rfl (by kernel_rfl)) rfl ?_
  exact ⟨by first | rfl | (simp [errW_none, errW_some] <;> rfl) | (simp [*, errW_none, errW_some] <;> rfl), by repeat (first | (with_reducible first | exact HB.out | apply below_alloc | apply pw_below_drewN | apply below_drew1 | refine below_set ?_ GE101.out | refine below_set ?_ GE102.out | refine below_set ?_ GE103.out | refine below_set ?_ GE112.out) | exact HB.out)⟩

/-! ### frac_Text: function 6 -/
def frac_Text.f (k : Nat) (a0_0 : Int) (a0_1 : Int) : Option (ByteArray × Int) := (frac_Check.f k a0_0 a0_1).bind fun t102 => (if t102 = 0 then ((strconv_FormatInt_13.f a0_0 10).bind fun t103 => (if a0_1 > 1 then ((strconv_FormatInt_13.f a0_1 10).bind fun t104 => (if 1 + t104.size ≤ 9223372036854775807 then (if t103.size + ((⟨#[47]⟩ : ByteArray) ++ t104).size ≤ 9223372036854775807 then (some (t103 ++ ((⟨#[47]⟩ : ByteArray) ++ t104), 0)) else (none)) else (none))) else (some (t103, 0)))) else (some ((⟨#[]⟩ : ByteArray), t102)))
theorem frac_Text.mono : ∀ a0 a1 k, LeO (frac_Text.f k a0 a1) (frac_Text.f (k + 1) a0 a1) := by
 intro a0 a1 k
 unfold frac_Text.f
 repeat' first
  | (with_reducible exact frac_Check.mono _ _ _)
  | (with_reducible exact LeO.refl _)
  | (with_reducible exact LeO.none _)
  | (with_reducible refine LeO.ite ?_ ?_)
  | (with_reducible refine LeO.bind ?_ (fun _ => ?_))
  | exact frac_Check.mono _ _ _
  | exact LeO.none _
  | refine LeO.ite ?_ ?_
  | refine LeO.bind ?_ (fun _ => ?_)
set_option maxHeartbeats 8000000 in
set_option maxRecDepth 100000 in
theorem frac_Text.calls (k : Nat) (a0_0 : Int) (a0_1 : Int) (r1 : ByteArray) (r2 : Int) (w : World) (ht : ScTab w) (h : frac_Text.f k a0_0 a0_1 = some (r1, r2)) :
 Calls Tryd.prog 6 #[.agg #[.int .i64 a0_0, .int .i64 a0_1]] w fun e w' => e = .returned (.tuple #[.string r1, .int .i64 r2]) ∧ Below w.heap.size w w' := by
  have hu23 := Tryd.underlying23
  have HB := Aside0.mk (Below.refl w.heap.size w)
  have H : ((frac_Check.f k a0_0 a0_1).bind fun t102 => (if t102 = 0 then ((strconv_FormatInt_13.f a0_0 10).bind fun t103 => (if a0_1 > 1 then ((strconv_FormatInt_13.f a0_1 10).bind fun t104 => (if 1 + t104.size ≤ 9223372036854775807 then (if t103.size + ((⟨#[47]⟩ : ByteArray) ++ t104).size ≤ 9223372036854775807 then (some (t103 ++ ((⟨#[47]⟩ : ByteArray) ++ t104), 0)) else (none)) else (none))) else (some (t103, 0)))) else (some ((⟨#[]⟩ : ByteArray), t102)))) = some (r1, r2) := h
  clear h
  replace H := Option.bind_eq_some_iff.mp H
  obtain ⟨t102, A20, H⟩ := H
  try dsimp -simprocs only at H
  have A2 := Aside0.mk A20
  clear A20
  by_cases c3 : t102 = 0
  rotate_left
  · rw [if_neg c3] at H
    have c3b0 : (t102 == 0) = false := beq_eq_false_iff_ne.mpr c3
    have c3b1 : (t102 != 0) = true := bne_iff_ne.mpr c3
    simp only [Option.some.injEq, Prod.mk.injEq] at H
    obtain ⟨rfl, rfl⟩ := H
    go_enter Tryd.func6, Tryd.ntmps6
    go_wp2_with (first | ((with_reducible refine gate_dst (N := 1) rfl ?_); refine bxq_ 1 #[.int .i64 a0_0, .int .i64 a0_1] 23 ?_; intro gb101 hg w22 hbox hb; have BK101 := Aside0.mk (hbox); have GW101 := gwq_ HB hg rfl; have GE101 := GW101; replace HB := hbs_ HB hb rfl rfl rfl rfl; clear hb hbox hg; have hcz23_0 := bc_ BK101 0 rfl; have hcz23_1 := bc_ BK101 1 rfl; have hfz23_0 := blk_frozen BK101.out 0; have hfz23_1 := blk_frozen BK101.out 1) | ((with_reducible refine gate_callee (f := 12) rfl ?_); refine glq_ (some 7) Tryd.func12 #[.agg #[.int .i64 a0_0, .int .i64 a0_1]] ?_; (with_reducible refine (frac_Check.calls k a0_0 a0_1 t102 _ A2.out).mono ?_); rintro e w24 ⟨rfl, hb⟩; refine ⟨_, rfl, ?_⟩; replace BK101 := bkb_ BK101 hb rfl; replace HB := hbs_ HB hb rfl rfl rfl rfl; (try clear hb)))
    go_ret2
    exact ⟨by first | rfl | (simp [errW_none, errW_some] <;> rfl) | (simp [*, errW_none, errW_some] <;> rfl), by repeat (first | (with_reducible first | exact HB.out | apply below_alloc | apply pw_below_drewN | apply below_drew1 | refine below_set ?_ GE101.out) | exact HB.out)⟩
  rw [if_pos c3] at H
  have c3b0 : (t102 == 0) = true := beq_iff_eq.mpr c3
  have c3b1 : (t102 != 0) = false := bne_eq_false_iff_eq.mpr c3
  clear c3
  replace H := Option.bind_eq_some_iff.mp H
  obtain ⟨t103, A40, H⟩ := H
  try dsimp -simprocs only at H
  have A4 := Aside0.mk A40
  clear A40
  by_cases c5 : a0_1 > 1
  · rw [if_pos c5] at H
    have c5b0 : decide (1 < a0_1) = true := decide_eq_true c5
    clear c5
    replace H := Option.bind_eq_some_iff.mp H
    obtain ⟨t104, A60, H⟩ := H
    try dsimp -simprocs only at H
    have A6 := Aside0.mk A60
    clear A60
    by_cases c7 : 1 + t104.size ≤ 9223372036854775807
    rotate_left
    · rw [if_neg c7] at H
      exact absurd H (by simp)
    rw [if_pos c7] at H
    have c7b0 := eq_true c7
    have c7b1 : decide (1 + t104.size ≤ 9223372036854775807) = true := decide_eq_true c7
    try have c7b2 : (9223372036854775807 < 1 + t104.size) = False := eq_false (Nat.not_lt.2 c7)
    by_cases c8 : t103.size + ((⟨#[47]⟩ : ByteArray) ++ t104).size ≤ 9223372036854775807
    rotate_left
    · rw [if_neg c8] at H
      exact absurd H (by simp)
    rw [if_pos c8] at H
    have c8b0 := eq_true c8
    have c8b1 : decide (t103.size + ((⟨#[47]⟩ : ByteArray) ++ t104).size ≤ 9223372036854775807) = true := decide_eq_true c8
    try have c8b2 : (9223372036854775807 < t103.size + ((⟨#[47]⟩ : ByteArray) ++ t104).size) = False := eq_false (Nat.not_lt.2 c8)
    simp only [Option.some.injEq, Prod.mk.injEq] at H
    obtain ⟨rfl, rfl⟩ := H
    go_enter Tryd.func6, Tryd.ntmps6
    go_wp2_with (first | ((with_reducible refine gate_dst (N := 1) rfl ?_); refine bxq_ 1 #[.int .i64 a0_0, .int .i64 a0_1] 23 ?_; intro gb101 hg w9 hbox hb; have BK101 := Aside0.mk (hbox); have GW101 := gwq_ HB hg rfl; have GE101 := GW101; replace HB := hbs_ HB hb rfl rfl rfl rfl; clear hb hbox hg; have hcz10_0 := bc_ BK101 0 rfl; have hcz10_1 := bc_ BK101 1 rfl; have hfz10_0 := blk_frozen BK101.out 0; have hfz10_1 := blk_frozen BK101.out 1) | ((with_reducible refine gate_callee (f := 12) rfl ?_); refine glq_ (some 7) Tryd.func12 #[.agg #[.int .i64 a0_0, .int .i64 a0_1]] ?_; (with_reducible refine (frac_Check.calls k a0_0 a0_1 t102 _ A2.out).mono ?_); rintro e w11 ⟨rfl, hb⟩; refine ⟨_, rfl, ?_⟩; replace BK101 := bkb_ BK101 hb rfl; replace HB := hbs_ HB hb rfl rfl rfl rfl; (try clear hb); have hcz12_0 := bc_ BK101 0 rfl; have hcz12_1 := bc_ BK101 1 rfl; have hfz12_0 := blk_frozen BK101.out 0; have hfz12_1 := blk_frozen BK101.out 1) | ((with_reducible refine gate_callee (f := 13) rfl ?_); refine glq_ (some 13) Tryd.func13 #[.int .i64 a0_0, .int .i64 10] ?_; (with_reducible refine (strconv_FormatInt_13.calls a0_0 10 t103 _ (sctab_below ht (by repeat (first | (with_reducible first | exact HB.out | apply below_alloc | apply pw_below_drewN | apply below_drew1) | exact HB.out))) A4.out).mono ?_); rintro e w13 ⟨rfl, hb⟩; refine ⟨_, rfl, ?_⟩; replace BK101 := bkb_ BK101 hb rfl; replace HB := hbs_ HB hb rfl rfl rfl rfl; (try clear hb); have hcz14_0 := bc_ BK101 0 rfl; have hcz14_1 := bc_ BK101 1 rfl; have hfz14_0 := blk_frozen BK101.out 0; have hfz14_1 := blk_frozen BK101.out 1) | ((with_reducible refine gate_callee (f := 13) rfl ?_); refine glq_ (some 20) Tryd.func13 #[.int .i64 a0_1, .int .i64 10] ?_; (with_reducible refine (strconv_FormatInt_13.calls a0_1 10 t104 _ (sctab_below ht (by repeat (first | (with_reducible first | exact HB.out | apply below_alloc | apply pw_below_drewN | apply below_drew1) | exact HB.out))) A6.out).mono ?_); rintro e w15 ⟨rfl, hb⟩; refine ⟨_, rfl, ?_⟩; replace BK101 := bkb_ BK101 hb rfl; replace HB := hbs_ HB hb rfl rfl rfl rfl; (try clear hb)))
    go_ret2
    exact ⟨by first | rfl | (simp [errW_none, errW_some] <;> rfl) | (simp [*, errW_none, errW_some] <;> rfl), by repeat (first | (with_reducible first | exact HB.out | apply below_alloc | apply pw_below_drewN | apply below_drew1 | refine below_set ?_ GE101.out) | exact HB.out)⟩
  rw [if_neg c5] at H
  have c5b0 : decide (1 < a0_1) = false := decide_eq_false c5
  clear c5
  simp only [Option.some.injEq, Prod.mk.injEq] at H
  obtain ⟨rfl, rfl⟩ := H
  go_enter Tryd.func6, Tryd.ntmps6
  go_wp2_with (first | ((with_reducible refine gate_dst (N := 1) rfl ?_); refine bxq_ 1 #[.int .i64 a0_0, .int .i64 a0_1] 23 ?_; intro gb101 hg w16 hbox hb; have BK101 := Aside0.mk (hbox); have GW101 := gwq_ HB hg rfl; have GE101 := GW101; replace HB := hbs_ HB hb rfl rfl rfl rfl; clear hb hbox hg; have hcz17_0 := bc_ BK101 0 rfl; have hcz17_1 := bc_ BK101 1 rfl; have hfz17_0 := blk_frozen BK101.out 0; have hfz17_1 := blk_frozen BK101.out 1) | ((with_reducible refine gate_callee (f := 12) rfl ?_); refine glq_ (some 7) Tryd.func12 #[.agg #[.int .i64 a0_0, .int .i64 a0_1]] ?_; (with_reducible refine (frac_Check.calls k a0_0 a0_1 t102 _ A2.out).mono ?_); rintro e w18 ⟨rfl, hb⟩; refine ⟨_, rfl, ?_⟩; replace BK101 := bkb_ BK101 hb rfl; replace HB := hbs_ HB hb rfl rfl rfl rfl; (try clear hb); have hcz19_0 := bc_ BK101 0 rfl; have hcz19_1 := bc_ BK101 1 rfl; have hfz19_0 := blk_frozen BK101.out 0; have hfz19_1 := blk_frozen BK101.out 1) | ((with_reducible refine gate_callee (f := 13) rfl ?_); refine glq_ (some 13) Tryd.func13 #[.int .i64 a0_0, .int .i64 10] ?_; (with_reducible refine (strconv_FormatInt_13.calls a0_0 10 t103 _ (sctab_below ht (by repeat (first | (with_reducible first | exact HB.out | apply below_alloc | apply pw_below_drewN | apply below_drew1) | exact HB.out))) A4.out).mono ?_); rintro e w20 ⟨rfl, hb⟩; refine ⟨_, rfl, ?_⟩; replace BK101 := bkb_ BK101 hb rfl; replace HB := hbs_ HB hb rfl rfl rfl rfl; (try clear hb); have hcz21_0 := bc_ BK101 0 rfl; have hcz21_1 := bc_ BK101 1 rfl; have hfz21_0 := blk_frozen BK101.out 0; have hfz21_1 := blk_frozen BK101.out 1))
  go_ret2
  exact ⟨by first | rfl | (simp [errW_none, errW_some] <;> rfl) | (simp [*, errW_none, errW_some] <;> rfl), by repeat (first | (with_reducible first | exact HB.out | apply below_alloc | apply pw_below_drewN | apply below_drew1 | refine below_set ?_ GE101.out) | exact HB.out)⟩

/-! ### frac_whole: function 16 -/
def frac_whole.j0 : Nat → ByteArray → Bool → Option (Int × Int)
 | 0, _, _ => none
 | k + 1, x0, x22 => if x22 = true then (some (0, 5)) else ((strconv_ParseInt_31.f x0 10 64).bind fun bt103 => (if bt103.2.isNone = true then (if bt103.1 > 1152921504606846976 then (some (0, 2)) else (some (bt103.1, 0))) else (some (0, 2))))
def frac_whole.f (k : Nat) (a0 : ByteArray) : Option (Int × Int) := if a0.toList = ([] : List UInt8) then (frac_whole.j0 k a0 true) else (if (a0.size : Int) > 1 then (if 0 < (a0.size : Int) then (if (bt a0 0) = 48 then (frac_whole.j0 k a0 true) else ((strings_Trim.f a0 (⟨#[48, 49, 50, 51, 52, 53, 54, 55, 56, 57]⟩ : ByteArray)).bind fun t101 => (frac_whole.j0 k a0 (t101.toList != ([] : List UInt8))))) else (none)) else ((strings_Trim.f a0 (⟨#[48, 49, 50, 51, 52, 53, 54, 55, 56, 57]⟩ : ByteArray)).bind fun t102 => (frac_whole.j0 k a0 (t102.toList != ([] : List UInt8)))))
theorem frac_whole.mono_l : ∀ k, (∀ y0 y1, LeO (frac_whole.j0 k y0 y1) (frac_whole.j0 (k + 1) y0 y1))
 | 0 => fun _ _ r h => by simp [frac_whole.j0] at h
 | k + 1 => by
  have ih0 := frac_whole.mono_l k
  · intro y0 y1
    unfold frac_whole.j0
    repeat' first
    | (with_reducible exact ih0 _ _)
    | (with_reducible exact LeO.refl _)
    | (with_reducible exact LeO.none _)
    | (with_reducible refine LeO.ite ?_ ?_)
    | (with_reducible refine LeO.bind ?_ (fun _ => ?_))
    | exact ih0 _ _
    | exact LeO.none _
    | refine LeO.ite ?_ ?_
    | refine LeO.bind ?_ (fun _ => ?_)
theorem frac_whole.mono : ∀ a0 k, LeO (frac_whole.f k a0) (frac_whole.f (k + 1) a0) := by
 intro a0 k
 have ih0 := frac_whole.mono_l k
 unfold frac_whole.f
 repeat' first
  | (with_reducible exact ih0 _ _)
  | (with_reducible exact LeO.refl _)
  | (with_reducible exact LeO.none _)
  | (with_reducible refine LeO.ite ?_ ?_)
  | (with_reducible refine LeO.bind ?_ (fun _ => ?_))
  | exact ih0 _ _
  | exact LeO.none _
  | refine LeO.ite ?_ ?_
  | refine LeO.bind ?_ (fun _ => ?_)
set_option maxHeartbeats 8000000 in
set_option maxRecDepth 100000 in
theorem frac_whole.calls (k : Nat) (a0 : ByteArray) (r1 : Int) (r2 : Int) (w : World) (h : frac_whole.f k a0 = some (r1, r2)) :
 Calls Tryd.prog 16 #[.string a0] w fun e w' => e = .returned (.tuple #[.int .i64 r1, .int .i64 r2]) ∧ Below w.heap.size w w' := by
  have hu63 := Tryd.underlying63
  have hu104 := Tryd.underlying104
  have HB := Aside0.mk (Below.refl w.heap.size w)
  have H : (if a0.toList = ([] : List UInt8) then (frac_whole.j0 k a0 true) else (if (a0.size : Int) > 1 then (if 0 < (a0.size : Int) then (if (bt a0 0) = 48 then (frac_whole.j0 k a0 true) else ((strings_Trim.f a0 (⟨#[48, 49, 50, 51, 52, 53, 54, 55, 56, 57]⟩ : ByteArray)).bind fun t101 => (frac_whole.j0 k a0 (t101.toList != ([] : List UInt8))))) else (none)) else ((strings_Trim.f a0 (⟨#[48, 49, 50, 51, 52, 53, 54, 55, 56, 57]⟩ : ByteArray)).bind fun t102 => (frac_whole.j0 k a0 (t102.toList != ([] : List UInt8)))))) = some (r1, r2) := h
  clear h
  have HC2 := Aside0.mk H
  clear H
  go_enter Tryd.func16, Tryd.ntmps16
  go_upto_region 1 with (fail)
  go_cut [22] (fun v22 wc => ∃ (kq : Nat) (x22_1 : Bool), v22 = .bool x22_1 ∧ Aside0 (frac_whole.j0 kq a0 x22_1 = some (r1, r2)) ∧ Aside0 (kq ≤ k) ∧ Aside0 (Below w.heap.size w wc))
  case first =>
   have H := HC2.out
   clear HC2
   by_cases c3 : a0.toList = ([] : List UInt8)
   · rw [if_pos c3] at H
     have c3b0 : (a0.toList == ([] : List UInt8)) = true := beq_iff_eq.mpr c3
     have c3b1 : (a0.toList != ([] : List UInt8)) = false := bne_eq_false_iff_eq.mpr c3
     clear c3
     (first | rw [c3b0] | (simp only [i64_w, i32_w]; rw [c3b0]) | skip)
     have H' := Aside0.mk H
     clear H
     go_wp2
     go_meet
     case rel => exact ⟨_, (true), (by first | rfl | (simp; done) | (simp [*]; done)), H', ⟨by first | omega | exact Nat.le_refl _⟩, ⟨by repeat (first | (with_reducible first | exact HB.out | apply below_alloc | apply pw_below_drewN | apply below_drew1) | exact HB.out)⟩⟩
   rw [if_neg c3] at H
   have c3b0 : (a0.toList == ([] : List UInt8)) = false := beq_eq_false_iff_ne.mpr c3
   have c3b1 : (a0.toList != ([] : List UInt8)) = true := bne_iff_ne.mpr c3
   (first | rw [c3b0] | (simp only [i64_w, i32_w]; rw [c3b0]) | skip)
   by_cases c4 : (a0.size : Int) > 1
   rotate_left
   · rw [if_neg c4] at H
     have c4b0 : decide (1 < (a0.size : Int)) = false := decide_eq_false c4
     have c4b1 : decide (1 < a0.size) = false := decide_eq_false (by omega)
     clear c4
     replace H := Option.bind_eq_some_iff.mp H
     obtain ⟨t102, A100, H⟩ := H
     try dsimp -simprocs only at H
     have A10 := Aside0.mk A100
     clear A100
     have H' := Aside0.mk H
     clear H
     go_wp2_with (first | (go_at_call 30; (with_reducible refine (strings_Trim.calls a0 (⟨#[48, 49, 50, 51, 52, 53, 54, 55, 56, 57]⟩ : ByteArray) t102 _ A10.out).mono ?_); rintro e w11 ⟨rfl, hb⟩; replace HB := hbs_ HB hb rfl rfl rfl rfl; (try clear hb)))
     go_meet
     case rel => exact ⟨_, ((t102.toList != ([] : List UInt8))), (by cases t102.toList <;> rfl), H', ⟨by first | omega | exact Nat.le_refl _⟩, ⟨by repeat (first | (with_reducible first | exact HB.out | apply below_alloc | apply pw_below_drewN | apply below_drew1) | exact HB.out)⟩⟩
   rw [if_pos c4] at H
   have c4b0 : decide (1 < (a0.size : Int)) = true := decide_eq_true c4
   have c4b1 : decide (1 < a0.size) = true := decide_eq_true (by omega)
   clear c4
   by_cases c5 : 0 < (a0.size : Int)
   rotate_left
   · rw [if_neg c5] at H
     exact absurd H (by simp)
   rw [if_pos c5] at H
   have c5b0 : decide (0 < (a0.size : Int)) = true := decide_eq_true c5
   have c5b1 : decide (0 < a0.size) = true := decide_eq_true (by omega)
   clear c5
   by_cases c7 : (bt a0 0) = 48
   · rw [if_pos c7] at H
     have c7b0 : ((bt a0 0) == 48) = true := beq_iff_eq.mpr c7
     have c7b1 : ((bt a0 0) != 48) = false := bne_eq_false_iff_eq.mpr c7
     clear c7
     have H' := Aside0.mk H
     clear H
     have p6 : 0 ≤ (0 : Int) := (by omega)
     have q6 : 0 < a0.size := (by have : (0 : Int) < (a0.size : Int) := of_decide_eq_true (by first | (with_reducible assumption) | assumption); omega)
     have hx6 : ∀ h : 0 < a0.size, ((a0[0]'h).toNat : Int) = bt a0 0 := bt_at a0 0
     clear p6
     have qi6 : (0 < (a0.size : Int)) = True := eq_true (of_decide_eq_true (by first | (with_reducible assumption) | assumption))
     replace q6 := eq_true q6
     go_wp2
     go_meet
     case rel => exact ⟨_, (true), (by first | rfl | (simp; done) | (simp [*]; done)), H', ⟨by first | omega | exact Nat.le_refl _⟩, ⟨by repeat (first | (with_reducible first | exact HB.out | apply below_alloc | apply pw_below_drewN | apply below_drew1) | exact HB.out)⟩⟩
   rw [if_neg c7] at H
   have c7b0 : ((bt a0 0) == 48) = false := beq_eq_false_iff_ne.mpr c7
   have c7b1 : ((bt a0 0) != 48) = true := bne_iff_ne.mpr c7
   replace H := Option.bind_eq_some_iff.mp H
   obtain ⟨t101, A80, H⟩ := H
   try dsimp -simprocs only at H
   have A8 := Aside0.mk A80
   clear A80
   have H' := Aside0.mk H
   clear H
   have p6 : 0 ≤ (0 : Int) := (by omega)
   have q6 : 0 < a0.size := (by have : (0 : Int) < (a0.size : Int) := of_decide_eq_true (by first | (with_reducible assumption) | assumption); omega)
   have hx6 : ∀ h : 0 < a0.size, ((a0[0]'h).toNat : Int) = bt a0 0 := bt_at a0 0
   clear p6
   have qi6 : (0 < (a0.size : Int)) = True := eq_true (of_decide_eq_true (by first | (with_reducible assumption) | assumption))
   replace q6 := eq_true q6
   go_wp2_with (first | (go_at_call 30; (with_reducible refine (strings_Trim.calls a0 (⟨#[48, 49, 50, 51, 52, 53, 54, 55, 56, 57]⟩ : ByteArray) t101 _ A8.out).mono ?_); rintro e w9 ⟨rfl, hb⟩; replace HB := hbs_ HB hb rfl rfl rfl rfl; (try clear hb)))
   go_meet
   case rel => exact ⟨_, ((t101.toList != ([] : List UInt8))), (by cases t101.toList <;> rfl), H', ⟨by first | omega | exact Nat.le_refl _⟩, ⟨by repeat (first | (with_reducible first | exact HB.out | apply below_alloc | apply pw_below_drewN | apply below_drew1) | exact HB.out)⟩⟩
  case rest =>
   clear HC2
   obtain ⟨kq, x22_1, rfl, HA, HJ1, HB⟩ := hcut
   cases kq with
   | zero => exact absurd HA.out (by simp [frac_whole.j0])
   | succ kj1 =>
    have H := HA.out
    clear HA
    simp only [frac_whole.j0] at H
    by_cases c12 : x22_1 = true
    · subst c12
      rw [if_pos rfl] at H
      simp only [Option.some.injEq, Prod.mk.injEq] at H
      obtain ⟨rfl, rfl⟩ := H
      go_wp2
      go_ret2
      exact ⟨by first | rfl | (simp [errW_none, errW_some] <;> rfl) | (simp [*, errW_none, errW_some] <;> rfl), by repeat (first | (with_reducible first | exact HB.out | apply below_alloc | apply pw_below_drewN | apply below_drew1) | exact HB.out)⟩
    replace c12 := Bool.eq_false_iff.mpr c12
    subst c12
    rw [if_neg (show ¬ (false = true) by decide)] at H
    replace H := Option.bind_eq_some_iff.mp H
    obtain ⟨⟨t103, t104⟩, A130, H⟩ := H
    try dsimp -simprocs only at H
    have A13 := Aside0.mk A130
    clear A130
    rcases t104 with _ | q105
    · have H1 : (if t103 > 1152921504606846976 then (some (0, 2)) else (some (t103, 0))) = some (r1, r2) := by rw [if_pos (show (none : Option Int).isNone = true by rfl)] at H; exact H
      clear H
      have H := H1
      clear H1
      try simp only [errW_none, errW_some]
      by_cases c14 : t103 > 1152921504606846976
      · rw [if_pos c14] at H
        have c14b0 : decide (1152921504606846976 < t103) = true := decide_eq_true c14
        clear c14
        simp only [Option.some.injEq, Prod.mk.injEq] at H
        obtain ⟨rfl, rfl⟩ := H
        go_wp2_with (first | ((with_reducible refine gate_callee (f := 31) rfl ?_); refine glq_ (some 25) Tryd.func31 #[.string a0, .int .i64 10, .int .i64 64] ?_; (with_reducible refine (strconv_ParseInt_31.calls a0 10 64 t103 none _ A13.out).mono ?_); rintro e w15 ⟨rfl, hb⟩; refine ⟨_, rfl, ?_⟩; replace HB := hbs_ HB hb rfl rfl rfl rfl; (try clear hb); (try simp only [errW_none, errW_some])))
        go_ret2
        exact ⟨by first | rfl | (simp [errW_none, errW_some] <;> rfl) | (simp [*, errW_none, errW_some] <;> rfl), by repeat (first | (with_reducible first | exact HB.out | apply below_alloc | apply pw_below_drewN | apply below_drew1) | exact HB.out)⟩
      rw [if_neg c14] at H
      have c14b0 : decide (1152921504606846976 < t103) = false := decide_eq_false c14
      clear c14
      simp only [Option.some.injEq, Prod.mk.injEq] at H
      obtain ⟨rfl, rfl⟩ := H
      go_wp2_with (first | ((with_reducible refine gate_callee (f := 31) rfl ?_); refine glq_ (some 25) Tryd.func31 #[.string a0, .int .i64 10, .int .i64 64] ?_; (with_reducible refine (strconv_ParseInt_31.calls a0 10 64 t103 none _ A13.out).mono ?_); rintro e w16 ⟨rfl, hb⟩; refine ⟨_, rfl, ?_⟩; replace HB := hbs_ HB hb rfl rfl rfl rfl; (try clear hb); (try simp only [errW_none, errW_some])))
      go_ret2
      exact ⟨by first | rfl | (simp [errW_none, errW_some] <;> rfl) | (simp [*, errW_none, errW_some] <;> rfl), by repeat (first | (with_reducible first | exact HB.out | apply below_alloc | apply pw_below_drewN | apply below_drew1) | exact HB.out)⟩
    rw [if_neg (show ¬ (some q105).isNone = true by simp)] at H
    try simp only [errW_none, errW_some]
    simp only [Option.some.injEq, Prod.mk.injEq] at H
    obtain ⟨rfl, rfl⟩ := H
    go_wp2_with (first | ((with_reducible refine gate_callee (f := 31) rfl ?_); refine glq_ (some 25) Tryd.func31 #[.string a0, .int .i64 10, .int .i64 64] ?_; (with_reducible refine (strconv_ParseInt_31.calls a0 10 64 t103 (some q105) _ A13.out).mono ?_); rintro e w17 ⟨rfl, hb⟩; refine ⟨_, rfl, ?_⟩; replace HB := hbs_ HB hb rfl rfl rfl rfl; (try clear hb); (try simp only [errW_none, errW_some])))
    go_ret2
    exact ⟨by first | rfl | (simp [errW_none, errW_some] <;> rfl) | (simp [*, errW_none, errW_some] <;> rfl), by repeat (first | (with_reducible first | exact HB.out | apply below_alloc | apply pw_below_drewN | apply below_drew1) | exact HB.out)⟩

end Go.Proofs.YtoplbhohaaielaaDoor.Q
