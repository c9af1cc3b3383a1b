/- Contracts, as in the first text; no condition. -/
import Derived.Test.YtjgikgbolacikaaKHorizonAimedQx0
import Derived.Test.YtjgikgbolacikaaKHorizonAimedQx8
import Derived.Test.YtjgikgbolacikaaKHorizonAimedQx16
namespace Go.Proofs.Ytjgikgbolacikaa.Q
open Go.RowKit Go.Proofs.YtjgikgbolacikaaW.PrintWords Go.Proofs.YtjgikgbolacikaaW.PrintLast Go.Proofs.YtjgikgbolacikaaW.PrintMore
attribute [local go_sem] max2_int min2_int max_two min_two max_three min_three max_four min_four
set_option linter.unusedVariables false
set_option linter.unusedSimpArgs false

def trig_wave__trig_Cos.j0 : Nat → Int → Int → Int → Int → Int → Bool → Option (Int × Int × Bool)
 | 0, _, _, _, _, _, _ => none
 | k + 1, x2, x9, x10, x102000, x102001, x102002 => (trig_meets.f x102000 x102001 x102002 (wrap64 (x2 + 2147483648))).bind fun t112 => (if t112 = true then ((bound_Of_api_Fix.f k (-1073741824) x10).bind fun bt113 => (some (bt113.1, bt113.2.1, bt113.2.2))) else ((bound_Of_api_Fix.f k x9 x10).bind fun bt116 => (some (bt116.1, bt116.2.1, bt116.2.2))))
def trig_wave__trig_Cos.f (k : Nat) (a0_0 : Int) (a0_1 : Int) (a0_2 : Bool) (a1 : Int) (a2 : Int) : Option (Int × Int × Bool) := (bound_Norm_api_Arc.f k a0_0 a0_1 a0_2).bind fun bt103 => (if bt103.2.2 = true then ((bound_None_api_Fix.f).bind fun bt106 => (some (bt106.1, bt106.2.1, bt106.2.2))) else ((trig_Cos.f k bt103.1).bind fun t109 => ((trig_Cos.f k bt103.2.1).bind fun t110 => ((trig_meets.f bt103.1 bt103.2.1 bt103.2.2 a2).bind fun t111 => (if t111 = true then (trig_wave__trig_Cos.j0 k a2 (mx (-1073741824) (wrap64 ((mn t109 t110) - 1))) 1073741824 bt103.1 bt103.2.1 bt103.2.2) else (trig_wave__trig_Cos.j0 k a2 (mx (-1073741824) (wrap64 ((mn t109 t110) - 1))) (mn 1073741824 (wrap64 ((mx t109 t110) + 1))) bt103.1 bt103.2.1 bt103.2.2))))))
theorem trig_wave__trig_Cos.mono_l : ∀ k, (∀ y0 y1 y2 y3 y4 y5, LeO (trig_wave__trig_Cos.j0 k y0 y1 y2 y3 y4 y5) (trig_wave__trig_Cos.j0 (k + 1) y0 y1 y2 y3 y4 y5))
 | 0 => fun _ _ _ _ _ _ r h => by simp [trig_wave__trig_Cos.j0] at h
 | k + 1 => by
  have ih0 := trig_wave__trig_Cos.mono_l k
  · intro y0 y1 y2 y3 y4 y5
    unfold trig_wave__trig_Cos.j0
    repeat' first
    | (with_reducible exact ih0 _ _ _ _ _ _)
    | (with_reducible exact bound_Norm_api_Arc.mono _ _ _ _)
    | (with_reducible exact bound_Of_api_Fix.mono _ _ _)
    | (with_reducible exact trig_Cos.mono _ _)
    | (with_reducible exact LeO.refl _)
    | (with_reducible exact LeO.none _)
    | (with_reducible refine LeO.ite ?_ ?_)
    | (with_reducible refine LeO.bind ?_ (fun _ => ?_))
theorem trig_wave__trig_Cos.mono : ∀ a0 a1 a2 a3 a4 k, LeO (trig_wave__trig_Cos.f k a0 a1 a2 a3 a4) (trig_wave__trig_Cos.f (k + 1) a0 a1 a2 a3 a4) := by
 intro a0 a1 a2 a3 a4 k
 have ih0 := trig_wave__trig_Cos.mono_l k
 unfold trig_wave__trig_Cos.f
 repeat' first
  | (with_reducible exact ih0 _ _ _ _ _ _)
  | (with_reducible exact bound_Norm_api_Arc.mono _ _ _ _)
  | (with_reducible exact bound_Of_api_Fix.mono _ _ _)
  | (with_reducible exact trig_Cos.mono _ _)
  | (with_reducible exact LeO.refl _)
  | (with_reducible exact LeO.none _)
  | (with_reducible refine LeO.ite ?_ ?_)
  | (with_reducible refine LeO.bind ?_ (fun _ => ?_))
def trig_wave__trig_Cos.T4 : Bool × List (List Nat × List Nat) := (true, [([], []), ([], []), ([1], [1]), ([0, 2], [0, 2]), ([], []), ([], []), ([5], [5]), ([4, 6, 3], [4, 6]), ([3, 7, 0, 1, 2, 3], [3]), ([7, 8, 0, 1, 2, 3, 4, 5, 6, 7, 8], [7])])
def trig_wave__trig_Cos.B4 : List Nat := [0, 0, 2, 7, 0, 0, 32, 127, 255, 511]
theorem trig_wave__trig_Cos.tab4 : rtab .any (opsOf Try.f44 4) = trig_wave__trig_Cos.T4 := by kernel_rfl
theorem trig_wave__trig_Cos.bits4 : waitsOk trig_wave__trig_Cos.T4.2 trig_wave__trig_Cos.B4 = true := by kernel_rfl
set_option maxHeartbeats 8000000 in
set_option maxRecDepth 100000 in
theorem trig_wave__trig_Cos.calls (k : Nat) (a0_0 : Int) (a0_1 : Int) (a0_2 : Bool) (a1 : Int) (a2 : Int) (r1 : Int) (r2 : Int) (r3 : Bool) (w : World) (h : trig_wave__trig_Cos.f k a0_0 a0_1 a0_2 a1 a2 = some (r1, r2, r3)) :
 Calls Try.prog 44 #[.agg #[.int .i64 a0_0, .int .i64 a0_1, .bool a0_2], .func (.func 20) #[] #[], .int .i64 a2] w fun e w' => e = .returned (.agg #[.int .i64 r1, .int .i64 r2, .bool r3]) ∧ Below w.heap.size w w' := by
  have hu44 := Try.underlying44
  have hu41 := Try.underlying41
  have HB := Aside0.mk (Below.refl w.heap.size w)
  have H : ((bound_Norm_api_Arc.f k a0_0 a0_1 a0_2).bind fun bt103 => (if bt103.2.2 = true then ((bound_None_api_Fix.f).bind fun bt106 => (some (bt106.1, bt106.2.1, bt106.2.2))) else ((trig_Cos.f k bt103.1).bind fun t109 => ((trig_Cos.f k bt103.2.1).bind fun t110 => ((trig_meets.f bt103.1 bt103.2.1 bt103.2.2 a2).bind fun t111 => (if t111 = true then (trig_wave__trig_Cos.j0 k a2 (mx (-1073741824) (wrap64 ((mn t109 t110) - 1))) 1073741824 bt103.1 bt103.2.1 bt103.2.2) else (trig_wave__trig_Cos.j0 k a2 (mx (-1073741824) (wrap64 ((mn t109 t110) - 1))) (mn 1073741824 (wrap64 ((mx t109 t110) + 1))) bt103.1 bt103.2.1 bt103.2.2))))))) = some (r1, r2, r3) := h
  clear h
  replace H := bso_ H
  obtain ⟨⟨t103, t104, t105⟩, A40, H⟩ := H
  try dsimp -simprocs only at H
  have A4 := Aside0.mk A40
  clear A40
  by_cases c5 : t105 = true
  · subst c5
    rw [if_pos rfl] at H
    replace H := bso_ H
    obtain ⟨⟨t106, t107, t108⟩, A60, H⟩ := H
    try dsimp -simprocs only at H
    have A6 := Aside0.mk A60
    clear A60
    simp only [Option.some.injEq, Prod.mk.injEq] at H
    obtain ⟨rfl, rfl, rfl⟩ := H
    go_enter Try.func44, Try.ntmps44
    go_wp2_with (first | ((with_reducible refine gate_dst (N := 3) rfl ?_); refine bxq_ 3 #[.int .i64 a0_0, .int .i64 a0_1, .bool a0_2] 44 ?_; intro gb101 hg w7 hbox hb; have BK101 := Aside0.mk (hbox); have GW101 := gwq_ HB hg rfl; have GE101 := GW101; replace HB := hbs_ HB hb rfl rfl rfl rfl; clear hb hbox hg) | ((with_reducible refine gate_dst (N := 6) rfl ?_); refine bxq_ 6 #[.int .i64 0, .int .i64 0, .bool false] 41 ?_; intro gb102 hg w8 hbox hb; have BK102 := Aside0.mk (hbox); have GW102 := gwq_ HB hg rfl; have GE102 := GW102; have NB101_102 := nbl_ BK101 hg rfl; have NB102_101 := nbg_ BK101 hg rfl; replace BK101 := bkb_ BK101 hb rfl; replace HB := hbs_ HB hb rfl rfl rfl rfl; clear hb hbox hg; have hnb9 := NB101_102.out; have hnc9 := NB102_101.out; have hcz10_0 := bc_ BK101 0 rfl; have hcz10_1 := bc_ BK101 1 rfl; have hcz10_2 := bc_ BK101 2 rfl; have hfz10 := blk_frozen BK101.out) | ((with_reducible refine gate_callee (f := 56) rfl ?_); refine glq_ (some 12) Try.func56 #[.agg #[.int .i64 a0_0, .int .i64 a0_1, .bool a0_2]] ?_; (with_reducible refine (bound_Norm_api_Arc.calls k a0_0 a0_1 a0_2 t103 t104 true _ A4.out).mono ?_); rintro e w11 ⟨rfl, hb⟩; refine ⟨_, rfl, ?_⟩; replace BK101 := bkb_ BK101 hb rfl; replace BK102 := bkb_ BK102 hb rfl; replace HB := hbs_ HB hb rfl rfl rfl rfl; (try clear hb); have hcz12_0 := bc_ BK101 0 rfl; have hcz12_1 := bc_ BK101 1 rfl; have hcz12_2 := bc_ BK101 2 rfl; have hfz12 := blk_frozen BK101.out) | ((with_reducible refine gate_callee (f := 24) rfl ?_); refine glq_ (some 15) Try.func24 #[] ?_; (with_reducible refine (bound_None_api_Fix.calls  t106 t107 t108 _ A6.out).mono ?_); rintro e w13 ⟨rfl, hb⟩; refine ⟨_, rfl, ?_⟩; replace BK101 := Aside0.mk (blk_below (g := gb101) (o := .cells #[.int .i64 t103, .int .i64 t104, .bool true] 44 (0, 0)) (by exact blk_put (blk_put (blk_put BK101.out 0 _ rfl) 1 _ rfl) 2 _ rfl) hb); replace BK102 := Aside0.mk (blk_below (g := gb102) (o := .cells #[.int .i64 0, .int .i64 0, .bool false] 41 (0, 0)) (by exact blk_far (blk_far (blk_far BK102.out NB102_101.out _) NB102_101.out _) NB102_101.out _) hb); replace HB := Aside0.mk (below_step (by repeat (first | exact HB.out | apply below_alloc | refine below_set ?_ GE101.out | refine below_set ?_ GE102.out)) hb); (try clear hb); have hcz14_0 := bc_ BK102 0 rfl; have hcz14_1 := bc_ BK102 1 rfl; have hcz14_2 := bc_ BK102 2 rfl; have hfz14 := blk_frozen BK102.out))
    refine bodyPost_ret (results_cell_row rfl _ _ gb102 41 #[.int .i64 t106, .int .i64 t107, .bool t108] (0, 0) _ rfl (by exact blk_put (blk_put (blk_put BK102.out 0 _ rfl) 1 _ rfl) 2 _ rfl) Try.underlying41 rfl (by kernel_rfl)) rfl ?_
    exact ⟨by first | rfl | (simp [errW_none, errW_some] <;> rfl), by repeat (first | exact HB.out | apply below_alloc | refine below_set ?_ GE101.out | refine below_set ?_ GE102.out)⟩
  replace c5 := Bool.eq_false_iff.mpr c5
  subst c5
  rw [if_neg (show ¬ (false = true) by decide)] at H
  replace H := bso_ H
  obtain ⟨t109, A150, H⟩ := H
  try dsimp -simprocs only at H
  have A15 := Aside0.mk A150
  clear A150
  replace H := bso_ H
  obtain ⟨t110, A160, H⟩ := H
  try dsimp -simprocs only at H
  have A16 := Aside0.mk A160
  clear A160
  obtain ⟨ji17, hji17⟩ : ∃ j_ : Int, (mn t109 t110) = j_ := ⟨_, rfl⟩
  replace H : ((trig_meets.f t103 t104 false a2).bind fun t111 => (if t111 = true then (trig_wave__trig_Cos.j0 k a2 (mx (-1073741824) (wrap64 ((ji17) - 1))) 1073741824 t103 t104 false) else (trig_wave__trig_Cos.j0 k a2 (mx (-1073741824) (wrap64 ((ji17) - 1))) (mn 1073741824 (wrap64 ((mx t109 t110) + 1))) t103 t104 false))) = some (r1, r2, r3) := by first | (rw [hji17] at H; exact H) | (simp only [hji17] at H ⊢; exact H)
  (try rw [hji17] at A4)
  (try rw [hji17] at A15)
  (try rw [hji17] at A16)
  have hji17_ : (if t110 < t109 then t110 else t109) = ji17 := hji17
  obtain ⟨ji18, hji18⟩ : ∃ j_ : Int, (mx (-1073741824) (wrap64 ((ji17) - 1))) = j_ := ⟨_, rfl⟩
  replace H : ((trig_meets.f t103 t104 false a2).bind fun t111 => (if t111 = true then (trig_wave__trig_Cos.j0 k a2 ji18 1073741824 t103 t104 false) else (trig_wave__trig_Cos.j0 k a2 ji18 (mn 1073741824 (wrap64 ((mx t109 t110) + 1))) t103 t104 false))) = some (r1, r2, r3) := by first | (rw [hji18] at H; exact H) | (simp only [hji18] at H ⊢; exact H)
  (try rw [hji18] at A4)
  (try rw [hji18] at A15)
  (try rw [hji18] at A16)
  have hji18_ : (if (-1073741824) < (wrap64 ((ji17) - 1)) then (wrap64 ((ji17) - 1)) else (-1073741824)) = ji18 := hji18
  obtain ⟨ji19, hji19⟩ : ∃ j_ : Int, (mx t109 t110) = j_ := ⟨_, rfl⟩
  replace H : ((trig_meets.f t103 t104 false a2).bind fun t111 => (if t111 = true then (trig_wave__trig_Cos.j0 k a2 ji18 1073741824 t103 t104 false) else (trig_wave__trig_Cos.j0 k a2 ji18 (mn 1073741824 (wrap64 ((ji19) + 1))) t103 t104 false))) = some (r1, r2, r3) := by first | (rw [hji19] at H; exact H) | (simp only [hji19] at H ⊢; exact H)
  (try rw [hji19] at A4)
  (try rw [hji19] at A15)
  (try rw [hji19] at A16)
  have hji19_ : (if t109 < t110 then t110 else t109) = ji19 := hji19
  obtain ⟨ji20, hji20⟩ : ∃ j_ : Int, (mn 1073741824 (wrap64 ((ji19) + 1))) = j_ := ⟨_, rfl⟩
  replace H : ((trig_meets.f t103 t104 false a2).bind fun t111 => (if t111 = true then (trig_wave__trig_Cos.j0 k a2 ji18 1073741824 t103 t104 false) else (trig_wave__trig_Cos.j0 k a2 ji18 ji20 t103 t104 false))) = some (r1, r2, r3) := by first | (rw [hji20] at H; exact H) | (simp only [hji20] at H ⊢; exact H)
  (try rw [hji20] at A4)
  (try rw [hji20] at A15)
  (try rw [hji20] at A16)
  have hji20_ : (if (wrap64 ((ji19) + 1)) < 1073741824 then (wrap64 ((ji19) + 1)) else 1073741824) = ji20 := hji20
  replace H := bso_ H
  obtain ⟨t111, A210, H⟩ := H
  try dsimp -simprocs only at H
  have A21 := Aside0.mk A210
  clear A210
  have HC22 := Aside0.mk H
  clear H
  go_enter Try.func44, Try.ntmps44
  try go_wp2_with (first | ((with_reducible refine gate_dst (N := 3) rfl ?_); refine bxq_ 3 #[.int .i64 a0_0, .int .i64 a0_1, .bool a0_2] 44 ?_; intro gb101 hg w23 hbox hb; have BK101 := Aside0.mk (hbox); have GW101 := gwq_ HB hg rfl; have GE101 := GW101; replace HB := hbs_ HB hb rfl rfl rfl rfl; clear hb hbox hg) | ((with_reducible refine gate_dst (N := 6) rfl ?_); refine bxq_ 6 #[.int .i64 0, .int .i64 0, .bool false] 41 ?_; intro gb102 hg w24 hbox hb; have BK102 := Aside0.mk (hbox); have GW102 := gwq_ HB hg rfl; have GE102 := GW102; have NB101_102 := nbl_ BK101 hg rfl; have NB102_101 := nbg_ BK101 hg rfl; replace BK101 := bkb_ BK101 hb rfl; replace HB := hbs_ HB hb rfl rfl rfl rfl; clear hb hbox hg; have hnb25 := NB101_102.out; have hnc25 := NB102_101.out; have hcz26_0 := bc_ BK101 0 rfl; have hcz26_1 := bc_ BK101 1 rfl; have hcz26_2 := bc_ BK101 2 rfl; have hfz26 := blk_frozen BK101.out) | ((with_reducible refine gate_callee (f := 56) rfl ?_); refine glq_ (some 12) Try.func56 #[.agg #[.int .i64 a0_0, .int .i64 a0_1, .bool a0_2]] ?_; (with_reducible refine (bound_Norm_api_Arc.calls k a0_0 a0_1 a0_2 t103 t104 false _ A4.out).mono ?_); rintro e w27 ⟨rfl, hb⟩; refine ⟨_, rfl, ?_⟩; replace BK101 := bkb_ BK101 hb rfl; replace BK102 := bkb_ BK102 hb rfl; replace HB := hbs_ HB hb rfl rfl rfl rfl; (try clear hb); have hcz28_0 := bc_ BK101 0 rfl; have hcz28_1 := bc_ BK101 1 rfl; have hcz28_2 := bc_ BK101 2 rfl; have hfz28 := blk_frozen BK101.out))
  have n0_ : Aside0 ((((w27.setCell ⟨gb101, 0, none⟩ (.int .i64 t103)).setCell ⟨gb101, 1, none⟩ (.int .i64 t104)).setCell ⟨gb101, 2, none⟩ (.bool false)).heap[gb101]? = some (.cells #[.int .i64 t103, .int .i64 t104, .bool false] 44 (0, 0))) := ⟨by refine blk_put (cs := #[.int .i64 t103, .int .i64 t104, .bool a0_2]) ?_ 2 _ rfl; refine blk_put (cs := #[.int .i64 t103, .int .i64 a0_1, .bool a0_2]) ?_ 1 _ rfl; refine blk_put (cs := #[.int .i64 a0_0, .int .i64 a0_1, .bool a0_2]) ?_ 0 _ rfl; exact BK101.out⟩
  have n1_ : Aside0 ((((w27.setCell ⟨gb101, 0, none⟩ (.int .i64 t103)).setCell ⟨gb101, 1, none⟩ (.int .i64 t104)).setCell ⟨gb101, 2, none⟩ (.bool false)).heap[gb102]? = some (.cells #[.int .i64 0, .int .i64 0, .bool false] 41 (0, 0))) := ⟨by refine blk_far ?_ NB102_101.out _; refine blk_far ?_ NB102_101.out _; refine blk_far ?_ NB102_101.out _; exact BK102.out⟩
  have n2_ : Aside0 (Below w.heap.size w (((w27.setCell ⟨gb101, 0, none⟩ (.int .i64 t103)).setCell ⟨gb101, 1, none⟩ (.int .i64 t104)).setCell ⟨gb101, 2, none⟩ (.bool false))) := ⟨by repeat (first | exact HB.out | apply below_alloc | refine below_set ?_ GE101.out | refine below_set ?_ GE102.out)⟩
  (try clear BK101)
  (try clear BK102)
  (try clear HB)
  generalize (((w27.setCell ⟨gb101, 0, none⟩ (.int .i64 t103)).setCell ⟨gb101, 1, none⟩ (.int .i64 t104)).setCell ⟨gb101, 2, none⟩ (.bool false)) = w29 at n0_ n1_ n2_ ⊢
  have BK101 := n0_
  have BK102 := n1_
  have HB := n2_
  clear n0_ n1_ n2_
  replace BK101 := Aside0.mk (blk_drew BK101.out)
  replace BK102 := Aside0.mk (blk_drew BK102.out)
  replace HB := Aside0.mk (below_drew1 HB.out)
  refine start_ (n := 10) (S := fun w' => w'.cell? ⟨gb101, 0, none⟩ = some (.int .i64 t103) ∧ w'.cell? ⟨gb101, 1, none⟩ = some (.int .i64 t104) ∧ w'.cell? ⟨gb101, 2, none⟩ = some (.bool false)) (ds := []) (bm_ [0, 10]) (by kernel_rfl) rfl rfl ⟨bc_ BK101 0 rfl, bc_ BK101 1 rfl, bc_ BK101 2 rfl⟩ (fun hHeld => ?_); refine with_tabW trig_wave__trig_Cos.tab4 trig_wave__trig_Cos.bits4 (fun HT_ HW_ => ?_)
  generalize w29.drew = w30 at BK101 BK102 HB hHeld ⊢
  refine pq_ 0 16 (bm_ [1, 9]) HT_ ?_
  refine pq_ 1 17 (bm_ [2, 8]) HT_ ?_
  refine pq_ 4 20 (bm_ [2, 2, 1, 5]) HT_ ?_
  refine pq_ 5 21 (bm_ [2, 2, 2, 4]) HT_ ?_
  refine tq_ 2 18 (bm_ [3, 1, 2, 4]) HT_ HW_ hHeld ?_
  refine tq_ 6 22 (bm_ [3, 1, 3, 3]) HT_ HW_ hHeld ?_
  refine oq_ 3 (some 19) (bm_ [7, 3]) HT_ (fun K hK => ?_)
  refine goesv_ Try.func20 (by kernel_rfl) rfl #[.int .i64 t103] (by rfl) rfl rfl (by first | rfl | (simp [Act.eval, Act.put] <;> rfl)) (by (try simp only [List.map_toArray, List.map_cons, List.map_nil]); first | done | rfl | (simp only [List.length_drop, List.length_take]; rfl)) ?_
  with_reducible refine (trig_Cos.calls k t103 t109 _ A15.out).mono ?_
  rintro e w31 ⟨rfl, hb⟩
  refine ⟨_, rfl, ?_⟩
  replace BK101 := bkb_ BK101 hb rfl
  replace BK102 := bkb_ BK102 hb rfl
  replace HB := hbs_ HB hb rfl rfl rfl rfl
  (try clear hb)
  refine hK.out _ _ ⟨bc_ BK101 0 rfl, bc_ BK101 1 rfl, bc_ BK101 2 rfl⟩ (fun hHeld => ?_)
  clear hK K
  refine nq_ 19 ?_
  refine oq_ 7 (some 23) (bm_ [8, 2]) HT_ (fun K hK => ?_)
  refine goesv_ Try.func20 (by kernel_rfl) rfl #[.int .i64 t104] (by rfl) rfl rfl (by first | rfl | (simp [Act.eval, Act.put] <;> rfl)) (by (try simp only [List.map_toArray, List.map_cons, List.map_nil]); first | done | rfl | (simp only [List.length_drop, List.length_take]; rfl)) ?_
  with_reducible refine (trig_Cos.calls k t104 t110 _ A16.out).mono ?_
  rintro e w32 ⟨rfl, hb⟩
  refine ⟨_, rfl, ?_⟩
  replace BK101 := bkb_ BK101 hb rfl
  replace BK102 := bkb_ BK102 hb rfl
  replace HB := hbs_ HB hb rfl rfl rfl rfl
  (try clear hb)
  refine hK.out _ _ ⟨bc_ BK101 0 rfl, bc_ BK101 1 rfl, bc_ BK101 2 rfl⟩ (fun hHeld => ?_)
  clear hK K
  refine nq_ 23 ?_
  refine pq_ 8 7 (bm_ [9, 1]) HT_ ?_
  refine pq_ 9 8 (bm_ [10]) HT_ ?_
  refine done_ (done_of HT_.out (by kernel_rfl)) ?_
  have hcz33_0 := bc_ BK101 0 rfl
  have hcz33_1 := bc_ BK101 1 rfl
  have hcz33_2 := bc_ BK101 2 rfl
  have hfz33 := blk_frozen BK101.out
  go_upto_if 36 with (first | ((with_reducible refine gate_callee (f := 60) rfl ?_); refine glq_ (some 36) Try.func60 #[.agg #[.int .i64 t103, .int .i64 t104, .bool false], .int .i64 a2] ?_; (with_reducible refine (trig_meets.calls t103 t104 false a2 t111 _ A21.out).mono ?_); rintro e w34 ⟨rfl, hb⟩; refine ⟨_, rfl, ?_⟩; replace BK101 := bkb_ BK101 hb rfl; replace BK102 := bkb_ BK102 hb rfl; replace HB := hbs_ HB hb rfl rfl rfl rfl; (try clear hb)))
  (try simp only [Act.put, List.setIfInBounds_toArray, List.set_cons_zero, List.set_cons_succ])
  go_cut [10] (fun v10 wc => ∃ (kq : Nat) (x10_21 : Int), v10 = .int .i64 x10_21 ∧ Aside0 (trig_wave__trig_Cos.j0 kq a2 ji18 x10_21 t103 t104 false = some (r1, r2, r3)) ∧ Aside0 (kq ≤ k) ∧ Aside0 (wc.heap[gb101]? = some (.cells #[.int .i64 t103, .int .i64 t104, .bool false] 44 (0, 0))) ∧ Aside0 (wc.heap[gb102]? = some (.cells #[.int .i64 0, .int .i64 0, .bool false] 41 (0, 0))) ∧ Aside0 (Below w.heap.size w wc))
  case first =>
   have H := HC22.out
   clear HC22
   by_cases c35 : t111 = true
   · subst c35
     rw [if_pos rfl] at H
     have H' := Aside0.mk H
     clear H
     go_wp2
     go_meet
     case rel => exact ⟨_, (1073741824), (by first | rfl | (simp; done) | (simp [*]; done)), H', ⟨by first | omega | exact Nat.le_refl _⟩, ⟨by exact BK101.out⟩, ⟨by exact BK102.out⟩, ⟨by repeat (first | exact HB.out | apply below_alloc | refine below_set ?_ GE101.out | refine below_set ?_ GE102.out)⟩⟩
   replace c35 := Bool.eq_false_iff.mpr c35
   subst c35
   rw [if_neg (show ¬ (false = true) by decide)] at H
   have H' := Aside0.mk H
   clear H
   go_wp2
   go_meet
   case rel => exact ⟨_, (ji20), (by first | rfl | (simp; done) | (simp only [← hji20] <;> (first | rfl | simp)) | (simp [*]; done)), H', ⟨by first | omega | exact Nat.le_refl _⟩, ⟨by exact BK101.out⟩, ⟨by exact BK102.out⟩, ⟨by repeat (first | exact HB.out | apply below_alloc | refine below_set ?_ GE101.out | refine below_set ?_ GE102.out)⟩⟩
  case rest =>
   clear HC22
   obtain ⟨kq, x10_21, rfl, HA, HJ21, BK101, BK102, HB⟩ := hcut
   cases kq with
   | zero => exact absurd HA.out (by simp [trig_wave__trig_Cos.j0])
   | succ kj21 =>
    have H := HA.out
    clear HA
    simp only [trig_wave__trig_Cos.j0] at H
    replace H := bso_ H
    obtain ⟨t112, A360, H⟩ := H
    try dsimp -simprocs only at H
    have A36 := Aside0.mk A360
    clear A360
    by_cases c37 : t112 = true
    · subst c37
      rw [if_pos rfl] at H
      replace H := bso_ H
      obtain ⟨⟨t113, t114, t115⟩, A380, H⟩ := H
      try dsimp -simprocs only at H
      have A38 := Aside0.mk A380
      clear A380
      simp only [Option.some.injEq, Prod.mk.injEq] at H
      obtain ⟨rfl, rfl, rfl⟩ := H
      have hnb39 := NB101_102.out
      have hnc39 := NB102_101.out
      have hcz40_0 := bc_ BK101 0 rfl
      have hcz40_1 := bc_ BK101 1 rfl
      have hcz40_2 := bc_ BK101 2 rfl
      have hfz40 := blk_frozen BK101.out
      go_wp2_with (first | ((with_reducible refine gate_callee (f := 60) rfl ?_); refine glq_ (some 40) Try.func60 #[.agg #[.int .i64 t103, .int .i64 t104, .bool false], .int .i64 (wrap64 (a2 + 2147483648))] ?_; (with_reducible refine (trig_meets.calls t103 t104 false (wrap64 (a2 + 2147483648)) true _ A36.out).mono ?_); rintro e w41 ⟨rfl, hb⟩; refine ⟨_, rfl, ?_⟩; replace BK101 := bkb_ BK101 hb rfl; replace BK102 := bkb_ BK102 hb rfl; replace HB := hbs_ HB hb rfl rfl rfl rfl; (try clear hb)) | ((with_reducible refine gate_callee (f := 35) rfl ?_); refine glq_ (some 43) Try.func35 #[.int .i64 (-1073741824), .int .i64 x10_21] ?_; (with_reducible refine (bound_Of_api_Fix.calls kj21 (-1073741824) x10_21 t113 t114 t115 _ A38.out).mono ?_); rintro e w42 ⟨rfl, hb⟩; refine ⟨_, rfl, ?_⟩; replace BK101 := bkb_ BK101 hb rfl; replace BK102 := bkb_ BK102 hb rfl; replace HB := hbs_ HB hb rfl rfl rfl rfl; (try clear hb); have hcz43_0 := bc_ BK102 0 rfl; have hcz43_1 := bc_ BK102 1 rfl; have hcz43_2 := bc_ BK102 2 rfl; have hfz43 := blk_frozen BK102.out))
      refine bodyPost_ret (results_cell_row rfl _ _ gb102 41 #[.int .i64 t113, .int .i64 t114, .bool t115] (0, 0) _ rfl (by exact blk_put (blk_put (blk_put BK102.out 0 _ rfl) 1 _ rfl) 2 _ rfl) Try.underlying41 rfl (by kernel_rfl)) rfl ?_
      exact ⟨by first | rfl | (simp [errW_none, errW_some] <;> rfl) | (simp only [← hji17, ← hji18, ← hji19, ← hji20]; first | rfl | (simp [errW_none, errW_some] <;> rfl)), by repeat (first | exact HB.out | apply below_alloc | refine below_set ?_ GE101.out | refine below_set ?_ GE102.out)⟩
    replace c37 := Bool.eq_false_iff.mpr c37
    subst c37
    rw [if_neg (show ¬ (false = true) by decide)] at H
    replace H := bso_ H
    obtain ⟨⟨t116, t117, t118⟩, A440, H⟩ := H
    try dsimp -simprocs only at H
    have A44 := Aside0.mk A440
    clear A440
    simp only [Option.some.injEq, Prod.mk.injEq] at H
    obtain ⟨rfl, rfl, rfl⟩ := H
    have hnb45 := NB101_102.out
    have hnc45 := NB102_101.out
    have hcz46_0 := bc_ BK101 0 rfl
    have hcz46_1 := bc_ BK101 1 rfl
    have hcz46_2 := bc_ BK101 2 rfl
    have hfz46 := blk_frozen BK101.out
    go_wp2_with (first | ((with_reducible refine gate_callee (f := 60) rfl ?_); refine glq_ (some 40) Try.func60 #[.agg #[.int .i64 t103, .int .i64 t104, .bool false], .int .i64 (wrap64 (a2 + 2147483648))] ?_; (with_reducible refine (trig_meets.calls t103 t104 false (wrap64 (a2 + 2147483648)) false _ A36.out).mono ?_); rintro e w47 ⟨rfl, hb⟩; refine ⟨_, rfl, ?_⟩; replace BK101 := bkb_ BK101 hb rfl; replace BK102 := bkb_ BK102 hb rfl; replace HB := hbs_ HB hb rfl rfl rfl rfl; (try clear hb)) | ((with_reducible refine gate_callee (f := 35) rfl ?_); refine goesL_ (some 43) rfl rfl Try.func35 (by kernel_rfl) rfl #[.int .i64 ji18, .int .i64 x10_21] rfl (by (try simp only [List.map_toArray, List.map_cons, List.map_nil]); first | done | (simp only [hji18]; rfl) | rfl | (simp only [List.length_drop, List.length_take]; rfl)) ?_; (with_reducible refine (bound_Of_api_Fix.calls kj21 ji18 x10_21 t116 t117 t118 _ A44.out).mono ?_); rintro e w48 ⟨rfl, hb⟩; refine ⟨_, rfl, ?_⟩; replace BK101 := bkb_ BK101 hb rfl; replace BK102 := bkb_ BK102 hb rfl; replace HB := hbs_ HB hb rfl rfl rfl rfl; (try clear hb); have hcz49_0 := bc_ BK102 0 rfl; have hcz49_1 := bc_ BK102 1 rfl; have hcz49_2 := bc_ BK102 2 rfl; have hfz49 := blk_frozen BK102.out))
    refine bodyPost_ret (results_cell_row rfl _ _ gb102 41 #[.int .i64 t116, .int .i64 t117, .bool t118] (0, 0) _ rfl (by exact blk_put (blk_put (blk_put BK102.out 0 _ rfl) 1 _ rfl) 2 _ rfl) Try.underlying41 rfl (by kernel_rfl)) rfl ?_
    exact ⟨by first | rfl | (simp [errW_none, errW_some] <;> rfl) | (simp only [← hji17, ← hji18, ← hji19, ← hji20]; first | rfl | (simp [errW_none, errW_some] <;> rfl)), by repeat (first | exact HB.out | apply below_alloc | refine below_set ?_ GE101.out | refine below_set ?_ GE102.out)⟩

end Go.Proofs.Ytjgikgbolacikaa.Q
