/- Contracts, as in the first text; no condition. -/
import Derived.Test.YtjgikgbolacikaaKHorizonAimedQx0
import Derived.Test.YtjgikgbolacikaaKHorizonAimedQx16
namespace Go.Proofs.Ytjgikgbolacikaa.Q
open Go.RowKit Go.Proofs.YtjgikgbolacikaaW.PrintWords Go.Proofs.YtjgikgbolacikaaW.PrintLast Go.Proofs.YtjgikgbolacikaaW.PrintMore
attribute [local go_sem] max2_int min2_int max_two min_two max_three min_three max_four min_four
set_option linter.unusedVariables false
set_option linter.unusedSimpArgs false

def bound_Meet_api_Fix.f (k : Nat) (a0_0 : Int) (a0_1 : Int) (a0_2 : Bool) (a1_0 : Int) (a1_1 : Int) (a1_2 : Bool) : Option (Int × Int × Bool × Bool) := (bound_Norm_api_Fix.f k a0_0 a0_1 a0_2).bind fun bt104 => ((bound_Norm_api_Fix.f k a1_0 a1_1 a1_2).bind fun bt107 => (if bt104.2.2 = true then (some (bt107.1, bt107.2.1, bt107.2.2, true)) else (if bt107.2.2 = true then (some (bt104.1, bt104.2.1, bt104.2.2, true)) else (if (mx bt104.1 bt107.1) > (mn bt104.2.1 bt107.2.1) then (some (0, 0, false, false)) else ((bound_Of_api_Fix.f k (mx bt104.1 bt107.1) (mn bt104.2.1 bt107.2.1)).bind fun bt110 => (some (bt110.1, bt110.2.1, bt110.2.2, true)))))))
theorem bound_Meet_api_Fix.mono : ∀ a0 a1 a2 a3 a4 a5 k, LeO (bound_Meet_api_Fix.f k a0 a1 a2 a3 a4 a5) (bound_Meet_api_Fix.f (k + 1) a0 a1 a2 a3 a4 a5) := by
 intro a0 a1 a2 a3 a4 a5 k
 unfold bound_Meet_api_Fix.f
 repeat' first
  | (with_reducible exact bound_Norm_api_Fix.mono _ _ _ _)
  | (with_reducible exact bound_Of_api_Fix.mono _ _ _)
  | (with_reducible exact LeO.refl _)
  | (with_reducible exact LeO.none _)
  | (with_reducible refine LeO.ite ?_ ?_)
  | (with_reducible refine LeO.bind ?_ (fun _ => ?_))
set_option maxHeartbeats 8000000 in
set_option maxRecDepth 100000 in
theorem bound_Meet_api_Fix.calls (k : Nat) (a0_0 : Int) (a0_1 : Int) (a0_2 : Bool) (a1_0 : Int) (a1_1 : Int) (a1_2 : Bool) (r1 : Int) (r2 : Int) (r3 : Bool) (r4 : Bool) (w : World) (h : bound_Meet_api_Fix.f k a0_0 a0_1 a0_2 a1_0 a1_1 a1_2 = some (r1, r2, r3, r4)) :
 Calls Try.prog 34 #[.agg #[.int .i64 a0_0, .int .i64 a0_1, .bool a0_2], .agg #[.int .i64 a1_0, .int .i64 a1_1, .bool a1_2]] w fun e w' => e = .returned (.tuple #[.agg #[.int .i64 r1, .int .i64 r2, .bool r3], .bool r4]) ∧ Below w.heap.size w w' := by
  have hu41 := Try.underlying41
  have HB := Aside0.mk (Below.refl w.heap.size w)
  have H : ((bound_Norm_api_Fix.f k a0_0 a0_1 a0_2).bind fun bt104 => ((bound_Norm_api_Fix.f k a1_0 a1_1 a1_2).bind fun bt107 => (if bt104.2.2 = true then (some (bt107.1, bt107.2.1, bt107.2.2, true)) else (if bt107.2.2 = true then (some (bt104.1, bt104.2.1, bt104.2.2, true)) else (if (mx bt104.1 bt107.1) > (mn bt104.2.1 bt107.2.1) then (some (0, 0, false, false)) else ((bound_Of_api_Fix.f k (mx bt104.1 bt107.1) (mn bt104.2.1 bt107.2.1)).bind fun bt110 => (some (bt110.1, bt110.2.1, bt110.2.2, true)))))))) = some (r1, r2, r3, r4) := h
  clear h
  replace H := bso_ H
  obtain ⟨⟨t104, t105, t106⟩, A30, H⟩ := H
  try dsimp -simprocs only at H
  have A3 := Aside0.mk A30
  clear A30
  replace H := bso_ H
  obtain ⟨⟨t107, t108, t109⟩, A40, H⟩ := H
  try dsimp -simprocs only at H
  have A4 := Aside0.mk A40
  clear A40
  by_cases c5 : t106 = true
  · subst c5
    rw [if_pos rfl] at H
    simp only [Option.some.injEq, Prod.mk.injEq] at H
    obtain ⟨rfl, rfl, rfl, rfl⟩ := H
    go_enter Try.func34, Try.ntmps34
    try go_wp2_with (first | ((with_reducible refine gate_dst (N := 2) rfl ?_); refine bxq_ 2 #[.int .i64 a0_0, .int .i64 a0_1, .bool a0_2] 41 ?_; intro gb101 hg w6 hbox hb; have BK101 := Aside0.mk (hbox); have GW101 := gwq_ HB hg rfl; have GE101 := GW101; replace HB := hbs_ HB hb rfl rfl rfl rfl; clear hb hbox hg) | ((with_reducible refine gate_dst (N := 3) rfl ?_); refine bxq_ 3 #[.int .i64 a1_0, .int .i64 a1_1, .bool a1_2] 41 ?_; intro gb102 hg w7 hbox hb; have BK102 := Aside0.mk (hbox); have GW102 := gwq_ HB hg rfl; have GE102 := GW102; have NB101_102 := nbl_ BK101 hg rfl; have NB102_101 := nbg_ BK101 hg rfl; replace BK101 := bkb_ BK101 hb rfl; replace HB := hbs_ HB hb rfl rfl rfl rfl; clear hb hbox hg) | ((with_reducible refine gate_dst (N := 4) rfl ?_); refine bxq_ 4 #[.int .i64 0, .int .i64 0, .bool false] 41 ?_; intro gb103 hg w8 hbox hb; have BK103 := Aside0.mk (hbox); have GW103 := gwq_ HB hg rfl; have GE103 := GW103; have NB101_103 := nbl_ BK101 hg rfl; have NB103_101 := nbg_ BK101 hg rfl; have NB102_103 := nbl_ BK102 hg rfl; have NB103_102 := nbg_ BK102 hg rfl; replace BK101 := bkb_ BK101 hb rfl; replace BK102 := bkb_ BK102 hb rfl; replace HB := hbs_ HB hb rfl rfl rfl rfl; clear hb hbox hg))
    replace BK101 := Aside0.mk (blk_drew BK101.out)
    replace BK102 := Aside0.mk (blk_drew BK102.out)
    replace BK103 := Aside0.mk (blk_drew BK103.out)
    replace HB := Aside0.mk (below_drew1 HB.out)
    refine start_ (n := 6) (S := fun w' => w'.cell? ⟨gb101, 0, none⟩ = some (.int .i64 a0_0) ∧ w'.cell? ⟨gb101, 1, none⟩ = some (.int .i64 a0_1) ∧ w'.cell? ⟨gb101, 2, none⟩ = some (.bool a0_2) ∧ w'.cell? ⟨gb102, 0, none⟩ = some (.int .i64 a1_0) ∧ w'.cell? ⟨gb102, 1, none⟩ = some (.int .i64 a1_1) ∧ w'.cell? ⟨gb102, 2, none⟩ = some (.bool a1_2)) (ds := [4, 5]) #[false, false, false, false, false, false] (by kernel_rfl) rfl rfl ⟨bc_ BK101 0 rfl, bc_ BK101 1 rfl, bc_ BK101 2 rfl, bc_ BK102 0 rfl, bc_ BK102 1 rfl, bc_ BK102 2 rfl⟩ (fun hHeld => ?_)
    generalize w8.drew = w9 at BK101 BK102 BK103 HB hHeld ⊢
    refine take_ (i := 0) (N := some 6) (v := ?_) (a' := ?_) #[true, false, false, false, false, false] rfl rfl (by kernel_rfl) (fun _ _ _ h => h) (Or.inl ⟨by rfl, ?_⟩) hHeld ?_ ?_
    rotate_left
    · rintro w' ⟨s0, s1, s2, s3, s4, s5⟩
      go_simp
      with_reducible rfl
    rotate_left
    · simp only [Act.put, List.setIfInBounds_toArray, List.set_cons_zero, List.set_cons_succ, i64_w, i32_w]
      rfl
    refine take_ (i := 2) (N := some 8) (v := ?_) (a' := ?_) #[true, false, true, false, false, false] rfl rfl (by kernel_rfl) (fun _ _ _ h => h) (Or.inl ⟨by rfl, ?_⟩) hHeld ?_ ?_
    rotate_left
    · rintro w' ⟨s0, s1, s2, s3, s4, s5⟩
      go_simp
      with_reducible rfl
    rotate_left
    · simp only [Act.put, List.setIfInBounds_toArray, List.set_cons_zero, List.set_cons_succ, i64_w, i32_w]
      rfl
    refine one_ (i := 1) (N := some 7) #[true, true, true, false, false, false] rfl rfl (by kernel_rfl) (by decide) (fun K hK => ?_)
    refine gq_ Try.func55 #[.agg #[.int .i64 a0_0, .int .i64 a0_1, .bool a0_2]] ?_
    with_reducible refine (bound_Norm_api_Fix.calls k a0_0 a0_1 a0_2 t104 t105 true _ A3.out).mono ?_
    rintro e w10 ⟨rfl, hb⟩
    refine ⟨_, rfl, ?_⟩
    replace BK101 := bkb_ BK101 hb rfl
    replace BK102 := bkb_ BK102 hb rfl
    replace BK103 := bkb_ BK103 hb rfl
    replace HB := hbs_ HB hb rfl rfl rfl rfl
    (try clear hb)
    refine hK.out _ _ ⟨bc_ BK101 0 rfl, bc_ BK101 1 rfl, bc_ BK101 2 rfl, bc_ BK102 0 rfl, bc_ BK102 1 rfl, bc_ BK102 2 rfl⟩ (fun hHeld => ?_)
    clear hK K
    refine nq_ 7 ?_
    refine one_ (i := 3) (N := some 9) #[true, true, true, true, false, false] rfl rfl (by kernel_rfl) (by decide) (fun K hK => ?_)
    refine gq_ Try.func55 #[.agg #[.int .i64 a1_0, .int .i64 a1_1, .bool a1_2]] ?_
    with_reducible refine (bound_Norm_api_Fix.calls k a1_0 a1_1 a1_2 t107 t108 t109 _ A4.out).mono ?_
    rintro e w11 ⟨rfl, hb⟩
    refine ⟨_, rfl, ?_⟩
    replace BK101 := bkb_ BK101 hb rfl
    replace BK102 := bkb_ BK102 hb rfl
    replace BK103 := bkb_ BK103 hb rfl
    replace HB := hbs_ HB hb rfl rfl rfl rfl
    (try clear hb)
    refine hK.out _ _ ⟨bc_ BK101 0 rfl, bc_ BK101 1 rfl, bc_ BK101 2 rfl, bc_ BK102 0 rfl, bc_ BK102 1 rfl, bc_ BK102 2 rfl⟩ (fun hHeld => ?_)
    clear hK K
    refine nq_ 9 ?_
    refine last_ (i := 4) (N := none) #[true, true, true, true, true, false] rfl rfl (by kernel_rfl) (by decide) (fun K hK => ?_)
    have hs12 : w11.cell? ⟨gb101, 0, none⟩ = some (.int .i64 a0_0) := bc_ BK101 0 rfl
    have hfs12 := blk_frozen BK101.out 0
    have hns12_1 := NB102_101.out
    have hns12_2 := NB103_101.out
    have hms12_1 := NB101_102.out
    have hms12_2 := NB101_103.out
    have hs13 : w11.cell? ⟨gb101, 1, none⟩ = some (.int .i64 a0_1) := bc_ BK101 1 rfl
    have hfs13 := blk_frozen BK101.out 1
    have hns13_1 := NB102_101.out
    have hns13_2 := NB103_101.out
    have hms13_1 := NB101_102.out
    have hms13_2 := NB101_103.out
    have hs14 : w11.cell? ⟨gb101, 2, none⟩ = some (.bool a0_2) := bc_ BK101 2 rfl
    have hfs14 := blk_frozen BK101.out 2
    have hns14_1 := NB102_101.out
    have hns14_2 := NB103_101.out
    have hms14_1 := NB101_102.out
    have hms14_2 := NB101_103.out
    refine skip_ (w1 := ?_) (by rfl) rfl ?_ ?_
    rotate_left
    · go_simp
      rfl
    refine hK.out _ _ ?_
    clear hK K
    refine last_ (i := 5) (N := none) #[true, true, true, true, true, true] rfl rfl (by kernel_rfl) (by decide) (fun K hK => ?_)
    have hs15 : w11.cell? ⟨gb102, 0, none⟩ = some (.int .i64 a1_0) := bc_ BK102 0 rfl
    have hfs15 := blk_frozen BK102.out 0
    have hns15_0 := NB101_102.out
    have hns15_2 := NB103_102.out
    have hms15_0 := NB102_101.out
    have hms15_2 := NB102_103.out
    have hs16 : w11.cell? ⟨gb102, 1, none⟩ = some (.int .i64 a1_1) := bc_ BK102 1 rfl
    have hfs16 := blk_frozen BK102.out 1
    have hns16_0 := NB101_102.out
    have hns16_2 := NB103_102.out
    have hms16_0 := NB102_101.out
    have hms16_2 := NB102_103.out
    have hs17 : w11.cell? ⟨gb102, 2, none⟩ = some (.bool a1_2) := bc_ BK102 2 rfl
    have hfs17 := blk_frozen BK102.out 2
    have hns17_0 := NB101_102.out
    have hns17_2 := NB103_102.out
    have hms17_0 := NB102_101.out
    have hms17_2 := NB102_103.out
    refine skip_ (w1 := ?_) (by rfl) rfl ?_ ?_
    rotate_left
    · go_simp
      rfl
    refine hK.out _ _ ?_
    clear hK K
    refine done_ (by kernel_rfl) ?_
    have hnb18 := NB101_102.out
    have hnc18 := NB102_101.out
    have hnb19 := NB101_103.out
    have hnc19 := NB103_101.out
    have hcz20_0 := bc_ BK101 0 rfl
    have hcz20_1 := bc_ BK101 1 rfl
    have hcz20_2 := bc_ BK101 2 rfl
    have hfz20 := blk_frozen BK101.out
    have hnb21 := NB102_103.out
    have hnc21 := NB103_102.out
    have hcz22_0 := bc_ BK102 0 rfl
    have hcz22_1 := bc_ BK102 1 rfl
    have hcz22_2 := bc_ BK102 2 rfl
    have hfz22 := blk_frozen BK102.out
    have hcz23_0 := bc_ BK103 0 rfl
    have hcz23_1 := bc_ BK103 1 rfl
    have hcz23_2 := bc_ BK103 2 rfl
    have hfz23 := blk_frozen BK103.out
    try go_wp2_with (first | ((with_reducible refine gate_store (t := 41) (p := 4) rfl ?_); refine store_event (t := 41) (p := 4) (v := ?vo_w24) (w1 := (((((((((w11.setCell ⟨gb101, 0, none⟩ (.int .i64 t104)).setCell ⟨gb101, 1, none⟩ (.int .i64 t105)).setCell ⟨gb101, 2, none⟩ (.bool true)).setCell ⟨gb102, 0, none⟩ (.int .i64 t107)).setCell ⟨gb102, 1, none⟩ (.int .i64 t108)).setCell ⟨gb102, 2, none⟩ (.bool t109)).setCell ⟨gb103, 0, none⟩ (.int .i64 t107)).setCell ⟨gb103, 1, none⟩ (.int .i64 t108)).setCell ⟨gb103, 2, none⟩ (.bool t109))) ?hg ?ho ?hn ?hr ?_; (case ho => rfl); (case hg => rfl); (case hn => rfl); (case hr => first | (go_simp; done) | (go_simp; rfl)); intro w24 hw; replace BK101 : Aside0 (w24.heap[gb101]? = some (.cells #[.int .i64 t104, .int .i64 t105, .bool true] 41 (0, 0))) := ⟨(by rw [hw]; exact (by refine blk_far ?_ NB101_103.out _; refine blk_far ?_ NB101_103.out _; refine blk_far ?_ NB101_103.out _; refine blk_far ?_ NB101_102.out _; refine blk_far ?_ NB101_102.out _; refine blk_far ?_ NB101_102.out _; exact blk_put (blk_put (blk_put BK101.out 0 _ rfl) 1 _ rfl) 2 _ rfl))⟩; replace BK102 : Aside0 (w24.heap[gb102]? = some (.cells #[.int .i64 t107, .int .i64 t108, .bool t109] 41 (0, 0))) := ⟨(by rw [hw]; exact (by refine blk_far ?_ NB102_103.out _; refine blk_far ?_ NB102_103.out _; refine blk_far ?_ NB102_103.out _; refine blk_put (cs := #[.int .i64 t107, .int .i64 t108, .bool a1_2]) ?_ 2 _ rfl; refine blk_put (cs := #[.int .i64 t107, .int .i64 a1_1, .bool a1_2]) ?_ 1 _ rfl; refine blk_put (cs := #[.int .i64 a1_0, .int .i64 a1_1, .bool a1_2]) ?_ 0 _ rfl; exact blk_far (blk_far (blk_far BK102.out NB102_101.out _) NB102_101.out _) NB102_101.out _))⟩; replace BK103 : Aside0 (w24.heap[gb103]? = some (.cells #[.int .i64 t107, .int .i64 t108, .bool t109] 41 (0, 0))) := ⟨(by rw [hw]; exact (by refine blk_put (cs := #[.int .i64 t107, .int .i64 t108, .bool false]) ?_ 2 _ rfl; refine blk_put (cs := #[.int .i64 t107, .int .i64 0, .bool false]) ?_ 1 _ rfl; refine blk_put (cs := #[.int .i64 0, .int .i64 0, .bool false]) ?_ 0 _ rfl; exact blk_far (blk_far (blk_far (blk_far (blk_far (blk_far BK103.out NB103_101.out _) NB103_101.out _) NB103_101.out _) NB103_102.out _) NB103_102.out _) NB103_102.out _))⟩; replace HB : Aside0 (Below w.heap.size w w24) := ⟨(by rw [hw]; exact (by repeat (first | (with_reducible first | exact HB.out | apply below_alloc | refine below_set ?_ GE101.out | refine below_set ?_ GE102.out | refine below_set ?_ GE103.out) | exact HB.out)))⟩; clear hw))
    refine bodyPost_ret (results_ct rfl _ _ gb103 41 #[.int .i64 t107, .int .i64 t108, .bool t109] (0, 0) _ rfl BK103.out Try.underlying41 rfl (by kernel_rfl)) rfl ?_
    exact ⟨by first | rfl | (simp [errW_none, errW_some] <;> rfl), by repeat (first | exact HB.out | apply below_alloc | refine below_set ?_ GE101.out | refine below_set ?_ GE102.out | refine below_set ?_ GE103.out)⟩
  replace c5 := Bool.eq_false_iff.mpr c5
  subst c5
  rw [if_neg (show ¬ (false = true) by decide)] at H
  by_cases c25 : t109 = true
  · subst c25
    rw [if_pos rfl] at H
    simp only [Option.some.injEq, Prod.mk.injEq] at H
    obtain ⟨rfl, rfl, rfl, rfl⟩ := H
    go_enter Try.func34, Try.ntmps34
    try go_wp2_with (first | ((with_reducible refine gate_dst (N := 2) rfl ?_); refine bxq_ 2 #[.int .i64 a0_0, .int .i64 a0_1, .bool a0_2] 41 ?_; intro gb101 hg w26 hbox hb; have BK101 := Aside0.mk (hbox); have GW101 := gwq_ HB hg rfl; have GE101 := GW101; replace HB := hbs_ HB hb rfl rfl rfl rfl; clear hb hbox hg) | ((with_reducible refine gate_dst (N := 3) rfl ?_); refine bxq_ 3 #[.int .i64 a1_0, .int .i64 a1_1, .bool a1_2] 41 ?_; intro gb102 hg w27 hbox hb; have BK102 := Aside0.mk (hbox); have GW102 := gwq_ HB hg rfl; have GE102 := GW102; have NB101_102 := nbl_ BK101 hg rfl; have NB102_101 := nbg_ BK101 hg rfl; replace BK101 := bkb_ BK101 hb rfl; replace HB := hbs_ HB hb rfl rfl rfl rfl; clear hb hbox hg) | ((with_reducible refine gate_dst (N := 4) rfl ?_); refine bxq_ 4 #[.int .i64 0, .int .i64 0, .bool false] 41 ?_; intro gb103 hg w28 hbox hb; have BK103 := Aside0.mk (hbox); have GW103 := gwq_ HB hg rfl; have GE103 := GW103; have NB101_103 := nbl_ BK101 hg rfl; have NB103_101 := nbg_ BK101 hg rfl; have NB102_103 := nbl_ BK102 hg rfl; have NB103_102 := nbg_ BK102 hg rfl; replace BK101 := bkb_ BK101 hb rfl; replace BK102 := bkb_ BK102 hb rfl; replace HB := hbs_ HB hb rfl rfl rfl rfl; clear hb hbox hg))
    replace BK101 := Aside0.mk (blk_drew BK101.out)
    replace BK102 := Aside0.mk (blk_drew BK102.out)
    replace BK103 := Aside0.mk (blk_drew BK103.out)
    replace HB := Aside0.mk (below_drew1 HB.out)
    refine start_ (n := 6) (S := fun w' => w'.cell? ⟨gb101, 0, none⟩ = some (.int .i64 a0_0) ∧ w'.cell? ⟨gb101, 1, none⟩ = some (.int .i64 a0_1) ∧ w'.cell? ⟨gb101, 2, none⟩ = some (.bool a0_2) ∧ w'.cell? ⟨gb102, 0, none⟩ = some (.int .i64 a1_0) ∧ w'.cell? ⟨gb102, 1, none⟩ = some (.int .i64 a1_1) ∧ w'.cell? ⟨gb102, 2, none⟩ = some (.bool a1_2)) (ds := [4, 5]) #[false, false, false, false, false, false] (by kernel_rfl) rfl rfl ⟨bc_ BK101 0 rfl, bc_ BK101 1 rfl, bc_ BK101 2 rfl, bc_ BK102 0 rfl, bc_ BK102 1 rfl, bc_ BK102 2 rfl⟩ (fun hHeld => ?_)
    generalize w28.drew = w29 at BK101 BK102 BK103 HB hHeld ⊢
    refine take_ (i := 0) (N := some 6) (v := ?_) (a' := ?_) #[true, false, false, false, false, false] rfl rfl (by kernel_rfl) (fun _ _ _ h => h) (Or.inl ⟨by rfl, ?_⟩) hHeld ?_ ?_
    rotate_left
    · rintro w' ⟨s0, s1, s2, s3, s4, s5⟩
      go_simp
      with_reducible rfl
    rotate_left
    · simp only [Act.put, List.setIfInBounds_toArray, List.set_cons_zero, List.set_cons_succ, i64_w, i32_w]
      rfl
    refine take_ (i := 2) (N := some 8) (v := ?_) (a' := ?_) #[true, false, true, false, false, false] rfl rfl (by kernel_rfl) (fun _ _ _ h => h) (Or.inl ⟨by rfl, ?_⟩) hHeld ?_ ?_
    rotate_left
    · rintro w' ⟨s0, s1, s2, s3, s4, s5⟩
      go_simp
      with_reducible rfl
    rotate_left
    · simp only [Act.put, List.setIfInBounds_toArray, List.set_cons_zero, List.set_cons_succ, i64_w, i32_w]
      rfl
    refine one_ (i := 1) (N := some 7) #[true, true, true, false, false, false] rfl rfl (by kernel_rfl) (by decide) (fun K hK => ?_)
    refine gq_ Try.func55 #[.agg #[.int .i64 a0_0, .int .i64 a0_1, .bool a0_2]] ?_
    with_reducible refine (bound_Norm_api_Fix.calls k a0_0 a0_1 a0_2 t104 t105 false _ A3.out).mono ?_
    rintro e w30 ⟨rfl, hb⟩
    refine ⟨_, rfl, ?_⟩
    replace BK101 := bkb_ BK101 hb rfl
    replace BK102 := bkb_ BK102 hb rfl
    replace BK103 := bkb_ BK103 hb rfl
    replace HB := hbs_ HB hb rfl rfl rfl rfl
    (try clear hb)
    refine hK.out _ _ ⟨bc_ BK101 0 rfl, bc_ BK101 1 rfl, bc_ BK101 2 rfl, bc_ BK102 0 rfl, bc_ BK102 1 rfl, bc_ BK102 2 rfl⟩ (fun hHeld => ?_)
    clear hK K
    refine nq_ 7 ?_
    refine one_ (i := 3) (N := some 9) #[true, true, true, true, false, false] rfl rfl (by kernel_rfl) (by decide) (fun K hK => ?_)
    refine gq_ Try.func55 #[.agg #[.int .i64 a1_0, .int .i64 a1_1, .bool a1_2]] ?_
    with_reducible refine (bound_Norm_api_Fix.calls k a1_0 a1_1 a1_2 t107 t108 true _ A4.out).mono ?_
    rintro e w31 ⟨rfl, hb⟩
    refine ⟨_, rfl, ?_⟩
    replace BK101 := bkb_ BK101 hb rfl
    replace BK102 := bkb_ BK102 hb rfl
    replace BK103 := bkb_ BK103 hb rfl
    replace HB := hbs_ HB hb rfl rfl rfl rfl
    (try clear hb)
    refine hK.out _ _ ⟨bc_ BK101 0 rfl, bc_ BK101 1 rfl, bc_ BK101 2 rfl, bc_ BK102 0 rfl, bc_ BK102 1 rfl, bc_ BK102 2 rfl⟩ (fun hHeld => ?_)
    clear hK K
    refine nq_ 9 ?_
    refine last_ (i := 4) (N := none) #[true, true, true, true, true, false] rfl rfl (by kernel_rfl) (by decide) (fun K hK => ?_)
    have hs32 : w31.cell? ⟨gb101, 0, none⟩ = some (.int .i64 a0_0) := bc_ BK101 0 rfl
    have hfs32 := blk_frozen BK101.out 0
    have hns32_1 := NB102_101.out
    have hns32_2 := NB103_101.out
    have hms32_1 := NB101_102.out
    have hms32_2 := NB101_103.out
    have hs33 : w31.cell? ⟨gb101, 1, none⟩ = some (.int .i64 a0_1) := bc_ BK101 1 rfl
    have hfs33 := blk_frozen BK101.out 1
    have hns33_1 := NB102_101.out
    have hns33_2 := NB103_101.out
    have hms33_1 := NB101_102.out
    have hms33_2 := NB101_103.out
    have hs34 : w31.cell? ⟨gb101, 2, none⟩ = some (.bool a0_2) := bc_ BK101 2 rfl
    have hfs34 := blk_frozen BK101.out 2
    have hns34_1 := NB102_101.out
    have hns34_2 := NB103_101.out
    have hms34_1 := NB101_102.out
    have hms34_2 := NB101_103.out
    refine skip_ (w1 := ?_) (by rfl) rfl ?_ ?_
    rotate_left
    · go_simp
      rfl
    refine hK.out _ _ ?_
    clear hK K
    refine last_ (i := 5) (N := none) #[true, true, true, true, true, true] rfl rfl (by kernel_rfl) (by decide) (fun K hK => ?_)
    have hs35 : w31.cell? ⟨gb102, 0, none⟩ = some (.int .i64 a1_0) := bc_ BK102 0 rfl
    have hfs35 := blk_frozen BK102.out 0
    have hns35_0 := NB101_102.out
    have hns35_2 := NB103_102.out
    have hms35_0 := NB102_101.out
    have hms35_2 := NB102_103.out
    have hs36 : w31.cell? ⟨gb102, 1, none⟩ = some (.int .i64 a1_1) := bc_ BK102 1 rfl
    have hfs36 := blk_frozen BK102.out 1
    have hns36_0 := NB101_102.out
    have hns36_2 := NB103_102.out
    have hms36_0 := NB102_101.out
    have hms36_2 := NB102_103.out
    have hs37 : w31.cell? ⟨gb102, 2, none⟩ = some (.bool a1_2) := bc_ BK102 2 rfl
    have hfs37 := blk_frozen BK102.out 2
    have hns37_0 := NB101_102.out
    have hns37_2 := NB103_102.out
    have hms37_0 := NB102_101.out
    have hms37_2 := NB102_103.out
    refine skip_ (w1 := ?_) (by rfl) rfl ?_ ?_
    rotate_left
    · go_simp
      rfl
    refine hK.out _ _ ?_
    clear hK K
    refine done_ (by kernel_rfl) ?_
    have hnb38 := NB101_102.out
    have hnc38 := NB102_101.out
    have hnb39 := NB101_103.out
    have hnc39 := NB103_101.out
    have hcz40_0 := bc_ BK101 0 rfl
    have hcz40_1 := bc_ BK101 1 rfl
    have hcz40_2 := bc_ BK101 2 rfl
    have hfz40 := blk_frozen BK101.out
    have hnb41 := NB102_103.out
    have hnc41 := NB103_102.out
    have hcz42_0 := bc_ BK102 0 rfl
    have hcz42_1 := bc_ BK102 1 rfl
    have hcz42_2 := bc_ BK102 2 rfl
    have hfz42 := blk_frozen BK102.out
    have hcz43_0 := bc_ BK103 0 rfl
    have hcz43_1 := bc_ BK103 1 rfl
    have hcz43_2 := bc_ BK103 2 rfl
    have hfz43 := blk_frozen BK103.out
    try go_wp2_with (first | ((with_reducible refine gate_store (t := 41) (p := 4) rfl ?_); refine store_event (t := 41) (p := 4) (v := ?vo_w44) (w1 := (((((((((w31.setCell ⟨gb101, 0, none⟩ (.int .i64 t104)).setCell ⟨gb101, 1, none⟩ (.int .i64 t105)).setCell ⟨gb101, 2, none⟩ (.bool false)).setCell ⟨gb102, 0, none⟩ (.int .i64 t107)).setCell ⟨gb102, 1, none⟩ (.int .i64 t108)).setCell ⟨gb102, 2, none⟩ (.bool true)).setCell ⟨gb103, 0, none⟩ (.int .i64 t104)).setCell ⟨gb103, 1, none⟩ (.int .i64 t105)).setCell ⟨gb103, 2, none⟩ (.bool false))) ?hg ?ho ?hn ?hr ?_; (case ho => rfl); (case hg => rfl); (case hn => rfl); (case hr => first | (go_simp; done) | (go_simp; rfl)); intro w44 hw; replace BK101 : Aside0 (w44.heap[gb101]? = some (.cells #[.int .i64 t104, .int .i64 t105, .bool false] 41 (0, 0))) := ⟨(by rw [hw]; exact (by refine blk_far ?_ NB101_103.out _; refine blk_far ?_ NB101_103.out _; refine blk_far ?_ NB101_103.out _; refine blk_far ?_ NB101_102.out _; refine blk_far ?_ NB101_102.out _; refine blk_far ?_ NB101_102.out _; exact blk_put (blk_put (blk_put BK101.out 0 _ rfl) 1 _ rfl) 2 _ rfl))⟩; replace BK102 : Aside0 (w44.heap[gb102]? = some (.cells #[.int .i64 t107, .int .i64 t108, .bool true] 41 (0, 0))) := ⟨(by rw [hw]; exact (by refine blk_far ?_ NB102_103.out _; refine blk_far ?_ NB102_103.out _; refine blk_far ?_ NB102_103.out _; refine blk_put (cs := #[.int .i64 t107, .int .i64 t108, .bool a1_2]) ?_ 2 _ rfl; refine blk_put (cs := #[.int .i64 t107, .int .i64 a1_1, .bool a1_2]) ?_ 1 _ rfl; refine blk_put (cs := #[.int .i64 a1_0, .int .i64 a1_1, .bool a1_2]) ?_ 0 _ rfl; exact blk_far (blk_far (blk_far BK102.out NB102_101.out _) NB102_101.out _) NB102_101.out _))⟩; replace BK103 : Aside0 (w44.heap[gb103]? = some (.cells #[.int .i64 t104, .int .i64 t105, .bool false] 41 (0, 0))) := ⟨(by rw [hw]; exact (by refine blk_put (cs := #[.int .i64 t104, .int .i64 t105, .bool false]) ?_ 2 _ rfl; refine blk_put (cs := #[.int .i64 t104, .int .i64 0, .bool false]) ?_ 1 _ rfl; refine blk_put (cs := #[.int .i64 0, .int .i64 0, .bool false]) ?_ 0 _ rfl; exact blk_far (blk_far (blk_far (blk_far (blk_far (blk_far BK103.out NB103_101.out _) NB103_101.out _) NB103_101.out _) NB103_102.out _) NB103_102.out _) NB103_102.out _))⟩; replace HB : Aside0 (Below w.heap.size w w44) := ⟨(by rw [hw]; exact (by repeat (first | (with_reducible first | exact HB.out | apply below_alloc | refine below_set ?_ GE101.out | refine below_set ?_ GE102.out | refine below_set ?_ GE103.out) | exact HB.out)))⟩; clear hw))
    refine bodyPost_ret (results_ct rfl _ _ gb103 41 #[.int .i64 t104, .int .i64 t105, .bool false] (0, 0) _ rfl BK103.out Try.underlying41 rfl (by kernel_rfl)) rfl ?_
    exact ⟨by first | rfl | (simp [errW_none, errW_some] <;> rfl), by repeat (first | exact HB.out | apply below_alloc | refine below_set ?_ GE101.out | refine below_set ?_ GE102.out | refine below_set ?_ GE103.out)⟩
  replace c25 := Bool.eq_false_iff.mpr c25
  subst c25
  rw [if_neg (show ¬ (false = true) by decide)] at H
  obtain ⟨ji45, hji45⟩ : ∃ j_ : Int, (mx t104 t107) = j_ := ⟨_, rfl⟩
  replace H : (if (ji45) > (mn t105 t108) then (some (0, 0, false, false)) else ((bound_Of_api_Fix.f k (ji45) (mn t105 t108)).bind fun bt110 => (some (bt110.1, bt110.2.1, bt110.2.2, true)))) = some (r1, r2, r3, r4) := by first | (rw [hji45] at H; exact H) | (simp only [hji45] at H ⊢; exact H)
  (try rw [hji45] at A3)
  (try rw [hji45] at A4)
  have hji45_ : (if t104 < t107 then t107 else t104) = ji45 := hji45
  obtain ⟨ji46, hji46⟩ : ∃ j_ : Int, (mn t105 t108) = j_ := ⟨_, rfl⟩
  replace H : (if (ji45) > (ji46) then (some (0, 0, false, false)) else ((bound_Of_api_Fix.f k (ji45) (ji46)).bind fun bt110 => (some (bt110.1, bt110.2.1, bt110.2.2, true)))) = some (r1, r2, r3, r4) := by first | (rw [hji46] at H; exact H) | (simp only [hji46] at H ⊢; exact H)
  (try rw [hji46] at A3)
  (try rw [hji46] at A4)
  have hji46_ : (if t108 < t105 then t108 else t105) = ji46 := hji46
  by_cases c47 : (ji45) > (ji46)
  · rw [if_pos c47] at H
    have c47b0 : decide ((ji46) < (ji45)) = true := decide_eq_true c47
    clear c47
    simp only [Option.some.injEq, Prod.mk.injEq] at H
    obtain ⟨rfl, rfl, rfl, rfl⟩ := H
    go_enter Try.func34, Try.ntmps34
    try go_wp2_with (first | ((with_reducible refine gate_dst (N := 2) rfl ?_); refine bxq_ 2 #[.int .i64 a0_0, .int .i64 a0_1, .bool a0_2] 41 ?_; intro gb101 hg w48 hbox hb; have BK101 := Aside0.mk (hbox); have GW101 := gwq_ HB hg rfl; have GE101 := GW101; replace HB := hbs_ HB hb rfl rfl rfl rfl; clear hb hbox hg) | ((with_reducible refine gate_dst (N := 3) rfl ?_); refine bxq_ 3 #[.int .i64 a1_0, .int .i64 a1_1, .bool a1_2] 41 ?_; intro gb102 hg w49 hbox hb; have BK102 := Aside0.mk (hbox); have GW102 := gwq_ HB hg rfl; have GE102 := GW102; have NB101_102 := nbl_ BK101 hg rfl; have NB102_101 := nbg_ BK101 hg rfl; replace BK101 := bkb_ BK101 hb rfl; replace HB := hbs_ HB hb rfl rfl rfl rfl; clear hb hbox hg) | ((with_reducible refine gate_dst (N := 4) rfl ?_); refine bxq_ 4 #[.int .i64 0, .int .i64 0, .bool false] 41 ?_; intro gb103 hg w50 hbox hb; have BK103 := Aside0.mk (hbox); have GW103 := gwq_ HB hg rfl; have GE103 := GW103; have NB101_103 := nbl_ BK101 hg rfl; have NB103_101 := nbg_ BK101 hg rfl; have NB102_103 := nbl_ BK102 hg rfl; have NB103_102 := nbg_ BK102 hg rfl; replace BK101 := bkb_ BK101 hb rfl; replace BK102 := bkb_ BK102 hb rfl; replace HB := hbs_ HB hb rfl rfl rfl rfl; clear hb hbox hg))
    replace BK101 := Aside0.mk (blk_drew BK101.out)
    replace BK102 := Aside0.mk (blk_drew BK102.out)
    replace BK103 := Aside0.mk (blk_drew BK103.out)
    replace HB := Aside0.mk (below_drew1 HB.out)
    refine start_ (n := 6) (S := fun w' => w'.cell? ⟨gb101, 0, none⟩ = some (.int .i64 a0_0) ∧ w'.cell? ⟨gb101, 1, none⟩ = some (.int .i64 a0_1) ∧ w'.cell? ⟨gb101, 2, none⟩ = some (.bool a0_2) ∧ w'.cell? ⟨gb102, 0, none⟩ = some (.int .i64 a1_0) ∧ w'.cell? ⟨gb102, 1, none⟩ = some (.int .i64 a1_1) ∧ w'.cell? ⟨gb102, 2, none⟩ = some (.bool a1_2)) (ds := [4, 5]) #[false, false, false, false, false, false] (by kernel_rfl) rfl rfl ⟨bc_ BK101 0 rfl, bc_ BK101 1 rfl, bc_ BK101 2 rfl, bc_ BK102 0 rfl, bc_ BK102 1 rfl, bc_ BK102 2 rfl⟩ (fun hHeld => ?_)
    generalize w50.drew = w51 at BK101 BK102 BK103 HB hHeld ⊢
    refine take_ (i := 0) (N := some 6) (v := ?_) (a' := ?_) #[true, false, false, false, false, false] rfl rfl (by kernel_rfl) (fun _ _ _ h => h) (Or.inl ⟨by rfl, ?_⟩) hHeld ?_ ?_
    rotate_left
    · rintro w' ⟨s0, s1, s2, s3, s4, s5⟩
      go_simp
      with_reducible rfl
    rotate_left
    · simp only [Act.put, List.setIfInBounds_toArray, List.set_cons_zero, List.set_cons_succ, i64_w, i32_w]
      rfl
    refine take_ (i := 2) (N := some 8) (v := ?_) (a' := ?_) #[true, false, true, false, false, false] rfl rfl (by kernel_rfl) (fun _ _ _ h => h) (Or.inl ⟨by rfl, ?_⟩) hHeld ?_ ?_
    rotate_left
    · rintro w' ⟨s0, s1, s2, s3, s4, s5⟩
      go_simp
      with_reducible rfl
    rotate_left
    · simp only [Act.put, List.setIfInBounds_toArray, List.set_cons_zero, List.set_cons_succ, i64_w, i32_w]
      rfl
    refine one_ (i := 1) (N := some 7) #[true, true, true, false, false, false] rfl rfl (by kernel_rfl) (by decide) (fun K hK => ?_)
    refine gq_ Try.func55 #[.agg #[.int .i64 a0_0, .int .i64 a0_1, .bool a0_2]] ?_
    with_reducible refine (bound_Norm_api_Fix.calls k a0_0 a0_1 a0_2 t104 t105 false _ A3.out).mono ?_
    rintro e w52 ⟨rfl, hb⟩
    refine ⟨_, rfl, ?_⟩
    replace BK101 := bkb_ BK101 hb rfl
    replace BK102 := bkb_ BK102 hb rfl
    replace BK103 := bkb_ BK103 hb rfl
    replace HB := hbs_ HB hb rfl rfl rfl rfl
    (try clear hb)
    refine hK.out _ _ ⟨bc_ BK101 0 rfl, bc_ BK101 1 rfl, bc_ BK101 2 rfl, bc_ BK102 0 rfl, bc_ BK102 1 rfl, bc_ BK102 2 rfl⟩ (fun hHeld => ?_)
    clear hK K
    refine nq_ 7 ?_
    refine one_ (i := 3) (N := some 9) #[true, true, true, true, false, false] rfl rfl (by kernel_rfl) (by decide) (fun K hK => ?_)
    refine gq_ Try.func55 #[.agg #[.int .i64 a1_0, .int .i64 a1_1, .bool a1_2]] ?_
    with_reducible refine (bound_Norm_api_Fix.calls k a1_0 a1_1 a1_2 t107 t108 false _ A4.out).mono ?_
    rintro e w53 ⟨rfl, hb⟩
    refine ⟨_, rfl, ?_⟩
    replace BK101 := bkb_ BK101 hb rfl
    replace BK102 := bkb_ BK102 hb rfl
    replace BK103 := bkb_ BK103 hb rfl
    replace HB := hbs_ HB hb rfl rfl rfl rfl
    (try clear hb)
    refine hK.out _ _ ⟨bc_ BK101 0 rfl, bc_ BK101 1 rfl, bc_ BK101 2 rfl, bc_ BK102 0 rfl, bc_ BK102 1 rfl, bc_ BK102 2 rfl⟩ (fun hHeld => ?_)
    clear hK K
    refine nq_ 9 ?_
    refine last_ (i := 4) (N := none) #[true, true, true, true, true, false] rfl rfl (by kernel_rfl) (by decide) (fun K hK => ?_)
    have hs54 : w53.cell? ⟨gb101, 0, none⟩ = some (.int .i64 a0_0) := bc_ BK101 0 rfl
    have hfs54 := blk_frozen BK101.out 0
    have hns54_1 := NB102_101.out
    have hns54_2 := NB103_101.out
    have hms54_1 := NB101_102.out
    have hms54_2 := NB101_103.out
    have hs55 : w53.cell? ⟨gb101, 1, none⟩ = some (.int .i64 a0_1) := bc_ BK101 1 rfl
    have hfs55 := blk_frozen BK101.out 1
    have hns55_1 := NB102_101.out
    have hns55_2 := NB103_101.out
    have hms55_1 := NB101_102.out
    have hms55_2 := NB101_103.out
    have hs56 : w53.cell? ⟨gb101, 2, none⟩ = some (.bool a0_2) := bc_ BK101 2 rfl
    have hfs56 := blk_frozen BK101.out 2
    have hns56_1 := NB102_101.out
    have hns56_2 := NB103_101.out
    have hms56_1 := NB101_102.out
    have hms56_2 := NB101_103.out
    refine skip_ (w1 := ?_) (by rfl) rfl ?_ ?_
    rotate_left
    · go_simp
      rfl
    refine hK.out _ _ ?_
    clear hK K
    refine last_ (i := 5) (N := none) #[true, true, true, true, true, true] rfl rfl (by kernel_rfl) (by decide) (fun K hK => ?_)
    have hs57 : w53.cell? ⟨gb102, 0, none⟩ = some (.int .i64 a1_0) := bc_ BK102 0 rfl
    have hfs57 := blk_frozen BK102.out 0
    have hns57_0 := NB101_102.out
    have hns57_2 := NB103_102.out
    have hms57_0 := NB102_101.out
    have hms57_2 := NB102_103.out
    have hs58 : w53.cell? ⟨gb102, 1, none⟩ = some (.int .i64 a1_1) := bc_ BK102 1 rfl
    have hfs58 := blk_frozen BK102.out 1
    have hns58_0 := NB101_102.out
    have hns58_2 := NB103_102.out
    have hms58_0 := NB102_101.out
    have hms58_2 := NB102_103.out
    have hs59 : w53.cell? ⟨gb102, 2, none⟩ = some (.bool a1_2) := bc_ BK102 2 rfl
    have hfs59 := blk_frozen BK102.out 2
    have hns59_0 := NB101_102.out
    have hns59_2 := NB103_102.out
    have hms59_0 := NB102_101.out
    have hms59_2 := NB102_103.out
    refine skip_ (w1 := ?_) (by rfl) rfl ?_ ?_
    rotate_left
    · go_simp
      rfl
    refine hK.out _ _ ?_
    clear hK K
    refine done_ (by kernel_rfl) ?_
    have hnb60 := NB101_102.out
    have hnc60 := NB102_101.out
    have hnb61 := NB101_103.out
    have hnc61 := NB103_101.out
    have hcz62_0 := bc_ BK101 0 rfl
    have hcz62_1 := bc_ BK101 1 rfl
    have hcz62_2 := bc_ BK101 2 rfl
    have hfz62 := blk_frozen BK101.out
    have hnb63 := NB102_103.out
    have hnc63 := NB103_102.out
    have hcz64_0 := bc_ BK102 0 rfl
    have hcz64_1 := bc_ BK102 1 rfl
    have hcz64_2 := bc_ BK102 2 rfl
    have hfz64 := blk_frozen BK102.out
    have hcz65_0 := bc_ BK103 0 rfl
    have hcz65_1 := bc_ BK103 1 rfl
    have hcz65_2 := bc_ BK103 2 rfl
    have hfz65 := blk_frozen BK103.out
    try go_wp2_with (first | ((with_reducible refine gate_store (t := 41) (p := 4) rfl ?_); refine store_event (t := 41) (p := 4) (v := ?vo_w66) (w1 := (((((((((w53.setCell ⟨gb101, 0, none⟩ (.int .i64 t104)).setCell ⟨gb101, 1, none⟩ (.int .i64 t105)).setCell ⟨gb101, 2, none⟩ (.bool false)).setCell ⟨gb102, 0, none⟩ (.int .i64 t107)).setCell ⟨gb102, 1, none⟩ (.int .i64 t108)).setCell ⟨gb102, 2, none⟩ (.bool false)).setCell ⟨gb103, 0, none⟩ (.int .i64 0)).setCell ⟨gb103, 1, none⟩ (.int .i64 0)).setCell ⟨gb103, 2, none⟩ (.bool false))) ?hg ?ho ?hn ?hr ?_; (case ho => rfl); (case hg => rfl); (case hn => rfl); (case hr => first | (go_simp; done) | (go_simp; rfl)); intro w66 hw; replace BK101 : Aside0 (w66.heap[gb101]? = some (.cells #[.int .i64 t104, .int .i64 t105, .bool false] 41 (0, 0))) := ⟨(by rw [hw]; exact (by refine blk_far ?_ NB101_103.out _; refine blk_far ?_ NB101_103.out _; refine blk_far ?_ NB101_103.out _; refine blk_far ?_ NB101_102.out _; refine blk_far ?_ NB101_102.out _; refine blk_far ?_ NB101_102.out _; exact blk_put (blk_put (blk_put BK101.out 0 _ rfl) 1 _ rfl) 2 _ rfl))⟩; replace BK102 : Aside0 (w66.heap[gb102]? = some (.cells #[.int .i64 t107, .int .i64 t108, .bool false] 41 (0, 0))) := ⟨(by rw [hw]; exact (by refine blk_far ?_ NB102_103.out _; refine blk_far ?_ NB102_103.out _; refine blk_far ?_ NB102_103.out _; refine blk_put (cs := #[.int .i64 t107, .int .i64 t108, .bool a1_2]) ?_ 2 _ rfl; refine blk_put (cs := #[.int .i64 t107, .int .i64 a1_1, .bool a1_2]) ?_ 1 _ rfl; refine blk_put (cs := #[.int .i64 a1_0, .int .i64 a1_1, .bool a1_2]) ?_ 0 _ rfl; exact blk_far (blk_far (blk_far BK102.out NB102_101.out _) NB102_101.out _) NB102_101.out _))⟩; replace BK103 : Aside0 (w66.heap[gb103]? = some (.cells #[.int .i64 0, .int .i64 0, .bool false] 41 (0, 0))) := ⟨(by rw [hw]; exact (by refine blk_put (cs := #[.int .i64 0, .int .i64 0, .bool false]) ?_ 2 _ rfl; refine blk_put (cs := #[.int .i64 0, .int .i64 0, .bool false]) ?_ 1 _ rfl; refine blk_put (cs := #[.int .i64 0, .int .i64 0, .bool false]) ?_ 0 _ rfl; exact blk_far (blk_far (blk_far (blk_far (blk_far (blk_far BK103.out NB103_101.out _) NB103_101.out _) NB103_101.out _) NB103_102.out _) NB103_102.out _) NB103_102.out _))⟩; replace HB : Aside0 (Below w.heap.size w w66) := ⟨(by rw [hw]; exact (by repeat (first | (with_reducible first | exact HB.out | apply below_alloc | refine below_set ?_ GE101.out | refine below_set ?_ GE102.out | refine below_set ?_ GE103.out) | exact HB.out)))⟩; clear hw))
    refine bodyPost_ret (results_ct rfl _ _ gb103 41 #[.int .i64 0, .int .i64 0, .bool false] (0, 0) _ rfl BK103.out Try.underlying41 rfl (by kernel_rfl)) rfl ?_
    exact ⟨by first | rfl | (simp [errW_none, errW_some] <;> rfl) | (simp only [← hji45, ← hji46]; first | rfl | (simp [errW_none, errW_some] <;> rfl)), by repeat (first | exact HB.out | apply below_alloc | refine below_set ?_ GE101.out | refine below_set ?_ GE102.out | refine below_set ?_ GE103.out)⟩
  rw [if_neg c47] at H
  have c47b0 : decide ((ji46) < (ji45)) = false := decide_eq_false c47
  clear c47
  replace H := bso_ H
  obtain ⟨⟨t110, t111, t112⟩, A670, H⟩ := H
  try dsimp -simprocs only at H
  have A67 := Aside0.mk A670
  clear A670
  simp only [Option.some.injEq, Prod.mk.injEq] at H
  obtain ⟨rfl, rfl, rfl, rfl⟩ := H
  go_enter Try.func34, Try.ntmps34
  try go_wp2_with (first | ((with_reducible refine gate_dst (N := 2) rfl ?_); refine bxq_ 2 #[.int .i64 a0_0, .int .i64 a0_1, .bool a0_2] 41 ?_; intro gb101 hg w68 hbox hb; have BK101 := Aside0.mk (hbox); have GW101 := gwq_ HB hg rfl; have GE101 := GW101; replace HB := hbs_ HB hb rfl rfl rfl rfl; clear hb hbox hg) | ((with_reducible refine gate_dst (N := 3) rfl ?_); refine bxq_ 3 #[.int .i64 a1_0, .int .i64 a1_1, .bool a1_2] 41 ?_; intro gb102 hg w69 hbox hb; have BK102 := Aside0.mk (hbox); have GW102 := gwq_ HB hg rfl; have GE102 := GW102; have NB101_102 := nbl_ BK101 hg rfl; have NB102_101 := nbg_ BK101 hg rfl; replace BK101 := bkb_ BK101 hb rfl; replace HB := hbs_ HB hb rfl rfl rfl rfl; clear hb hbox hg) | ((with_reducible refine gate_dst (N := 4) rfl ?_); refine bxq_ 4 #[.int .i64 0, .int .i64 0, .bool false] 41 ?_; intro gb103 hg w70 hbox hb; have BK103 := Aside0.mk (hbox); have GW103 := gwq_ HB hg rfl; have GE103 := GW103; have NB101_103 := nbl_ BK101 hg rfl; have NB103_101 := nbg_ BK101 hg rfl; have NB102_103 := nbl_ BK102 hg rfl; have NB103_102 := nbg_ BK102 hg rfl; replace BK101 := bkb_ BK101 hb rfl; replace BK102 := bkb_ BK102 hb rfl; replace HB := hbs_ HB hb rfl rfl rfl rfl; clear hb hbox hg))
  replace BK101 := Aside0.mk (blk_drew BK101.out)
  replace BK102 := Aside0.mk (blk_drew BK102.out)
  replace BK103 := Aside0.mk (blk_drew BK103.out)
  replace HB := Aside0.mk (below_drew1 HB.out)
  refine start_ (n := 6) (S := fun w' => w'.cell? ⟨gb101, 0, none⟩ = some (.int .i64 a0_0) ∧ w'.cell? ⟨gb101, 1, none⟩ = some (.int .i64 a0_1) ∧ w'.cell? ⟨gb101, 2, none⟩ = some (.bool a0_2) ∧ w'.cell? ⟨gb102, 0, none⟩ = some (.int .i64 a1_0) ∧ w'.cell? ⟨gb102, 1, none⟩ = some (.int .i64 a1_1) ∧ w'.cell? ⟨gb102, 2, none⟩ = some (.bool a1_2)) (ds := [4, 5]) #[false, false, false, false, false, false] (by kernel_rfl) rfl rfl ⟨bc_ BK101 0 rfl, bc_ BK101 1 rfl, bc_ BK101 2 rfl, bc_ BK102 0 rfl, bc_ BK102 1 rfl, bc_ BK102 2 rfl⟩ (fun hHeld => ?_)
  generalize w70.drew = w71 at BK101 BK102 BK103 HB hHeld ⊢
  refine take_ (i := 0) (N := some 6) (v := ?_) (a' := ?_) #[true, false, false, false, false, false] rfl rfl (by kernel_rfl) (fun _ _ _ h => h) (Or.inl ⟨by rfl, ?_⟩) hHeld ?_ ?_
  rotate_left
  · rintro w' ⟨s0, s1, s2, s3, s4, s5⟩
    go_simp
    with_reducible rfl
  rotate_left
  · simp only [Act.put, List.setIfInBounds_toArray, List.set_cons_zero, List.set_cons_succ, i64_w, i32_w]
    rfl
  refine take_ (i := 2) (N := some 8) (v := ?_) (a' := ?_) #[true, false, true, false, false, false] rfl rfl (by kernel_rfl) (fun _ _ _ h => h) (Or.inl ⟨by rfl, ?_⟩) hHeld ?_ ?_
  rotate_left
  · rintro w' ⟨s0, s1, s2, s3, s4, s5⟩
    go_simp
    with_reducible rfl
  rotate_left
  · simp only [Act.put, List.setIfInBounds_toArray, List.set_cons_zero, List.set_cons_succ, i64_w, i32_w]
    rfl
  refine one_ (i := 1) (N := some 7) #[true, true, true, false, false, false] rfl rfl (by kernel_rfl) (by decide) (fun K hK => ?_)
  refine gq_ Try.func55 #[.agg #[.int .i64 a0_0, .int .i64 a0_1, .bool a0_2]] ?_
  with_reducible refine (bound_Norm_api_Fix.calls k a0_0 a0_1 a0_2 t104 t105 false _ A3.out).mono ?_
  rintro e w72 ⟨rfl, hb⟩
  refine ⟨_, rfl, ?_⟩
  replace BK101 := bkb_ BK101 hb rfl
  replace BK102 := bkb_ BK102 hb rfl
  replace BK103 := bkb_ BK103 hb rfl
  replace HB := hbs_ HB hb rfl rfl rfl rfl
  (try clear hb)
  refine hK.out _ _ ⟨bc_ BK101 0 rfl, bc_ BK101 1 rfl, bc_ BK101 2 rfl, bc_ BK102 0 rfl, bc_ BK102 1 rfl, bc_ BK102 2 rfl⟩ (fun hHeld => ?_)
  clear hK K
  refine nq_ 7 ?_
  refine one_ (i := 3) (N := some 9) #[true, true, true, true, false, false] rfl rfl (by kernel_rfl) (by decide) (fun K hK => ?_)
  refine gq_ Try.func55 #[.agg #[.int .i64 a1_0, .int .i64 a1_1, .bool a1_2]] ?_
  with_reducible refine (bound_Norm_api_Fix.calls k a1_0 a1_1 a1_2 t107 t108 false _ A4.out).mono ?_
  rintro e w73 ⟨rfl, hb⟩
  refine ⟨_, rfl, ?_⟩
  replace BK101 := bkb_ BK101 hb rfl
  replace BK102 := bkb_ BK102 hb rfl
  replace BK103 := bkb_ BK103 hb rfl
  replace HB := hbs_ HB hb rfl rfl rfl rfl
  (try clear hb)
  refine hK.out _ _ ⟨bc_ BK101 0 rfl, bc_ BK101 1 rfl, bc_ BK101 2 rfl, bc_ BK102 0 rfl, bc_ BK102 1 rfl, bc_ BK102 2 rfl⟩ (fun hHeld => ?_)
  clear hK K
  refine nq_ 9 ?_
  refine last_ (i := 4) (N := none) #[true, true, true, true, true, false] rfl rfl (by kernel_rfl) (by decide) (fun K hK => ?_)
  have hs74 : w73.cell? ⟨gb101, 0, none⟩ = some (.int .i64 a0_0) := bc_ BK101 0 rfl
  have hfs74 := blk_frozen BK101.out 0
  have hns74_1 := NB102_101.out
  have hns74_2 := NB103_101.out
  have hms74_1 := NB101_102.out
  have hms74_2 := NB101_103.out
  have hs75 : w73.cell? ⟨gb101, 1, none⟩ = some (.int .i64 a0_1) := bc_ BK101 1 rfl
  have hfs75 := blk_frozen BK101.out 1
  have hns75_1 := NB102_101.out
  have hns75_2 := NB103_101.out
  have hms75_1 := NB101_102.out
  have hms75_2 := NB101_103.out
  have hs76 : w73.cell? ⟨gb101, 2, none⟩ = some (.bool a0_2) := bc_ BK101 2 rfl
  have hfs76 := blk_frozen BK101.out 2
  have hns76_1 := NB102_101.out
  have hns76_2 := NB103_101.out
  have hms76_1 := NB101_102.out
  have hms76_2 := NB101_103.out
  refine skip_ (w1 := ?_) (by rfl) rfl ?_ ?_
  rotate_left
  · go_simp
    rfl
  refine hK.out _ _ ?_
  clear hK K
  refine last_ (i := 5) (N := none) #[true, true, true, true, true, true] rfl rfl (by kernel_rfl) (by decide) (fun K hK => ?_)
  have hs77 : w73.cell? ⟨gb102, 0, none⟩ = some (.int .i64 a1_0) := bc_ BK102 0 rfl
  have hfs77 := blk_frozen BK102.out 0
  have hns77_0 := NB101_102.out
  have hns77_2 := NB103_102.out
  have hms77_0 := NB102_101.out
  have hms77_2 := NB102_103.out
  have hs78 : w73.cell? ⟨gb102, 1, none⟩ = some (.int .i64 a1_1) := bc_ BK102 1 rfl
  have hfs78 := blk_frozen BK102.out 1
  have hns78_0 := NB101_102.out
  have hns78_2 := NB103_102.out
  have hms78_0 := NB102_101.out
  have hms78_2 := NB102_103.out
  have hs79 : w73.cell? ⟨gb102, 2, none⟩ = some (.bool a1_2) := bc_ BK102 2 rfl
  have hfs79 := blk_frozen BK102.out 2
  have hns79_0 := NB101_102.out
  have hns79_2 := NB103_102.out
  have hms79_0 := NB102_101.out
  have hms79_2 := NB102_103.out
  refine skip_ (w1 := ?_) (by rfl) rfl ?_ ?_
  rotate_left
  · go_simp
    rfl
  refine hK.out _ _ ?_
  clear hK K
  refine done_ (by kernel_rfl) ?_
  have hnb80 := NB101_102.out
  have hnc80 := NB102_101.out
  have hnb81 := NB101_103.out
  have hnc81 := NB103_101.out
  have hcz82_0 := bc_ BK101 0 rfl
  have hcz82_1 := bc_ BK101 1 rfl
  have hcz82_2 := bc_ BK101 2 rfl
  have hfz82 := blk_frozen BK101.out
  have hnb83 := NB102_103.out
  have hnc83 := NB103_102.out
  have hcz84_0 := bc_ BK102 0 rfl
  have hcz84_1 := bc_ BK102 1 rfl
  have hcz84_2 := bc_ BK102 2 rfl
  have hfz84 := blk_frozen BK102.out
  try go_wp2_with (first | ((with_reducible refine gate_callee (f := 35) rfl ?_); refine goesL_ (some 41) rfl rfl Try.func35 (by kernel_rfl) rfl #[.int .i64 ji45, .int .i64 ji46] rfl (by (try simp only [List.map_toArray, List.map_cons, List.map_nil]); first | done | (simp only [hji45, hji46]; rfl) | rfl | (simp only [List.length_drop, List.length_take]; rfl)) ?_; (with_reducible refine (bound_Of_api_Fix.calls k ji45 ji46 t110 t111 t112 _ A67.out).mono ?_); rintro e w85 ⟨rfl, hb⟩; refine ⟨_, rfl, ?_⟩; replace BK101 := Aside0.mk (blk_below (g := gb101) (o := .cells #[.int .i64 t104, .int .i64 t105, .bool false] 41 (0, 0)) (by refine blk_far ?_ NB101_102.out _; refine blk_far ?_ NB101_102.out _; refine blk_far ?_ NB101_102.out _; exact blk_put (blk_put (blk_put BK101.out 0 _ rfl) 1 _ rfl) 2 _ rfl) hb); replace BK102 := Aside0.mk (blk_below (g := gb102) (o := .cells #[.int .i64 t107, .int .i64 t108, .bool false] 41 (0, 0)) (by refine blk_put (cs := #[.int .i64 t107, .int .i64 t108, .bool a1_2]) ?_ 2 _ rfl; refine blk_put (cs := #[.int .i64 t107, .int .i64 a1_1, .bool a1_2]) ?_ 1 _ rfl; refine blk_put (cs := #[.int .i64 a1_0, .int .i64 a1_1, .bool a1_2]) ?_ 0 _ rfl; exact blk_far (blk_far (blk_far BK102.out NB102_101.out _) NB102_101.out _) NB102_101.out _) hb); replace BK103 := Aside0.mk (blk_below (g := gb103) (o := .cells #[.int .i64 0, .int .i64 0, .bool false] 41 (0, 0)) (by exact blk_far (blk_far (blk_far (blk_far (blk_far (blk_far BK103.out NB103_101.out _) NB103_101.out _) NB103_101.out _) NB103_102.out _) NB103_102.out _) NB103_102.out _) hb); replace HB := Aside0.mk (below_step (by repeat (first | exact HB.out | apply below_alloc | refine below_set ?_ GE101.out | refine below_set ?_ GE102.out | refine below_set ?_ GE103.out)) hb); (try clear hb); have hcz86_0 := bc_ BK103 0 rfl; have hcz86_1 := bc_ BK103 1 rfl; have hcz86_2 := bc_ BK103 2 rfl; have hfz86 := blk_frozen BK103.out) | ((with_reducible refine gate_store (t := 41) (p := 4) rfl ?_); refine store_event (t := 41) (p := 4) (v := ?vo_w87) (w1 := (((w85.setCell ⟨gb103, 0, none⟩ (.int .i64 t110)).setCell ⟨gb103, 1, none⟩ (.int .i64 t111)).setCell ⟨gb103, 2, none⟩ (.bool t112))) ?hg ?ho ?hn ?hr ?_; (case ho => rfl); (case hg => rfl); (case hn => rfl); (case hr => first | (go_simp; done) | (go_simp; rfl)); intro w87 hw; replace BK101 : Aside0 (w87.heap[gb101]? = some (.cells #[.int .i64 t104, .int .i64 t105, .bool false] 41 (0, 0))) := ⟨(by rw [hw]; exact (by exact blk_far (blk_far (blk_far BK101.out NB101_103.out _) NB101_103.out _) NB101_103.out _))⟩; replace BK102 : Aside0 (w87.heap[gb102]? = some (.cells #[.int .i64 t107, .int .i64 t108, .bool false] 41 (0, 0))) := ⟨(by rw [hw]; exact (by exact blk_far (blk_far (blk_far BK102.out NB102_103.out _) NB102_103.out _) NB102_103.out _))⟩; replace BK103 : Aside0 (w87.heap[gb103]? = some (.cells #[.int .i64 t110, .int .i64 t111, .bool t112] 41 (0, 0))) := ⟨(by rw [hw]; exact (by exact blk_put (blk_put (blk_put BK103.out 0 _ rfl) 1 _ rfl) 2 _ rfl))⟩; replace HB : Aside0 (Below w.heap.size w w87) := ⟨(by rw [hw]; exact (by repeat (first | (with_reducible first | exact HB.out | apply below_alloc | refine below_set ?_ GE101.out | refine below_set ?_ GE102.out | refine below_set ?_ GE103.out) | exact HB.out)))⟩; clear hw))
  refine bodyPost_ret (results_ct rfl _ _ gb103 41 #[.int .i64 t110, .int .i64 t111, .bool t112] (0, 0) _ rfl BK103.out Try.underlying41 rfl (by kernel_rfl)) rfl ?_
  exact ⟨by first | rfl | (simp [errW_none, errW_some] <;> rfl) | (simp only [← hji45, ← hji46]; first | rfl | (simp [errW_none, errW_some] <;> rfl)), by repeat (first | exact HB.out | apply below_alloc | refine below_set ?_ GE101.out | refine below_set ?_ GE102.out | refine below_set ?_ GE103.out)⟩

end Go.Proofs.Ytjgikgbolacikaa.Q
