/- Contracts of Go functions of the seat, one by one: each call returns what the Lean function of the same name says, wherever that is 'some'; no other condition. Written by a program of this session. -/
import Derived.Test.YtbaedcjophgiiaaKTileZonesCutQx0
import Derived.Test.YtbaedcjophgiiaaKTileZonesCutQx12
namespace Go.Proofs.Ytbaedcjophgiiaa.Q
open Go.RowKit Go.Proofs.YtbaedcjophgiiaaW.PrintWords Go.Proofs.YtbaedcjophgiiaaW.PrintLast Go.Proofs.YtbaedcjophgiiaaW.PrintMore
attribute [local go_sem] max2_int min2_int max_two min_two max_three min_three max_four min_four   -- for this text's walks alone
set_option linter.unusedVariables false
set_option linter.unusedSimpArgs false

/-! ### tile_crosses_1_1: function 121 -/
def tile_crosses_1_1.f (a0_0 : Int) (a0_1 : Int) (a0_2 : Int) (l1 : List (S67)) : Option (Bool) := if 0 < (l1.length : Int) then ((num_Product.f a0_0 ((rd_T67 l1 0).f0)).bind fun bt103 => (if 0 < (l1.length : Int) then ((num_Product.f a0_1 ((rd_T67 l1 0).f1)).bind fun bt106 => ((num_Wide_Plus.f bt103.1 bt103.2 bt106.1 bt106.2).bind fun bt108 => (if 0 < (l1.length : Int) then ((num_Product.f a0_2 ((rd_T67 l1 0).f2)).bind fun bt111 => ((num_Wide_Plus.f bt108.1 bt108.2 bt111.1 bt111.2).bind fun bt113 => (some (decide (bt113.1 < 0))))) else (none)))) else (none))) else (none)
def tile_crosses_1_1.T1 : Bool × List (List Nat × List Nat) := (true, [([], []), ([0], [0]), ([], []), ([2], [2]), ([1, 3], [1, 3]), ([], []), ([5], [5]), ([], []), ([7], [7]), ([6, 8, 4], [6, 8]), ([4, 9, 9], [4, 9]), ([], []), ([11], [11]), ([], []), ([13], [13]), ([12, 14, 10], [12, 14]), ([10, 15, 15], [10, 15]), ([16], [16]), ([17], [17]), ([18, 16, 0, 1, 2, 3, 4, 5, 6, 7, 8, 9, 10, 11, 12, 13, 14, 15, 16, 17, 18], [18])])
def tile_crosses_1_1.B1 : List Nat := [0, 1, 0, 4, 15, 0, 32, 0, 128, 511, 1023, 0, 2048, 0, 8192, 32767, 65535, 131071, 262143, 524287]
theorem tile_crosses_1_1.tab1 : rtab .any (opsOf Try.f121 1) = tile_crosses_1_1.T1 := by kernel_rfl
theorem tile_crosses_1_1.bits1 : waitsOk tile_crosses_1_1.T1.2 tile_crosses_1_1.B1 = true := by kernel_rfl
set_option maxHeartbeats 8000000 in
set_option maxRecDepth 100000 in
theorem tile_crosses_1_1.calls (a0_0 : Int) (a0_1 : Int) (a0_2 : Int) (A1 : Option Addr) (c1 : Nat) (l1 : List (S67)) (r : Bool) (w : World) (hr1 : Kd.C k67 w A1 l1.length l1) (hc1 : l1.length ≤ c1) (h : tile_crosses_1_1.f a0_0 a0_1 a0_2 l1 = some r) :
 Calls Try.prog 121 #[.agg #[.int .i64 a0_0, .int .i64 a0_1, .int .i64 a0_2], .pointer A1] w fun e w' => e = .returned (.bool r) ∧ Below w.heap.size w w' := by
  have hu67 := Try.underlying67
  have hfld32_0 := fld32_0
  have HR1 := Aside0.mk hr1
  have HC1 := Aside0.mk hc1
  clear hr1 hc1
  have HB := Aside0.mk (Below.refl w.heap.size w)
  have H : (if 0 < (l1.length : Int) then ((num_Product.f a0_0 ((rd_T67 l1 0).f0)).bind fun bt103 => (if 0 < (l1.length : Int) then ((num_Product.f a0_1 ((rd_T67 l1 0).f1)).bind fun bt106 => ((num_Wide_Plus.f bt103.1 bt103.2 bt106.1 bt106.2).bind fun bt108 => (if 0 < (l1.length : Int) then ((num_Product.f a0_2 ((rd_T67 l1 0).f2)).bind fun bt111 => ((num_Wide_Plus.f bt108.1 bt108.2 bt111.1 bt111.2).bind fun bt113 => (some (decide (bt113.1 < 0))))) else (none)))) else (none))) else (none)) = some r := h
  clear h
  by_cases c3 : 0 < (l1.length : Int)
  rotate_left
  · rw [if_neg c3] at H
    exact absurd H (by simp)
  rw [if_pos c3] at H
  have c3b0 : decide (0 < (l1.length : Int)) = true := decide_eq_true c3
  have c3b1 : decide (0 < l1.length) = true := decide_eq_true (by omega)
  clear c3
  replace H := Option.bind_eq_some_iff.mp H
  obtain ⟨⟨t103, t104⟩, A40, H⟩ := H
  try dsimp -simprocs only at H
  have A4 := Aside0.mk A40
  clear A40
  by_cases c5 : 0 < (l1.length : Int)
  rotate_left
  · rw [if_neg c5] at H
    exact absurd H (by simp)
  rw [if_pos c5] at H
  have c5b0 : decide (0 < (l1.length : Int)) = true := decide_eq_true c5
  have c5b1 : decide (0 < l1.length) = true := decide_eq_true (by omega)
  clear c5
  replace H := Option.bind_eq_some_iff.mp H
  obtain ⟨⟨t106, t107⟩, A60, H⟩ := H
  try dsimp -simprocs only at H
  have A6 := Aside0.mk A60
  clear A60
  replace H := Option.bind_eq_some_iff.mp H
  obtain ⟨⟨t108, t109⟩, A70, H⟩ := H
  try dsimp -simprocs only at H
  have A7 := Aside0.mk A70
  clear A70
  by_cases c8 : 0 < (l1.length : Int)
  rotate_left
  · rw [if_neg c8] at H
    exact absurd H (by simp)
  rw [if_pos c8] at H
  have c8b0 : decide (0 < (l1.length : Int)) = true := decide_eq_true c8
  have c8b1 : decide (0 < l1.length) = true := decide_eq_true (by omega)
  clear c8
  replace H := Option.bind_eq_some_iff.mp H
  obtain ⟨⟨t111, t112⟩, A90, H⟩ := H
  try dsimp -simprocs only at H
  have A9 := Aside0.mk A90
  clear A90
  replace H := Option.bind_eq_some_iff.mp H
  obtain ⟨⟨t113, t114⟩, A100, H⟩ := H
  try dsimp -simprocs only at H
  have A10 := Aside0.mk A100
  clear A100
  obtain rfl := Option.some.inj H
  go_enter Try.func121, Try.ntmps121
  try go_wp2_with (first | ((with_reducible refine gate_dst (N := 2) rfl ?_); refine bxq_ 2 #[.int .i64 a0_0, .int .i64 a0_1, .int .i64 a0_2] 67 ?_; intro gb101 hg w11 hbox hb; have BK101 := Aside0.mk (hbox); have GW101 := gwq_ HB hg rfl; have GE101 := GW101; replace HB := hbs_ HB hb rfl rfl rfl rfl; clear hb hbox hg))
  replace BK101 := Aside0.mk (blk_drew BK101.out)
  replace HB := Aside0.mk (below_drew1 HB.out)
  have p102 : 0 ≤ (0 : Int) := (by omega)
  have q102 : 0 < (l1.length : Int) := of_decide_eq_true (by first | (with_reducible assumption) | assumption)
  obtain ⟨ad102, e102, hx102_0, hx102_1, hx102_2⟩ := at_T67 HR1.out 0 p102 q102
  have hw102_2 := hx102_2
  (try rw [show ((0 : Int)).toNat = 0 from rfl] at hw102_2)
  (try rw [show 0 * 3 = 0 from rfl] at hw102_2)
  (try rw [Addr.add_zero'] at hw102_2)
  have hw102_1 := hx102_1
  (try rw [show ((0 : Int)).toNat = 0 from rfl] at hw102_1)
  (try rw [show 0 * 3 = 0 from rfl] at hw102_1)
  (try rw [Addr.add_zero'] at hw102_1)
  have hw102_0 := hx102_0
  (try rw [show ((0 : Int)).toNat = 0 from rfl] at hw102_0)
  (try rw [show 0 * 3 = 0 from rfl] at hw102_0)
  (try rw [Addr.add_zero'] at hw102_0)
  cases e102
  have qi102 : (0 < l1.length) = True := eq_true (by omega)
  (try rw [show ((0 : Int)).toNat = 0 from rfl] at hx102_0)
  (try rw [show 0 * 3 = 0 from rfl] at hx102_0)
  (try rw [Addr.add_zero'] at hx102_0)
  (try rw [show ((0 : Int)).toNat = 0 from rfl] at hx102_1)
  (try rw [show 0 * 3 = 0 from rfl] at hx102_1)
  (try rw [Addr.add_zero'] at hx102_1)
  (try rw [show ((0 : Int)).toNat = 0 from rfl] at hx102_2)
  (try rw [show 0 * 3 = 0 from rfl] at hx102_2)
  (try rw [Addr.add_zero'] at hx102_2)
  replace hx102_0 := (HB.out.cell (World.block_lt_of_cell? w _ hx102_0)).trans hx102_0
  replace hx102_1 := (HB.out.cell (World.block_lt_of_cell? w _ hx102_1)).trans hx102_1
  replace hx102_2 := (HB.out.cell (World.block_lt_of_cell? w _ hx102_2)).trans hx102_2
  replace p102 := eq_true p102
  replace q102 := eq_true q102
  have p105 : 0 ≤ (0 : Int) := (by omega)
  have q105 : 0 < (l1.length : Int) := of_decide_eq_true (by first | (with_reducible assumption) | assumption)
  obtain ⟨ad105, e105, hx105_0, hx105_1, hx105_2⟩ := at_T67 HR1.out 0 p105 q105
  have hw105_2 := hx105_2
  (try rw [show ((0 : Int)).toNat = 0 from rfl] at hw105_2)
  (try rw [show 0 * 3 = 0 from rfl] at hw105_2)
  (try rw [Addr.add_zero'] at hw105_2)
  have hw105_1 := hx105_1
  (try rw [show ((0 : Int)).toNat = 0 from rfl] at hw105_1)
  (try rw [show 0 * 3 = 0 from rfl] at hw105_1)
  (try rw [Addr.add_zero'] at hw105_1)
  have hw105_0 := hx105_0
  (try rw [show ((0 : Int)).toNat = 0 from rfl] at hw105_0)
  (try rw [show 0 * 3 = 0 from rfl] at hw105_0)
  (try rw [Addr.add_zero'] at hw105_0)
  obtain rfl : ad102 = ad105 := (by injection e105)
  have qi105 : (0 < l1.length) = True := eq_true (by omega)
  (try rw [show ((0 : Int)).toNat = 0 from rfl] at hx105_0)
  (try rw [show 0 * 3 = 0 from rfl] at hx105_0)
  (try rw [Addr.add_zero'] at hx105_0)
  (try rw [show ((0 : Int)).toNat = 0 from rfl] at hx105_1)
  (try rw [show 0 * 3 = 0 from rfl] at hx105_1)
  (try rw [Addr.add_zero'] at hx105_1)
  (try rw [show ((0 : Int)).toNat = 0 from rfl] at hx105_2)
  (try rw [show 0 * 3 = 0 from rfl] at hx105_2)
  (try rw [Addr.add_zero'] at hx105_2)
  replace hx105_0 := (HB.out.cell (World.block_lt_of_cell? w _ hx105_0)).trans hx105_0
  replace hx105_1 := (HB.out.cell (World.block_lt_of_cell? w _ hx105_1)).trans hx105_1
  replace hx105_2 := (HB.out.cell (World.block_lt_of_cell? w _ hx105_2)).trans hx105_2
  replace p105 := eq_true p105
  replace q105 := eq_true q105
  have p110 : 0 ≤ (0 : Int) := (by omega)
  have q110 : 0 < (l1.length : Int) := of_decide_eq_true (by first | (with_reducible assumption) | assumption)
  obtain ⟨ad110, e110, hx110_0, hx110_1, hx110_2⟩ := at_T67 HR1.out 0 p110 q110
  have hw110_2 := hx110_2
  (try rw [show ((0 : Int)).toNat = 0 from rfl] at hw110_2)
  (try rw [show 0 * 3 = 0 from rfl] at hw110_2)
  (try rw [Addr.add_zero'] at hw110_2)
  have hw110_1 := hx110_1
  (try rw [show ((0 : Int)).toNat = 0 from rfl] at hw110_1)
  (try rw [show 0 * 3 = 0 from rfl] at hw110_1)
  (try rw [Addr.add_zero'] at hw110_1)
  have hw110_0 := hx110_0
  (try rw [show ((0 : Int)).toNat = 0 from rfl] at hw110_0)
  (try rw [show 0 * 3 = 0 from rfl] at hw110_0)
  (try rw [Addr.add_zero'] at hw110_0)
  obtain rfl : ad102 = ad110 := (by injection e110)
  have qi110 : (0 < l1.length) = True := eq_true (by omega)
  (try rw [show ((0 : Int)).toNat = 0 from rfl] at hx110_0)
  (try rw [show 0 * 3 = 0 from rfl] at hx110_0)
  (try rw [Addr.add_zero'] at hx110_0)
  (try rw [show ((0 : Int)).toNat = 0 from rfl] at hx110_1)
  (try rw [show 0 * 3 = 0 from rfl] at hx110_1)
  (try rw [Addr.add_zero'] at hx110_1)
  (try rw [show ((0 : Int)).toNat = 0 from rfl] at hx110_2)
  (try rw [show 0 * 3 = 0 from rfl] at hx110_2)
  (try rw [Addr.add_zero'] at hx110_2)
  replace hx110_0 := (HB.out.cell (World.block_lt_of_cell? w _ hx110_0)).trans hx110_0
  replace hx110_1 := (HB.out.cell (World.block_lt_of_cell? w _ hx110_1)).trans hx110_1
  replace hx110_2 := (HB.out.cell (World.block_lt_of_cell? w _ hx110_2)).trans hx110_2
  replace p110 := eq_true p110
  replace q110 := eq_true q110
  refine start_ (n := 20) (S := fun w' => w'.cell? ⟨gb101, 0, none⟩ = some (.int .i64 a0_0) ∧ w'.cell? ⟨gb101, 1, none⟩ = some (.int .i64 a0_1) ∧ w'.cell? ⟨gb101, 2, none⟩ = some (.int .i64 a0_2) ∧ w'.cell? ad102 = some (.int .i64 ((rd_T67 l1 0).f0)) ∧ w'.cell? ⟨ad102.block, ad102.off + 1, none⟩ = some (.int .i64 ((rd_T67 l1 0).f1)) ∧ w'.cell? ⟨ad102.block, ad102.off + 2, none⟩ = some (.int .i64 ((rd_T67 l1 0).f2)) ∧ w'.cell? ad102 = some (.int .i64 ((rd_T67 l1 0).f0)) ∧ w'.cell? ⟨ad102.block, ad102.off + 1, none⟩ = some (.int .i64 ((rd_T67 l1 0).f1)) ∧ w'.cell? ⟨ad102.block, ad102.off + 2, none⟩ = some (.int .i64 ((rd_T67 l1 0).f2)) ∧ w'.cell? ad102 = some (.int .i64 ((rd_T67 l1 0).f0)) ∧ w'.cell? ⟨ad102.block, ad102.off + 1, none⟩ = some (.int .i64 ((rd_T67 l1 0).f1)) ∧ w'.cell? ⟨ad102.block, ad102.off + 2, none⟩ = some (.int .i64 ((rd_T67 l1 0).f2))) (ds := []) (bm_ [0, 20]) (by kernel_rfl) rfl rfl ⟨bc_ BK101 0 rfl, bc_ BK101 1 rfl, bc_ BK101 2 rfl, ((HB.out.cell (World.block_lt_of_cell? w _ hw102_0)).trans hw102_0), ((HB.out.cell (World.block_lt_of_cell? w _ hw102_1)).trans hw102_1), ((HB.out.cell (World.block_lt_of_cell? w _ hw102_2)).trans hw102_2), ((HB.out.cell (World.block_lt_of_cell? w _ hw105_0)).trans hw105_0), ((HB.out.cell (World.block_lt_of_cell? w _ hw105_1)).trans hw105_1), ((HB.out.cell (World.block_lt_of_cell? w _ hw105_2)).trans hw105_2), ((HB.out.cell (World.block_lt_of_cell? w _ hw110_0)).trans hw110_0), ((HB.out.cell (World.block_lt_of_cell? w _ hw110_1)).trans hw110_1), ((HB.out.cell (World.block_lt_of_cell? w _ hw110_2)).trans hw110_2)⟩ (fun hHeld => ?_); refine with_tabW tile_crosses_1_1.tab1 tile_crosses_1_1.bits1 (fun HT_ HW_ => ?_)
  generalize w11.drew = w12 at BK101 HB hx102_0 hx102_1 hx102_2 hx105_0 hx105_1 hx105_2 hx110_0 hx110_1 hx110_2 hHeld ⊢
  refine pq_ 0 4 (bm_ [1, 19]) HT_ ?_
  refine pq_ 2 6 (bm_ [1, 1, 1, 17]) HT_ ?_
  refine pq_ 5 9 (bm_ [1, 1, 1, 2, 1, 14]) HT_ ?_
  refine pq_ 7 11 (bm_ [1, 1, 1, 2, 1, 1, 1, 12]) HT_ ?_
  refine pq_ 11 15 (bm_ [1, 1, 1, 2, 1, 1, 1, 3, 1, 8]) HT_ ?_
  refine pq_ 13 17 (bm_ [1, 1, 1, 2, 1, 1, 1, 3, 1, 1, 1, 6]) HT_ ?_
  refine tq_ 1 5 (bm_ [3, 2, 1, 1, 1, 3, 1, 1, 1, 6]) HT_ HW_ hHeld ?_
  refine tq_ 3 7 (bm_ [4, 1, 1, 1, 1, 3, 1, 1, 1, 6]) HT_ HW_ hHeld ?_
  refine tq_ 6 10 (bm_ [4, 1, 3, 3, 1, 1, 1, 6]) HT_ HW_ hHeld ?_
  refine tq_ 8 12 (bm_ [4, 1, 4, 2, 1, 1, 1, 6]) HT_ HW_ hHeld ?_
  refine tq_ 12 16 (bm_ [4, 1, 4, 2, 3, 6]) HT_ HW_ hHeld ?_
  refine tq_ 14 18 (bm_ [4, 1, 4, 2, 4, 5]) HT_ HW_ hHeld ?_
  refine oq_ 4 (some 8) (bm_ [9, 2, 4, 5]) HT_ (fun K hK => ?_)
  refine gq_ Try.func23 #[.int .i64 a0_0, .int .i64 ((rd_T67 l1 0).f0)] ?_
  with_reducible refine (num_Product.calls a0_0 ((rd_T67 l1 0).f0) t103 t104 _ A4.out).mono ?_
  rintro e w13 ⟨rfl, hb⟩
  refine ⟨_, rfl, ?_⟩
  replace BK101 := bkb_ BK101 hb rfl
  replace HB := hbs_ HB hb rfl rfl rfl rfl
  (try clear hb)
  refine hK.out _ _ ⟨bc_ BK101 0 rfl, bc_ BK101 1 rfl, bc_ BK101 2 rfl, ((HB.out.cell (World.block_lt_of_cell? w _ hw102_0)).trans hw102_0), ((HB.out.cell (World.block_lt_of_cell? w _ hw102_1)).trans hw102_1), ((HB.out.cell (World.block_lt_of_cell? w _ hw102_2)).trans hw102_2), ((HB.out.cell (World.block_lt_of_cell? w _ hw105_0)).trans hw105_0), ((HB.out.cell (World.block_lt_of_cell? w _ hw105_1)).trans hw105_1), ((HB.out.cell (World.block_lt_of_cell? w _ hw105_2)).trans hw105_2), ((HB.out.cell (World.block_lt_of_cell? w _ hw110_0)).trans hw110_0), ((HB.out.cell (World.block_lt_of_cell? w _ hw110_1)).trans hw110_1), ((HB.out.cell (World.block_lt_of_cell? w _ hw110_2)).trans hw110_2)⟩ (fun hHeld => ?_)
  clear hK K
  refine nq_ 8 ?_
  refine oq_ 9 (some 13) (bm_ [10, 1, 4, 5]) HT_ (fun K hK => ?_)
  refine gq_ Try.func23 #[.int .i64 a0_1, .int .i64 ((rd_T67 l1 0).f1)] ?_
  with_reducible refine (num_Product.calls a0_1 ((rd_T67 l1 0).f1) t106 t107 _ A6.out).mono ?_
  rintro e w14 ⟨rfl, hb⟩
  refine ⟨_, rfl, ?_⟩
  replace BK101 := bkb_ BK101 hb rfl
  replace HB := hbs_ HB hb rfl rfl rfl rfl
  (try clear hb)
  refine hK.out _ _ ⟨bc_ BK101 0 rfl, bc_ BK101 1 rfl, bc_ BK101 2 rfl, ((HB.out.cell (World.block_lt_of_cell? w _ hw102_0)).trans hw102_0), ((HB.out.cell (World.block_lt_of_cell? w _ hw102_1)).trans hw102_1), ((HB.out.cell (World.block_lt_of_cell? w _ hw102_2)).trans hw102_2), ((HB.out.cell (World.block_lt_of_cell? w _ hw105_0)).trans hw105_0), ((HB.out.cell (World.block_lt_of_cell? w _ hw105_1)).trans hw105_1), ((HB.out.cell (World.block_lt_of_cell? w _ hw105_2)).trans hw105_2), ((HB.out.cell (World.block_lt_of_cell? w _ hw110_0)).trans hw110_0), ((HB.out.cell (World.block_lt_of_cell? w _ hw110_1)).trans hw110_1), ((HB.out.cell (World.block_lt_of_cell? w _ hw110_2)).trans hw110_2)⟩ (fun hHeld => ?_)
  clear hK K
  refine nq_ 13 ?_
  refine oq_ 10 (some 14) (bm_ [15, 5]) HT_ (fun K hK => ?_)
  refine gq_ Try.func20 #[.agg #[.int .i64 t103, .int .u64 t104], .agg #[.int .i64 t106, .int .u64 t107]] ?_
  with_reducible refine (num_Wide_Plus.calls t103 t104 t106 t107 t108 t109 _ A7.out).mono ?_
  rintro e w15 ⟨rfl, hb⟩
  refine ⟨_, rfl, ?_⟩
  replace BK101 := bkb_ BK101 hb rfl
  replace HB := hbs_ HB hb rfl rfl rfl rfl
  (try clear hb)
  refine hK.out _ _ ⟨bc_ BK101 0 rfl, bc_ BK101 1 rfl, bc_ BK101 2 rfl, ((HB.out.cell (World.block_lt_of_cell? w _ hw102_0)).trans hw102_0), ((HB.out.cell (World.block_lt_of_cell? w _ hw102_1)).trans hw102_1), ((HB.out.cell (World.block_lt_of_cell? w _ hw102_2)).trans hw102_2), ((HB.out.cell (World.block_lt_of_cell? w _ hw105_0)).trans hw105_0), ((HB.out.cell (World.block_lt_of_cell? w _ hw105_1)).trans hw105_1), ((HB.out.cell (World.block_lt_of_cell? w _ hw105_2)).trans hw105_2), ((HB.out.cell (World.block_lt_of_cell? w _ hw110_0)).trans hw110_0), ((HB.out.cell (World.block_lt_of_cell? w _ hw110_1)).trans hw110_1), ((HB.out.cell (World.block_lt_of_cell? w _ hw110_2)).trans hw110_2)⟩ (fun hHeld => ?_)
  clear hK K
  refine nq_ 14 ?_
  refine oq_ 15 (some 19) (bm_ [16, 4]) HT_ (fun K hK => ?_)
  refine gq_ Try.func23 #[.int .i64 a0_2, .int .i64 ((rd_T67 l1 0).f2)] ?_
  with_reducible refine (num_Product.calls a0_2 ((rd_T67 l1 0).f2) t111 t112 _ A9.out).mono ?_
  rintro e w16 ⟨rfl, hb⟩
  refine ⟨_, rfl, ?_⟩
  replace BK101 := bkb_ BK101 hb rfl
  replace HB := hbs_ HB hb rfl rfl rfl rfl
  (try clear hb)
  refine hK.out _ _ ⟨bc_ BK101 0 rfl, bc_ BK101 1 rfl, bc_ BK101 2 rfl, ((HB.out.cell (World.block_lt_of_cell? w _ hw102_0)).trans hw102_0), ((HB.out.cell (World.block_lt_of_cell? w _ hw102_1)).trans hw102_1), ((HB.out.cell (World.block_lt_of_cell? w _ hw102_2)).trans hw102_2), ((HB.out.cell (World.block_lt_of_cell? w _ hw105_0)).trans hw105_0), ((HB.out.cell (World.block_lt_of_cell? w _ hw105_1)).trans hw105_1), ((HB.out.cell (World.block_lt_of_cell? w _ hw105_2)).trans hw105_2), ((HB.out.cell (World.block_lt_of_cell? w _ hw110_0)).trans hw110_0), ((HB.out.cell (World.block_lt_of_cell? w _ hw110_1)).trans hw110_1), ((HB.out.cell (World.block_lt_of_cell? w _ hw110_2)).trans hw110_2)⟩ (fun hHeld => ?_)
  clear hK K
  refine nq_ 19 ?_
  refine oq_ 16 (some 20) (bm_ [17, 3]) HT_ (fun K hK => ?_)
  refine gq_ Try.func20 #[.agg #[.int .i64 t108, .int .u64 t109], .agg #[.int .i64 t111, .int .u64 t112]] ?_
  with_reducible refine (num_Wide_Plus.calls t108 t109 t111 t112 t113 t114 _ A10.out).mono ?_
  rintro e w17 ⟨rfl, hb⟩
  refine ⟨_, rfl, ?_⟩
  replace BK101 := bkb_ BK101 hb rfl
  replace HB := hbs_ HB hb rfl rfl rfl rfl
  (try clear hb)
  refine hK.out _ _ ⟨bc_ BK101 0 rfl, bc_ BK101 1 rfl, bc_ BK101 2 rfl, ((HB.out.cell (World.block_lt_of_cell? w _ hw102_0)).trans hw102_0), ((HB.out.cell (World.block_lt_of_cell? w _ hw102_1)).trans hw102_1), ((HB.out.cell (World.block_lt_of_cell? w _ hw102_2)).trans hw102_2), ((HB.out.cell (World.block_lt_of_cell? w _ hw105_0)).trans hw105_0), ((HB.out.cell (World.block_lt_of_cell? w _ hw105_1)).trans hw105_1), ((HB.out.cell (World.block_lt_of_cell? w _ hw105_2)).trans hw105_2), ((HB.out.cell (World.block_lt_of_cell? w _ hw110_0)).trans hw110_0), ((HB.out.cell (World.block_lt_of_cell? w _ hw110_1)).trans hw110_1), ((HB.out.cell (World.block_lt_of_cell? w _ hw110_2)).trans hw110_2)⟩ (fun hHeld => ?_)
  clear hK K
  refine nq_ 20 ?_
  refine pq_ 17 21 (bm_ [18, 2]) HT_ ?_
  refine pq_ 18 22 (bm_ [19, 1]) HT_ ?_
  refine pq_ 19 3 (bm_ [20]) HT_ ?_
  refine done_ (done_of HT_.out (by kernel_rfl)) ?_
  try go_wp2
  go_ret
  exact ⟨by first | rfl | (simp [errW_none, errW_some] <;> rfl) | (simp [*, errW_none, errW_some] <;> rfl), by repeat (first | (with_reducible first | exact HB.out | apply below_alloc | apply pw_below_drewN | apply below_drew1 | refine below_set ?_ GE101.out) | exact HB.out)⟩

end Go.Proofs.Ytbaedcjophgiiaa.Q
