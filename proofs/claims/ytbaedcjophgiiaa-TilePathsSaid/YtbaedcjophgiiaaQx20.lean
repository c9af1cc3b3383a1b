/- Contracts of Go functions of the seat, one by one: each call returns what the Lean function of the same name says, wherever that is 'some'; no other condition. Written by a program of this session. -/
import Derived.Test.YtbaedcjophgiiaaQx0
import Derived.Test.YtbaedcjophgiiaaQx2
import Derived.Test.YtbaedcjophgiiaaQx4
import Derived.Test.YtbaedcjophgiiaaQx7
import Derived.Test.YtbaedcjophgiiaaQx8
import Derived.Test.YtbaedcjophgiiaaQx9
import Derived.Test.YtbaedcjophgiiaaQx14
import Derived.Test.YtbaedcjophgiiaaQx16
import Derived.Test.YtbaedcjophgiiaaQx19
namespace Go.Proofs.Ytbaedcjophgiiaa.Q
open Go.RowKit Go.Proofs.YtbaedcjophgiiaaW.PrintWords Go.Proofs.YtbaedcjophgiiaaW.PrintLast Go.Proofs.YtbaedcjophgiiaaW.PrintMore
attribute [local go_sem] max2_int min2_int max_two min_two max_three min_three max_four min_four   -- for this text's walks alone
set_option linter.unusedVariables false
set_option linter.unusedSimpArgs false

/-! ### spykeep1_TilePaths: function 12 -/
mutual
def spykeep1_TilePaths.j0 : Nat → Int → Bool → Int → Int → Int → Option (Bool)
 | 0, _, _, _, _, _ => none
 | k + 1, x5, x30, x107000, x107001, x107002 => if x30 = true then (none) else (spykeep1_TilePaths.l0 k x5 1 x107000 x107001 x107002)
def spykeep1_TilePaths.l0 : Nat → Int → Int → Int → Int → Int → Option (Bool)
 | 0, _, _, _, _, _ => none
 | k + 1, x5, x7, x107000, x107001, x107002 => if x7 ≤ 12 then ((tile_Of.f k x107000 x107001 x107002 x7).bind fun bt110 => ((tile_Parent.f k bt110.1).bind fun bt113 => ((tile_Level.f k bt110.1).bind fun bt116 => (if bt110.2 = 0 then (if bt113.2 = true then (if bt116.2 = true then (if bt116.1 = x7 then (if bt113.1 = x5 then ((tile_Kids.f k x5).bind fun t118 => ((slices_Contains_api_Tile_api_Tile.f k t118 bt110.1).bind fun t121 => (if t121 = true then ((tile_Has.f k bt110.1 x107000 x107001 x107002).bind fun t122 => (spykeep1_TilePaths.j2 k x7 (!t122) x107000 x107001 x107002 bt110.1 bt113.1)) else (none)))) else (none)) else (none)) else (none)) else (none)) else (none))))) else (some true)
def spykeep1_TilePaths.j2 : Nat → Int → Bool → Int → Int → Int → Int → Int → Option (Bool)
 | 0, _, _, _, _, _, _, _ => none
 | k + 1, x7, x83, x107000, x107001, x107002, x113000, x116000 => if x83 = true then (none) else ((tile_Corners.f k x113000).bind fun t123 => (if (t123.length : Int) = 4 then ((slices_ContainsFunc_api_Vec_api_Vec__spykeep1_TilePaths_1.f k t123 [x113000] [x116000]).bind fun t126 => (if t126 = true then (none) else (spykeep1_TilePaths.l0 k x113000 (wrap64 (x7 + 1)) x107000 x107001 x107002))) else (none)))
end
def spykeep1_TilePaths.f (k : Nat) (l0 : List Int) : Option (Bool) := (spymake_Stream_Vec.f l0 0).bind fun bt102 => ((tile_Of.f k bt102.1 bt102.2.1 bt102.2.2.1 0).bind fun bt107 => ((spykeep1_tileFact.f k).bind fun t109 => (if t109 = true then (spykeep1_TilePaths.j0 k bt107.1 (bt107.2 != 0) bt102.1 bt102.2.1 bt102.2.2.1) else (none))))
theorem spykeep1_TilePaths.mono_l : ∀ k, (∀ y0 y1 y2 y3 y4, LeO (spykeep1_TilePaths.j0 k y0 y1 y2 y3 y4) (spykeep1_TilePaths.j0 (k + 1) y0 y1 y2 y3 y4)) ∧ (∀ y0 y1 y2 y3 y4, LeO (spykeep1_TilePaths.l0 k y0 y1 y2 y3 y4) (spykeep1_TilePaths.l0 (k + 1) y0 y1 y2 y3 y4)) ∧ (∀ y0 y1 y2 y3 y4 y5 y6, LeO (spykeep1_TilePaths.j2 k y0 y1 y2 y3 y4 y5 y6) (spykeep1_TilePaths.j2 (k + 1) y0 y1 y2 y3 y4 y5 y6))
 | 0 => ⟨fun _ _ _ _ _ r h => by simp [spykeep1_TilePaths.j0] at h, fun _ _ _ _ _ r h => by simp [spykeep1_TilePaths.l0] at h, fun _ _ _ _ _ _ _ r h => by simp [spykeep1_TilePaths.j2] at h⟩
 | k + 1 => by
  obtain ⟨ih0, ih1, ih2⟩ := spykeep1_TilePaths.mono_l k
  refine ⟨?_, ?_, ?_⟩
  · intro y0 y1 y2 y3 y4
    unfold spykeep1_TilePaths.j0
    repeat' first
    | (with_reducible exact ih0 _ _ _ _ _)
    | (with_reducible exact ih1 _ _ _ _ _)
    | (with_reducible exact ih2 _ _ _ _ _ _ _)
    | (with_reducible exact slices_ContainsFunc_api_Vec_api_Vec__spykeep1_TilePaths_1.mono _ _ _ _)
    | (with_reducible exact slices_Contains_api_Tile_api_Tile.mono _ _ _)
    | (with_reducible exact spykeep1_tileFact.mono _)
    | (with_reducible exact tile_Corners.mono _ _)
    | (with_reducible exact tile_Has.mono _ _ _ _ _)
    | (with_reducible exact tile_Kids.mono _ _)
    | (with_reducible exact tile_Level.mono _ _)
    | (with_reducible exact tile_Of.mono _ _ _ _ _)
    | (with_reducible exact tile_Parent.mono _ _)
    | (with_reducible exact LeO.refl _)
    | (with_reducible exact LeO.none _)
    | (with_reducible refine LeO.ite ?_ ?_)
    | (with_reducible refine LeO.bind ?_ (fun _ => ?_))
    | exact ih0 _ _ _ _ _
    | exact ih1 _ _ _ _ _
    | exact ih2 _ _ _ _ _ _ _
    | exact slices_ContainsFunc_api_Vec_api_Vec__spykeep1_TilePaths_1.mono _ _ _ _
    | exact slices_Contains_api_Tile_api_Tile.mono _ _ _
    | exact spykeep1_tileFact.mono _
    | exact tile_Corners.mono _ _
    | exact tile_Has.mono _ _ _ _ _
    | exact tile_Kids.mono _ _
    | exact tile_Level.mono _ _
    | exact tile_Of.mono _ _ _ _ _
    | exact tile_Parent.mono _ _
    | exact LeO.none _
    | refine LeO.ite ?_ ?_
    | refine LeO.bind ?_ (fun _ => ?_)
  · intro y0 y1 y2 y3 y4
    unfold spykeep1_TilePaths.l0
    repeat' first
    | (with_reducible exact ih0 _ _ _ _ _)
    | (with_reducible exact ih1 _ _ _ _ _)
    | (with_reducible exact ih2 _ _ _ _ _ _ _)
    | (with_reducible exact slices_ContainsFunc_api_Vec_api_Vec__spykeep1_TilePaths_1.mono _ _ _ _)
    | (with_reducible exact slices_Contains_api_Tile_api_Tile.mono _ _ _)
    | (with_reducible exact spykeep1_tileFact.mono _)
    | (with_reducible exact tile_Corners.mono _ _)
    | (with_reducible exact tile_Has.mono _ _ _ _ _)
    | (with_reducible exact tile_Kids.mono _ _)
    | (with_reducible exact tile_Level.mono _ _)
    | (with_reducible exact tile_Of.mono _ _ _ _ _)
    | (with_reducible exact tile_Parent.mono _ _)
    | (with_reducible exact LeO.refl _)
    | (with_reducible exact LeO.none _)
    | (with_reducible refine LeO.ite ?_ ?_)
    | (with_reducible refine LeO.bind ?_ (fun _ => ?_))
    | exact ih0 _ _ _ _ _
    | exact ih1 _ _ _ _ _
    | exact ih2 _ _ _ _ _ _ _
    | exact slices_ContainsFunc_api_Vec_api_Vec__spykeep1_TilePaths_1.mono _ _ _ _
    | exact slices_Contains_api_Tile_api_Tile.mono _ _ _
    | exact spykeep1_tileFact.mono _
    | exact tile_Corners.mono _ _
    | exact tile_Has.mono _ _ _ _ _
    | exact tile_Kids.mono _ _
    | exact tile_Level.mono _ _
    | exact tile_Of.mono _ _ _ _ _
    | exact tile_Parent.mono _ _
    | exact LeO.none _
    | refine LeO.ite ?_ ?_
    | refine LeO.bind ?_ (fun _ => ?_)
  · intro y0 y1 y2 y3 y4 y5 y6
    unfold spykeep1_TilePaths.j2
    repeat' first
    | (with_reducible exact ih0 _ _ _ _ _)
    | (with_reducible exact ih1 _ _ _ _ _)
    | (with_reducible exact ih2 _ _ _ _ _ _ _)
    | (with_reducible exact slices_ContainsFunc_api_Vec_api_Vec__spykeep1_TilePaths_1.mono _ _ _ _)
    | (with_reducible exact slices_Contains_api_Tile_api_Tile.mono _ _ _)
    | (with_reducible exact spykeep1_tileFact.mono _)
    | (with_reducible exact tile_Corners.mono _ _)
    | (with_reducible exact tile_Has.mono _ _ _ _ _)
    | (with_reducible exact tile_Kids.mono _ _)
    | (with_reducible exact tile_Level.mono _ _)
    | (with_reducible exact tile_Of.mono _ _ _ _ _)
    | (with_reducible exact tile_Parent.mono _ _)
    | (with_reducible exact LeO.refl _)
    | (with_reducible exact LeO.none _)
    | (with_reducible refine LeO.ite ?_ ?_)
    | (with_reducible refine LeO.bind ?_ (fun _ => ?_))
    | exact ih0 _ _ _ _ _
    | exact ih1 _ _ _ _ _
    | exact ih2 _ _ _ _ _ _ _
    | exact slices_ContainsFunc_api_Vec_api_Vec__spykeep1_TilePaths_1.mono _ _ _ _
    | exact slices_Contains_api_Tile_api_Tile.mono _ _ _
    | exact spykeep1_tileFact.mono _
    | exact tile_Corners.mono _ _
    | exact tile_Has.mono _ _ _ _ _
    | exact tile_Kids.mono _ _
    | exact tile_Level.mono _ _
    | exact tile_Of.mono _ _ _ _ _
    | exact tile_Parent.mono _ _
    | exact LeO.none _
    | refine LeO.ite ?_ ?_
    | refine LeO.bind ?_ (fun _ => ?_)
theorem spykeep1_TilePaths.mono : ∀ a0 k, LeO (spykeep1_TilePaths.f k a0) (spykeep1_TilePaths.f (k + 1) a0) := by
 intro a0 k
 obtain ⟨ih0, ih1, ih2⟩ := spykeep1_TilePaths.mono_l k
 unfold spykeep1_TilePaths.f
 repeat' first
  | (with_reducible exact ih0 _ _ _ _ _)
  | (with_reducible exact ih1 _ _ _ _ _)
  | (with_reducible exact ih2 _ _ _ _ _ _ _)
  | (with_reducible exact slices_ContainsFunc_api_Vec_api_Vec__spykeep1_TilePaths_1.mono _ _ _ _)
  | (with_reducible exact slices_Contains_api_Tile_api_Tile.mono _ _ _)
  | (with_reducible exact spykeep1_tileFact.mono _)
  | (with_reducible exact tile_Corners.mono _ _)
  | (with_reducible exact tile_Has.mono _ _ _ _ _)
  | (with_reducible exact tile_Kids.mono _ _)
  | (with_reducible exact tile_Level.mono _ _)
  | (with_reducible exact tile_Of.mono _ _ _ _ _)
  | (with_reducible exact tile_Parent.mono _ _)
  | (with_reducible exact LeO.refl _)
  | (with_reducible exact LeO.none _)
  | (with_reducible refine LeO.ite ?_ ?_)
  | (with_reducible refine LeO.bind ?_ (fun _ => ?_))
  | exact ih0 _ _ _ _ _
  | exact ih1 _ _ _ _ _
  | exact ih2 _ _ _ _ _ _ _
  | exact slices_ContainsFunc_api_Vec_api_Vec__spykeep1_TilePaths_1.mono _ _ _ _
  | exact slices_Contains_api_Tile_api_Tile.mono _ _ _
  | exact spykeep1_tileFact.mono _
  | exact tile_Corners.mono _ _
  | exact tile_Has.mono _ _ _ _ _
  | exact tile_Kids.mono _ _
  | exact tile_Level.mono _ _
  | exact tile_Of.mono _ _ _ _ _
  | exact tile_Parent.mono _ _
  | exact LeO.none _
  | refine LeO.ite ?_ ?_
  | refine LeO.bind ?_ (fun _ => ?_)
def spykeep1_TilePaths.T12 : Bool × List (List Nat × List Nat) := (true, [([], []), ([0], [0]), ([1], [1]), ([2], [2]), ([3, 2], [2, 3]), ([2, 4], [2, 4]), ([5, 2], [5]), ([6], [6]), ([7, 6], [6, 7]), ([6, 8], [6, 8]), ([9, 6], [9]), ([10], [10]), ([10], [10]), ([11, 12, 10], [10, 11, 12]), ([10, 13], [10, 13]), ([14, 10], [14]), ([15], [15]), ([15], [15]), ([16, 17, 15], [15, 16, 17]), ([15, 18], [15, 18]), ([19, 15], [19]), ([20], [20]), ([21, 20, 20], [20, 21]), ([20], [20]), ([22, 23, 22, 20], [20, 22, 23]), ([24, 20], [20, 24]), ([20, 25], [20, 25]), ([26, 24], [26]), ([27], [27]), ([27], [27]), ([28, 29, 27, 27], [27, 28, 29]), ([30, 27], [27, 30]), ([27, 31], [27, 31])])
def spykeep1_TilePaths.B12 : List Nat := [0, 1, 3, 7, 15, 31, 63, 127, 255, 511, 1023, 2047, 2047, 8191, 16383, 32767, 65535, 65535, 262143, 524287, 1048575, 2097151, 4194303, 2097151, 16777215, 33554431, 67108863, 134217727, 268435455, 268435455, 1073741823, 2147483647, 4294967295]
theorem spykeep1_TilePaths.tab12 : rtab .any (opsOf Try.f12 12) = spykeep1_TilePaths.T12 := by kernel_rfl
theorem spykeep1_TilePaths.bits12 : waitsOk spykeep1_TilePaths.T12.2 spykeep1_TilePaths.B12 = true := by kernel_rfl
set_option maxHeartbeats 8000000 in
set_option maxRecDepth 100000 in
theorem spykeep1_TilePaths.calls (k : Nat) (A0 : Option Addr) (c0 : Nat) (l0 : List Int) (r : Bool) (w : World) (hr0 : Kd.C (Kd.int .i64) w A0 l0.length l0) (hc0 : l0.length ≤ c0) (h : spykeep1_TilePaths.f k l0 = some r) :
 Calls Try.prog 12 #[.slice A0 l0.length c0] w fun e w' => e = .returned (.bool r) ∧ Below w.heap.size w w' := by
  have hu55 := Try.underlying55
  have hu67 := Try.underlying67
  have hmf : ∀ (fn : Fn) (first cap : Array Value) (w : World), (Instr.makeFunc fn first cap).run Try.prog w = .ok (.func fn first cap) w := fun _ _ _ _ => rfl
  have HR0 := Aside0.mk hr0
  have HC0 := Aside0.mk hc0
  clear hr0 hc0
  have HB := Aside0.mk (Below.refl w.heap.size w)
  have H : ((spymake_Stream_Vec.f l0 0).bind fun bt102 => ((tile_Of.f k bt102.1 bt102.2.1 bt102.2.2.1 0).bind fun bt107 => ((spykeep1_tileFact.f k).bind fun t109 => (if t109 = true then (spykeep1_TilePaths.j0 k bt107.1 (bt107.2 != 0) bt102.1 bt102.2.1 bt102.2.2.1) else (none))))) = some r := h
  clear h
  replace H := Option.bind_eq_some_iff.mp H
  obtain ⟨⟨t102, t103, t104, t105⟩, A20, H⟩ := H
  try dsimp -simprocs only at H
  have A2 := Aside0.mk A20
  clear A20
  replace H := Option.bind_eq_some_iff.mp H
  obtain ⟨⟨t107, t108⟩, A30, H⟩ := H
  try dsimp -simprocs only at H
  have A3 := Aside0.mk A30
  clear A30
  have HC4 := Aside0.mk H
  clear H
  go_enter Try.func12, Try.ntmps12
  go_upto_region 4 with (first | ((with_reducible refine gate_dst (N := 17) rfl ?_); refine bxq_ 17 #[.slice A0 l0.length c0, .int .i64 0] 55 ?_; intro gb101 hg w5 hbox hb; have HI101 := Aside0.mk ((show IsS55 w _ gb101 l0 0 from ⟨_, _, hbox, (by rw [hg]; exact (below_size (by repeat (first | (with_reducible first | exact HB.out | apply below_alloc | apply pw_below_drewN | apply below_drew1) | exact HB.out))) : w.heap.size ≤ gb101), HR0.out⟩)); have GW101 := Aside0.mk ((by rw [hg]; exact (below_size (by repeat (first | (with_reducible first | exact HB.out | apply below_alloc | apply pw_below_drewN | apply below_drew1) | exact HB.out))) : w.heap.size ≤ gb101)); have GE101 := GW101; replace HB := Aside0.mk (below_step (by repeat (first | (with_reducible first | exact HB.out | apply below_alloc | apply pw_below_drewN | apply below_drew1) | exact HB.out)) hb); clear hb hbox hg) | ((with_reducible refine gate_callee (f := 40) rfl ?_); refine glq_ (some 19) Try.func40 #[.pointer (some ⟨gb101, 0, none⟩)] ?_; (with_reducible refine (spymake_Stream_Vec.calls gb101 l0 0 t102 t103 t104 t105 w _ ?side1 ?side2 A2.out).mono ?_); (case side1 => repeat (first | (with_reducible first | exact HI101.out | apply IsS55.alloc | apply IsS55.drewN | apply IsS55.drew | apply IsS55.set_1) | exact HI101.out)); (case side2 => repeat (first | (with_reducible first | exact HB.out | apply below_alloc | apply pw_below_drewN | apply below_drew1 | refine below_set ?_ (IsS55.ge HI101.out)) | exact HB.out)); rintro e w6 ⟨rfl, hi, hb, hk⟩; refine ⟨_, rfl, ?_⟩; replace HB := Aside0.mk (hb); replace HI101 := Aside0.mk (hi); (try clear hb hk hi)) | ((with_reducible refine gate_dst (N := 4) rfl ?_); refine bxq_ 4 #[.int .i64 0, .int .i64 0, .int .i64 0] 67 ?_; intro gb106 hg w7 hbox hb; have n0_ := Aside0.mk (IsS55.below (by repeat (first | (with_reducible first | exact HI101.out | apply IsS55.alloc | apply IsS55.drewN | apply IsS55.drew | apply IsS55.set_1) | exact HI101.out)) hb); have n1_ := Aside0.mk (below_step (by repeat (first | (with_reducible first | exact HB.out | apply below_alloc | apply pw_below_drewN | apply below_drew1 | refine below_set ?_ (IsS55.ge HI101.out)) | exact HB.out)) hb); have n2_ := Aside0.mk (hbox); have n3_ := Aside0.mk ((by rw [hg]; exact (below_size (by repeat (first | (with_reducible first | exact HB.out | apply below_alloc | apply pw_below_drewN | apply below_drew1 | refine below_set ?_ (IsS55.ge HI101.out)) | exact HB.out))) : w.heap.size ≤ gb106)); have n4_ := n3_; have n5_ := Aside0.mk ((by rw [hg]; exact Nat.ne_of_lt (IsS55.lt (show IsS55 w _ gb101 l0 t105 from by repeat (first | (with_reducible first | exact HI101.out | apply IsS55.alloc | apply IsS55.drewN | apply IsS55.drew | apply IsS55.set_1) | exact HI101.out))) : gb101 ≠ gb106)); have n6_ := Aside0.mk ((by rw [hg]; exact Nat.ne_of_gt (IsS55.lt (show IsS55 w _ gb101 l0 t105 from by repeat (first | (with_reducible first | exact HI101.out | apply IsS55.alloc | apply IsS55.drewN | apply IsS55.drew | apply IsS55.set_1) | exact HI101.out))) : gb106 ≠ gb101)); clear HI101; clear HB; have HI101 := n0_; have HB := n1_; have BK106 := n2_; have GW106 := n3_; have GE106 := n4_; have NB101_106 := n5_; have NB106_101 := n6_; clear n0_ n1_ n2_ n3_ n4_ n5_ n6_; clear hb hbox hg; have hnb8 := NB106_101.out; have hnc8 := NB101_106.out; have hcz9_0 := bc_ BK106 0 rfl; have hcz9_1 := bc_ BK106 1 rfl; have hcz9_2 := bc_ BK106 2 rfl; have hfz9_0 := blk_frozen BK106.out 0; have hfz9_1 := blk_frozen BK106.out 1; have hfz9_2 := blk_frozen BK106.out 2) | ((with_reducible refine gate_callee (f := 41) rfl ?_); refine glq_ (some 22) Try.func41 #[.agg #[.int .i64 t102, .int .i64 t103, .int .i64 t104], .int .i64 0] ?_; (with_reducible refine (tile_Of.calls k t102 t103 t104 0 t107 t108 _ A3.out).mono ?_); rintro e w10 ⟨rfl, hb⟩; refine ⟨_, rfl, ?_⟩; have n0_ := Aside0.mk (by first | exact IsS55.below (show IsS55 w (((w7.setCell ⟨gb106, 0, none⟩ (.int .i64 t102)).setCell ⟨gb106, 1, none⟩ (.int .i64 t103)).setCell ⟨gb106, 2, none⟩ (.int .i64 t104)) gb101 l0 t105 from by repeat (first | (with_reducible first | exact HI101.out | apply IsS55.alloc | apply IsS55.drewN | apply IsS55.drew | apply IsS55.set_1 | refine IsS55.far ?_ NB101_106.out _) | exact HI101.out)) hb | exact IsS55.below (show IsS55 w (World.drewN (((w7.setCell ⟨gb106, 0, none⟩ (.int .i64 t102)).setCell ⟨gb106, 1, none⟩ (.int .i64 t103)).setCell ⟨gb106, 2, none⟩ (.int .i64 t104)) _) gb101 l0 t105 from by repeat (first | (with_reducible first | exact HI101.out | apply IsS55.alloc | apply IsS55.drewN | apply IsS55.drew | apply IsS55.set_1 | refine IsS55.far ?_ NB101_106.out _) | exact HI101.out)) hb); have n1_ := Aside0.mk (blk_below (g := gb106) (o := .cells #[.int .i64 t102, .int .i64 t103, .int .i64 t104] 67 (0, 0)) (by (with_reducible repeat (first | refine blk_drewN ?_ _ | refine blk_drew ?_ | refine blk_alloc ?_ _)); refine blk_put (cs := #[.int .i64 t102, .int .i64 t103, .int .i64 0]) ?_ 2 _ rfl; (with_reducible repeat (first | refine blk_drewN ?_ _ | refine blk_drew ?_ | refine blk_alloc ?_ _)); refine blk_put (cs := #[.int .i64 t102, .int .i64 0, .int .i64 0]) ?_ 1 _ rfl; (with_reducible repeat (first | refine blk_drewN ?_ _ | refine blk_drew ?_ | refine blk_alloc ?_ _)); refine blk_put (cs := #[.int .i64 0, .int .i64 0, .int .i64 0]) ?_ 0 _ rfl; (with_reducible repeat (first | refine blk_drewN ?_ _ | refine blk_drew ?_ | refine blk_alloc ?_ _)); exact BK106.out) hb); have n2_ := Aside0.mk (below_step (by repeat (first | (with_reducible first | exact HB.out | apply below_alloc | apply pw_below_drewN | apply below_drew1 | refine below_set ?_ (IsS55.ge HI101.out) | refine below_set ?_ GE106.out) | exact HB.out)) hb); clear HI101; clear BK106; clear HB; have HI101 := n0_; have BK106 := n1_; have HB := n2_; clear n0_ n1_ n2_; (try clear hb)))
  (try simp only [Act.put, List.setIfInBounds_toArray, List.set_cons_zero, List.set_cons_succ])
  go_cut [30] (fun v30 wc => ∃ (kq : Nat) (x30_3 : Bool), v30 = .bool x30_3 ∧ Aside0 (spykeep1_TilePaths.j0 kq t107 x30_3 t102 t103 t104 = some r) ∧ Aside0 (kq ≤ k) ∧ Aside0 (wc.heap[gb106]? = some (.cells #[.int .i64 t102, .int .i64 t103, .int .i64 t104] 67 (0, 0))) ∧ Aside0 (Below w.heap.size w wc))
  case first =>
   have H := HC4.out
   clear HC4
   replace H := Option.bind_eq_some_iff.mp H
   obtain ⟨t109, A110, H⟩ := H
   try dsimp -simprocs only at H
   have A11 := Aside0.mk A110
   clear A110
   by_cases c12 : t109 = true
   · subst c12
     rw [if_pos rfl] at H
     have H' := Aside0.mk H
     clear H
     go_wp2_with (first | ((with_reducible refine gate_callee (f := 42) rfl ?_); refine glq_ (some 25) Try.func42 #[] ?_; (with_reducible refine (spykeep1_tileFact.calls k  true _ A11.out).mono ?_); rintro e w13 ⟨rfl, hb⟩; refine ⟨_, rfl, ?_⟩; have n0_ := Aside0.mk (IsS55.below (by repeat (first | (with_reducible first | exact HI101.out | apply IsS55.alloc | apply IsS55.drewN | apply IsS55.drew | apply IsS55.set_1 | refine IsS55.far ?_ NB101_106.out _) | exact HI101.out)) hb); have n1_ := bkb_ BK106 hb rfl; have n2_ := Aside0.mk (below_step (by repeat (first | (with_reducible first | exact HB.out | apply below_alloc | apply pw_below_drewN | apply below_drew1 | refine below_set ?_ (IsS55.ge HI101.out) | refine below_set ?_ GE106.out) | exact HB.out)) hb); clear HI101; clear BK106; clear HB; have HI101 := n0_; have BK106 := n1_; have HB := n2_; clear n0_ n1_ n2_; (try clear hb)))
     go_meet
     case rel => exact ⟨_, ((t108 != 0)), (by first | rfl | (simp; done) | (simp [*]; done)), H', ⟨by first | omega | exact Nat.le_refl _⟩, ⟨by (with_reducible repeat (first | refine blk_drewN ?_ _ | refine blk_drew ?_ | refine blk_alloc ?_ _)); exact BK106.out⟩, ⟨by repeat (first | (with_reducible first | exact HB.out | apply below_alloc | apply pw_below_drewN | apply below_drew1 | refine below_set ?_ (IsS55.ge HI101.out) | refine below_set ?_ GE106.out) | exact HB.out)⟩⟩
   replace c12 := Bool.eq_false_iff.mpr c12
   subst c12
   rw [if_neg (show ¬ (false = true) by decide)] at H
   exact absurd H (by simp)
  case rest =>
   clear HC4
   obtain ⟨kq, x30_3, rfl, HA, HJ3, BK106, HB⟩ := hcut
   cases kq with
   | zero => exact absurd HA.out (by simp [spykeep1_TilePaths.j0])
   | succ kj3 =>
    have H := HA.out
    clear HA
    simp only [spykeep1_TilePaths.j0] at H
    by_cases c14 : x30_3 = true
    · subst c14
      rw [if_pos rfl] at H
      exact absurd H (by simp)
    replace c14 := Bool.eq_false_iff.mpr c14
    subst c14
    rw [if_neg (show ¬ (false = true) by decide)] at H
    have H' := Aside0.mk H
    clear H
    go_wp2
    go_loopg [5, 7] kj3 (fun kq v5 v7 w' => ∃ (x5_2 : Int) (x7_2 : Int), v5 = .int .i64 x5_2 ∧ v7 = .int .i64 x7_2 ∧ Aside0 (spykeep1_TilePaths.l0 kq x5_2 x7_2 t102 t103 t104 = some r) ∧ Aside0 (kq ≤ kj3) ∧ Aside0 (w'.heap[gb106]? = some (.cells #[.int .i64 t102, .int .i64 t103, .int .i64 t104] 67 (0, 0))) ∧ Aside0 (Below w.heap.size w w'))
    case atStart => exact ⟨(t107), (1), (by first | rfl | (simp; done) | (simp [*]; done)), (by first | rfl | (simp; done) | (simp [*]; done)), H', ⟨Nat.le_refl _⟩, ⟨by (with_reducible repeat (first | refine blk_drewN ?_ _ | refine blk_drew ?_ | refine blk_alloc ?_ _)); exact BK106.out⟩, ⟨by repeat (first | (with_reducible first | exact HB.out | apply below_alloc | apply pw_below_drewN | apply below_drew1 | refine below_set ?_ GE106.out) | exact HB.out)⟩⟩
    case round =>
     clear H'
     obtain ⟨x5_2, x7_2, rfl, rfl, HA, HK2, BK106, HB⟩ := hrel
     cases gk with
     | zero => exact absurd HA.out (by simp [spykeep1_TilePaths.l0])
     | succ k2 =>
      have H := HA.out
      clear HA
      simp only [spykeep1_TilePaths.l0] at H
      by_cases c15 : x7_2 ≤ 12
      rotate_left
      · rw [if_neg c15] at H
        have c15b0 : decide (x7_2 ≤ 12) = false := decide_eq_false c15
        clear c15
        obtain rfl := Option.some.inj H
        go_wp2
        go_ret
        exact ⟨by first | rfl | (simp [errW_none, errW_some] <;> rfl) | (simp [*, errW_none, errW_some] <;> rfl), by repeat (first | (with_reducible first | exact HB.out | apply below_alloc | apply pw_below_drewN | apply below_drew1 | refine below_set ?_ GE106.out) | exact HB.out)⟩
      rw [if_pos c15] at H
      have c15b0 : decide (x7_2 ≤ 12) = true := decide_eq_true c15
      clear c15
      replace H := Option.bind_eq_some_iff.mp H
      obtain ⟨⟨t110, t111⟩, A160, H⟩ := H
      try dsimp -simprocs only at H
      have A16 := Aside0.mk A160
      clear A160
      replace H := Option.bind_eq_some_iff.mp H
      obtain ⟨⟨t113, t114⟩, A170, H⟩ := H
      try dsimp -simprocs only at H
      have A17 := Aside0.mk A170
      clear A170
      replace H := Option.bind_eq_some_iff.mp H
      obtain ⟨⟨t116, t117⟩, A180, H⟩ := H
      try dsimp -simprocs only at H
      have A18 := Aside0.mk A180
      clear A180
      have HC19 := Aside0.mk H
      clear H
      have hcz20_0 := bc_ BK106 0 rfl
      have hcz20_1 := bc_ BK106 1 rfl
      have hcz20_2 := bc_ BK106 2 rfl
      have hfz20_0 := blk_frozen BK106.out 0
      have hfz20_1 := blk_frozen BK106.out 1
      have hfz20_2 := blk_frozen BK106.out 2
      go_upto_region 12 with (first | ((with_reducible refine gate_callee (f := 41) rfl ?_); refine glq_ (some 38) Try.func41 #[.agg #[.int .i64 t102, .int .i64 t103, .int .i64 t104], .int .i64 x7_2] ?_; (with_reducible refine (tile_Of.calls k2 t102 t103 t104 x7_2 t110 t111 _ A16.out).mono ?_); rintro e w21 ⟨rfl, hb⟩; refine ⟨_, rfl, ?_⟩; replace BK106 := bkb_ BK106 hb rfl; replace HB := hbs_ HB hb rfl rfl rfl rfl; (try clear hb)) | ((with_reducible refine gate_dst (N := 8) rfl ?_); refine bxq_ 8 #[.int .i64 0] 69 ?_; intro gb112 hg w22 hbox hb; have BK112 := Aside0.mk (hbox); have GW112 := gwq_ HB hg rfl; have GE112 := GW112; have NB106_112 := nbl_ BK106 hg rfl; have NB112_106 := nbg_ BK106 hg rfl; replace BK106 := bkb_ BK106 hb rfl; replace HB := hbs_ HB hb rfl rfl rfl rfl; clear hb hbox hg; have hnb23 := NB112_106.out; have hnc23 := NB106_112.out; have hcz24_0 := bc_ BK112 0 rfl; have hfz24_0 := blk_frozen BK112.out 0) | ((with_reducible refine gate_callee (f := 43) rfl ?_); refine glq_ (some 43) Try.func43 #[.int .i64 t110] ?_; (with_reducible refine (tile_Parent.calls k2 t110 t113 t114 _ A17.out).mono ?_); rintro e w' ⟨rfl, ⟨nd, rfl⟩⟩; refine ⟨_, rfl, ?_⟩) | ((with_reducible refine gate_dst (N := 10) rfl ?_); refine bxq_ 10 #[.int .i64 0] 69 ?_; intro gb115 hg w25 hbox hb; have BK115 := Aside0.mk (hbox); have GW115 := Aside0.mk ((by rw [hg]; exact (below_size (by repeat (first | (with_reducible first | exact HB.out | apply below_alloc | apply pw_below_drewN | apply below_drew1 | refine below_set ?_ GE106.out | refine below_set ?_ GE112.out) | exact HB.out))) : w.heap.size ≤ gb115)); have GE115 := GW115; have NB106_115 := Aside0.mk ((by rw [hg]; exact Nat.ne_of_lt (blk_lt (g := gb106) (o := .cells #[.int .i64 t102, .int .i64 t103, .int .i64 t104] 67 (0, 0)) (by (with_reducible repeat (first | refine blk_drewN ?_ _ | refine blk_drew ?_ | refine blk_alloc ?_ _)); refine blk_far ?_ NB106_112.out _; (with_reducible repeat (first | refine blk_drewN ?_ _ | refine blk_drew ?_ | refine blk_alloc ?_ _)); exact BK106.out)) : gb106 ≠ gb115)); have NB115_106 := Aside0.mk ((by rw [hg]; exact Nat.ne_of_gt (blk_lt (g := gb106) (o := .cells #[.int .i64 t102, .int .i64 t103, .int .i64 t104] 67 (0, 0)) (by (with_reducible repeat (first | refine blk_drewN ?_ _ | refine blk_drew ?_ | refine blk_alloc ?_ _)); refine blk_far ?_ NB106_112.out _; (with_reducible repeat (first | refine blk_drewN ?_ _ | refine blk_drew ?_ | refine blk_alloc ?_ _)); exact BK106.out)) : gb115 ≠ gb106)); have NB112_115 := Aside0.mk ((by rw [hg]; exact Nat.ne_of_lt (blk_lt (g := gb112) (o := .cells #[.int .i64 t110] 69 (0, 0)) (by (with_reducible repeat (first | refine blk_drewN ?_ _ | refine blk_drew ?_ | refine blk_alloc ?_ _)); refine blk_put (cs := #[.int .i64 0]) ?_ 0 _ rfl; (with_reducible repeat (first | refine blk_drewN ?_ _ | refine blk_drew ?_ | refine blk_alloc ?_ _)); exact BK112.out)) : gb112 ≠ gb115)); have NB115_112 := Aside0.mk ((by rw [hg]; exact Nat.ne_of_gt (blk_lt (g := gb112) (o := .cells #[.int .i64 t110] 69 (0, 0)) (by (with_reducible repeat (first | refine blk_drewN ?_ _ | refine blk_drew ?_ | refine blk_alloc ?_ _)); refine blk_put (cs := #[.int .i64 0]) ?_ 0 _ rfl; (with_reducible repeat (first | refine blk_drewN ?_ _ | refine blk_drew ?_ | refine blk_alloc ?_ _)); exact BK112.out)) : gb115 ≠ gb112)); replace BK106 := Aside0.mk (blk_below (g := gb106) (o := .cells #[.int .i64 t102, .int .i64 t103, .int .i64 t104] 67 (0, 0)) (by (with_reducible repeat (first | refine blk_drewN ?_ _ | refine blk_drew ?_ | refine blk_alloc ?_ _)); refine blk_far ?_ NB106_112.out _; (with_reducible repeat (first | refine blk_drewN ?_ _ | refine blk_drew ?_ | refine blk_alloc ?_ _)); exact BK106.out) hb); replace BK112 := Aside0.mk (blk_below (g := gb112) (o := .cells #[.int .i64 t110] 69 (0, 0)) (by (with_reducible repeat (first | refine blk_drewN ?_ _ | refine blk_drew ?_ | refine blk_alloc ?_ _)); refine blk_put (cs := #[.int .i64 0]) ?_ 0 _ rfl; (with_reducible repeat (first | refine blk_drewN ?_ _ | refine blk_drew ?_ | refine blk_alloc ?_ _)); exact BK112.out) hb); replace HB := Aside0.mk (below_step (by repeat (first | (with_reducible first | exact HB.out | apply below_alloc | apply pw_below_drewN | apply below_drew1 | refine below_set ?_ GE106.out | refine below_set ?_ GE112.out) | exact HB.out)) hb); clear hb hbox hg; have hnb26 := NB115_106.out; have hnc26 := NB106_115.out; have hnb27 := NB115_112.out; have hnc27 := NB112_115.out; have hcz28_0 := bc_ BK115 0 rfl; have hfz28_0 := blk_frozen BK115.out 0; have hcz29_0 := bc_ BK112 0 rfl; have hfz29_0 := blk_frozen BK112.out 0) | ((with_reducible refine gate_callee (f := 44) rfl ?_); refine glq_ (some 48) Try.func44 #[.int .i64 t110] ?_; (with_reducible refine (tile_Level.calls k2 t110 t116 t117 _ A18.out).mono ?_); rintro e w' ⟨rfl, ⟨nd, rfl⟩⟩; refine ⟨_, rfl, ?_⟩))
      (try simp only [Act.put, List.setIfInBounds_toArray, List.set_cons_zero, List.set_cons_succ])
      go_cut [83] (fun v83 wc => ∃ (kq : Nat) (x83_18 : Bool), v83 = .bool x83_18 ∧ Aside0 (spykeep1_TilePaths.j2 kq x7_2 x83_18 t102 t103 t104 t110 t113 = some r) ∧ Aside0 (kq ≤ k2) ∧ Aside0 (wc.heap[gb106]? = some (.cells #[.int .i64 t102, .int .i64 t103, .int .i64 t104] 67 (0, 0))) ∧ Aside0 (wc.heap[gb112]? = some (.cells #[.int .i64 t110] 69 (0, 0))) ∧ Aside0 (wc.heap[gb115]? = some (.cells #[.int .i64 t113] 69 (0, 0))) ∧ Aside0 (Below w.heap.size w wc))
      case first =>
       have H := HC19.out
       clear HC19
       by_cases c30 : t111 = 0
       rotate_left
       · rw [if_neg c30] at H
         exact absurd H (by simp)
       rw [if_pos c30] at H
       have c30b0 : (t111 == 0) = true := beq_iff_eq.mpr c30
       have c30b1 : (t111 != 0) = false := bne_eq_false_iff_eq.mpr c30
       clear c30
       (first | rw [c30b0] | (simp only [i64_w, i32_w]; rw [c30b0]) | skip)
       by_cases c31 : t114 = true
       rotate_left
       · replace c31 := Bool.eq_false_iff.mpr c31
         subst c31
         rw [if_neg (show ¬ (false = true) by decide)] at H
         exact absurd H (by simp)
       subst c31
       rw [if_pos rfl] at H
       by_cases c32 : t117 = true
       rotate_left
       · replace c32 := Bool.eq_false_iff.mpr c32
         subst c32
         rw [if_neg (show ¬ (false = true) by decide)] at H
         exact absurd H (by simp)
       subst c32
       rw [if_pos rfl] at H
       by_cases c33 : t116 = x7_2
       rotate_left
       · rw [if_neg c33] at H
         exact absurd H (by simp)
       rw [if_pos c33] at H
       have c33b0 : (t116 == x7_2) = true := beq_iff_eq.mpr c33
       have c33b1 : (t116 != x7_2) = false := bne_eq_false_iff_eq.mpr c33
       clear c33
       by_cases c34 : t113 = x5_2
       rotate_left
       · rw [if_neg c34] at H
         exact absurd H (by simp)
       rw [if_pos c34] at H
       have c34b0 : (t113 == x5_2) = true := beq_iff_eq.mpr c34
       have c34b1 : (t113 != x5_2) = false := bne_eq_false_iff_eq.mpr c34
       clear c34
       replace H := Option.bind_eq_some_iff.mp H
       obtain ⟨t118, A350, H⟩ := H
       try dsimp -simprocs only at H
       have A35 := Aside0.mk A350
       clear A350
       replace H := Option.bind_eq_some_iff.mp H
       obtain ⟨t121, A360, H⟩ := H
       try dsimp -simprocs only at H
       have A36 := Aside0.mk A360
       clear A360
       by_cases c37 : t121 = true
       rotate_left
       · replace c37 := Bool.eq_false_iff.mpr c37
         subst c37
         rw [if_neg (show ¬ (false = true) by decide)] at H
         exact absurd H (by simp)
       subst c37
       rw [if_pos rfl] at H
       replace H := Option.bind_eq_some_iff.mp H
       obtain ⟨t122, A380, H⟩ := H
       try dsimp -simprocs only at H
       have A38 := Aside0.mk A380
       clear A380
       have H' := Aside0.mk H
       clear H
       try go_wp2
       have n0_ : Aside0 ((w25.setCell ⟨gb115, 0, none⟩ (.int .i64 t113)).heap[gb106]? = some (.cells #[.int .i64 t102, .int .i64 t103, .int .i64 t104] 67 (0, 0))) := ⟨by (with_reducible repeat (first | refine blk_drewN ?_ _ | refine blk_drew ?_ | refine blk_alloc ?_ _)); refine blk_far ?_ NB106_115.out _; (with_reducible repeat (first | refine blk_drewN ?_ _ | refine blk_drew ?_ | refine blk_alloc ?_ _)); exact BK106.out⟩
       have n1_ : Aside0 ((w25.setCell ⟨gb115, 0, none⟩ (.int .i64 t113)).heap[gb112]? = some (.cells #[.int .i64 t110] 69 (0, 0))) := ⟨by (with_reducible repeat (first | refine blk_drewN ?_ _ | refine blk_drew ?_ | refine blk_alloc ?_ _)); refine blk_far ?_ NB112_115.out _; (with_reducible repeat (first | refine blk_drewN ?_ _ | refine blk_drew ?_ | refine blk_alloc ?_ _)); exact BK112.out⟩
       have n2_ : Aside0 ((w25.setCell ⟨gb115, 0, none⟩ (.int .i64 t113)).heap[gb115]? = some (.cells #[.int .i64 t113] 69 (0, 0))) := ⟨by (with_reducible repeat (first | refine blk_drewN ?_ _ | refine blk_drew ?_ | refine blk_alloc ?_ _)); refine blk_put (cs := #[.int .i64 0]) ?_ 0 _ rfl; (with_reducible repeat (first | refine blk_drewN ?_ _ | refine blk_drew ?_ | refine blk_alloc ?_ _)); exact BK115.out⟩
       have n3_ : Aside0 (Below w.heap.size w (w25.setCell ⟨gb115, 0, none⟩ (.int .i64 t113))) := ⟨by repeat (first | (with_reducible first | exact HB.out | apply below_alloc | apply pw_below_drewN | apply below_drew1 | refine below_set ?_ GE106.out | refine below_set ?_ GE112.out | refine below_set ?_ GE115.out) | exact HB.out)⟩
       (try clear BK106)
       (try clear BK112)
       (try clear BK115)
       (try clear HB)
       generalize (w25.setCell ⟨gb115, 0, none⟩ (.int .i64 t113)) = w39 at n0_ n1_ n2_ n3_ ⊢
       have BK106 := n0_
       have BK112 := n1_
       have BK115 := n2_
       have HB := n3_
       clear n0_ n1_ n2_ n3_
       (try (rw [drewN_self w39]; generalize hq_ : World.drewN w39 _ = w39; have n0_ := Aside0.mk ((congrArg (fun z_ : World => z_.heap[gb106]?) hq_.symm).trans (blk_drewN BK106.out _)); have n1_ := Aside0.mk ((congrArg (fun z_ : World => z_.heap[gb112]?) hq_.symm).trans (blk_drewN BK112.out _)); have n2_ := Aside0.mk ((congrArg (fun z_ : World => z_.heap[gb115]?) hq_.symm).trans (blk_drewN BK115.out _)); have n3_ := Aside0.mk (hq_ ▸ pw_below_drewN HB.out _); clear hq_ BK106 BK112 BK115 HB; have BK106 := n0_; have BK112 := n1_; have BK115 := n2_; have HB := n3_; clear n0_ n1_ n2_ n3_))
       replace BK106 := Aside0.mk (blk_drew BK106.out)
       replace BK112 := Aside0.mk (blk_drew BK112.out)
       replace BK115 := Aside0.mk (blk_drew BK115.out)
       replace HB := Aside0.mk (below_drew1 HB.out)
       refine start_ (n := 33) (S := fun w' => w'.cell? ⟨gb115, 0, none⟩ = some (.int .i64 t113) ∧ w'.cell? ⟨gb112, 0, none⟩ = some (.int .i64 t110) ∧ w'.cell? ⟨gb106, 0, none⟩ = some (.int .i64 t102) ∧ w'.cell? ⟨gb106, 1, none⟩ = some (.int .i64 t103) ∧ w'.cell? ⟨gb106, 2, none⟩ = some (.int .i64 t104)) (ds := []) (bm_ [0, 33]) (by kernel_rfl) rfl rfl ⟨bc_ BK115 0 rfl, bc_ BK112 0 rfl, bc_ BK106 0 rfl, bc_ BK106 1 rfl, bc_ BK106 2 rfl⟩ (fun hHeld => ?_); refine with_tabW spykeep1_TilePaths.tab12 spykeep1_TilePaths.bits12 (fun HT_ HW_ => ?_)
       generalize w39.drew = w40 at BK106 BK112 BK115 HB hHeld ⊢
       refine pq_ 0 51 (bm_ [1, 32]) HT_ ?_
       refine pq_ 1 52 (bm_ [2, 31]) HT_ ?_
       refine pq_ 2 53 (bm_ [3, 30]) HT_ ?_
       refine pq_ 3 54 (bm_ [4, 29]) HT_ ?_
       refine pq_ 4 55 (bm_ [5, 28]) HT_ ?_
       refine pq_ 5 56 (bm_ [6, 27]) HT_ ?_
       refine pq_ 6 57 (bm_ [7, 26]) HT_ ?_
       refine pq_ 7 58 (bm_ [8, 25]) HT_ ?_
       refine pq_ 8 59 (bm_ [9, 24]) HT_ ?_
       refine pq_ 9 60 (bm_ [10, 23]) HT_ ?_
       refine pq_ 10 61 (bm_ [11, 22]) HT_ ?_
       refine pq_ 11 62 (bm_ [12, 21]) HT_ ?_
       refine pq_ 12 63 (bm_ [13, 20]) HT_ ?_
       refine pq_ 13 64 (bm_ [14, 19]) HT_ ?_
       refine pq_ 14 65 (bm_ [15, 18]) HT_ ?_
       refine pq_ 15 66 (bm_ [16, 17]) HT_ ?_
       refine pq_ 17 68 (bm_ [16, 1, 1, 15]) HT_ ?_
       refine tq_ 16 67 (bm_ [18, 15]) HT_ HW_ hHeld ?_
       refine pq_ 18 69 (bm_ [19, 14]) HT_ ?_
       refine pq_ 19 70 (bm_ [20, 13]) HT_ ?_
       refine pq_ 20 71 (bm_ [21, 12]) HT_ ?_
       refine pq_ 21 72 (bm_ [22, 11]) HT_ ?_
       refine tq_ 23 74 (bm_ [22, 1, 1, 9]) HT_ HW_ hHeld ?_
       refine oq_ 22 (some 73) (bm_ [24, 9]) HT_ (fun K hK => ?_)
       refine gq_ Try.func46 #[.int .i64 x5_2] ?_
       with_reducible refine (tile_Kids.calls k2 x5_2 t118 _ A35.out).mono ?_
       rintro e w41 ⟨v119, rfl, ho0, hb⟩
       refine ⟨_, rfl, ?_⟩
       have HO120 := Aside0.mk (Kd.R_lower (Kd.R_newB (Kd.R_newB ho0 (g := gb112) (o := .cells #[.int .i64 t110] 69 (0, 0)) BK112.out) (g := gb115) (o := .cells #[.int .i64 t113] 69 (0, 0)) BK115.out) (below_size (by repeat (first | (with_reducible first | exact HB.out | apply below_alloc | apply pw_below_drewN | apply below_drew1 | refine below_set ?_ GE106.out | refine below_set ?_ GE112.out | refine below_set ?_ GE115.out) | exact HB.out))))
       replace BK106 := bkb_ BK106 hb rfl
       replace BK112 := bkb_ BK112 hb rfl
       replace BK115 := bkb_ BK115 hb rfl
       replace HB := hbs_ HB hb rfl rfl rfl rfl
       (try clear hb)
       (try clear ho0)
       obtain ⟨Ao42, co42, eo42⟩ := Kd.R_slice HO120.out
       (first | subst eo42 | (injection eo42 with f1_ f2_ f3_; have f4_ := f1_.symm; have f5_ := f3_.symm; clear f1_ f2_ f3_; subst f4_; subst f5_))
       refine hK.out _ _ ⟨bc_ BK115 0 rfl, bc_ BK112 0 rfl, bc_ BK106 0 rfl, bc_ BK106 1 rfl, bc_ BK106 2 rfl⟩ (fun hHeld => ?_)
       clear hK K
       refine nq_ 73 ?_
       refine oq_ 24 (some 75) (bm_ [25, 8]) HT_ (fun K hK => ?_)
       refine gq_ Try.func45 #[.slice Ao42 t118.length co42, .int .i64 t110] ?_
       with_reducible refine (slices_Contains_api_Tile_api_Tile.calls k2 _ _ t118 t110 true _ ?side1 ?side2 A36.out).mono ?_
       (case side1 => repeat (first | exact (Kd.R_reads' HO120.out).2.2 | (with_reducible refine Kd.C_alloc ?_ _) | (with_reducible refine Kd.C_drewN ?_ _) | (with_reducible refine Kd.C_drew ?_)))
       (case side2 => exact (Kd.R_reads' HO120.out).2.1)
       rintro e w' ⟨rfl, ⟨nd, rfl⟩⟩
       refine ⟨_, rfl, ?_⟩
       refine hK.out _ _ ⟨bc_ BK115 0 rfl, bc_ BK112 0 rfl, bc_ BK106 0 rfl, bc_ BK106 1 rfl, bc_ BK106 2 rfl⟩ (fun hHeld => ?_)
       clear hK K
       refine nq_ 75 ?_
       refine pq_ 25 76 (bm_ [26, 7]) HT_ ?_
       refine pq_ 26 77 (bm_ [27, 6]) HT_ ?_
       refine pq_ 27 78 (bm_ [28, 5]) HT_ ?_
       refine tq_ 28 79 (bm_ [29, 4]) HT_ HW_ hHeld ?_
       refine tq_ 29 80 (bm_ [30, 3]) HT_ HW_ hHeld ?_
       refine oq_ 30 (some 81) (bm_ [31, 2]) HT_ (fun K hK => ?_)
       refine gq_ Try.func47 #[.int .i64 t110, .agg #[.int .i64 t102, .int .i64 t103, .int .i64 t104]] ?_
       with_reducible refine (tile_Has.calls k2 t110 t102 t103 t104 t122 _ A38.out).mono ?_
       rintro e w43 ⟨rfl, hb⟩
       refine ⟨_, rfl, ?_⟩
       replace HO120 := Aside0.mk (Kd.R_below (by (with_reducible repeat (first | apply Kd.R_alloc | apply Kd.R_drewN | apply Kd.R_drew)); exact HO120.out) hb)
       replace BK106 := bkb_ BK106 hb rfl
       replace BK112 := bkb_ BK112 hb rfl
       replace BK115 := bkb_ BK115 hb rfl
       replace HB := hbs_ HB hb rfl rfl rfl rfl
       (try clear hb)
       refine hK.out _ _ ⟨bc_ BK115 0 rfl, bc_ BK112 0 rfl, bc_ BK106 0 rfl, bc_ BK106 1 rfl, bc_ BK106 2 rfl⟩ (fun hHeld => ?_)
       clear hK K
       refine nq_ 81 ?_
       refine pq_ 31 82 (bm_ [32, 1]) HT_ ?_
       refine pq_ 32 83 (bm_ [33]) HT_ ?_
       refine done_ (done_of HT_.out (by kernel_rfl)) ?_
       try go_wp2
       go_meet
       case rel => exact ⟨_, (!t122), (by first | rfl | (simp; done) | (simp [*]; done)), H', ⟨by have := HJ3.out; have := HK2.out; first | omega | exact Nat.le_refl _⟩, ⟨by (with_reducible repeat (first | refine blk_drewN ?_ _ | refine blk_drew ?_ | refine blk_alloc ?_ _)); exact BK106.out⟩, ⟨by (with_reducible repeat (first | refine blk_drewN ?_ _ | refine blk_drew ?_ | refine blk_alloc ?_ _)); exact BK112.out⟩, ⟨by (with_reducible repeat (first | refine blk_drewN ?_ _ | refine blk_drew ?_ | refine blk_alloc ?_ _)); exact BK115.out⟩, ⟨by repeat (first | (with_reducible first | exact HB.out | apply below_alloc | apply pw_below_drewN | apply below_drew1 | refine below_set ?_ GE106.out | refine below_set ?_ GE112.out | refine below_set ?_ GE115.out) | exact HB.out)⟩⟩
      case rest =>
       clear HC19
       obtain ⟨kq, x83_18, rfl, HA, HJ18, BK106, BK112, BK115, HB⟩ := hcut
       cases kq with
       | zero => exact absurd HA.out (by simp [spykeep1_TilePaths.j2])
       | succ kj18 =>
        have H := HA.out
        clear HA
        simp only [spykeep1_TilePaths.j2] at H
        by_cases c44 : x83_18 = true
        · subst c44
          rw [if_pos rfl] at H
          exact absurd H (by simp)
        replace c44 := Bool.eq_false_iff.mpr c44
        subst c44
        rw [if_neg (show ¬ (false = true) by decide)] at H
        replace H := Option.bind_eq_some_iff.mp H
        obtain ⟨t123, A450, H⟩ := H
        try dsimp -simprocs only at H
        have A45 := Aside0.mk A450
        clear A450
        by_cases c46 : (t123.length : Int) = 4
        rotate_left
        · rw [if_neg c46] at H
          exact absurd H (by simp)
        rw [if_pos c46] at H
        have c46b0 : ((t123.length : Int) == 4) = true := beq_iff_eq.mpr c46
        have c46b1 : ((t123.length : Int) != 4) = false := bne_eq_false_iff_eq.mpr c46
        clear c46
        replace H := Option.bind_eq_some_iff.mp H
        obtain ⟨t126, A470, H⟩ := H
        try dsimp -simprocs only at H
        have A47 := Aside0.mk A470
        clear A470
        by_cases c48 : t126 = true
        · subst c48
          rw [if_pos rfl] at H
          exact absurd H (by simp)
        replace c48 := Bool.eq_false_iff.mpr c48
        subst c48
        rw [if_neg (show ¬ (false = true) by decide)] at H
        have H' := Aside0.mk H
        clear H
        have hnb49 := NB112_106.out
        have hnc49 := NB106_112.out
        have hnb50 := NB112_115.out
        have hnc50 := NB115_112.out
        have hcz51_0 := bc_ BK112 0 rfl
        have hfz51_0 := blk_frozen BK112.out 0
        go_wp2_with (first | ((with_reducible refine gate_callee (f := 48) rfl ?_); refine glq_ (some 85) Try.func48 #[.int .i64 t110] ?_; (with_reducible refine (tile_Corners.calls kj18 t110 t123 _ A45.out).mono ?_); rintro e w52 ⟨v124, rfl, ho0, hb⟩; refine ⟨_, rfl, ?_⟩; have HO125 := Aside0.mk (Kd.R_lower (Kd.R_newB ho0 (g := gb106) (o := .cells #[.int .i64 t102, .int .i64 t103, .int .i64 t104] 67 (0, 0)) BK106.out) (below_size (by repeat (first | (with_reducible first | exact HB.out | apply below_alloc | apply pw_below_drewN | apply below_drew1 | refine below_set ?_ GE106.out | refine below_set ?_ GE112.out | refine below_set ?_ GE115.out) | exact HB.out)))); replace BK106 := bkb_ BK106 hb rfl; replace BK112 := bkb_ BK112 hb rfl; replace BK115 := bkb_ BK115 hb rfl; replace HB := hbs_ HB hb rfl rfl rfl rfl; (try clear hb); (try clear ho0); obtain ⟨Ao53, co53, eo53⟩ := Kd.R_slice HO125.out; subst eo53) | (go_at_call 49; (with_reducible refine (slices_ContainsFunc_api_Vec_api_Vec__spykeep1_TilePaths_1.calls kj18 _ _ t123 _ (List.length [t110]) [t110] _ (List.length [t113]) [t113] false _ ?side1 ?side2 ?side3 ?side4 ?side5 ?side6 A47.out).mono ?_); (case side1 => repeat (first | exact (Kd.R_reads' HO125.out).2.2 | (with_reducible refine Kd.C_alloc ?_ _) | (with_reducible refine Kd.C_drewN ?_ _) | (with_reducible refine Kd.C_drew ?_))); (case side2 => exact (Kd.R_reads' HO125.out).2.1); (case side3 => exact cap_C (T := 69) (cs := #[.int .i64 t110]) BK112.out (rfl) rfl); (case side4 => exact Nat.le_refl _); (case side5 => exact cap_C (T := 69) (cs := #[.int .i64 t113]) BK115.out (rfl) rfl); (case side6 => exact Nat.le_refl _); rintro e w54 ⟨rfl, hb⟩; replace HO125 := Aside0.mk (Kd.R_below (by (with_reducible repeat (first | apply Kd.R_alloc | apply Kd.R_drewN | apply Kd.R_drew)); exact HO125.out) hb); replace BK106 := bkb_ BK106 hb rfl; replace BK112 := bkb_ BK112 hb rfl; replace BK115 := bkb_ BK115 hb rfl; replace HB := hbs_ HB hb rfl rfl rfl rfl; (try clear hb); have hcz55_0 := bc_ BK112 0 rfl; have hfz55_0 := blk_frozen BK112.out 0))
        go_roundg kj18
        case measure => have := HJ3.out; have := HK2.out; have := HJ18.out; omega
        case rel => exact ⟨(t110), (wrap64 (x7_2 + 1)), (by first | rfl | (simp; done) | (simp [*]; done)), (by first | rfl | (simp; done) | (simp [*]; done)), H', ⟨by have := HJ3.out; have := HK2.out; have := HJ18.out; omega⟩, ⟨by (with_reducible repeat (first | refine blk_drewN ?_ _ | refine blk_drew ?_ | refine blk_alloc ?_ _)); exact BK106.out⟩, ⟨by repeat (first | (with_reducible first | exact HB.out | apply below_alloc | apply pw_below_drewN | apply below_drew1 | refine below_set ?_ GE106.out | refine below_set ?_ GE112.out | refine below_set ?_ GE115.out) | exact HB.out)⟩⟩
/-- THE ONE PURE STATEMENT of spykeep1_TilePaths: yours. -/
def spykeep1_TilePaths.Pure : Prop := ∀ (l0 : List Int), l0.length ≤ maxLen → l0.length * 8 ≤ 140737488351232 → (∀ x ∈ l0, (Lit.int .i64 x).wf = true) → ∃ k, spykeep1_TilePaths.f k l0 = some true
theorem spykeep1_TilePaths.walk (P : spykeep1_TilePaths.Pure) (a0 : Option Addr) (len0 cap0 : Nat) (z0 : List Int) (w : World) (w0 : (a0 = none ∧ len0 = 0 ∧ cap0 = 0 ∧ z0 = []) ∨ ∃ x, a0 = some x ∧ len0 ≤ cap0 ∧ cap0 ≤ maxLen ∧ z0.length = cap0 ∧ (∀ i, i < z0.length → w.cell? (x.add i) = some (.int .i64 (z0.getD i 0))) ∧ ∀ n ∈ z0, (Lit.int .i64 n).wf = true) (y0 : len0 * 8 ≤ 140737488351232) :
 Calls Try.prog 12 #[.slice a0 len0 cap0] w fun e w' => e = .returned (.bool true) ∧ Below w.heap.size w w' := by
 obtain ⟨l0, rfl, hr0, hm0, hw0, hc0⟩ := ReadsInt.ofRowC w0
 obtain ⟨k, h⟩ := P l0 hm0 y0 hw0
 refine (spykeep1_TilePaths.calls k _ _ l0 true w (Kd.C_of_reads (d := (0 : Int)) (h1 := fun _ => rfl) hr0) hc0 h).mono ?_
 rintro e w' ⟨rfl, hd⟩
 exact ⟨rfl, hd⟩

end Go.Proofs.Ytbaedcjophgiiaa.Q
