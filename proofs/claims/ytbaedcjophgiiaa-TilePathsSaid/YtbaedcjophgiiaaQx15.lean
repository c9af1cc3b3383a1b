/- Contracts of Go functions of the seat, one by one: each call returns what the Lean function of the same name says, wherever that is 'some'; no other condition. Written by a program of this session. -/
import Derived.Test.YtbaedcjophgiiaaQx0
import Derived.Test.YtbaedcjophgiiaaQx4
import Derived.BigQuiet
import Derived.BigRegion
import Derived.Deep.QuietTactic
import Derived.LoopIn
import Derived.LoopNIn
import Derived.OwnWalkIn
import Derived.RangeFuncBound
import Derived.RangeFuncCalls
import Derived.RangeFuncLeaves
import Derived.RangeFuncNested
import Derived.RegionTactic
import Derived.Shelf.Abstract
import Derived.Shelf.RegionOpen
import Derived.TacticsInMore
import Derived.WalkKit
namespace Go.Proofs.Ytbaedcjophgiiaa.Q
open Go.RowKit Go.Proofs.YtbaedcjophgiiaaW.PrintWords Go.Proofs.YtbaedcjophgiiaaW.PrintLast Go.Proofs.YtbaedcjophgiiaaW.PrintMore
attribute [local go_sem] max2_int min2_int max_two min_two max_three min_three max_four min_four   -- for this text's walks alone
set_option linter.unusedVariables false
set_option linter.unusedSimpArgs false

/-! ### tile_point: function 88 -/
-- IMPORTS: Derived.RangeFuncNested Derived.RangeFuncBound Derived.RangeFuncCalls Derived.RangeFuncLeaves Derived.Shelf.Abstract Derived.Shelf.RegionOpen Derived.WalkKit Derived.OwnWalkIn Derived.TacticsInMore Derived.LoopNIn Derived.LoopIn Derived.Deep.QuietTactic Derived.BigQuiet Derived.RegionTactic Derived.BigRegion
section
open Go.Proofs Go.RowKit Go.Shelf Go.Proofs.YtbaedcjophgiiaaW.PrintWords Go.Proofs.YtbaedcjophgiiaaW.PrintLast Go.Proofs.YtbaedcjophgiiaaW.PrintMore
theorem tile_point.axes0 : tile_axes.f 0 = some (0, 1, 2) := by simp [tile_axes.f, wrap64]
theorem tile_point.axes1 : tile_axes.f 1 = some (0, 1, 2) := by simp [tile_axes.f, wrap64]
theorem tile_point.axes2 : tile_axes.f 2 = some (1, 2, 0) := by simp [tile_axes.f, wrap64]
theorem tile_point.axes3 : tile_axes.f 3 = some (1, 2, 0) := by simp [tile_axes.f, wrap64]
theorem tile_point.axes4 : tile_axes.f 4 = some (2, 0, 1) := by simp [tile_axes.f, wrap64]
theorem tile_point.axes5 : tile_axes.f 5 = some (2, 0, 1) := by simp [tile_axes.f, wrap64]
def tile_point.m (face n u v : Int) : Option (Int × Int × Int) :=
  if face = 0 then some (n, u, v) else if face = 1 then some (wrap64 (-n), u, v) else if face = 2 then some (v, n, u) else if face = 3 then some (v, wrap64 (-n), u) else if face = 4 then some (u, v, n) else if face = 5 then some (u, v, wrap64 (-n)) else none
def tile_point.f (face x y level : Int) : Option (Int × Int × Int) :=
  if 0 ≤ level then tile_point.m face (shl .i64 1 level) (wrap64 (wrap64 (2 * x) - shl .i64 1 level)) (wrap64 (wrap64 (2 * y) - shl .i64 1 level)) else none
set_option maxHeartbeats 4000000 in
set_option maxRecDepth 100000 in
theorem tile_point.c0 (x y level n : Int) (w : World) (hl : 0 ≤ level) (hji : shl .i64 1 level = n) :
    Calls Try.prog 88 #[.int .i64 0, .int .i64 x, .int .i64 y, .int .i64 level] w fun e w' => e = .returned (.agg #[.int .i64 n, .int .i64 (wrap64 (wrap64 (2 * x) - n)), .int .i64 (wrap64 (wrap64 (2 * y) - n))]) ∧ Below w.heap.size w w' := by
  have hu67 := Try.underlying67
  have hu124 := Try.underlying124
  have hji_ : (IntKind.i64.wrap (1 * 2 ^ min (level).toNat 64)) = n := hji
  have hjiy : (wrap64 (1 * 2 ^ min (level).toNat 64)) = n := (i64_w _).symm.trans hji_
  have hji1 : wrap64 (2 ^ min (level).toNat 64) = n := by simpa using hjiy
  have c4b0 := eq_true hl
  have c4b1 : decide (0 ≤ level) = true := decide_eq_true hl
  go_enter Try.func88, Try.ntmps88
  go_wp2_with (first | (go_at_call 80; (with_reducible refine (tile_axes.calls 0 0 1 2 _ tile_point.axes0).mono ?_); rintro e w1 ⟨rfl, ⟨m1, rfl⟩⟩))
  have hB : Below w.heap.size w (((w.alloc (.cells #[.int .i64 0, .int .i64 0, .int .i64 0] 67)).drewN m1).alloc (.cells #[.int .i64 0, .int .i64 0, .int .i64 0] 124)) := (pw_below_drewN ((Below.refl _ w).alloc (Nat.le_refl _) _) m1).alloc (by simp [World.drewN]) _
  have bl : (((w.alloc (.cells #[.int .i64 0, .int .i64 0, .int .i64 0] 67)).drewN m1).alloc (.cells #[.int .i64 0, .int .i64 0, .int .i64 0] 124)).heap[w.heap.size + 1]? = some (.cells #[.int .i64 0, .int .i64 0, .int .i64 0] 124 (0, 0)) := by
    have := World.alloc_heap_new ((w.alloc (.cells #[.int .i64 0, .int .i64 0, .int .i64 0] 67)).drewN m1) (.cells #[.int .i64 0, .int .i64 0, .int .i64 0] 124)
    simpa [World.drewN] using this
  have b0 : (((w.alloc (.cells #[.int .i64 0, .int .i64 0, .int .i64 0] 67)).drewN m1).alloc (.cells #[.int .i64 0, .int .i64 0, .int .i64 0] 124)).heap[w.heap.size]? = some (.cells #[.int .i64 0, .int .i64 0, .int .i64 0] 67 (0, 0)) := by
    have h1 : ((w.alloc (.cells #[.int .i64 0, .int .i64 0, .int .i64 0] 67)).drewN m1).heap[w.heap.size]? = some (.cells #[.int .i64 0, .int .i64 0, .int .i64 0] 67 (0, 0)) := World.alloc_heap_new w _
    exact ((World.grownBy_alloc _ _ none).block w.heap.size (by simp [World.drewN]) (by simp)).trans h1
  generalize hW : (((w.alloc (.cells #[.int .i64 0, .int .i64 0, .int .i64 0] 67)).drewN m1).alloc (.cells #[.int .i64 0, .int .i64 0, .int .i64 0] 124)) = W at *
  clear hW
  have f0 := (blk_cell bl 0).trans rfl
  have f1 := (blk_cell bl 1).trans rfl
  have f2 := (blk_cell bl 2).trans rfl
  have g0 := blk_frozen bl 0
  have g1 := blk_frozen bl 1
  have g2 := blk_frozen bl 2
  go_region
  have bl2 : (((W.setCell ⟨w.heap.size + 1, 0, none⟩ (.int .i64 n)).setCell ⟨w.heap.size + 1, 1, none⟩ (.int .i64 (wrap64 (wrap64 (2 * x) - n)))).setCell ⟨w.heap.size + 1, 2, none⟩ (.int .i64 (wrap64 (wrap64 (2 * y) - n)))).drew.heap[w.heap.size + 1]? = some (.cells #[.int .i64 n, .int .i64 (wrap64 (wrap64 (2 * x) - n)), .int .i64 (wrap64 (wrap64 (2 * y) - n))] 124 (0, 0)) := blk_put (blk_put (blk_put bl 0 _ rfl) 1 _ rfl) 2 _ rfl
  have b02 : (((W.setCell ⟨w.heap.size + 1, 0, none⟩ (.int .i64 n)).setCell ⟨w.heap.size + 1, 1, none⟩ (.int .i64 (wrap64 (wrap64 (2 * x) - n)))).setCell ⟨w.heap.size + 1, 2, none⟩ (.int .i64 (wrap64 (wrap64 (2 * y) - n)))).drew.heap[w.heap.size]? = some (.cells #[.int .i64 0, .int .i64 0, .int .i64 0] 67 (0, 0)) := blk_far (p := ⟨w.heap.size + 1, 2, none⟩) (blk_far (p := ⟨w.heap.size + 1, 1, none⟩) (blk_far (p := ⟨w.heap.size + 1, 0, none⟩) b0 (by simp) _) (by simp) _) (by simp) _
  have hB2 : Below w.heap.size w (((W.setCell ⟨w.heap.size + 1, 0, none⟩ (.int .i64 n)).setCell ⟨w.heap.size + 1, 1, none⟩ (.int .i64 (wrap64 (wrap64 (2 * x) - n)))).setCell ⟨w.heap.size + 1, 2, none⟩ (.int .i64 (wrap64 (wrap64 (2 * y) - n)))).drew := pw_below_drewN (((hB.setCell (p := ⟨w.heap.size + 1, 0, none⟩) (by simp) _).setCell (p := ⟨w.heap.size + 1, 1, none⟩) (by simp) _).setCell (p := ⟨w.heap.size + 1, 2, none⟩) (by simp) _) 1
  generalize hW2 : (((W.setCell ⟨w.heap.size + 1, 0, none⟩ (.int .i64 n)).setCell ⟨w.heap.size + 1, 1, none⟩ (.int .i64 (wrap64 (wrap64 (2 * x) - n)))).setCell ⟨w.heap.size + 1, 2, none⟩ (.int .i64 (wrap64 (wrap64 (2 * y) - n)))).drew = W2 at *
  clear hW2 f0 f1 f2 g0 g1 g2 bl b0 hB
  have f0 := (blk_cell bl2 0).trans rfl
  have f1 := (blk_cell bl2 1).trans rfl
  have f2 := (blk_cell bl2 2).trans rfl
  have g0 := blk_frozen bl2 0
  have g1 := blk_frozen bl2 1
  have g2 := blk_frozen bl2 2
  have lt1 : w.heap.size < W2.heap.size := (Array.getElem?_eq_some_iff.1 b02).1
  go_wp2_with (first | (go_at_call 116; (with_reducible refine (tile_vec.calls n (wrap64 (wrap64 (2 * x) - n)) (wrap64 (wrap64 (2 * y) - n)) n (wrap64 (wrap64 (2 * x) - n)) (wrap64 (wrap64 (2 * y) - n)) _ rfl).mono ?_); rintro e w2 ⟨rfl, hb2⟩; have d2 := (hb2.block w.heap.size (by simpa using lt1)).trans (b02); have k0 := (blk_cell d2 0).trans rfl; have k1 := (blk_cell d2 1).trans rfl; have k2 := (blk_cell d2 2).trans rfl; have z0 := blk_frozen d2 0; have z1 := blk_frozen d2 1; have z2 := blk_frozen d2 2))
  refine bodyPost_ret (results_cell_row rfl _ _ w.heap.size 67 #[.int .i64 n, .int .i64 (wrap64 (wrap64 (2 * x) - n)), .int .i64 (wrap64 (wrap64 (2 * y) - n))] (0, 0) _ rfl (blk_put (blk_put (blk_put d2 0 _ rfl) 1 _ rfl) 2 _ rfl) Try.underlying67 rfl (by kernel_rfl)) rfl ?_
  exact ⟨rfl, ((((hB2).trans (hb2.mono (by simpa using Nat.le_of_lt lt1))).setCell (p := ⟨w.heap.size, 0, none⟩) (Nat.le_refl _) _).setCell (p := ⟨w.heap.size, 1, none⟩) (Nat.le_refl _) _).setCell (p := ⟨w.heap.size, 2, none⟩) (Nat.le_refl _) _⟩
set_option maxHeartbeats 4000000 in
set_option maxRecDepth 100000 in
theorem tile_point.c1 (x y level n : Int) (w : World) (hl : 0 ≤ level) (hji : shl .i64 1 level = n) :
    Calls Try.prog 88 #[.int .i64 1, .int .i64 x, .int .i64 y, .int .i64 level] w fun e w' => e = .returned (.agg #[.int .i64 (wrap64 (-n)), .int .i64 (wrap64 (wrap64 (2 * x) - n)), .int .i64 (wrap64 (wrap64 (2 * y) - n))]) ∧ Below w.heap.size w w' := by
  have hu67 := Try.underlying67
  have hu124 := Try.underlying124
  have hji_ : (IntKind.i64.wrap (1 * 2 ^ min (level).toNat 64)) = n := hji
  have hjiy : (wrap64 (1 * 2 ^ min (level).toNat 64)) = n := (i64_w _).symm.trans hji_
  have hji1 : wrap64 (2 ^ min (level).toNat 64) = n := by simpa using hjiy
  have c4b0 := eq_true hl
  have c4b1 : decide (0 ≤ level) = true := decide_eq_true hl
  go_enter Try.func88, Try.ntmps88
  go_wp2_with (first | (go_at_call 80; (with_reducible refine (tile_axes.calls 1 0 1 2 _ tile_point.axes1).mono ?_); rintro e w1 ⟨rfl, ⟨m1, rfl⟩⟩))
  have hB : Below w.heap.size w (((w.alloc (.cells #[.int .i64 0, .int .i64 0, .int .i64 0] 67)).drewN m1).alloc (.cells #[.int .i64 0, .int .i64 0, .int .i64 0] 124)) := (pw_below_drewN ((Below.refl _ w).alloc (Nat.le_refl _) _) m1).alloc (by simp [World.drewN]) _
  have bl : (((w.alloc (.cells #[.int .i64 0, .int .i64 0, .int .i64 0] 67)).drewN m1).alloc (.cells #[.int .i64 0, .int .i64 0, .int .i64 0] 124)).heap[w.heap.size + 1]? = some (.cells #[.int .i64 0, .int .i64 0, .int .i64 0] 124 (0, 0)) := by
    have := World.alloc_heap_new ((w.alloc (.cells #[.int .i64 0, .int .i64 0, .int .i64 0] 67)).drewN m1) (.cells #[.int .i64 0, .int .i64 0, .int .i64 0] 124)
    simpa [World.drewN] using this
  have b0 : (((w.alloc (.cells #[.int .i64 0, .int .i64 0, .int .i64 0] 67)).drewN m1).alloc (.cells #[.int .i64 0, .int .i64 0, .int .i64 0] 124)).heap[w.heap.size]? = some (.cells #[.int .i64 0, .int .i64 0, .int .i64 0] 67 (0, 0)) := by
    have h1 : ((w.alloc (.cells #[.int .i64 0, .int .i64 0, .int .i64 0] 67)).drewN m1).heap[w.heap.size]? = some (.cells #[.int .i64 0, .int .i64 0, .int .i64 0] 67 (0, 0)) := World.alloc_heap_new w _
    exact ((World.grownBy_alloc _ _ none).block w.heap.size (by simp [World.drewN]) (by simp)).trans h1
  generalize hW : (((w.alloc (.cells #[.int .i64 0, .int .i64 0, .int .i64 0] 67)).drewN m1).alloc (.cells #[.int .i64 0, .int .i64 0, .int .i64 0] 124)) = W at *
  clear hW
  have f0 := (blk_cell bl 0).trans rfl
  have f1 := (blk_cell bl 1).trans rfl
  have f2 := (blk_cell bl 2).trans rfl
  have g0 := blk_frozen bl 0
  have g1 := blk_frozen bl 1
  have g2 := blk_frozen bl 2
  go_region
  have bl2 : (((W.setCell ⟨w.heap.size + 1, 0, none⟩ (.int .i64 n)).setCell ⟨w.heap.size + 1, 1, none⟩ (.int .i64 (wrap64 (wrap64 (2 * x) - n)))).setCell ⟨w.heap.size + 1, 2, none⟩ (.int .i64 (wrap64 (wrap64 (2 * y) - n)))).drew.heap[w.heap.size + 1]? = some (.cells #[.int .i64 n, .int .i64 (wrap64 (wrap64 (2 * x) - n)), .int .i64 (wrap64 (wrap64 (2 * y) - n))] 124 (0, 0)) := blk_put (blk_put (blk_put bl 0 _ rfl) 1 _ rfl) 2 _ rfl
  have b02 : (((W.setCell ⟨w.heap.size + 1, 0, none⟩ (.int .i64 n)).setCell ⟨w.heap.size + 1, 1, none⟩ (.int .i64 (wrap64 (wrap64 (2 * x) - n)))).setCell ⟨w.heap.size + 1, 2, none⟩ (.int .i64 (wrap64 (wrap64 (2 * y) - n)))).drew.heap[w.heap.size]? = some (.cells #[.int .i64 0, .int .i64 0, .int .i64 0] 67 (0, 0)) := blk_far (p := ⟨w.heap.size + 1, 2, none⟩) (blk_far (p := ⟨w.heap.size + 1, 1, none⟩) (blk_far (p := ⟨w.heap.size + 1, 0, none⟩) b0 (by simp) _) (by simp) _) (by simp) _
  have hB2 : Below w.heap.size w (((W.setCell ⟨w.heap.size + 1, 0, none⟩ (.int .i64 n)).setCell ⟨w.heap.size + 1, 1, none⟩ (.int .i64 (wrap64 (wrap64 (2 * x) - n)))).setCell ⟨w.heap.size + 1, 2, none⟩ (.int .i64 (wrap64 (wrap64 (2 * y) - n)))).drew := pw_below_drewN (((hB.setCell (p := ⟨w.heap.size + 1, 0, none⟩) (by simp) _).setCell (p := ⟨w.heap.size + 1, 1, none⟩) (by simp) _).setCell (p := ⟨w.heap.size + 1, 2, none⟩) (by simp) _) 1
  generalize hW2 : (((W.setCell ⟨w.heap.size + 1, 0, none⟩ (.int .i64 n)).setCell ⟨w.heap.size + 1, 1, none⟩ (.int .i64 (wrap64 (wrap64 (2 * x) - n)))).setCell ⟨w.heap.size + 1, 2, none⟩ (.int .i64 (wrap64 (wrap64 (2 * y) - n)))).drew = W2 at *
  clear hW2 f0 f1 f2 g0 g1 g2 bl b0 hB
  have f0 := (blk_cell bl2 0).trans rfl
  have f1 := (blk_cell bl2 1).trans rfl
  have f2 := (blk_cell bl2 2).trans rfl
  have g0 := blk_frozen bl2 0
  have g1 := blk_frozen bl2 1
  have g2 := blk_frozen bl2 2
  have lt1 : w.heap.size < W2.heap.size := (Array.getElem?_eq_some_iff.1 b02).1
  go_wp2_with (first | (go_at_call 116; (with_reducible refine (tile_vec.calls (wrap64 (-n)) (wrap64 (wrap64 (2 * x) - n)) (wrap64 (wrap64 (2 * y) - n)) (wrap64 (-n)) (wrap64 (wrap64 (2 * x) - n)) (wrap64 (wrap64 (2 * y) - n)) _ rfl).mono ?_); rintro e w2 ⟨rfl, hb2⟩; have d2 := (hb2.block w.heap.size (by simpa using lt1)).trans (blk_far (p := ⟨w.heap.size + 1, 0, none⟩) b02 (by simp) _); have k0 := (blk_cell d2 0).trans rfl; have k1 := (blk_cell d2 1).trans rfl; have k2 := (blk_cell d2 2).trans rfl; have z0 := blk_frozen d2 0; have z1 := blk_frozen d2 1; have z2 := blk_frozen d2 2))
  refine bodyPost_ret (results_cell_row rfl _ _ w.heap.size 67 #[.int .i64 (wrap64 (-n)), .int .i64 (wrap64 (wrap64 (2 * x) - n)), .int .i64 (wrap64 (wrap64 (2 * y) - n))] (0, 0) _ rfl (blk_put (blk_put (blk_put d2 0 _ rfl) 1 _ rfl) 2 _ rfl) Try.underlying67 rfl (by kernel_rfl)) rfl ?_
  exact ⟨rfl, ((((hB2.setCell (p := ⟨w.heap.size + 1, 0, none⟩) (by simp) _).trans (hb2.mono (by simpa using Nat.le_of_lt lt1))).setCell (p := ⟨w.heap.size, 0, none⟩) (Nat.le_refl _) _).setCell (p := ⟨w.heap.size, 1, none⟩) (Nat.le_refl _) _).setCell (p := ⟨w.heap.size, 2, none⟩) (Nat.le_refl _) _⟩
set_option maxHeartbeats 4000000 in
set_option maxRecDepth 100000 in
theorem tile_point.c2 (x y level n : Int) (w : World) (hl : 0 ≤ level) (hji : shl .i64 1 level = n) :
    Calls Try.prog 88 #[.int .i64 2, .int .i64 x, .int .i64 y, .int .i64 level] w fun e w' => e = .returned (.agg #[.int .i64 (wrap64 (wrap64 (2 * y) - n)), .int .i64 n, .int .i64 (wrap64 (wrap64 (2 * x) - n))]) ∧ Below w.heap.size w w' := by
  have hu67 := Try.underlying67
  have hu124 := Try.underlying124
  have hji_ : (IntKind.i64.wrap (1 * 2 ^ min (level).toNat 64)) = n := hji
  have hjiy : (wrap64 (1 * 2 ^ min (level).toNat 64)) = n := (i64_w _).symm.trans hji_
  have hji1 : wrap64 (2 ^ min (level).toNat 64) = n := by simpa using hjiy
  have c4b0 := eq_true hl
  have c4b1 : decide (0 ≤ level) = true := decide_eq_true hl
  go_enter Try.func88, Try.ntmps88
  go_wp2_with (first | (go_at_call 80; (with_reducible refine (tile_axes.calls 2 1 2 0 _ tile_point.axes2).mono ?_); rintro e w1 ⟨rfl, ⟨m1, rfl⟩⟩))
  have hB : Below w.heap.size w (((w.alloc (.cells #[.int .i64 0, .int .i64 0, .int .i64 0] 67)).drewN m1).alloc (.cells #[.int .i64 0, .int .i64 0, .int .i64 0] 124)) := (pw_below_drewN ((Below.refl _ w).alloc (Nat.le_refl _) _) m1).alloc (by simp [World.drewN]) _
  have bl : (((w.alloc (.cells #[.int .i64 0, .int .i64 0, .int .i64 0] 67)).drewN m1).alloc (.cells #[.int .i64 0, .int .i64 0, .int .i64 0] 124)).heap[w.heap.size + 1]? = some (.cells #[.int .i64 0, .int .i64 0, .int .i64 0] 124 (0, 0)) := by
    have := World.alloc_heap_new ((w.alloc (.cells #[.int .i64 0, .int .i64 0, .int .i64 0] 67)).drewN m1) (.cells #[.int .i64 0, .int .i64 0, .int .i64 0] 124)
    simpa [World.drewN] using this
  have b0 : (((w.alloc (.cells #[.int .i64 0, .int .i64 0, .int .i64 0] 67)).drewN m1).alloc (.cells #[.int .i64 0, .int .i64 0, .int .i64 0] 124)).heap[w.heap.size]? = some (.cells #[.int .i64 0, .int .i64 0, .int .i64 0] 67 (0, 0)) := by
    have h1 : ((w.alloc (.cells #[.int .i64 0, .int .i64 0, .int .i64 0] 67)).drewN m1).heap[w.heap.size]? = some (.cells #[.int .i64 0, .int .i64 0, .int .i64 0] 67 (0, 0)) := World.alloc_heap_new w _
    exact ((World.grownBy_alloc _ _ none).block w.heap.size (by simp [World.drewN]) (by simp)).trans h1
  generalize hW : (((w.alloc (.cells #[.int .i64 0, .int .i64 0, .int .i64 0] 67)).drewN m1).alloc (.cells #[.int .i64 0, .int .i64 0, .int .i64 0] 124)) = W at *
  clear hW
  have f0 := (blk_cell bl 0).trans rfl
  have f1 := (blk_cell bl 1).trans rfl
  have f2 := (blk_cell bl 2).trans rfl
  have g0 := blk_frozen bl 0
  have g1 := blk_frozen bl 1
  have g2 := blk_frozen bl 2
  go_region
  have bl2 : (((W.setCell ⟨w.heap.size + 1, 1, none⟩ (.int .i64 n)).setCell ⟨w.heap.size + 1, 2, none⟩ (.int .i64 (wrap64 (wrap64 (2 * x) - n)))).setCell ⟨w.heap.size + 1, 0, none⟩ (.int .i64 (wrap64 (wrap64 (2 * y) - n)))).drew.heap[w.heap.size + 1]? = some (.cells #[.int .i64 (wrap64 (wrap64 (2 * y) - n)), .int .i64 n, .int .i64 (wrap64 (wrap64 (2 * x) - n))] 124 (0, 0)) := blk_put (blk_put (blk_put bl 1 _ rfl) 2 _ rfl) 0 _ rfl
  have b02 : (((W.setCell ⟨w.heap.size + 1, 1, none⟩ (.int .i64 n)).setCell ⟨w.heap.size + 1, 2, none⟩ (.int .i64 (wrap64 (wrap64 (2 * x) - n)))).setCell ⟨w.heap.size + 1, 0, none⟩ (.int .i64 (wrap64 (wrap64 (2 * y) - n)))).drew.heap[w.heap.size]? = some (.cells #[.int .i64 0, .int .i64 0, .int .i64 0] 67 (0, 0)) := blk_far (p := ⟨w.heap.size + 1, 0, none⟩) (blk_far (p := ⟨w.heap.size + 1, 2, none⟩) (blk_far (p := ⟨w.heap.size + 1, 1, none⟩) b0 (by simp) _) (by simp) _) (by simp) _
  have hB2 : Below w.heap.size w (((W.setCell ⟨w.heap.size + 1, 1, none⟩ (.int .i64 n)).setCell ⟨w.heap.size + 1, 2, none⟩ (.int .i64 (wrap64 (wrap64 (2 * x) - n)))).setCell ⟨w.heap.size + 1, 0, none⟩ (.int .i64 (wrap64 (wrap64 (2 * y) - n)))).drew := pw_below_drewN (((hB.setCell (p := ⟨w.heap.size + 1, 1, none⟩) (by simp) _).setCell (p := ⟨w.heap.size + 1, 2, none⟩) (by simp) _).setCell (p := ⟨w.heap.size + 1, 0, none⟩) (by simp) _) 1
  generalize hW2 : (((W.setCell ⟨w.heap.size + 1, 1, none⟩ (.int .i64 n)).setCell ⟨w.heap.size + 1, 2, none⟩ (.int .i64 (wrap64 (wrap64 (2 * x) - n)))).setCell ⟨w.heap.size + 1, 0, none⟩ (.int .i64 (wrap64 (wrap64 (2 * y) - n)))).drew = W2 at *
  clear hW2 f0 f1 f2 g0 g1 g2 bl b0 hB
  have f0 := (blk_cell bl2 0).trans rfl
  have f1 := (blk_cell bl2 1).trans rfl
  have f2 := (blk_cell bl2 2).trans rfl
  have g0 := blk_frozen bl2 0
  have g1 := blk_frozen bl2 1
  have g2 := blk_frozen bl2 2
  have lt1 : w.heap.size < W2.heap.size := (Array.getElem?_eq_some_iff.1 b02).1
  go_wp2_with (first | (go_at_call 116; (with_reducible refine (tile_vec.calls (wrap64 (wrap64 (2 * y) - n)) n (wrap64 (wrap64 (2 * x) - n)) (wrap64 (wrap64 (2 * y) - n)) n (wrap64 (wrap64 (2 * x) - n)) _ rfl).mono ?_); rintro e w2 ⟨rfl, hb2⟩; have d2 := (hb2.block w.heap.size (by simpa using lt1)).trans (b02); have k0 := (blk_cell d2 0).trans rfl; have k1 := (blk_cell d2 1).trans rfl; have k2 := (blk_cell d2 2).trans rfl; have z0 := blk_frozen d2 0; have z1 := blk_frozen d2 1; have z2 := blk_frozen d2 2))
  refine bodyPost_ret (results_cell_row rfl _ _ w.heap.size 67 #[.int .i64 (wrap64 (wrap64 (2 * y) - n)), .int .i64 n, .int .i64 (wrap64 (wrap64 (2 * x) - n))] (0, 0) _ rfl (blk_put (blk_put (blk_put d2 0 _ rfl) 1 _ rfl) 2 _ rfl) Try.underlying67 rfl (by kernel_rfl)) rfl ?_
  exact ⟨rfl, ((((hB2).trans (hb2.mono (by simpa using Nat.le_of_lt lt1))).setCell (p := ⟨w.heap.size, 0, none⟩) (Nat.le_refl _) _).setCell (p := ⟨w.heap.size, 1, none⟩) (Nat.le_refl _) _).setCell (p := ⟨w.heap.size, 2, none⟩) (Nat.le_refl _) _⟩
set_option maxHeartbeats 4000000 in
set_option maxRecDepth 100000 in
theorem tile_point.c3 (x y level n : Int) (w : World) (hl : 0 ≤ level) (hji : shl .i64 1 level = n) :
    Calls Try.prog 88 #[.int .i64 3, .int .i64 x, .int .i64 y, .int .i64 level] w fun e w' => e = .returned (.agg #[.int .i64 (wrap64 (wrap64 (2 * y) - n)), .int .i64 (wrap64 (-n)), .int .i64 (wrap64 (wrap64 (2 * x) - n))]) ∧ Below w.heap.size w w' := by
  have hu67 := Try.underlying67
  have hu124 := Try.underlying124
  have hji_ : (IntKind.i64.wrap (1 * 2 ^ min (level).toNat 64)) = n := hji
  have hjiy : (wrap64 (1 * 2 ^ min (level).toNat 64)) = n := (i64_w _).symm.trans hji_
  have hji1 : wrap64 (2 ^ min (level).toNat 64) = n := by simpa using hjiy
  have c4b0 := eq_true hl
  have c4b1 : decide (0 ≤ level) = true := decide_eq_true hl
  go_enter Try.func88, Try.ntmps88
  go_wp2_with (first | (go_at_call 80; (with_reducible refine (tile_axes.calls 3 1 2 0 _ tile_point.axes3).mono ?_); rintro e w1 ⟨rfl, ⟨m1, rfl⟩⟩))
  have hB : Below w.heap.size w (((w.alloc (.cells #[.int .i64 0, .int .i64 0, .int .i64 0] 67)).drewN m1).alloc (.cells #[.int .i64 0, .int .i64 0, .int .i64 0] 124)) := (pw_below_drewN ((Below.refl _ w).alloc (Nat.le_refl _) _) m1).alloc (by simp [World.drewN]) _
  have bl : (((w.alloc (.cells #[.int .i64 0, .int .i64 0, .int .i64 0] 67)).drewN m1).alloc (.cells #[.int .i64 0, .int .i64 0, .int .i64 0] 124)).heap[w.heap.size + 1]? = some (.cells #[.int .i64 0, .int .i64 0, .int .i64 0] 124 (0, 0)) := by
    have := World.alloc_heap_new ((w.alloc (.cells #[.int .i64 0, .int .i64 0, .int .i64 0] 67)).drewN m1) (.cells #[.int .i64 0, .int .i64 0, .int .i64 0] 124)
    simpa [World.drewN] using this
  have b0 : (((w.alloc (.cells #[.int .i64 0, .int .i64 0, .int .i64 0] 67)).drewN m1).alloc (.cells #[.int .i64 0, .int .i64 0, .int .i64 0] 124)).heap[w.heap.size]? = some (.cells #[.int .i64 0, .int .i64 0, .int .i64 0] 67 (0, 0)) := by
    have h1 : ((w.alloc (.cells #[.int .i64 0, .int .i64 0, .int .i64 0] 67)).drewN m1).heap[w.heap.size]? = some (.cells #[.int .i64 0, .int .i64 0, .int .i64 0] 67 (0, 0)) := World.alloc_heap_new w _
    exact ((World.grownBy_alloc _ _ none).block w.heap.size (by simp [World.drewN]) (by simp)).trans h1
  generalize hW : (((w.alloc (.cells #[.int .i64 0, .int .i64 0, .int .i64 0] 67)).drewN m1).alloc (.cells #[.int .i64 0, .int .i64 0, .int .i64 0] 124)) = W at *
  clear hW
  have f0 := (blk_cell bl 0).trans rfl
  have f1 := (blk_cell bl 1).trans rfl
  have f2 := (blk_cell bl 2).trans rfl
  have g0 := blk_frozen bl 0
  have g1 := blk_frozen bl 1
  have g2 := blk_frozen bl 2
  go_region
  have bl2 : (((W.setCell ⟨w.heap.size + 1, 1, none⟩ (.int .i64 n)).setCell ⟨w.heap.size + 1, 2, none⟩ (.int .i64 (wrap64 (wrap64 (2 * x) - n)))).setCell ⟨w.heap.size + 1, 0, none⟩ (.int .i64 (wrap64 (wrap64 (2 * y) - n)))).drew.heap[w.heap.size + 1]? = some (.cells #[.int .i64 (wrap64 (wrap64 (2 * y) - n)), .int .i64 n, .int .i64 (wrap64 (wrap64 (2 * x) - n))] 124 (0, 0)) := blk_put (blk_put (blk_put bl 1 _ rfl) 2 _ rfl) 0 _ rfl
  have b02 : (((W.setCell ⟨w.heap.size + 1, 1, none⟩ (.int .i64 n)).setCell ⟨w.heap.size + 1, 2, none⟩ (.int .i64 (wrap64 (wrap64 (2 * x) - n)))).setCell ⟨w.heap.size + 1, 0, none⟩ (.int .i64 (wrap64 (wrap64 (2 * y) - n)))).drew.heap[w.heap.size]? = some (.cells #[.int .i64 0, .int .i64 0, .int .i64 0] 67 (0, 0)) := blk_far (p := ⟨w.heap.size + 1, 0, none⟩) (blk_far (p := ⟨w.heap.size + 1, 2, none⟩) (blk_far (p := ⟨w.heap.size + 1, 1, none⟩) b0 (by simp) _) (by simp) _) (by simp) _
  have hB2 : Below w.heap.size w (((W.setCell ⟨w.heap.size + 1, 1, none⟩ (.int .i64 n)).setCell ⟨w.heap.size + 1, 2, none⟩ (.int .i64 (wrap64 (wrap64 (2 * x) - n)))).setCell ⟨w.heap.size + 1, 0, none⟩ (.int .i64 (wrap64 (wrap64 (2 * y) - n)))).drew := pw_below_drewN (((hB.setCell (p := ⟨w.heap.size + 1, 1, none⟩) (by simp) _).setCell (p := ⟨w.heap.size + 1, 2, none⟩) (by simp) _).setCell (p := ⟨w.heap.size + 1, 0, none⟩) (by simp) _) 1
  generalize hW2 : (((W.setCell ⟨w.heap.size + 1, 1, none⟩ (.int .i64 n)).setCell ⟨w.heap.size + 1, 2, none⟩ (.int .i64 (wrap64 (wrap64 (2 * x) - n)))).setCell ⟨w.heap.size + 1, 0, none⟩ (.int .i64 (wrap64 (wrap64 (2 * y) - n)))).drew = W2 at *
  clear hW2 f0 f1 f2 g0 g1 g2 bl b0 hB
  have f0 := (blk_cell bl2 0).trans rfl
  have f1 := (blk_cell bl2 1).trans rfl
  have f2 := (blk_cell bl2 2).trans rfl
  have g0 := blk_frozen bl2 0
  have g1 := blk_frozen bl2 1
  have g2 := blk_frozen bl2 2
  have lt1 : w.heap.size < W2.heap.size := (Array.getElem?_eq_some_iff.1 b02).1
  go_wp2_with (first | (go_at_call 116; (with_reducible refine (tile_vec.calls (wrap64 (wrap64 (2 * y) - n)) (wrap64 (-n)) (wrap64 (wrap64 (2 * x) - n)) (wrap64 (wrap64 (2 * y) - n)) (wrap64 (-n)) (wrap64 (wrap64 (2 * x) - n)) _ rfl).mono ?_); rintro e w2 ⟨rfl, hb2⟩; have d2 := (hb2.block w.heap.size (by simpa using lt1)).trans (blk_far (p := ⟨w.heap.size + 1, 1, none⟩) b02 (by simp) _); have k0 := (blk_cell d2 0).trans rfl; have k1 := (blk_cell d2 1).trans rfl; have k2 := (blk_cell d2 2).trans rfl; have z0 := blk_frozen d2 0; have z1 := blk_frozen d2 1; have z2 := blk_frozen d2 2))
  refine bodyPost_ret (results_cell_row rfl _ _ w.heap.size 67 #[.int .i64 (wrap64 (wrap64 (2 * y) - n)), .int .i64 (wrap64 (-n)), .int .i64 (wrap64 (wrap64 (2 * x) - n))] (0, 0) _ rfl (blk_put (blk_put (blk_put d2 0 _ rfl) 1 _ rfl) 2 _ rfl) Try.underlying67 rfl (by kernel_rfl)) rfl ?_
  exact ⟨rfl, ((((hB2.setCell (p := ⟨w.heap.size + 1, 1, none⟩) (by simp) _).trans (hb2.mono (by simpa using Nat.le_of_lt lt1))).setCell (p := ⟨w.heap.size, 0, none⟩) (Nat.le_refl _) _).setCell (p := ⟨w.heap.size, 1, none⟩) (Nat.le_refl _) _).setCell (p := ⟨w.heap.size, 2, none⟩) (Nat.le_refl _) _⟩
set_option maxHeartbeats 4000000 in
set_option maxRecDepth 100000 in
theorem tile_point.c4 (x y level n : Int) (w : World) (hl : 0 ≤ level) (hji : shl .i64 1 level = n) :
    Calls Try.prog 88 #[.int .i64 4, .int .i64 x, .int .i64 y, .int .i64 level] w fun e w' => e = .returned (.agg #[.int .i64 (wrap64 (wrap64 (2 * x) - n)), .int .i64 (wrap64 (wrap64 (2 * y) - n)), .int .i64 n]) ∧ Below w.heap.size w w' := by
  have hu67 := Try.underlying67
  have hu124 := Try.underlying124
  have hji_ : (IntKind.i64.wrap (1 * 2 ^ min (level).toNat 64)) = n := hji
  have hjiy : (wrap64 (1 * 2 ^ min (level).toNat 64)) = n := (i64_w _).symm.trans hji_
  have hji1 : wrap64 (2 ^ min (level).toNat 64) = n := by simpa using hjiy
  have c4b0 := eq_true hl
  have c4b1 : decide (0 ≤ level) = true := decide_eq_true hl
  go_enter Try.func88, Try.ntmps88
  go_wp2_with (first | (go_at_call 80; (with_reducible refine (tile_axes.calls 4 2 0 1 _ tile_point.axes4).mono ?_); rintro e w1 ⟨rfl, ⟨m1, rfl⟩⟩))
  have hB : Below w.heap.size w (((w.alloc (.cells #[.int .i64 0, .int .i64 0, .int .i64 0] 67)).drewN m1).alloc (.cells #[.int .i64 0, .int .i64 0, .int .i64 0] 124)) := (pw_below_drewN ((Below.refl _ w).alloc (Nat.le_refl _) _) m1).alloc (by simp [World.drewN]) _
  have bl : (((w.alloc (.cells #[.int .i64 0, .int .i64 0, .int .i64 0] 67)).drewN m1).alloc (.cells #[.int .i64 0, .int .i64 0, .int .i64 0] 124)).heap[w.heap.size + 1]? = some (.cells #[.int .i64 0, .int .i64 0, .int .i64 0] 124 (0, 0)) := by
    have := World.alloc_heap_new ((w.alloc (.cells #[.int .i64 0, .int .i64 0, .int .i64 0] 67)).drewN m1) (.cells #[.int .i64 0, .int .i64 0, .int .i64 0] 124)
    simpa [World.drewN] using this
  have b0 : (((w.alloc (.cells #[.int .i64 0, .int .i64 0, .int .i64 0] 67)).drewN m1).alloc (.cells #[.int .i64 0, .int .i64 0, .int .i64 0] 124)).heap[w.heap.size]? = some (.cells #[.int .i64 0, .int .i64 0, .int .i64 0] 67 (0, 0)) := by
    have h1 : ((w.alloc (.cells #[.int .i64 0, .int .i64 0, .int .i64 0] 67)).drewN m1).heap[w.heap.size]? = some (.cells #[.int .i64 0, .int .i64 0, .int .i64 0] 67 (0, 0)) := World.alloc_heap_new w _
    exact ((World.grownBy_alloc _ _ none).block w.heap.size (by simp [World.drewN]) (by simp)).trans h1
  generalize hW : (((w.alloc (.cells #[.int .i64 0, .int .i64 0, .int .i64 0] 67)).drewN m1).alloc (.cells #[.int .i64 0, .int .i64 0, .int .i64 0] 124)) = W at *
  clear hW
  have f0 := (blk_cell bl 0).trans rfl
  have f1 := (blk_cell bl 1).trans rfl
  have f2 := (blk_cell bl 2).trans rfl
  have g0 := blk_frozen bl 0
  have g1 := blk_frozen bl 1
  have g2 := blk_frozen bl 2
  go_region
  have bl2 : (((W.setCell ⟨w.heap.size + 1, 2, none⟩ (.int .i64 n)).setCell ⟨w.heap.size + 1, 0, none⟩ (.int .i64 (wrap64 (wrap64 (2 * x) - n)))).setCell ⟨w.heap.size + 1, 1, none⟩ (.int .i64 (wrap64 (wrap64 (2 * y) - n)))).drew.heap[w.heap.size + 1]? = some (.cells #[.int .i64 (wrap64 (wrap64 (2 * x) - n)), .int .i64 (wrap64 (wrap64 (2 * y) - n)), .int .i64 n] 124 (0, 0)) := blk_put (blk_put (blk_put bl 2 _ rfl) 0 _ rfl) 1 _ rfl
  have b02 : (((W.setCell ⟨w.heap.size + 1, 2, none⟩ (.int .i64 n)).setCell ⟨w.heap.size + 1, 0, none⟩ (.int .i64 (wrap64 (wrap64 (2 * x) - n)))).setCell ⟨w.heap.size + 1, 1, none⟩ (.int .i64 (wrap64 (wrap64 (2 * y) - n)))).drew.heap[w.heap.size]? = some (.cells #[.int .i64 0, .int .i64 0, .int .i64 0] 67 (0, 0)) := blk_far (p := ⟨w.heap.size + 1, 1, none⟩) (blk_far (p := ⟨w.heap.size + 1, 0, none⟩) (blk_far (p := ⟨w.heap.size + 1, 2, none⟩) b0 (by simp) _) (by simp) _) (by simp) _
  have hB2 : Below w.heap.size w (((W.setCell ⟨w.heap.size + 1, 2, none⟩ (.int .i64 n)).setCell ⟨w.heap.size + 1, 0, none⟩ (.int .i64 (wrap64 (wrap64 (2 * x) - n)))).setCell ⟨w.heap.size + 1, 1, none⟩ (.int .i64 (wrap64 (wrap64 (2 * y) - n)))).drew := pw_below_drewN (((hB.setCell (p := ⟨w.heap.size + 1, 2, none⟩) (by simp) _).setCell (p := ⟨w.heap.size + 1, 0, none⟩) (by simp) _).setCell (p := ⟨w.heap.size + 1, 1, none⟩) (by simp) _) 1
  generalize hW2 : (((W.setCell ⟨w.heap.size + 1, 2, none⟩ (.int .i64 n)).setCell ⟨w.heap.size + 1, 0, none⟩ (.int .i64 (wrap64 (wrap64 (2 * x) - n)))).setCell ⟨w.heap.size + 1, 1, none⟩ (.int .i64 (wrap64 (wrap64 (2 * y) - n)))).drew = W2 at *
  clear hW2 f0 f1 f2 g0 g1 g2 bl b0 hB
  have f0 := (blk_cell bl2 0).trans rfl
  have f1 := (blk_cell bl2 1).trans rfl
  have f2 := (blk_cell bl2 2).trans rfl
  have g0 := blk_frozen bl2 0
  have g1 := blk_frozen bl2 1
  have g2 := blk_frozen bl2 2
  have lt1 : w.heap.size < W2.heap.size := (Array.getElem?_eq_some_iff.1 b02).1
  go_wp2_with (first | (go_at_call 116; (with_reducible refine (tile_vec.calls (wrap64 (wrap64 (2 * x) - n)) (wrap64 (wrap64 (2 * y) - n)) n (wrap64 (wrap64 (2 * x) - n)) (wrap64 (wrap64 (2 * y) - n)) n _ rfl).mono ?_); rintro e w2 ⟨rfl, hb2⟩; have d2 := (hb2.block w.heap.size (by simpa using lt1)).trans (b02); have k0 := (blk_cell d2 0).trans rfl; have k1 := (blk_cell d2 1).trans rfl; have k2 := (blk_cell d2 2).trans rfl; have z0 := blk_frozen d2 0; have z1 := blk_frozen d2 1; have z2 := blk_frozen d2 2))
  refine bodyPost_ret (results_cell_row rfl _ _ w.heap.size 67 #[.int .i64 (wrap64 (wrap64 (2 * x) - n)), .int .i64 (wrap64 (wrap64 (2 * y) - n)), .int .i64 n] (0, 0) _ rfl (blk_put (blk_put (blk_put d2 0 _ rfl) 1 _ rfl) 2 _ rfl) Try.underlying67 rfl (by kernel_rfl)) rfl ?_
  exact ⟨rfl, ((((hB2).trans (hb2.mono (by simpa using Nat.le_of_lt lt1))).setCell (p := ⟨w.heap.size, 0, none⟩) (Nat.le_refl _) _).setCell (p := ⟨w.heap.size, 1, none⟩) (Nat.le_refl _) _).setCell (p := ⟨w.heap.size, 2, none⟩) (Nat.le_refl _) _⟩
set_option maxHeartbeats 4000000 in
set_option maxRecDepth 100000 in
theorem tile_point.c5 (x y level n : Int) (w : World) (hl : 0 ≤ level) (hji : shl .i64 1 level = n) :
    Calls Try.prog 88 #[.int .i64 5, .int .i64 x, .int .i64 y, .int .i64 level] w fun e w' => e = .returned (.agg #[.int .i64 (wrap64 (wrap64 (2 * x) - n)), .int .i64 (wrap64 (wrap64 (2 * y) - n)), .int .i64 (wrap64 (-n))]) ∧ Below w.heap.size w w' := by
  have hu67 := Try.underlying67
  have hu124 := Try.underlying124
  have hji_ : (IntKind.i64.wrap (1 * 2 ^ min (level).toNat 64)) = n := hji
  have hjiy : (wrap64 (1 * 2 ^ min (level).toNat 64)) = n := (i64_w _).symm.trans hji_
  have hji1 : wrap64 (2 ^ min (level).toNat 64) = n := by simpa using hjiy
  have c4b0 := eq_true hl
  have c4b1 : decide (0 ≤ level) = true := decide_eq_true hl
  go_enter Try.func88, Try.ntmps88
  go_wp2_with (first | (go_at_call 80; (with_reducible refine (tile_axes.calls 5 2 0 1 _ tile_point.axes5).mono ?_); rintro e w1 ⟨rfl, ⟨m1, rfl⟩⟩))
  have hB : Below w.heap.size w (((w.alloc (.cells #[.int .i64 0, .int .i64 0, .int .i64 0] 67)).drewN m1).alloc (.cells #[.int .i64 0, .int .i64 0, .int .i64 0] 124)) := (pw_below_drewN ((Below.refl _ w).alloc (Nat.le_refl _) _) m1).alloc (by simp [World.drewN]) _
  have bl : (((w.alloc (.cells #[.int .i64 0, .int .i64 0, .int .i64 0] 67)).drewN m1).alloc (.cells #[.int .i64 0, .int .i64 0, .int .i64 0] 124)).heap[w.heap.size + 1]? = some (.cells #[.int .i64 0, .int .i64 0, .int .i64 0] 124 (0, 0)) := by
    have := World.alloc_heap_new ((w.alloc (.cells #[.int .i64 0, .int .i64 0, .int .i64 0] 67)).drewN m1) (.cells #[.int .i64 0, .int .i64 0, .int .i64 0] 124)
    simpa [World.drewN] using this
  have b0 : (((w.alloc (.cells #[.int .i64 0, .int .i64 0, .int .i64 0] 67)).drewN m1).alloc (.cells #[.int .i64 0, .int .i64 0, .int .i64 0] 124)).heap[w.heap.size]? = some (.cells #[.int .i64 0, .int .i64 0, .int .i64 0] 67 (0, 0)) := by
    have h1 : ((w.alloc (.cells #[.int .i64 0, .int .i64 0, .int .i64 0] 67)).drewN m1).heap[w.heap.size]? = some (.cells #[.int .i64 0, .int .i64 0, .int .i64 0] 67 (0, 0)) := World.alloc_heap_new w _
    exact ((World.grownBy_alloc _ _ none).block w.heap.size (by simp [World.drewN]) (by simp)).trans h1
  generalize hW : (((w.alloc (.cells #[.int .i64 0, .int .i64 0, .int .i64 0] 67)).drewN m1).alloc (.cells #[.int .i64 0, .int .i64 0, .int .i64 0] 124)) = W at *
  clear hW
  have f0 := (blk_cell bl 0).trans rfl
  have f1 := (blk_cell bl 1).trans rfl
  have f2 := (blk_cell bl 2).trans rfl
  have g0 := blk_frozen bl 0
  have g1 := blk_frozen bl 1
  have g2 := blk_frozen bl 2
  go_region
  have bl2 : (((W.setCell ⟨w.heap.size + 1, 2, none⟩ (.int .i64 n)).setCell ⟨w.heap.size + 1, 0, none⟩ (.int .i64 (wrap64 (wrap64 (2 * x) - n)))).setCell ⟨w.heap.size + 1, 1, none⟩ (.int .i64 (wrap64 (wrap64 (2 * y) - n)))).drew.heap[w.heap.size + 1]? = some (.cells #[.int .i64 (wrap64 (wrap64 (2 * x) - n)), .int .i64 (wrap64 (wrap64 (2 * y) - n)), .int .i64 n] 124 (0, 0)) := blk_put (blk_put (blk_put bl 2 _ rfl) 0 _ rfl) 1 _ rfl
  have b02 : (((W.setCell ⟨w.heap.size + 1, 2, none⟩ (.int .i64 n)).setCell ⟨w.heap.size + 1, 0, none⟩ (.int .i64 (wrap64 (wrap64 (2 * x) - n)))).setCell ⟨w.heap.size + 1, 1, none⟩ (.int .i64 (wrap64 (wrap64 (2 * y) - n)))).drew.heap[w.heap.size]? = some (.cells #[.int .i64 0, .int .i64 0, .int .i64 0] 67 (0, 0)) := blk_far (p := ⟨w.heap.size + 1, 1, none⟩) (blk_far (p := ⟨w.heap.size + 1, 0, none⟩) (blk_far (p := ⟨w.heap.size + 1, 2, none⟩) b0 (by simp) _) (by simp) _) (by simp) _
  have hB2 : Below w.heap.size w (((W.setCell ⟨w.heap.size + 1, 2, none⟩ (.int .i64 n)).setCell ⟨w.heap.size + 1, 0, none⟩ (.int .i64 (wrap64 (wrap64 (2 * x) - n)))).setCell ⟨w.heap.size + 1, 1, none⟩ (.int .i64 (wrap64 (wrap64 (2 * y) - n)))).drew := pw_below_drewN (((hB.setCell (p := ⟨w.heap.size + 1, 2, none⟩) (by simp) _).setCell (p := ⟨w.heap.size + 1, 0, none⟩) (by simp) _).setCell (p := ⟨w.heap.size + 1, 1, none⟩) (by simp) _) 1
  generalize hW2 : (((W.setCell ⟨w.heap.size + 1, 2, none⟩ (.int .i64 n)).setCell ⟨w.heap.size + 1, 0, none⟩ (.int .i64 (wrap64 (wrap64 (2 * x) - n)))).setCell ⟨w.heap.size + 1, 1, none⟩ (.int .i64 (wrap64 (wrap64 (2 * y) - n)))).drew = W2 at *
  clear hW2 f0 f1 f2 g0 g1 g2 bl b0 hB
  have f0 := (blk_cell bl2 0).trans rfl
  have f1 := (blk_cell bl2 1).trans rfl
  have f2 := (blk_cell bl2 2).trans rfl
  have g0 := blk_frozen bl2 0
  have g1 := blk_frozen bl2 1
  have g2 := blk_frozen bl2 2
  have lt1 : w.heap.size < W2.heap.size := (Array.getElem?_eq_some_iff.1 b02).1
  go_wp2_with (first | (go_at_call 116; (with_reducible refine (tile_vec.calls (wrap64 (wrap64 (2 * x) - n)) (wrap64 (wrap64 (2 * y) - n)) (wrap64 (-n)) (wrap64 (wrap64 (2 * x) - n)) (wrap64 (wrap64 (2 * y) - n)) (wrap64 (-n)) _ rfl).mono ?_); rintro e w2 ⟨rfl, hb2⟩; have d2 := (hb2.block w.heap.size (by simpa using lt1)).trans (blk_far (p := ⟨w.heap.size + 1, 2, none⟩) b02 (by simp) _); have k0 := (blk_cell d2 0).trans rfl; have k1 := (blk_cell d2 1).trans rfl; have k2 := (blk_cell d2 2).trans rfl; have z0 := blk_frozen d2 0; have z1 := blk_frozen d2 1; have z2 := blk_frozen d2 2))
  refine bodyPost_ret (results_cell_row rfl _ _ w.heap.size 67 #[.int .i64 (wrap64 (wrap64 (2 * x) - n)), .int .i64 (wrap64 (wrap64 (2 * y) - n)), .int .i64 (wrap64 (-n))] (0, 0) _ rfl (blk_put (blk_put (blk_put d2 0 _ rfl) 1 _ rfl) 2 _ rfl) Try.underlying67 rfl (by kernel_rfl)) rfl ?_
  exact ⟨rfl, ((((hB2.setCell (p := ⟨w.heap.size + 1, 2, none⟩) (by simp) _).trans (hb2.mono (by simpa using Nat.le_of_lt lt1))).setCell (p := ⟨w.heap.size, 0, none⟩) (Nat.le_refl _) _).setCell (p := ⟨w.heap.size, 1, none⟩) (Nat.le_refl _) _).setCell (p := ⟨w.heap.size, 2, none⟩) (Nat.le_refl _) _⟩
theorem tile_point.calls (a0 a1 a2 a3 r1 r2 r3 : Int) (w : World) (h : tile_point.f a0 a1 a2 a3 = some (r1, r2, r3)) :
    Calls Try.prog 88 #[.int .i64 a0, .int .i64 a1, .int .i64 a2, .int .i64 a3] w fun e w' => e = .returned (.agg #[.int .i64 r1, .int .i64 r2, .int .i64 r3]) ∧ Below w.heap.size w w' := by
  unfold tile_point.f at h
  by_cases hl : 0 ≤ a3
  · rw [if_pos hl] at h
    unfold tile_point.m at h
    split at h
    · rename_i c; subst c; cases h; exact tile_point.c0 a1 a2 a3 _ w hl rfl
    split at h
    · rename_i c; subst c; cases h; exact tile_point.c1 a1 a2 a3 _ w hl rfl
    split at h
    · rename_i c; subst c; cases h; exact tile_point.c2 a1 a2 a3 _ w hl rfl
    split at h
    · rename_i c; subst c; cases h; exact tile_point.c3 a1 a2 a3 _ w hl rfl
    split at h
    · rename_i c; subst c; cases h; exact tile_point.c4 a1 a2 a3 _ w hl rfl
    split at h
    · rename_i c; subst c; cases h; exact tile_point.c5 a1 a2 a3 _ w hl rfl
    cases h
  · rw [if_neg hl] at h; cases h
end

end Go.Proofs.Ytbaedcjophgiiaa.Q
