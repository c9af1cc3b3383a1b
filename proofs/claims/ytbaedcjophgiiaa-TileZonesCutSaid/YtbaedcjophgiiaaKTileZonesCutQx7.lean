/- Contracts of Go functions of the seat, one by one: each call returns what the Lean function of the same name says, wherever that is 'some'; no other condition. Written by a program of this session. -/
import Derived.Test.YtbaedcjophgiiaaKTileZonesCutQx0
import Derived.Test.YtbaedcjophgiiaaKTileZonesCutQx3
import Derived.Test.YtbaedcjophgiiaaKTileZonesCutQx4
import Derived.Test.YtbaedcjophgiiaaKTileZonesCutQx5
import Derived.BigQuiet
import Derived.BigRegion
import Derived.Deep.QuietTactic
import Derived.LoopIn
import Derived.LoopNIn
import Derived.OwnWalkIn
import Derived.RangeFuncBound
import Derived.RangeFuncCalls
import Derived.RangeFuncLeaves
import Derived.RangeFuncNested
import Derived.RegionTactic
import Derived.Shelf.Abstract
import Derived.Shelf.RegionOpen
import Derived.TacticsInMore
import Derived.WalkKit
namespace Go.Proofs.Ytbaedcjophgiiaa.Q
open Go.RowKit Go.Proofs.YtbaedcjophgiiaaW.PrintWords Go.Proofs.YtbaedcjophgiiaaW.PrintLast Go.Proofs.YtbaedcjophgiiaaW.PrintMore
attribute [local go_sem] max2_int min2_int max_two min_two max_three min_three max_four min_four   -- for this text's walks alone
set_option linter.unusedVariables false
set_option linter.unusedSimpArgs false

/-! ### tile_Of: function 41 -/
-- IMPORTS: Derived.RangeFuncNested Derived.RangeFuncBound Derived.RangeFuncCalls Derived.RangeFuncLeaves Derived.Shelf.Abstract Derived.Shelf.RegionOpen Derived.WalkKit Derived.OwnWalkIn Derived.TacticsInMore Derived.LoopNIn Derived.LoopIn Derived.Deep.QuietTactic Derived.BigQuiet Derived.RegionTactic Derived.BigRegion
section
open Go.Proofs Go.RowKit Go.Shelf Go.Proofs.YtbaedcjophgiiaaW.PrintWords Go.Proofs.YtbaedcjophgiiaaW.PrintLast Go.Proofs.YtbaedcjophgiiaaW.PrintMore
theorem tile_Of.axes0 : tile_axes.f 0 = some (0, 1, 2) := by simp [tile_axes.f, wrap64]
theorem tile_Of.axes1 : tile_axes.f 1 = some (0, 1, 2) := by simp [tile_axes.f, wrap64]
theorem tile_Of.axes2 : tile_axes.f 2 = some (1, 2, 0) := by simp [tile_axes.f, wrap64]
theorem tile_Of.axes3 : tile_axes.f 3 = some (1, 2, 0) := by simp [tile_axes.f, wrap64]
theorem tile_Of.axes4 : tile_axes.f 4 = some (2, 0, 1) := by simp [tile_axes.f, wrap64]
theorem tile_Of.axes5 : tile_axes.f 5 = some (2, 0, 1) := by simp [tile_axes.f, wrap64]
theorem tile_Of.rd_one (a : Int) : rd [a] 0 = a := rfl
def tile_Of.pl (x m n : Int) : Int := mn (wrap64 (Int.tdiv (shl .i64 (wrap64 (x + m)) n) (wrap64 (2 * m)))) (wrap64 ((shl .i64 1 n) - 1))
set_option maxHeartbeats 4000000 in
set_option maxRecDepth 100000 in
theorem tile_Of.place (x m n : Int) (p q : Addr) (w : World) (hp : w.cell? p = some (.int .i64 m)) (hq : w.cell? q = some (.int .i64 n)) (hn : 0 ≤ n) (hm : wrap64 (2 * m) ≠ 0) :
    Calls Try.prog 81 #[.int .i64 x, .pointer (some p), .pointer (some q)] w fun e w' => e = .returned (.int .i64 (tile_Of.pl x m n)) ∧ Drawn0 w w' := by
  unfold tile_Of.pl
  obtain ⟨j1, hj1⟩ : ∃ j, shl .i64 (wrap64 (x + m)) n = j := ⟨_, rfl⟩
  obtain ⟨j2, hj2⟩ : ∃ j, shl .i64 1 n = j := ⟨_, rfl⟩
  rw [hj1, hj2]
  have hj1y : (wrap64 ((wrap64 (x + m)) * 2 ^ min n.toNat 64)) = j1 := (i64_w _).symm.trans hj1
  have hj2y : (wrap64 (2 ^ min n.toNat 64)) = j2 := by have : (wrap64 (1 * 2 ^ min n.toNat 64)) = j2 := (i64_w _).symm.trans hj2
                                                       simpa using this
  have c1 := eq_true hn
  have c2 : decide (0 ≤ n) = true := decide_eq_true hn
  have c3 : (wrap64 (2 * m) = 0) = False := eq_false hm
  clear hj1 hj2
  go_enter Try.func81, Try.ntmps81
  go_wp2
  go_quiet (fail)
  go_wp2
  · go_ret
    exact ⟨by simp only [mn, if_pos h]; rfl, ⟨nq, rfl⟩⟩
  · go_ret
    exact ⟨by simp only [mn, if_neg (Int.not_lt.mpr h)]; rfl, ⟨nq, rfl⟩⟩
def tile_Of.step (cx cy b t : Int) : Int := wrap64 (wrap64 (4 * t) + wrap64 (Go.bits .and .i64 (shr .i64 cx b) 1 + wrap64 (2 * Go.bits .and .i64 (shr .i64 cy b) 1)))
def tile_Of.l0 (cx cy : Int) : Nat → Int → Int → Int
  | 0, _, t => t
  | n + 1, b, t => tile_Of.l0 cx cy n (b - 1) (tile_Of.step cx cy b t)
set_option maxHeartbeats 4000000 in
set_option maxRecDepth 100000 in
theorem tile_Of.c0 (k n : Nat) (x y z cx cy mm : Int) (w : World) (em : (if x < wrap64 (-x) then wrap64 (-x) else x) = mm) (hn : n ≤ 12) (he : sphere_Check.f k x y z = some 0) (hf : tile_faceOf.f x y z = some 0)
    (hm0 : wrap64 (2 * mm) ≠ 0) (hx : tile_Of.pl y mm n = cx) (hy : tile_Of.pl z mm n = cy) :
    Calls Try.prog 41 #[.agg #[.int .i64 x, .int .i64 y, .int .i64 z], .int .i64 n] w fun e w' => e = .returned (.tuple #[.int .i64 (tile_Of.l0 cx cy n ((n : Int) - 1) 8), .int .i64 0]) ∧ Below w.heap.size w w' := by
  have hu67 := Try.underlying67
  have hu124 := Try.underlying124
  have hmf : ∀ (fn : Fn) (first cap : Array Value) (w : World), (Instr.makeFunc fn first cap).run Try.prog w = .ok (.func fn first cap) w := fun _ _ _ _ => rfl
  have HB := Aside0.mk (Below.refl w.heap.size w)
  obtain ⟨W0, hW0⟩ : ∃ W0, (w.alloc (.cells #[.int .i64 x, .int .i64 y, .int .i64 z] 67)).alloc (.cells #[.int .i64 n] 3) = W0 := ⟨_, rfl⟩
  have BV : W0.heap[w.heap.size]? = some (.cells #[.int .i64 x, .int .i64 y, .int .i64 z] 67 (0, 0)) := by
    rw [← hW0]; exact ((World.grownBy_alloc _ _ none).block w.heap.size (by simp) (by simp)).trans (World.alloc_heap_new w _)
  have BL : W0.heap[w.heap.size + 1]? = some (.cells #[.int .i64 n] 3 (0, 0)) := by
    rw [← hW0]
    have := World.alloc_heap_new (w.alloc (.cells #[.int .i64 x, .int .i64 y, .int .i64 z] 67)) (.cells #[.int .i64 n] 3)
    simpa using this
  have B0 : Below w.heap.size w W0 := by rw [← hW0]; exact ((Below.refl _ w).alloc (Nat.le_refl _) _).alloc (by simp) _
  have cv0 := (blk_cell BV 0).trans rfl
  have cv1 := (blk_cell BV 1).trans rfl
  have cv2 := (blk_cell BV 2).trans rfl
  have s0 : W0.heap.size = w.heap.size + 2 := by rw [← hW0]; simp
  have nn : (0 : Int) ≤ n := Int.natCast_nonneg n
  have d1 : decide ((n : Int) < 0) = false := decide_eq_false (by omega)
  have d2 : decide ((12 : Int) < n) = false := decide_eq_false (by omega)
  have AX := tile_Of.axes0
  go_enter Try.func41, Try.ntmps41
  go_wp2_with (first
    | (go_at_call 77; (try rw [hW0]); (with_reducible refine (sphere_Check.calls k x y z 0 _ he).mono ?_); rintro e w1 ⟨rfl, hb⟩; have bv1 := (hb.block w.heap.size (by omega)).trans BV; have bl1 := (hb.block (w.heap.size + 1) (by omega)).trans BL; have B1 := B0.trans (hb.mono (by omega)); have s1 := hb.size; clear hb; have fv0 := (blk_cell bv1 0).trans rfl; have fv1 := (blk_cell bv1 1).trans rfl; have fv2 := (blk_cell bv1 2).trans rfl; have fl := (blk_cell bl1 0).trans rfl)
    | (go_at_call 78; (with_reducible refine (tile_faceOf.calls x y z 0 _ hf).mono ?_); rintro e w2 ⟨rfl, hb⟩; have bv2 := (hb.block w.heap.size (by omega)).trans bv1; have bl2 := (hb.block (w.heap.size + 1) (by omega)).trans bl1; have B2 := B1.trans (hb.mono (by omega)); have s2 := hb.size; clear hb; have ev0 := (blk_cell bv2 0).trans rfl; have ev1 := (blk_cell bv2 1).trans rfl; have ev2 := (blk_cell bv2 2).trans rfl)
    | (go_at_call 79; (with_reducible refine (tile_parts.calls x y z x y z _ rfl).mono ?_); rintro e w3 ⟨rfl, hb⟩; have bl3 := (hb.block (w.heap.size + 1) (by omega)).trans bl2; have B3 := B2.trans (hb.mono (by omega)); have s3 := hb.size; clear hb)
    | (go_at_call 80; (with_reducible refine (tile_axes.calls _ _ _ _ _ AX).mono ?_); rintro e w4 ⟨rfl, ⟨m1, rfl⟩⟩))
  have hB4 : Below w.heap.size w ((w3.alloc (.cells #[.int .i64 x, .int .i64 y, .int .i64 z] 124)).drewN m1) := pw_below_drewN (B3.alloc (by omega) _) m1
  have bl4 : ((w3.alloc (.cells #[.int .i64 x, .int .i64 y, .int .i64 z] 124)).drewN m1).heap[w.heap.size + 1]? = some (.cells #[.int .i64 n] 3 (0, 0)) := ((World.grownBy_alloc w3 _ none).block (w.heap.size + 1) (by omega) (by simp)).trans bl3
  have ba4 : ((w3.alloc (.cells #[.int .i64 x, .int .i64 y, .int .i64 z] 124)).drewN m1).heap[w3.heap.size]? = some (.cells #[.int .i64 x, .int .i64 y, .int .i64 z] 124 (0, 0)) := World.alloc_heap_new w3 _
  have sz4 : ((w3.alloc (.cells #[.int .i64 x, .int .i64 y, .int .i64 z] 124)).drewN m1).heap.size = w3.heap.size + 1 := by simp [World.drewN]
  obtain ⟨W4, hW4⟩ : ∃ W4, (w3.alloc (.cells #[.int .i64 x, .int .i64 y, .int .i64 z] 124)).drewN m1 = W4 := ⟨_, rfl⟩
  rw [hW4] at hB4 bl4 ba4 sz4 ⊢
  clear hW4 cv0 cv1 cv2 fv0 fv1 fv2 fl ev0 ev1 ev2
  have f0 := (blk_cell ba4 0).trans rfl
  have f1 := (blk_cell ba4 1).trans rfl
  have f2 := (blk_cell ba4 2).trans rfl
  go_region
  have hB5 : Below w.heap.size w ((W4.alloc (.cells #[.int .i64 mm] 2)).drew) := pw_below_drewN (hB4.alloc (by omega) _) 1
  have bl5 : ((W4.alloc (.cells #[.int .i64 mm] 2)).drew).heap[w.heap.size + 1]? = some (.cells #[.int .i64 n] 3 (0, 0)) := ((World.grownBy_alloc W4 _ none).block (w.heap.size + 1) (by omega) (by simp)).trans bl4
  have ba5 : ((W4.alloc (.cells #[.int .i64 mm] 2)).drew).heap[w3.heap.size]? = some (.cells #[.int .i64 x, .int .i64 y, .int .i64 z] 124 (0, 0)) := ((World.grownBy_alloc W4 _ none).block w3.heap.size (by omega) (by simp)).trans ba4
  have bm5 : ((W4.alloc (.cells #[.int .i64 mm] 2)).drew).heap[w3.heap.size + 1]? = some (.cells #[.int .i64 mm] 2 (0, 0)) := by
    have := World.alloc_heap_new W4 (.cells #[.int .i64 mm] 2)
    rw [sz4] at this
    exact this
  obtain ⟨W5, hW5⟩ : ∃ W5, (W4.alloc (.cells #[.int .i64 mm] 2)).drew = W5 := ⟨_, rfl⟩
  rw [hW5] at hB5 bl5 ba5 bm5 ⊢
  clear hW5 f0 f1 f2
  have f0 := (blk_cell ba5 0).trans rfl
  have f1 := (blk_cell ba5 1).trans rfl
  have f2 := (blk_cell ba5 2).trans rfl
  have fl := (blk_cell bl5 0).trans rfl
  have fm := (blk_cell bm5 0).trans rfl
  go_wp2
  repeat (go_quiet (first | (go_at_call 81; (with_reducible refine (tile_Of.place _ mm n ⟨w3.heap.size + 1, 0, none⟩ ⟨w.heap.size + 1, 0, none⟩ _ (by first | exact fm | (simpa using fm)) (by first | exact fl | (simpa using fl)) nn hm0).mono ?_); rintro e w' ⟨rfl, ⟨nd, rfl⟩⟩; (try first | exact ⟨rfl, _, World.drewN_drewN _ _ _⟩ | exact ⟨rfl, _, Eq.trans (World.drewN_drewN _ _ _) (congrArg (World.drewN _) (Nat.add_assoc _ _ _))⟩))))
  go_wp2
  rw [hx, hy]
  go_loopw [14, 15] (fun v14 v15 wr => ∃ (j : Nat) (b t : Int), j ≤ 12 ∧ b = (j : Int) - 1 ∧ v15 = .int .i64 b ∧ v14 = .int .i64 t ∧ tile_Of.l0 cx cy j b t = tile_Of.l0 cx cy n ((n : Int) - 1) 8 ∧ Below w.heap.size w wr)
    (fun _ v15 _ => (intOf v15 + 1).toNat)
  case atStart => exact ⟨n, (n : Int) - 1, 8, hn, rfl, rfl, rfl, rfl, by apply pw_below_drewN; exact hB5⟩
  case round =>
    obtain ⟨j, b, t, hj, hb, rfl, rfl, hR, hBr⟩ := hrel
    rcases j with _ | j
    · have bn : ¬ 0 ≤ b := by omega
      have e0 : decide (0 ≤ b) = false := decide_eq_false bn
      clear hb
      go_wp2
      exact bodyPost_ret (v := .tuple #[.int .i64 t, .int .i64 0]) (by simp [results, Try.results41, go_sem]) rfl ⟨by rw [← hR]; rfl, hBr⟩
    · have b0 : 0 ≤ b := by omega
      have b1 : b ≤ 11 := by omega
      have e0 : decide (0 ≤ b) = true := decide_eq_true b0
      have es : ∀ c : Int, shr .i64 c b = c / 2 ^ j := fun c => by show c / 2 ^ min b.toNat 64 = _; rw [show min b.toNat 64 = j by omega]
      have hR' : tile_Of.l0 cx cy j (b - 1) (tile_Of.step cx cy b t) = tile_Of.l0 cx cy n ((n : Int) - 1) 8 := hR
      unfold tile_Of.step at hR'
      rw [es, es] at hR'
      have HR := Aside0.mk hR'
      clear hR hR' hx hy
      go_wp2
      go_quiet (fail)
      go_wp2
      exact ⟨⟨j, b - 1, _, by omega, by omega, by rw [hb]; congr 1; omega, rfl, HR.out, by apply pw_below_drewN; exact hBr⟩, by simp only [intOf]; omega⟩
set_option maxHeartbeats 4000000 in
set_option maxRecDepth 100000 in
theorem tile_Of.c1 (k n : Nat) (x y z cx cy mm : Int) (w : World) (em : (if x < wrap64 (-x) then wrap64 (-x) else x) = mm) (hn : n ≤ 12) (he : sphere_Check.f k x y z = some 0) (hf : tile_faceOf.f x y z = some 1)
    (hm0 : wrap64 (2 * mm) ≠ 0) (hx : tile_Of.pl y mm n = cx) (hy : tile_Of.pl z mm n = cy) :
    Calls Try.prog 41 #[.agg #[.int .i64 x, .int .i64 y, .int .i64 z], .int .i64 n] w fun e w' => e = .returned (.tuple #[.int .i64 (tile_Of.l0 cx cy n ((n : Int) - 1) 9), .int .i64 0]) ∧ Below w.heap.size w w' := by
  have hu67 := Try.underlying67
  have hu124 := Try.underlying124
  have hmf : ∀ (fn : Fn) (first cap : Array Value) (w : World), (Instr.makeFunc fn first cap).run Try.prog w = .ok (.func fn first cap) w := fun _ _ _ _ => rfl
  have HB := Aside0.mk (Below.refl w.heap.size w)
  obtain ⟨W0, hW0⟩ : ∃ W0, (w.alloc (.cells #[.int .i64 x, .int .i64 y, .int .i64 z] 67)).alloc (.cells #[.int .i64 n] 3) = W0 := ⟨_, rfl⟩
  have BV : W0.heap[w.heap.size]? = some (.cells #[.int .i64 x, .int .i64 y, .int .i64 z] 67 (0, 0)) := by
    rw [← hW0]; exact ((World.grownBy_alloc _ _ none).block w.heap.size (by simp) (by simp)).trans (World.alloc_heap_new w _)
  have BL : W0.heap[w.heap.size + 1]? = some (.cells #[.int .i64 n] 3 (0, 0)) := by
    rw [← hW0]
    have := World.alloc_heap_new (w.alloc (.cells #[.int .i64 x, .int .i64 y, .int .i64 z] 67)) (.cells #[.int .i64 n] 3)
    simpa using this
  have B0 : Below w.heap.size w W0 := by rw [← hW0]; exact ((Below.refl _ w).alloc (Nat.le_refl _) _).alloc (by simp) _
  have cv0 := (blk_cell BV 0).trans rfl
  have cv1 := (blk_cell BV 1).trans rfl
  have cv2 := (blk_cell BV 2).trans rfl
  have s0 : W0.heap.size = w.heap.size + 2 := by rw [← hW0]; simp
  have nn : (0 : Int) ≤ n := Int.natCast_nonneg n
  have d1 : decide ((n : Int) < 0) = false := decide_eq_false (by omega)
  have d2 : decide ((12 : Int) < n) = false := decide_eq_false (by omega)
  have AX := tile_Of.axes1
  go_enter Try.func41, Try.ntmps41
  go_wp2_with (first
    | (go_at_call 77; (try rw [hW0]); (with_reducible refine (sphere_Check.calls k x y z 0 _ he).mono ?_); rintro e w1 ⟨rfl, hb⟩; have bv1 := (hb.block w.heap.size (by omega)).trans BV; have bl1 := (hb.block (w.heap.size + 1) (by omega)).trans BL; have B1 := B0.trans (hb.mono (by omega)); have s1 := hb.size; clear hb; have fv0 := (blk_cell bv1 0).trans rfl; have fv1 := (blk_cell bv1 1).trans rfl; have fv2 := (blk_cell bv1 2).trans rfl; have fl := (blk_cell bl1 0).trans rfl)
    | (go_at_call 78; (with_reducible refine (tile_faceOf.calls x y z 1 _ hf).mono ?_); rintro e w2 ⟨rfl, hb⟩; have bv2 := (hb.block w.heap.size (by omega)).trans bv1; have bl2 := (hb.block (w.heap.size + 1) (by omega)).trans bl1; have B2 := B1.trans (hb.mono (by omega)); have s2 := hb.size; clear hb; have ev0 := (blk_cell bv2 0).trans rfl; have ev1 := (blk_cell bv2 1).trans rfl; have ev2 := (blk_cell bv2 2).trans rfl)
    | (go_at_call 79; (with_reducible refine (tile_parts.calls x y z x y z _ rfl).mono ?_); rintro e w3 ⟨rfl, hb⟩; have bl3 := (hb.block (w.heap.size + 1) (by omega)).trans bl2; have B3 := B2.trans (hb.mono (by omega)); have s3 := hb.size; clear hb)
    | (go_at_call 80; (with_reducible refine (tile_axes.calls _ _ _ _ _ AX).mono ?_); rintro e w4 ⟨rfl, ⟨m1, rfl⟩⟩))
  have hB4 : Below w.heap.size w ((w3.alloc (.cells #[.int .i64 x, .int .i64 y, .int .i64 z] 124)).drewN m1) := pw_below_drewN (B3.alloc (by omega) _) m1
  have bl4 : ((w3.alloc (.cells #[.int .i64 x, .int .i64 y, .int .i64 z] 124)).drewN m1).heap[w.heap.size + 1]? = some (.cells #[.int .i64 n] 3 (0, 0)) := ((World.grownBy_alloc w3 _ none).block (w.heap.size + 1) (by omega) (by simp)).trans bl3
  have ba4 : ((w3.alloc (.cells #[.int .i64 x, .int .i64 y, .int .i64 z] 124)).drewN m1).heap[w3.heap.size]? = some (.cells #[.int .i64 x, .int .i64 y, .int .i64 z] 124 (0, 0)) := World.alloc_heap_new w3 _
  have sz4 : ((w3.alloc (.cells #[.int .i64 x, .int .i64 y, .int .i64 z] 124)).drewN m1).heap.size = w3.heap.size + 1 := by simp [World.drewN]
  obtain ⟨W4, hW4⟩ : ∃ W4, (w3.alloc (.cells #[.int .i64 x, .int .i64 y, .int .i64 z] 124)).drewN m1 = W4 := ⟨_, rfl⟩
  rw [hW4] at hB4 bl4 ba4 sz4 ⊢
  clear hW4 cv0 cv1 cv2 fv0 fv1 fv2 fl ev0 ev1 ev2
  have f0 := (blk_cell ba4 0).trans rfl
  have f1 := (blk_cell ba4 1).trans rfl
  have f2 := (blk_cell ba4 2).trans rfl
  go_region
  have hB5 : Below w.heap.size w ((W4.alloc (.cells #[.int .i64 mm] 2)).drew) := pw_below_drewN (hB4.alloc (by omega) _) 1
  have bl5 : ((W4.alloc (.cells #[.int .i64 mm] 2)).drew).heap[w.heap.size + 1]? = some (.cells #[.int .i64 n] 3 (0, 0)) := ((World.grownBy_alloc W4 _ none).block (w.heap.size + 1) (by omega) (by simp)).trans bl4
  have ba5 : ((W4.alloc (.cells #[.int .i64 mm] 2)).drew).heap[w3.heap.size]? = some (.cells #[.int .i64 x, .int .i64 y, .int .i64 z] 124 (0, 0)) := ((World.grownBy_alloc W4 _ none).block w3.heap.size (by omega) (by simp)).trans ba4
  have bm5 : ((W4.alloc (.cells #[.int .i64 mm] 2)).drew).heap[w3.heap.size + 1]? = some (.cells #[.int .i64 mm] 2 (0, 0)) := by
    have := World.alloc_heap_new W4 (.cells #[.int .i64 mm] 2)
    rw [sz4] at this
    exact this
  obtain ⟨W5, hW5⟩ : ∃ W5, (W4.alloc (.cells #[.int .i64 mm] 2)).drew = W5 := ⟨_, rfl⟩
  rw [hW5] at hB5 bl5 ba5 bm5 ⊢
  clear hW5 f0 f1 f2
  have f0 := (blk_cell ba5 0).trans rfl
  have f1 := (blk_cell ba5 1).trans rfl
  have f2 := (blk_cell ba5 2).trans rfl
  have fl := (blk_cell bl5 0).trans rfl
  have fm := (blk_cell bm5 0).trans rfl
  go_wp2
  repeat (go_quiet (first | (go_at_call 81; (with_reducible refine (tile_Of.place _ mm n ⟨w3.heap.size + 1, 0, none⟩ ⟨w.heap.size + 1, 0, none⟩ _ (by first | exact fm | (simpa using fm)) (by first | exact fl | (simpa using fl)) nn hm0).mono ?_); rintro e w' ⟨rfl, ⟨nd, rfl⟩⟩; (try first | exact ⟨rfl, _, World.drewN_drewN _ _ _⟩ | exact ⟨rfl, _, Eq.trans (World.drewN_drewN _ _ _) (congrArg (World.drewN _) (Nat.add_assoc _ _ _))⟩))))
  go_wp2
  rw [hx, hy]
  go_loopw [14, 15] (fun v14 v15 wr => ∃ (j : Nat) (b t : Int), j ≤ 12 ∧ b = (j : Int) - 1 ∧ v15 = .int .i64 b ∧ v14 = .int .i64 t ∧ tile_Of.l0 cx cy j b t = tile_Of.l0 cx cy n ((n : Int) - 1) 9 ∧ Below w.heap.size w wr)
    (fun _ v15 _ => (intOf v15 + 1).toNat)
  case atStart => exact ⟨n, (n : Int) - 1, 9, hn, rfl, rfl, rfl, rfl, by apply pw_below_drewN; exact hB5⟩
  case round =>
    obtain ⟨j, b, t, hj, hb, rfl, rfl, hR, hBr⟩ := hrel
    rcases j with _ | j
    · have bn : ¬ 0 ≤ b := by omega
      have e0 : decide (0 ≤ b) = false := decide_eq_false bn
      clear hb
      go_wp2
      exact bodyPost_ret (v := .tuple #[.int .i64 t, .int .i64 0]) (by simp [results, Try.results41, go_sem]) rfl ⟨by rw [← hR]; rfl, hBr⟩
    · have b0 : 0 ≤ b := by omega
      have b1 : b ≤ 11 := by omega
      have e0 : decide (0 ≤ b) = true := decide_eq_true b0
      have es : ∀ c : Int, shr .i64 c b = c / 2 ^ j := fun c => by show c / 2 ^ min b.toNat 64 = _; rw [show min b.toNat 64 = j by omega]
      have hR' : tile_Of.l0 cx cy j (b - 1) (tile_Of.step cx cy b t) = tile_Of.l0 cx cy n ((n : Int) - 1) 9 := hR
      unfold tile_Of.step at hR'
      rw [es, es] at hR'
      have HR := Aside0.mk hR'
      clear hR hR' hx hy
      go_wp2
      go_quiet (fail)
      go_wp2
      exact ⟨⟨j, b - 1, _, by omega, by omega, by rw [hb]; congr 1; omega, rfl, HR.out, by apply pw_below_drewN; exact hBr⟩, by simp only [intOf]; omega⟩
set_option maxHeartbeats 4000000 in
set_option maxRecDepth 100000 in
theorem tile_Of.c2 (k n : Nat) (x y z cx cy mm : Int) (w : World) (em : (if y < wrap64 (-y) then wrap64 (-y) else y) = mm) (hn : n ≤ 12) (he : sphere_Check.f k x y z = some 0) (hf : tile_faceOf.f x y z = some 2)
    (hm0 : wrap64 (2 * mm) ≠ 0) (hx : tile_Of.pl z mm n = cx) (hy : tile_Of.pl x mm n = cy) :
    Calls Try.prog 41 #[.agg #[.int .i64 x, .int .i64 y, .int .i64 z], .int .i64 n] w fun e w' => e = .returned (.tuple #[.int .i64 (tile_Of.l0 cx cy n ((n : Int) - 1) 10), .int .i64 0]) ∧ Below w.heap.size w w' := by
  have hu67 := Try.underlying67
  have hu124 := Try.underlying124
  have hmf : ∀ (fn : Fn) (first cap : Array Value) (w : World), (Instr.makeFunc fn first cap).run Try.prog w = .ok (.func fn first cap) w := fun _ _ _ _ => rfl
  have HB := Aside0.mk (Below.refl w.heap.size w)
  obtain ⟨W0, hW0⟩ : ∃ W0, (w.alloc (.cells #[.int .i64 x, .int .i64 y, .int .i64 z] 67)).alloc (.cells #[.int .i64 n] 3) = W0 := ⟨_, rfl⟩
  have BV : W0.heap[w.heap.size]? = some (.cells #[.int .i64 x, .int .i64 y, .int .i64 z] 67 (0, 0)) := by
    rw [← hW0]; exact ((World.grownBy_alloc _ _ none).block w.heap.size (by simp) (by simp)).trans (World.alloc_heap_new w _)
  have BL : W0.heap[w.heap.size + 1]? = some (.cells #[.int .i64 n] 3 (0, 0)) := by
    rw [← hW0]
    have := World.alloc_heap_new (w.alloc (.cells #[.int .i64 x, .int .i64 y, .int .i64 z] 67)) (.cells #[.int .i64 n] 3)
    simpa using this
  have B0 : Below w.heap.size w W0 := by rw [← hW0]; exact ((Below.refl _ w).alloc (Nat.le_refl _) _).alloc (by simp) _
  have cv0 := (blk_cell BV 0).trans rfl
  have cv1 := (blk_cell BV 1).trans rfl
  have cv2 := (blk_cell BV 2).trans rfl
  have s0 : W0.heap.size = w.heap.size + 2 := by rw [← hW0]; simp
  have nn : (0 : Int) ≤ n := Int.natCast_nonneg n
  have d1 : decide ((n : Int) < 0) = false := decide_eq_false (by omega)
  have d2 : decide ((12 : Int) < n) = false := decide_eq_false (by omega)
  have AX := tile_Of.axes2
  go_enter Try.func41, Try.ntmps41
  go_wp2_with (first
    | (go_at_call 77; (try rw [hW0]); (with_reducible refine (sphere_Check.calls k x y z 0 _ he).mono ?_); rintro e w1 ⟨rfl, hb⟩; have bv1 := (hb.block w.heap.size (by omega)).trans BV; have bl1 := (hb.block (w.heap.size + 1) (by omega)).trans BL; have B1 := B0.trans (hb.mono (by omega)); have s1 := hb.size; clear hb; have fv0 := (blk_cell bv1 0).trans rfl; have fv1 := (blk_cell bv1 1).trans rfl; have fv2 := (blk_cell bv1 2).trans rfl; have fl := (blk_cell bl1 0).trans rfl)
    | (go_at_call 78; (with_reducible refine (tile_faceOf.calls x y z 2 _ hf).mono ?_); rintro e w2 ⟨rfl, hb⟩; have bv2 := (hb.block w.heap.size (by omega)).trans bv1; have bl2 := (hb.block (w.heap.size + 1) (by omega)).trans bl1; have B2 := B1.trans (hb.mono (by omega)); have s2 := hb.size; clear hb; have ev0 := (blk_cell bv2 0).trans rfl; have ev1 := (blk_cell bv2 1).trans rfl; have ev2 := (blk_cell bv2 2).trans rfl)
    | (go_at_call 79; (with_reducible refine (tile_parts.calls x y z x y z _ rfl).mono ?_); rintro e w3 ⟨rfl, hb⟩; have bl3 := (hb.block (w.heap.size + 1) (by omega)).trans bl2; have B3 := B2.trans (hb.mono (by omega)); have s3 := hb.size; clear hb)
    | (go_at_call 80; (with_reducible refine (tile_axes.calls _ _ _ _ _ AX).mono ?_); rintro e w4 ⟨rfl, ⟨m1, rfl⟩⟩))
  have hB4 : Below w.heap.size w ((w3.alloc (.cells #[.int .i64 x, .int .i64 y, .int .i64 z] 124)).drewN m1) := pw_below_drewN (B3.alloc (by omega) _) m1
  have bl4 : ((w3.alloc (.cells #[.int .i64 x, .int .i64 y, .int .i64 z] 124)).drewN m1).heap[w.heap.size + 1]? = some (.cells #[.int .i64 n] 3 (0, 0)) := ((World.grownBy_alloc w3 _ none).block (w.heap.size + 1) (by omega) (by simp)).trans bl3
  have ba4 : ((w3.alloc (.cells #[.int .i64 x, .int .i64 y, .int .i64 z] 124)).drewN m1).heap[w3.heap.size]? = some (.cells #[.int .i64 x, .int .i64 y, .int .i64 z] 124 (0, 0)) := World.alloc_heap_new w3 _
  have sz4 : ((w3.alloc (.cells #[.int .i64 x, .int .i64 y, .int .i64 z] 124)).drewN m1).heap.size = w3.heap.size + 1 := by simp [World.drewN]
  obtain ⟨W4, hW4⟩ : ∃ W4, (w3.alloc (.cells #[.int .i64 x, .int .i64 y, .int .i64 z] 124)).drewN m1 = W4 := ⟨_, rfl⟩
  rw [hW4] at hB4 bl4 ba4 sz4 ⊢
  clear hW4 cv0 cv1 cv2 fv0 fv1 fv2 fl ev0 ev1 ev2
  have f0 := (blk_cell ba4 0).trans rfl
  have f1 := (blk_cell ba4 1).trans rfl
  have f2 := (blk_cell ba4 2).trans rfl
  go_region
  have hB5 : Below w.heap.size w ((W4.alloc (.cells #[.int .i64 mm] 2)).drew) := pw_below_drewN (hB4.alloc (by omega) _) 1
  have bl5 : ((W4.alloc (.cells #[.int .i64 mm] 2)).drew).heap[w.heap.size + 1]? = some (.cells #[.int .i64 n] 3 (0, 0)) := ((World.grownBy_alloc W4 _ none).block (w.heap.size + 1) (by omega) (by simp)).trans bl4
  have ba5 : ((W4.alloc (.cells #[.int .i64 mm] 2)).drew).heap[w3.heap.size]? = some (.cells #[.int .i64 x, .int .i64 y, .int .i64 z] 124 (0, 0)) := ((World.grownBy_alloc W4 _ none).block w3.heap.size (by omega) (by simp)).trans ba4
  have bm5 : ((W4.alloc (.cells #[.int .i64 mm] 2)).drew).heap[w3.heap.size + 1]? = some (.cells #[.int .i64 mm] 2 (0, 0)) := by
    have := World.alloc_heap_new W4 (.cells #[.int .i64 mm] 2)
    rw [sz4] at this
    exact this
  obtain ⟨W5, hW5⟩ : ∃ W5, (W4.alloc (.cells #[.int .i64 mm] 2)).drew = W5 := ⟨_, rfl⟩
  rw [hW5] at hB5 bl5 ba5 bm5 ⊢
  clear hW5 f0 f1 f2
  have f0 := (blk_cell ba5 0).trans rfl
  have f1 := (blk_cell ba5 1).trans rfl
  have f2 := (blk_cell ba5 2).trans rfl
  have fl := (blk_cell bl5 0).trans rfl
  have fm := (blk_cell bm5 0).trans rfl
  go_wp2
  repeat (go_quiet (first | (go_at_call 81; (with_reducible refine (tile_Of.place _ mm n ⟨w3.heap.size + 1, 0, none⟩ ⟨w.heap.size + 1, 0, none⟩ _ (by first | exact fm | (simpa using fm)) (by first | exact fl | (simpa using fl)) nn hm0).mono ?_); rintro e w' ⟨rfl, ⟨nd, rfl⟩⟩; (try first | exact ⟨rfl, _, World.drewN_drewN _ _ _⟩ | exact ⟨rfl, _, Eq.trans (World.drewN_drewN _ _ _) (congrArg (World.drewN _) (Nat.add_assoc _ _ _))⟩))))
  go_wp2
  rw [hx, hy]
  go_loopw [14, 15] (fun v14 v15 wr => ∃ (j : Nat) (b t : Int), j ≤ 12 ∧ b = (j : Int) - 1 ∧ v15 = .int .i64 b ∧ v14 = .int .i64 t ∧ tile_Of.l0 cx cy j b t = tile_Of.l0 cx cy n ((n : Int) - 1) 10 ∧ Below w.heap.size w wr)
    (fun _ v15 _ => (intOf v15 + 1).toNat)
  case atStart => exact ⟨n, (n : Int) - 1, 10, hn, rfl, rfl, rfl, rfl, by apply pw_below_drewN; exact hB5⟩
  case round =>
    obtain ⟨j, b, t, hj, hb, rfl, rfl, hR, hBr⟩ := hrel
    rcases j with _ | j
    · have bn : ¬ 0 ≤ b := by omega
      have e0 : decide (0 ≤ b) = false := decide_eq_false bn
      clear hb
      go_wp2
      exact bodyPost_ret (v := .tuple #[.int .i64 t, .int .i64 0]) (by simp [results, Try.results41, go_sem]) rfl ⟨by rw [← hR]; rfl, hBr⟩
    · have b0 : 0 ≤ b := by omega
      have b1 : b ≤ 11 := by omega
      have e0 : decide (0 ≤ b) = true := decide_eq_true b0
      have es : ∀ c : Int, shr .i64 c b = c / 2 ^ j := fun c => by show c / 2 ^ min b.toNat 64 = _; rw [show min b.toNat 64 = j by omega]
      have hR' : tile_Of.l0 cx cy j (b - 1) (tile_Of.step cx cy b t) = tile_Of.l0 cx cy n ((n : Int) - 1) 10 := hR
      unfold tile_Of.step at hR'
      rw [es, es] at hR'
      have HR := Aside0.mk hR'
      clear hR hR' hx hy
      go_wp2
      go_quiet (fail)
      go_wp2
      exact ⟨⟨j, b - 1, _, by omega, by omega, by rw [hb]; congr 1; omega, rfl, HR.out, by apply pw_below_drewN; exact hBr⟩, by simp only [intOf]; omega⟩
set_option maxHeartbeats 4000000 in
set_option maxRecDepth 100000 in
theorem tile_Of.c3 (k n : Nat) (x y z cx cy mm : Int) (w : World) (em : (if y < wrap64 (-y) then wrap64 (-y) else y) = mm) (hn : n ≤ 12) (he : sphere_Check.f k x y z = some 0) (hf : tile_faceOf.f x y z = some 3)
    (hm0 : wrap64 (2 * mm) ≠ 0) (hx : tile_Of.pl z mm n = cx) (hy : tile_Of.pl x mm n = cy) :
    Calls Try.prog 41 #[.agg #[.int .i64 x, .int .i64 y, .int .i64 z], .int .i64 n] w fun e w' => e = .returned (.tuple #[.int .i64 (tile_Of.l0 cx cy n ((n : Int) - 1) 11), .int .i64 0]) ∧ Below w.heap.size w w' := by
  have hu67 := Try.underlying67
  have hu124 := Try.underlying124
  have hmf : ∀ (fn : Fn) (first cap : Array Value) (w : World), (Instr.makeFunc fn first cap).run Try.prog w = .ok (.func fn first cap) w := fun _ _ _ _ => rfl
  have HB := Aside0.mk (Below.refl w.heap.size w)
  obtain ⟨W0, hW0⟩ : ∃ W0, (w.alloc (.cells #[.int .i64 x, .int .i64 y, .int .i64 z] 67)).alloc (.cells #[.int .i64 n] 3) = W0 := ⟨_, rfl⟩
  have BV : W0.heap[w.heap.size]? = some (.cells #[.int .i64 x, .int .i64 y, .int .i64 z] 67 (0, 0)) := by
    rw [← hW0]; exact ((World.grownBy_alloc _ _ none).block w.heap.size (by simp) (by simp)).trans (World.alloc_heap_new w _)
  have BL : W0.heap[w.heap.size + 1]? = some (.cells #[.int .i64 n] 3 (0, 0)) := by
    rw [← hW0]
    have := World.alloc_heap_new (w.alloc (.cells #[.int .i64 x, .int .i64 y, .int .i64 z] 67)) (.cells #[.int .i64 n] 3)
    simpa using this
  have B0 : Below w.heap.size w W0 := by rw [← hW0]; exact ((Below.refl _ w).alloc (Nat.le_refl _) _).alloc (by simp) _
  have cv0 := (blk_cell BV 0).trans rfl
  have cv1 := (blk_cell BV 1).trans rfl
  have cv2 := (blk_cell BV 2).trans rfl
  have s0 : W0.heap.size = w.heap.size + 2 := by rw [← hW0]; simp
  have nn : (0 : Int) ≤ n := Int.natCast_nonneg n
  have d1 : decide ((n : Int) < 0) = false := decide_eq_false (by omega)
  have d2 : decide ((12 : Int) < n) = false := decide_eq_false (by omega)
  have AX := tile_Of.axes3
  go_enter Try.func41, Try.ntmps41
  go_wp2_with (first
    | (go_at_call 77; (try rw [hW0]); (with_reducible refine (sphere_Check.calls k x y z 0 _ he).mono ?_); rintro e w1 ⟨rfl, hb⟩; have bv1 := (hb.block w.heap.size (by omega)).trans BV; have bl1 := (hb.block (w.heap.size + 1) (by omega)).trans BL; have B1 := B0.trans (hb.mono (by omega)); have s1 := hb.size; clear hb; have fv0 := (blk_cell bv1 0).trans rfl; have fv1 := (blk_cell bv1 1).trans rfl; have fv2 := (blk_cell bv1 2).trans rfl; have fl := (blk_cell bl1 0).trans rfl)
    | (go_at_call 78; (with_reducible refine (tile_faceOf.calls x y z 3 _ hf).mono ?_); rintro e w2 ⟨rfl, hb⟩; have bv2 := (hb.block w.heap.size (by omega)).trans bv1; have bl2 := (hb.block (w.heap.size + 1) (by omega)).trans bl1; have B2 := B1.trans (hb.mono (by omega)); have s2 := hb.size; clear hb; have ev0 := (blk_cell bv2 0).trans rfl; have ev1 := (blk_cell bv2 1).trans rfl; have ev2 := (blk_cell bv2 2).trans rfl)
    | (go_at_call 79; (with_reducible refine (tile_parts.calls x y z x y z _ rfl).mono ?_); rintro e w3 ⟨rfl, hb⟩; have bl3 := (hb.block (w.heap.size + 1) (by omega)).trans bl2; have B3 := B2.trans (hb.mono (by omega)); have s3 := hb.size; clear hb)
    | (go_at_call 80; (with_reducible refine (tile_axes.calls _ _ _ _ _ AX).mono ?_); rintro e w4 ⟨rfl, ⟨m1, rfl⟩⟩))
  have hB4 : Below w.heap.size w ((w3.alloc (.cells #[.int .i64 x, .int .i64 y, .int .i64 z] 124)).drewN m1) := pw_below_drewN (B3.alloc (by omega) _) m1
  have bl4 : ((w3.alloc (.cells #[.int .i64 x, .int .i64 y, .int .i64 z] 124)).drewN m1).heap[w.heap.size + 1]? = some (.cells #[.int .i64 n] 3 (0, 0)) := ((World.grownBy_alloc w3 _ none).block (w.heap.size + 1) (by omega) (by simp)).trans bl3
  have ba4 : ((w3.alloc (.cells #[.int .i64 x, .int .i64 y, .int .i64 z] 124)).drewN m1).heap[w3.heap.size]? = some (.cells #[.int .i64 x, .int .i64 y, .int .i64 z] 124 (0, 0)) := World.alloc_heap_new w3 _
  have sz4 : ((w3.alloc (.cells #[.int .i64 x, .int .i64 y, .int .i64 z] 124)).drewN m1).heap.size = w3.heap.size + 1 := by simp [World.drewN]
  obtain ⟨W4, hW4⟩ : ∃ W4, (w3.alloc (.cells #[.int .i64 x, .int .i64 y, .int .i64 z] 124)).drewN m1 = W4 := ⟨_, rfl⟩
  rw [hW4] at hB4 bl4 ba4 sz4 ⊢
  clear hW4 cv0 cv1 cv2 fv0 fv1 fv2 fl ev0 ev1 ev2
  have f0 := (blk_cell ba4 0).trans rfl
  have f1 := (blk_cell ba4 1).trans rfl
  have f2 := (blk_cell ba4 2).trans rfl
  go_region
  have hB5 : Below w.heap.size w ((W4.alloc (.cells #[.int .i64 mm] 2)).drew) := pw_below_drewN (hB4.alloc (by omega) _) 1
  have bl5 : ((W4.alloc (.cells #[.int .i64 mm] 2)).drew).heap[w.heap.size + 1]? = some (.cells #[.int .i64 n] 3 (0, 0)) := ((World.grownBy_alloc W4 _ none).block (w.heap.size + 1) (by omega) (by simp)).trans bl4
  have ba5 : ((W4.alloc (.cells #[.int .i64 mm] 2)).drew).heap[w3.heap.size]? = some (.cells #[.int .i64 x, .int .i64 y, .int .i64 z] 124 (0, 0)) := ((World.grownBy_alloc W4 _ none).block w3.heap.size (by omega) (by simp)).trans ba4
  have bm5 : ((W4.alloc (.cells #[.int .i64 mm] 2)).drew).heap[w3.heap.size + 1]? = some (.cells #[.int .i64 mm] 2 (0, 0)) := by
    have := World.alloc_heap_new W4 (.cells #[.int .i64 mm] 2)
    rw [sz4] at this
    exact this
  obtain ⟨W5, hW5⟩ : ∃ W5, (W4.alloc (.cells #[.int .i64 mm] 2)).drew = W5 := ⟨_, rfl⟩
  rw [hW5] at hB5 bl5 ba5 bm5 ⊢
  clear hW5 f0 f1 f2
  have f0 := (blk_cell ba5 0).trans rfl
  have f1 := (blk_cell ba5 1).trans rfl
  have f2 := (blk_cell ba5 2).trans rfl
  have fl := (blk_cell bl5 0).trans rfl
  have fm := (blk_cell bm5 0).trans rfl
  go_wp2
  repeat (go_quiet (first | (go_at_call 81; (with_reducible refine (tile_Of.place _ mm n ⟨w3.heap.size + 1, 0, none⟩ ⟨w.heap.size + 1, 0, none⟩ _ (by first | exact fm | (simpa using fm)) (by first | exact fl | (simpa using fl)) nn hm0).mono ?_); rintro e w' ⟨rfl, ⟨nd, rfl⟩⟩; (try first | exact ⟨rfl, _, World.drewN_drewN _ _ _⟩ | exact ⟨rfl, _, Eq.trans (World.drewN_drewN _ _ _) (congrArg (World.drewN _) (Nat.add_assoc _ _ _))⟩))))
  go_wp2
  rw [hx, hy]
  go_loopw [14, 15] (fun v14 v15 wr => ∃ (j : Nat) (b t : Int), j ≤ 12 ∧ b = (j : Int) - 1 ∧ v15 = .int .i64 b ∧ v14 = .int .i64 t ∧ tile_Of.l0 cx cy j b t = tile_Of.l0 cx cy n ((n : Int) - 1) 11 ∧ Below w.heap.size w wr)
    (fun _ v15 _ => (intOf v15 + 1).toNat)
  case atStart => exact ⟨n, (n : Int) - 1, 11, hn, rfl, rfl, rfl, rfl, by apply pw_below_drewN; exact hB5⟩
  case round =>
    obtain ⟨j, b, t, hj, hb, rfl, rfl, hR, hBr⟩ := hrel
    rcases j with _ | j
    · have bn : ¬ 0 ≤ b := by omega
      have e0 : decide (0 ≤ b) = false := decide_eq_false bn
      clear hb
      go_wp2
      exact bodyPost_ret (v := .tuple #[.int .i64 t, .int .i64 0]) (by simp [results, Try.results41, go_sem]) rfl ⟨by rw [← hR]; rfl, hBr⟩
    · have b0 : 0 ≤ b := by omega
      have b1 : b ≤ 11 := by omega
      have e0 : decide (0 ≤ b) = true := decide_eq_true b0
      have es : ∀ c : Int, shr .i64 c b = c / 2 ^ j := fun c => by show c / 2 ^ min b.toNat 64 = _; rw [show min b.toNat 64 = j by omega]
      have hR' : tile_Of.l0 cx cy j (b - 1) (tile_Of.step cx cy b t) = tile_Of.l0 cx cy n ((n : Int) - 1) 11 := hR
      unfold tile_Of.step at hR'
      rw [es, es] at hR'
      have HR := Aside0.mk hR'
      clear hR hR' hx hy
      go_wp2
      go_quiet (fail)
      go_wp2
      exact ⟨⟨j, b - 1, _, by omega, by omega, by rw [hb]; congr 1; omega, rfl, HR.out, by apply pw_below_drewN; exact hBr⟩, by simp only [intOf]; omega⟩
set_option maxHeartbeats 4000000 in
set_option maxRecDepth 100000 in
theorem tile_Of.c4 (k n : Nat) (x y z cx cy mm : Int) (w : World) (em : (if z < wrap64 (-z) then wrap64 (-z) else z) = mm) (hn : n ≤ 12) (he : sphere_Check.f k x y z = some 0) (hf : tile_faceOf.f x y z = some 4)
    (hm0 : wrap64 (2 * mm) ≠ 0) (hx : tile_Of.pl x mm n = cx) (hy : tile_Of.pl y mm n = cy) :
    Calls Try.prog 41 #[.agg #[.int .i64 x, .int .i64 y, .int .i64 z], .int .i64 n] w fun e w' => e = .returned (.tuple #[.int .i64 (tile_Of.l0 cx cy n ((n : Int) - 1) 12), .int .i64 0]) ∧ Below w.heap.size w w' := by
  have hu67 := Try.underlying67
  have hu124 := Try.underlying124
  have hmf : ∀ (fn : Fn) (first cap : Array Value) (w : World), (Instr.makeFunc fn first cap).run Try.prog w = .ok (.func fn first cap) w := fun _ _ _ _ => rfl
  have HB := Aside0.mk (Below.refl w.heap.size w)
  obtain ⟨W0, hW0⟩ : ∃ W0, (w.alloc (.cells #[.int .i64 x, .int .i64 y, .int .i64 z] 67)).alloc (.cells #[.int .i64 n] 3) = W0 := ⟨_, rfl⟩
  have BV : W0.heap[w.heap.size]? = some (.cells #[.int .i64 x, .int .i64 y, .int .i64 z] 67 (0, 0)) := by
    rw [← hW0]; exact ((World.grownBy_alloc _ _ none).block w.heap.size (by simp) (by simp)).trans (World.alloc_heap_new w _)
  have BL : W0.heap[w.heap.size + 1]? = some (.cells #[.int .i64 n] 3 (0, 0)) := by
    rw [← hW0]
    have := World.alloc_heap_new (w.alloc (.cells #[.int .i64 x, .int .i64 y, .int .i64 z] 67)) (.cells #[.int .i64 n] 3)
    simpa using this
  have B0 : Below w.heap.size w W0 := by rw [← hW0]; exact ((Below.refl _ w).alloc (Nat.le_refl _) _).alloc (by simp) _
  have cv0 := (blk_cell BV 0).trans rfl
  have cv1 := (blk_cell BV 1).trans rfl
  have cv2 := (blk_cell BV 2).trans rfl
  have s0 : W0.heap.size = w.heap.size + 2 := by rw [← hW0]; simp
  have nn : (0 : Int) ≤ n := Int.natCast_nonneg n
  have d1 : decide ((n : Int) < 0) = false := decide_eq_false (by omega)
  have d2 : decide ((12 : Int) < n) = false := decide_eq_false (by omega)
  have AX := tile_Of.axes4
  go_enter Try.func41, Try.ntmps41
  go_wp2_with (first
    | (go_at_call 77; (try rw [hW0]); (with_reducible refine (sphere_Check.calls k x y z 0 _ he).mono ?_); rintro e w1 ⟨rfl, hb⟩; have bv1 := (hb.block w.heap.size (by omega)).trans BV; have bl1 := (hb.block (w.heap.size + 1) (by omega)).trans BL; have B1 := B0.trans (hb.mono (by omega)); have s1 := hb.size; clear hb; have fv0 := (blk_cell bv1 0).trans rfl; have fv1 := (blk_cell bv1 1).trans rfl; have fv2 := (blk_cell bv1 2).trans rfl; have fl := (blk_cell bl1 0).trans rfl)
    | (go_at_call 78; (with_reducible refine (tile_faceOf.calls x y z 4 _ hf).mono ?_); rintro e w2 ⟨rfl, hb⟩; have bv2 := (hb.block w.heap.size (by omega)).trans bv1; have bl2 := (hb.block (w.heap.size + 1) (by omega)).trans bl1; have B2 := B1.trans (hb.mono (by omega)); have s2 := hb.size; clear hb; have ev0 := (blk_cell bv2 0).trans rfl; have ev1 := (blk_cell bv2 1).trans rfl; have ev2 := (blk_cell bv2 2).trans rfl)
    | (go_at_call 79; (with_reducible refine (tile_parts.calls x y z x y z _ rfl).mono ?_); rintro e w3 ⟨rfl, hb⟩; have bl3 := (hb.block (w.heap.size + 1) (by omega)).trans bl2; have B3 := B2.trans (hb.mono (by omega)); have s3 := hb.size; clear hb)
    | (go_at_call 80; (with_reducible refine (tile_axes.calls _ _ _ _ _ AX).mono ?_); rintro e w4 ⟨rfl, ⟨m1, rfl⟩⟩))
  have hB4 : Below w.heap.size w ((w3.alloc (.cells #[.int .i64 x, .int .i64 y, .int .i64 z] 124)).drewN m1) := pw_below_drewN (B3.alloc (by omega) _) m1
  have bl4 : ((w3.alloc (.cells #[.int .i64 x, .int .i64 y, .int .i64 z] 124)).drewN m1).heap[w.heap.size + 1]? = some (.cells #[.int .i64 n] 3 (0, 0)) := ((World.grownBy_alloc w3 _ none).block (w.heap.size + 1) (by omega) (by simp)).trans bl3
  have ba4 : ((w3.alloc (.cells #[.int .i64 x, .int .i64 y, .int .i64 z] 124)).drewN m1).heap[w3.heap.size]? = some (.cells #[.int .i64 x, .int .i64 y, .int .i64 z] 124 (0, 0)) := World.alloc_heap_new w3 _
  have sz4 : ((w3.alloc (.cells #[.int .i64 x, .int .i64 y, .int .i64 z] 124)).drewN m1).heap.size = w3.heap.size + 1 := by simp [World.drewN]
  obtain ⟨W4, hW4⟩ : ∃ W4, (w3.alloc (.cells #[.int .i64 x, .int .i64 y, .int .i64 z] 124)).drewN m1 = W4 := ⟨_, rfl⟩
  rw [hW4] at hB4 bl4 ba4 sz4 ⊢
  clear hW4 cv0 cv1 cv2 fv0 fv1 fv2 fl ev0 ev1 ev2
  have f0 := (blk_cell ba4 0).trans rfl
  have f1 := (blk_cell ba4 1).trans rfl
  have f2 := (blk_cell ba4 2).trans rfl
  go_region
  have hB5 : Below w.heap.size w ((W4.alloc (.cells #[.int .i64 mm] 2)).drew) := pw_below_drewN (hB4.alloc (by omega) _) 1
  have bl5 : ((W4.alloc (.cells #[.int .i64 mm] 2)).drew).heap[w.heap.size + 1]? = some (.cells #[.int .i64 n] 3 (0, 0)) := ((World.grownBy_alloc W4 _ none).block (w.heap.size + 1) (by omega) (by simp)).trans bl4
  have ba5 : ((W4.alloc (.cells #[.int .i64 mm] 2)).drew).heap[w3.heap.size]? = some (.cells #[.int .i64 x, .int .i64 y, .int .i64 z] 124 (0, 0)) := ((World.grownBy_alloc W4 _ none).block w3.heap.size (by omega) (by simp)).trans ba4
  have bm5 : ((W4.alloc (.cells #[.int .i64 mm] 2)).drew).heap[w3.heap.size + 1]? = some (.cells #[.int .i64 mm] 2 (0, 0)) := by
    have := World.alloc_heap_new W4 (.cells #[.int .i64 mm] 2)
    rw [sz4] at this
    exact this
  obtain ⟨W5, hW5⟩ : ∃ W5, (W4.alloc (.cells #[.int .i64 mm] 2)).drew = W5 := ⟨_, rfl⟩
  rw [hW5] at hB5 bl5 ba5 bm5 ⊢
  clear hW5 f0 f1 f2
  have f0 := (blk_cell ba5 0).trans rfl
  have f1 := (blk_cell ba5 1).trans rfl
  have f2 := (blk_cell ba5 2).trans rfl
  have fl := (blk_cell bl5 0).trans rfl
  have fm := (blk_cell bm5 0).trans rfl
  go_wp2
  repeat (go_quiet (first | (go_at_call 81; (with_reducible refine (tile_Of.place _ mm n ⟨w3.heap.size + 1, 0, none⟩ ⟨w.heap.size + 1, 0, none⟩ _ (by first | exact fm | (simpa using fm)) (by first | exact fl | (simpa using fl)) nn hm0).mono ?_); rintro e w' ⟨rfl, ⟨nd, rfl⟩⟩; (try first | exact ⟨rfl, _, World.drewN_drewN _ _ _⟩ | exact ⟨rfl, _, Eq.trans (World.drewN_drewN _ _ _) (congrArg (World.drewN _) (Nat.add_assoc _ _ _))⟩))))
  go_wp2
  rw [hx, hy]
  go_loopw [14, 15] (fun v14 v15 wr => ∃ (j : Nat) (b t : Int), j ≤ 12 ∧ b = (j : Int) - 1 ∧ v15 = .int .i64 b ∧ v14 = .int .i64 t ∧ tile_Of.l0 cx cy j b t = tile_Of.l0 cx cy n ((n : Int) - 1) 12 ∧ Below w.heap.size w wr)
    (fun _ v15 _ => (intOf v15 + 1).toNat)
  case atStart => exact ⟨n, (n : Int) - 1, 12, hn, rfl, rfl, rfl, rfl, by apply pw_below_drewN; exact hB5⟩
  case round =>
    obtain ⟨j, b, t, hj, hb, rfl, rfl, hR, hBr⟩ := hrel
    rcases j with _ | j
    · have bn : ¬ 0 ≤ b := by omega
      have e0 : decide (0 ≤ b) = false := decide_eq_false bn
      clear hb
      go_wp2
      exact bodyPost_ret (v := .tuple #[.int .i64 t, .int .i64 0]) (by simp [results, Try.results41, go_sem]) rfl ⟨by rw [← hR]; rfl, hBr⟩
    · have b0 : 0 ≤ b := by omega
      have b1 : b ≤ 11 := by omega
      have e0 : decide (0 ≤ b) = true := decide_eq_true b0
      have es : ∀ c : Int, shr .i64 c b = c / 2 ^ j := fun c => by show c / 2 ^ min b.toNat 64 = _; rw [show min b.toNat 64 = j by omega]
      have hR' : tile_Of.l0 cx cy j (b - 1) (tile_Of.step cx cy b t) = tile_Of.l0 cx cy n ((n : Int) - 1) 12 := hR
      unfold tile_Of.step at hR'
      rw [es, es] at hR'
      have HR := Aside0.mk hR'
      clear hR hR' hx hy
      go_wp2
      go_quiet (fail)
      go_wp2
      exact ⟨⟨j, b - 1, _, by omega, by omega, by rw [hb]; congr 1; omega, rfl, HR.out, by apply pw_below_drewN; exact hBr⟩, by simp only [intOf]; omega⟩
set_option maxHeartbeats 4000000 in
set_option maxRecDepth 100000 in
theorem tile_Of.c5 (k n : Nat) (x y z cx cy mm : Int) (w : World) (em : (if z < wrap64 (-z) then wrap64 (-z) else z) = mm) (hn : n ≤ 12) (he : sphere_Check.f k x y z = some 0) (hf : tile_faceOf.f x y z = some 5)
    (hm0 : wrap64 (2 * mm) ≠ 0) (hx : tile_Of.pl x mm n = cx) (hy : tile_Of.pl y mm n = cy) :
    Calls Try.prog 41 #[.agg #[.int .i64 x, .int .i64 y, .int .i64 z], .int .i64 n] w fun e w' => e = .returned (.tuple #[.int .i64 (tile_Of.l0 cx cy n ((n : Int) - 1) 13), .int .i64 0]) ∧ Below w.heap.size w w' := by
  have hu67 := Try.underlying67
  have hu124 := Try.underlying124
  have hmf : ∀ (fn : Fn) (first cap : Array Value) (w : World), (Instr.makeFunc fn first cap).run Try.prog w = .ok (.func fn first cap) w := fun _ _ _ _ => rfl
  have HB := Aside0.mk (Below.refl w.heap.size w)
  obtain ⟨W0, hW0⟩ : ∃ W0, (w.alloc (.cells #[.int .i64 x, .int .i64 y, .int .i64 z] 67)).alloc (.cells #[.int .i64 n] 3) = W0 := ⟨_, rfl⟩
  have BV : W0.heap[w.heap.size]? = some (.cells #[.int .i64 x, .int .i64 y, .int .i64 z] 67 (0, 0)) := by
    rw [← hW0]; exact ((World.grownBy_alloc _ _ none).block w.heap.size (by simp) (by simp)).trans (World.alloc_heap_new w _)
  have BL : W0.heap[w.heap.size + 1]? = some (.cells #[.int .i64 n] 3 (0, 0)) := by
    rw [← hW0]
    have := World.alloc_heap_new (w.alloc (.cells #[.int .i64 x, .int .i64 y, .int .i64 z] 67)) (.cells #[.int .i64 n] 3)
    simpa using this
  have B0 : Below w.heap.size w W0 := by rw [← hW0]; exact ((Below.refl _ w).alloc (Nat.le_refl _) _).alloc (by simp) _
  have cv0 := (blk_cell BV 0).trans rfl
  have cv1 := (blk_cell BV 1).trans rfl
  have cv2 := (blk_cell BV 2).trans rfl
  have s0 : W0.heap.size = w.heap.size + 2 := by rw [← hW0]; simp
  have nn : (0 : Int) ≤ n := Int.natCast_nonneg n
  have d1 : decide ((n : Int) < 0) = false := decide_eq_false (by omega)
  have d2 : decide ((12 : Int) < n) = false := decide_eq_false (by omega)
  have AX := tile_Of.axes5
  go_enter Try.func41, Try.ntmps41
  go_wp2_with (first
    | (go_at_call 77; (try rw [hW0]); (with_reducible refine (sphere_Check.calls k x y z 0 _ he).mono ?_); rintro e w1 ⟨rfl, hb⟩; have bv1 := (hb.block w.heap.size (by omega)).trans BV; have bl1 := (hb.block (w.heap.size + 1) (by omega)).trans BL; have B1 := B0.trans (hb.mono (by omega)); have s1 := hb.size; clear hb; have fv0 := (blk_cell bv1 0).trans rfl; have fv1 := (blk_cell bv1 1).trans rfl; have fv2 := (blk_cell bv1 2).trans rfl; have fl := (blk_cell bl1 0).trans rfl)
    | (go_at_call 78; (with_reducible refine (tile_faceOf.calls x y z 5 _ hf).mono ?_); rintro e w2 ⟨rfl, hb⟩; have bv2 := (hb.block w.heap.size (by omega)).trans bv1; have bl2 := (hb.block (w.heap.size + 1) (by omega)).trans bl1; have B2 := B1.trans (hb.mono (by omega)); have s2 := hb.size; clear hb; have ev0 := (blk_cell bv2 0).trans rfl; have ev1 := (blk_cell bv2 1).trans rfl; have ev2 := (blk_cell bv2 2).trans rfl)
    | (go_at_call 79; (with_reducible refine (tile_parts.calls x y z x y z _ rfl).mono ?_); rintro e w3 ⟨rfl, hb⟩; have bl3 := (hb.block (w.heap.size + 1) (by omega)).trans bl2; have B3 := B2.trans (hb.mono (by omega)); have s3 := hb.size; clear hb)
    | (go_at_call 80; (with_reducible refine (tile_axes.calls _ _ _ _ _ AX).mono ?_); rintro e w4 ⟨rfl, ⟨m1, rfl⟩⟩))
  have hB4 : Below w.heap.size w ((w3.alloc (.cells #[.int .i64 x, .int .i64 y, .int .i64 z] 124)).drewN m1) := pw_below_drewN (B3.alloc (by omega) _) m1
  have bl4 : ((w3.alloc (.cells #[.int .i64 x, .int .i64 y, .int .i64 z] 124)).drewN m1).heap[w.heap.size + 1]? = some (.cells #[.int .i64 n] 3 (0, 0)) := ((World.grownBy_alloc w3 _ none).block (w.heap.size + 1) (by omega) (by simp)).trans bl3
  have ba4 : ((w3.alloc (.cells #[.int .i64 x, .int .i64 y, .int .i64 z] 124)).drewN m1).heap[w3.heap.size]? = some (.cells #[.int .i64 x, .int .i64 y, .int .i64 z] 124 (0, 0)) := World.alloc_heap_new w3 _
  have sz4 : ((w3.alloc (.cells #[.int .i64 x, .int .i64 y, .int .i64 z] 124)).drewN m1).heap.size = w3.heap.size + 1 := by simp [World.drewN]
  obtain ⟨W4, hW4⟩ : ∃ W4, (w3.alloc (.cells #[.int .i64 x, .int .i64 y, .int .i64 z] 124)).drewN m1 = W4 := ⟨_, rfl⟩
  rw [hW4] at hB4 bl4 ba4 sz4 ⊢
  clear hW4 cv0 cv1 cv2 fv0 fv1 fv2 fl ev0 ev1 ev2
  have f0 := (blk_cell ba4 0).trans rfl
  have f1 := (blk_cell ba4 1).trans rfl
  have f2 := (blk_cell ba4 2).trans rfl
  go_region
  have hB5 : Below w.heap.size w ((W4.alloc (.cells #[.int .i64 mm] 2)).drew) := pw_below_drewN (hB4.alloc (by omega) _) 1
  have bl5 : ((W4.alloc (.cells #[.int .i64 mm] 2)).drew).heap[w.heap.size + 1]? = some (.cells #[.int .i64 n] 3 (0, 0)) := ((World.grownBy_alloc W4 _ none).block (w.heap.size + 1) (by omega) (by simp)).trans bl4
  have ba5 : ((W4.alloc (.cells #[.int .i64 mm] 2)).drew).heap[w3.heap.size]? = some (.cells #[.int .i64 x, .int .i64 y, .int .i64 z] 124 (0, 0)) := ((World.grownBy_alloc W4 _ none).block w3.heap.size (by omega) (by simp)).trans ba4
  have bm5 : ((W4.alloc (.cells #[.int .i64 mm] 2)).drew).heap[w3.heap.size + 1]? = some (.cells #[.int .i64 mm] 2 (0, 0)) := by
    have := World.alloc_heap_new W4 (.cells #[.int .i64 mm] 2)
    rw [sz4] at this
    exact this
  obtain ⟨W5, hW5⟩ : ∃ W5, (W4.alloc (.cells #[.int .i64 mm] 2)).drew = W5 := ⟨_, rfl⟩
  rw [hW5] at hB5 bl5 ba5 bm5 ⊢
  clear hW5 f0 f1 f2
  have f0 := (blk_cell ba5 0).trans rfl
  have f1 := (blk_cell ba5 1).trans rfl
  have f2 := (blk_cell ba5 2).trans rfl
  have fl := (blk_cell bl5 0).trans rfl
  have fm := (blk_cell bm5 0).trans rfl
  go_wp2
  repeat (go_quiet (first | (go_at_call 81; (with_reducible refine (tile_Of.place _ mm n ⟨w3.heap.size + 1, 0, none⟩ ⟨w.heap.size + 1, 0, none⟩ _ (by first | exact fm | (simpa using fm)) (by first | exact fl | (simpa using fl)) nn hm0).mono ?_); rintro e w' ⟨rfl, ⟨nd, rfl⟩⟩; (try first | exact ⟨rfl, _, World.drewN_drewN _ _ _⟩ | exact ⟨rfl, _, Eq.trans (World.drewN_drewN _ _ _) (congrArg (World.drewN _) (Nat.add_assoc _ _ _))⟩))))
  go_wp2
  rw [hx, hy]
  go_loopw [14, 15] (fun v14 v15 wr => ∃ (j : Nat) (b t : Int), j ≤ 12 ∧ b = (j : Int) - 1 ∧ v15 = .int .i64 b ∧ v14 = .int .i64 t ∧ tile_Of.l0 cx cy j b t = tile_Of.l0 cx cy n ((n : Int) - 1) 13 ∧ Below w.heap.size w wr)
    (fun _ v15 _ => (intOf v15 + 1).toNat)
  case atStart => exact ⟨n, (n : Int) - 1, 13, hn, rfl, rfl, rfl, rfl, by apply pw_below_drewN; exact hB5⟩
  case round =>
    obtain ⟨j, b, t, hj, hb, rfl, rfl, hR, hBr⟩ := hrel
    rcases j with _ | j
    · have bn : ¬ 0 ≤ b := by omega
      have e0 : decide (0 ≤ b) = false := decide_eq_false bn
      clear hb
      go_wp2
      exact bodyPost_ret (v := .tuple #[.int .i64 t, .int .i64 0]) (by simp [results, Try.results41, go_sem]) rfl ⟨by rw [← hR]; rfl, hBr⟩
    · have b0 : 0 ≤ b := by omega
      have b1 : b ≤ 11 := by omega
      have e0 : decide (0 ≤ b) = true := decide_eq_true b0
      have es : ∀ c : Int, shr .i64 c b = c / 2 ^ j := fun c => by show c / 2 ^ min b.toNat 64 = _; rw [show min b.toNat 64 = j by omega]
      have hR' : tile_Of.l0 cx cy j (b - 1) (tile_Of.step cx cy b t) = tile_Of.l0 cx cy n ((n : Int) - 1) 13 := hR
      unfold tile_Of.step at hR'
      rw [es, es] at hR'
      have HR := Aside0.mk hR'
      clear hR hR' hx hy
      go_wp2
      go_quiet (fail)
      go_wp2
      exact ⟨⟨j, b - 1, _, by omega, by omega, by rw [hb]; congr 1; omega, rfl, HR.out, by apply pw_below_drewN; exact hBr⟩, by simp only [intOf]; omega⟩
def tile_Of.h (c u v : Int) (n : Nat) (t : Int) : Option (Int × Int) := if wrap64 (2 * tile_faceOf.a c) = 0 then none else some (tile_Of.l0 (tile_Of.pl u (tile_faceOf.a c) n) (tile_Of.pl v (tile_faceOf.a c) n) n ((n : Int) - 1) t, 0)
def tile_Of.g (x y z : Int) (n : Nat) (fc : Int) : Option (Int × Int) := if fc = 0 then tile_Of.h x y z n 8 else if fc = 1 then tile_Of.h x y z n 9 else if fc = 2 then tile_Of.h y z x n 10 else if fc = 3 then tile_Of.h y z x n 11 else if fc = 4 then tile_Of.h z x y n 12 else if fc = 5 then tile_Of.h z x y n 13 else none
def tile_Of.f (k : Nat) (x y z level : Int) : Option (Int × Int) := (sphere_Check.f k x y z).bind fun e => if e = 0 then (if level < 0 then some (0, 4) else if level > 12 then some (0, 4) else (tile_faceOf.f x y z).bind fun fc => tile_Of.g x y z level.toNat fc) else some (0, e)
theorem tile_Of.mono : ∀ a0 a1 a2 a3 k, LeO (tile_Of.f k a0 a1 a2 a3) (tile_Of.f (k + 1) a0 a1 a2 a3) := by
  intro a0 a1 a2 a3 k
  unfold tile_Of.f
  exact LeO.bind (sphere_Check.mono _ _ _ _) (fun _ => LeO.refl _)
set_option maxHeartbeats 4000000 in
set_option maxRecDepth 100000 in
theorem tile_Of.early (k : Nat) (x y z level e : Int) (w : World) (he : sphere_Check.f k x y z = some e) (hne : e ≠ 0) :
    Calls Try.prog 41 #[.agg #[.int .i64 x, .int .i64 y, .int .i64 z], .int .i64 level] w fun e' w' => e' = .returned (.tuple #[.int .i64 0, .int .i64 e]) ∧ Below w.heap.size w w' := by
  have hu67 := Try.underlying67
  have HB : Below w.heap.size w ((w.alloc (.cells #[.int .i64 x, .int .i64 y, .int .i64 z] 67)).alloc (.cells #[.int .i64 level] 3)) := ((Below.refl _ w).alloc (Nat.le_refl _) _).alloc (by simp) _
  have hd : decide (e = 0) = false := decide_eq_false hne
  go_enter Try.func41, Try.ntmps41
  go_wp2_with (go_at_call 77; (with_reducible refine (sphere_Check.calls k x y z e _ he).mono ?_); rintro e' w1 ⟨rfl, hb⟩)
  exact bodyPost_ret (v := .tuple #[.int .i64 0, .int .i64 e]) (by simp [results, Try.results41, go_sem]) rfl ⟨rfl, HB.trans (hb.mono (by simp; omega))⟩
set_option maxHeartbeats 4000000 in
set_option maxRecDepth 100000 in
theorem tile_Of.outs (k : Nat) (x y z level : Int) (w : World) (he : sphere_Check.f k x y z = some 0) (hl : level < 0 ∨ 12 < level) :
    Calls Try.prog 41 #[.agg #[.int .i64 x, .int .i64 y, .int .i64 z], .int .i64 level] w fun e' w' => e' = .returned (.tuple #[.int .i64 0, .int .i64 4]) ∧ Below w.heap.size w w' := by
  have hu67 := Try.underlying67
  obtain ⟨W0, hW0⟩ : ∃ W0, (w.alloc (.cells #[.int .i64 x, .int .i64 y, .int .i64 z] 67)).alloc (.cells #[.int .i64 level] 3) = W0 := ⟨_, rfl⟩
  have BV : W0.heap[w.heap.size]? = some (.cells #[.int .i64 x, .int .i64 y, .int .i64 z] 67 (0, 0)) := by
    rw [← hW0]; exact ((World.grownBy_alloc _ _ none).block w.heap.size (by simp) (by simp)).trans (World.alloc_heap_new w _)
  have BL : W0.heap[w.heap.size + 1]? = some (.cells #[.int .i64 level] 3 (0, 0)) := by
    rw [← hW0]
    have := World.alloc_heap_new (w.alloc (.cells #[.int .i64 x, .int .i64 y, .int .i64 z] 67)) (.cells #[.int .i64 level] 3)
    simpa using this
  have B0 : Below w.heap.size w W0 := by rw [← hW0]; exact ((Below.refl _ w).alloc (Nat.le_refl _) _).alloc (by simp) _
  have s0 : W0.heap.size = w.heap.size + 2 := by rw [← hW0]; simp
  have cv0 := (blk_cell BV 0).trans rfl
  have cv1 := (blk_cell BV 1).trans rfl
  have cv2 := (blk_cell BV 2).trans rfl
  rcases hl with hl | hl
  · have d1 : decide (level < 0) = true := decide_eq_true hl
    go_enter Try.func41, Try.ntmps41
    go_wp2_with (go_at_call 77; (try rw [hW0]); (with_reducible refine (sphere_Check.calls k x y z 0 _ he).mono ?_); rintro e w1 ⟨rfl, hb⟩; have bl1 := (hb.block (w.heap.size + 1) (by omega)).trans BL; have B1 := B0.trans (hb.mono (by omega)); clear hb; have fl := (blk_cell bl1 0).trans rfl)
    exact bodyPost_ret (v := .tuple #[.int .i64 0, .int .i64 4]) (by simp [results, Try.results41, go_sem]) rfl ⟨rfl, B1⟩
  · have d1 : decide (level < 0) = false := decide_eq_false (by omega)
    have d2 : decide (12 < level) = true := decide_eq_true hl
    go_enter Try.func41, Try.ntmps41
    go_wp2_with (go_at_call 77; (try rw [hW0]); (with_reducible refine (sphere_Check.calls k x y z 0 _ he).mono ?_); rintro e w1 ⟨rfl, hb⟩; have bl1 := (hb.block (w.heap.size + 1) (by omega)).trans BL; have B1 := B0.trans (hb.mono (by omega)); clear hb; have fl := (blk_cell bl1 0).trans rfl)
    exact bodyPost_ret (v := .tuple #[.int .i64 0, .int .i64 4]) (by simp [results, Try.results41, go_sem]) rfl ⟨rfl, B1⟩
theorem tile_Of.calls (k : Nat) (a0_0 a0_1 a0_2 a1 r1 r2 : Int) (w : World) (h : tile_Of.f k a0_0 a0_1 a0_2 a1 = some (r1, r2)) :
    Calls Try.prog 41 #[.agg #[.int .i64 a0_0, .int .i64 a0_1, .int .i64 a0_2], .int .i64 a1] w fun e w' => e = .returned (.tuple #[.int .i64 r1, .int .i64 r2]) ∧ Below w.heap.size w w' := by
  unfold tile_Of.f at h
  obtain ⟨e, he, h⟩ := Option.bind_eq_some_iff.mp h
  by_cases h0 : e = 0
  · subst h0
    rw [if_pos rfl] at h
    by_cases h1 : a1 < 0
    · rw [if_pos h1] at h; cases h; exact tile_Of.outs k _ _ _ _ w he (.inl h1)
    rw [if_neg h1] at h
    by_cases h2 : a1 > 12
    · rw [if_pos h2] at h; cases h; exact tile_Of.outs k _ _ _ _ w he (.inr h2)
    rw [if_neg h2] at h
    obtain ⟨n, rfl⟩ := Int.eq_ofNat_of_zero_le (show 0 ≤ a1 by omega)
    obtain ⟨fc, hf, h⟩ := Option.bind_eq_some_iff.mp h
    rw [Int.toNat_natCast] at h
    unfold tile_Of.g tile_Of.h at h
    by_cases c : fc = 0
    · subst c
      rw [if_pos rfl] at h
      split at h
      · cases h
      · cases h; exact tile_Of.c0 k n _ _ _ _ _ _ w rfl (by omega) he hf ‹_› rfl rfl
    by_cases c : fc = 1
    · subst c
      rw [if_neg (by decide), if_pos rfl] at h
      split at h
      · cases h
      · cases h; exact tile_Of.c1 k n _ _ _ _ _ _ w rfl (by omega) he hf ‹_› rfl rfl
    by_cases c : fc = 2
    · subst c
      rw [if_neg (by decide), if_neg (by decide), if_pos rfl] at h
      split at h
      · cases h
      · cases h; exact tile_Of.c2 k n _ _ _ _ _ _ w rfl (by omega) he hf ‹_› rfl rfl
    by_cases c : fc = 3
    · subst c
      rw [if_neg (by decide), if_neg (by decide), if_neg (by decide), if_pos rfl] at h
      split at h
      · cases h
      · cases h; exact tile_Of.c3 k n _ _ _ _ _ _ w rfl (by omega) he hf ‹_› rfl rfl
    by_cases c : fc = 4
    · subst c
      rw [if_neg (by decide), if_neg (by decide), if_neg (by decide), if_neg (by decide), if_pos rfl] at h
      split at h
      · cases h
      · cases h; exact tile_Of.c4 k n _ _ _ _ _ _ w rfl (by omega) he hf ‹_› rfl rfl
    by_cases c : fc = 5
    · subst c
      rw [if_neg (by decide), if_neg (by decide), if_neg (by decide), if_neg (by decide), if_neg (by decide), if_pos rfl] at h
      split at h
      · cases h
      · cases h; exact tile_Of.c5 k n _ _ _ _ _ _ w rfl (by omega) he hf ‹_› rfl rfl
    simp_all
  · rw [if_neg h0] at h; cases h; exact tile_Of.early k _ _ _ _ _ w he h0
end

end Go.Proofs.Ytbaedcjophgiiaa.Q
