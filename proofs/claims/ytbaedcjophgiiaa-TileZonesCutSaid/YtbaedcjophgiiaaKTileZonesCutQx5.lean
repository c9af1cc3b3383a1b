/- Contracts of Go functions of the seat, one by one: each call returns what the Lean function of the same name says, wherever that is 'some'; no other condition. Written by a program of this session. -/
import Derived.Test.YtbaedcjophgiiaaKTileZonesCutQx0
import Derived.Test.YtbaedcjophgiiaaKTileZonesCutQx4
import Derived.BigQuiet
import Derived.BigRegion
import Derived.Deep.QuietTactic
import Derived.LoopIn
import Derived.LoopNIn
import Derived.OwnWalkIn
import Derived.RangeFuncBound
import Derived.RangeFuncCalls
import Derived.RangeFuncLeaves
import Derived.RangeFuncNested
import Derived.RegionTactic
import Derived.Shelf.Abstract
import Derived.Shelf.RegionOpen
import Derived.TacticsInMore
import Derived.WalkKit
namespace Go.Proofs.Ytbaedcjophgiiaa.Q
open Go.RowKit Go.Proofs.YtbaedcjophgiiaaW.PrintWords Go.Proofs.YtbaedcjophgiiaaW.PrintLast Go.Proofs.YtbaedcjophgiiaaW.PrintMore
attribute [local go_sem] max2_int min2_int max_two min_two max_three min_three max_four min_four   -- for this text's walks alone
set_option linter.unusedVariables false
set_option linter.unusedSimpArgs false

/-! ### tile_faceOf: function 78 -/
-- IMPORTS: Derived.RangeFuncNested Derived.RangeFuncBound Derived.RangeFuncCalls Derived.RangeFuncLeaves Derived.Shelf.Abstract Derived.Shelf.RegionOpen Derived.WalkKit Derived.OwnWalkIn Derived.TacticsInMore Derived.LoopNIn Derived.LoopIn Derived.Deep.QuietTactic Derived.BigQuiet Derived.RegionTactic Derived.BigRegion
section
open Go.Proofs Go.RowKit Go.Shelf Go.Proofs.YtbaedcjophgiiaaW.PrintWords Go.Proofs.YtbaedcjophgiiaaW.PrintLast Go.Proofs.YtbaedcjophgiiaaW.PrintMore
def tile_faceOf.a (x : Int) : Int := mx x (wrap64 (-x))
def tile_faceOf.k (x y z : Int) (n : Nat) : Int := if n ≤ 1 then 0 else if n = 2 then (if tile_faceOf.a x < tile_faceOf.a y then 1 else 0) else (if tile_faceOf.a x < tile_faceOf.a y then (if tile_faceOf.a y < tile_faceOf.a z then 2 else 1) else (if tile_faceOf.a x < tile_faceOf.a z then 2 else 0))
def tile_faceOf.f (x y z : Int) : Option Int := some (if tile_faceOf.a x < tile_faceOf.a y then (if tile_faceOf.a y < tile_faceOf.a z then (if z < 0 then 5 else 4) else (if y < 0 then 3 else 2)) else (if tile_faceOf.a x < tile_faceOf.a z then (if z < 0 then 5 else 4) else (if x < 0 then 1 else 0)))
set_option maxHeartbeats 4000000 in
set_option maxRecDepth 100000 in
theorem tile_faceOf.calls (x y z r1 : Int) (w : World) (h : tile_faceOf.f x y z = some r1) :
    Calls Try.prog 78 #[.agg #[.int .i64 x, .int .i64 y, .int .i64 z]] w fun e w' => e = .returned (.int .i64 r1) ∧ Below w.heap.size w w' := by
  obtain ⟨rfl⟩ : r1 = _ := (Option.some.inj h).symm
  clear h
  have hu67 := Try.underlying67
  have hu124 := Try.underlying124
  go_enter Try.func78, Try.ntmps78
  go_wp2_with (go_at_call 79; (with_reducible refine (tile_parts.calls x y z x y z _ rfl).mono ?_); rintro e w1 ⟨rfl, hb⟩)
  have hs := hb.size
  simp only [World.size_alloc] at hs
  have hB1 : Below w.heap.size w w1 := ((Below.refl _ w).alloc (Nat.le_refl _) _).trans (hb.mono (by simp))
  go_loopw [4, 8] (fun v4 v8 wr => ∃ n : Nat, n ≤ 3 ∧ v8 = .int .i64 n ∧ v4 = .int .i64 (tile_faceOf.k x y z n) ∧ wr.heap[w1.heap.size]? = some (.cells #[.int .i64 x, .int .i64 y, .int .i64 z] 124 (0, 0)) ∧ Below w.heap.size w wr)
    (fun _ i _ => 3 - (intOf i).toNat)
  case atStart => exact ⟨0, by omega, rfl, rfl, World.alloc_heap_new w1 _, hB1.alloc (by omega) _⟩
  case round =>
    obtain ⟨n, hn, rfl, rfl, bl, hBr⟩ := hrel
    have f0 := (blk_cell bl 0).trans rfl
    have f1 := (blk_cell bl 1).trans rfl
    have f2 := (blk_cell bl 2).trans rfl
    rcases n with _ | _ | _ | _ | n
    · rw [show tile_faceOf.k x y z 0 = 0 from rfl]
      go_wp2
      go_quiet (fail)
      go_wp2
      exact ⟨⟨1, by omega, rfl, rfl, bl, by apply pw_below_drewN; exact hBr⟩, by simp [intOf]⟩
    · rw [show tile_faceOf.k x y z (0 + 1) = 0 from rfl]
      go_wp2
      go_quiet (fail)
      go_wp2
      all_goals
        rename_i hc
        refine ⟨⟨2, by omega, rfl, ?_, bl, by apply pw_below_drewN; exact hBr⟩, by simp [intOf]⟩
      · exact congrArg (Value.int .i64) (if_pos (show tile_faceOf.a x < tile_faceOf.a y from hc)).symm
      · exact congrArg (Value.int .i64) (if_neg (Int.not_lt.mpr (show tile_faceOf.a y ≤ tile_faceOf.a x from hc))).symm
    · rw [show tile_faceOf.k x y z (0 + 1 + 1) = (if tile_faceOf.a x < tile_faceOf.a y then 1 else 0) from rfl]
      by_cases c : tile_faceOf.a x < tile_faceOf.a y
      · rw [if_pos c]
        go_wp2
        go_quiet (fail)
        go_wp2
        all_goals
          rename_i hc
          refine ⟨⟨3, by omega, rfl, ?_, bl, by apply pw_below_drewN; exact hBr⟩, by simp [intOf]⟩
        · exact congrArg (Value.int .i64) ((if_pos c).trans (if_pos (show tile_faceOf.a y < tile_faceOf.a z from hc))).symm
        · exact congrArg (Value.int .i64) ((if_pos c).trans (if_neg (Int.not_lt.mpr (show tile_faceOf.a z ≤ tile_faceOf.a y from hc)))).symm
      · rw [if_neg c]
        go_wp2
        go_quiet (fail)
        go_wp2
        all_goals
          rename_i hc
          refine ⟨⟨3, by omega, rfl, ?_, bl, by apply pw_below_drewN; exact hBr⟩, by simp [intOf]⟩
        · exact congrArg (Value.int .i64) ((if_neg (Int.not_lt.mpr c)).trans (if_pos (show tile_faceOf.a x < tile_faceOf.a z from hc))).symm
        · exact congrArg (Value.int .i64) ((if_neg (Int.not_lt.mpr c)).trans (if_neg (Int.not_lt.mpr (show tile_faceOf.a z ≤ tile_faceOf.a x from hc)))).symm
    · rw [show tile_faceOf.k x y z (0 + 1 + 1 + 1) = (if tile_faceOf.a x < tile_faceOf.a y then (if tile_faceOf.a y < tile_faceOf.a z then 2 else 1) else (if tile_faceOf.a x < tile_faceOf.a z then 2 else 0)) from rfl]
      by_cases c : tile_faceOf.a x < tile_faceOf.a y
      · rw [if_pos c]
        by_cases c2 : tile_faceOf.a y < tile_faceOf.a z
        · rw [if_pos c2]
          go_wp2
          · rename_i hc
            go_ret
            exact ⟨rfl, hBr⟩
          · rename_i hc
            go_ret
            exact ⟨rfl, hBr⟩
        · rw [if_neg c2]
          go_wp2
          · rename_i hc
            go_ret
            exact ⟨rfl, hBr⟩
          · rename_i hc
            go_ret
            exact ⟨rfl, hBr⟩
      · rw [if_neg c]
        by_cases c2 : tile_faceOf.a x < tile_faceOf.a z
        · rw [if_pos c2]
          go_wp2
          · rename_i hc
            go_ret
            exact ⟨rfl, hBr⟩
          · rename_i hc
            go_ret
            exact ⟨rfl, hBr⟩
        · rw [if_neg c2]
          go_wp2
          · rename_i hc
            go_ret
            exact ⟨rfl, hBr⟩
          · rename_i hc
            go_ret
            exact ⟨rfl, hBr⟩
    · omega
end

end Go.Proofs.Ytbaedcjophgiiaa.Q
