/- Contracts of Go functions of the seat, one by one: each call returns what the Lean function of the same name says, wherever that is 'some'; no other condition. Written by a program of this session. -/
import Derived.Test.YtbaedcjophgiiaaQx0
import Derived.Test.YtbaedcjophgiiaaQx3
import Derived.Test.YtbaedcjophgiiaaQx4
import Derived.Test.YtbaedcjophgiiaaQx10
import Derived.Test.YtbaedcjophgiiaaQx13
import Derived.BigQuiet
import Derived.BigRegion
import Derived.Deep.QuietTactic
import Derived.LoopIn
import Derived.LoopNIn
import Derived.OwnWalkIn
import Derived.RangeFuncBound
import Derived.RangeFuncCalls
import Derived.RangeFuncLeaves
import Derived.RangeFuncNested
import Derived.RegionTactic
import Derived.Shelf.Abstract
import Derived.Shelf.RegionOpen
import Derived.TacticsInMore
import Derived.WalkKit
namespace Go.Proofs.Ytbaedcjophgiiaa.Q
open Go.RowKit Go.Proofs.YtbaedcjophgiiaaW.PrintWords Go.Proofs.YtbaedcjophgiiaaW.PrintLast Go.Proofs.YtbaedcjophgiiaaW.PrintMore
attribute [local go_sem] max2_int min2_int max_two min_two max_three min_three max_four min_four   -- for this text's walks alone
set_option linter.unusedVariables false
set_option linter.unusedSimpArgs false

/-! ### tile_Has: function 47 -/
-- IMPORTS: Derived.RangeFuncNested Derived.RangeFuncBound Derived.RangeFuncCalls Derived.RangeFuncLeaves Derived.Shelf.Abstract Derived.Shelf.RegionOpen Derived.WalkKit Derived.OwnWalkIn Derived.TacticsInMore Derived.LoopNIn Derived.LoopIn Derived.Deep.QuietTactic Derived.BigQuiet Derived.RegionTactic Derived.BigRegion
section
open Go.Proofs Go.RowKit Go.Shelf Go.Proofs.YtbaedcjophgiiaaW.PrintWords Go.Proofs.YtbaedcjophgiiaaW.PrintLast Go.Proofs.YtbaedcjophgiiaaW.PrintMore
theorem tile_Has.axes0 : tile_axes.f 0 = some (0, 1, 2) := by simp [tile_axes.f, wrap64]
theorem tile_Has.axes1 : tile_axes.f 1 = some (0, 1, 2) := by simp [tile_axes.f, wrap64]
theorem tile_Has.axes2 : tile_axes.f 2 = some (1, 2, 0) := by simp [tile_axes.f, wrap64]
theorem tile_Has.axes3 : tile_axes.f 3 = some (1, 2, 0) := by simp [tile_axes.f, wrap64]
theorem tile_Has.axes4 : tile_axes.f 4 = some (2, 0, 1) := by simp [tile_axes.f, wrap64]
theorem tile_Has.axes5 : tile_axes.f 5 = some (2, 0, 1) := by simp [tile_axes.f, wrap64]
set_option maxHeartbeats 4000000 in
set_option maxRecDepth 100000 in
theorem tile_Has.e1 (k : Nat) (t x y z e : Int) (w : World) (h1 : tile_Check.f k t = some e) (hne : e ≠ 0) :
    Calls Try.prog 47 #[.int .i64 t, .agg #[.int .i64 x, .int .i64 y, .int .i64 z]] w fun e w' => e = .returned (.bool false) ∧ Below w.heap.size w w' := by
  have hmf : ∀ (fn : Fn) (first cap : Array Value) (w : World), (Instr.makeFunc fn first cap).run Try.prog w = .ok (.func fn first cap) w := fun _ _ _ _ => rfl
  have hu67 := Try.underlying67
  have hu124 := Try.underlying124
  have ix0 : ∀ w : World, (Instr.index 124 (.agg #[.int .i64 x, .int .i64 y, .int .i64 z]) (.int .i64 0)).run Try.prog w = .ok (.int .i64 x) w := fun _ => by kernel_rfl
  have ix1 : ∀ w : World, (Instr.index 124 (.agg #[.int .i64 x, .int .i64 y, .int .i64 z]) (.int .i64 1)).run Try.prog w = .ok (.int .i64 y) w := fun _ => by kernel_rfl
  have ix2 : ∀ w : World, (Instr.index 124 (.agg #[.int .i64 x, .int .i64 y, .int .i64 z]) (.int .i64 2)).run Try.prog w = .ok (.int .i64 z) w := fun _ => by kernel_rfl
  have lt_ : ∀ {g : Nat} {o : Obj} {V : World}, V.heap[g]? = some o → g < V.heap.size := fun h => (Array.getElem?_eq_some_iff.1 h).1
  have d1 : (e == 0) = false := beq_eq_false_iff_ne.mpr hne
  have d2 : (e != 0) = true := bne_iff_ne.mpr hne
  clear hne
  go_enter Try.func47, Try.ntmps47
  go_wp2_with (first
   | ((with_reducible refine gate_dst (N := 3) rfl ?_); refine bxq_ 3 #[.int .i64 x, .int .i64 y, .int .i64 z] 67 ?_; intro g3 hg w2 b3 hb; have HB2 : Below w.heap.size w w2 := hb; have ge3 : w.heap.size ≤ g3 := Nat.le_of_eq hg.symm; clear hg hb; have lt3 := lt_ b3; have q0 := (blk_cell b3 0).trans rfl; have q1 := (blk_cell b3 1).trans rfl; have q2 := (blk_cell b3 2).trans rfl)
   | (go_at_call 83; (with_reducible refine (tile_Check.calls k t e _ h1).mono ?_); rintro e w' ⟨rfl, ⟨nd, rfl⟩⟩))
  go_ret
  exact ⟨rfl, by repeat (first | exact HB2 | apply pw_below_drewN)⟩
set_option maxHeartbeats 4000000 in
set_option maxRecDepth 100000 in
theorem tile_Has.e2 (k : Nat) (t x y z e : Int) (w : World) (h1 : tile_Check.f k t = some 0) (h2 : sphere_Check.f k x y z = some e) (hne : e ≠ 0) :
    Calls Try.prog 47 #[.int .i64 t, .agg #[.int .i64 x, .int .i64 y, .int .i64 z]] w fun e w' => e = .returned (.bool false) ∧ Below w.heap.size w w' := by
  have hmf : ∀ (fn : Fn) (first cap : Array Value) (w : World), (Instr.makeFunc fn first cap).run Try.prog w = .ok (.func fn first cap) w := fun _ _ _ _ => rfl
  have hu67 := Try.underlying67
  have hu124 := Try.underlying124
  have ix0 : ∀ w : World, (Instr.index 124 (.agg #[.int .i64 x, .int .i64 y, .int .i64 z]) (.int .i64 0)).run Try.prog w = .ok (.int .i64 x) w := fun _ => by kernel_rfl
  have ix1 : ∀ w : World, (Instr.index 124 (.agg #[.int .i64 x, .int .i64 y, .int .i64 z]) (.int .i64 1)).run Try.prog w = .ok (.int .i64 y) w := fun _ => by kernel_rfl
  have ix2 : ∀ w : World, (Instr.index 124 (.agg #[.int .i64 x, .int .i64 y, .int .i64 z]) (.int .i64 2)).run Try.prog w = .ok (.int .i64 z) w := fun _ => by kernel_rfl
  have lt_ : ∀ {g : Nat} {o : Obj} {V : World}, V.heap[g]? = some o → g < V.heap.size := fun h => (Array.getElem?_eq_some_iff.1 h).1
  have d1 : (e == 0) = false := beq_eq_false_iff_ne.mpr hne
  have d2 : (e != 0) = true := bne_iff_ne.mpr hne
  clear hne
  go_enter Try.func47, Try.ntmps47
  go_wp2_with (first
   | ((with_reducible refine gate_dst (N := 3) rfl ?_); refine bxq_ 3 #[.int .i64 x, .int .i64 y, .int .i64 z] 67 ?_; intro g3 hg w2 b3 hb; have HB2 : Below w.heap.size w w2 := hb; have ge3 : w.heap.size ≤ g3 := Nat.le_of_eq hg.symm; clear hg hb; have lt3 := lt_ b3; have q0 := (blk_cell b3 0).trans rfl; have q1 := (blk_cell b3 1).trans rfl; have q2 := (blk_cell b3 2).trans rfl)
   | (go_at_call 83; (with_reducible refine (tile_Check.calls k t 0 _ h1).mono ?_); rintro e w' ⟨rfl, ⟨nd, rfl⟩⟩)
   | (go_at_call 77; (with_reducible refine (sphere_Check.calls k x y z e _ h2).mono ?_); rintro e w4 ⟨rfl, hb⟩; have b4 := (hb.block g3 lt3).trans b3; have HB4 := Below.trans (by repeat (first | exact HB2 | apply pw_below_drewN)) (hb.mono HB2.size); have lt4 := lt_ b4; clear q0 q1 q2 hb; have q0 := (blk_cell b4 0).trans rfl; have q1 := (blk_cell b4 1).trans rfl; have q2 := (blk_cell b4 2).trans rfl))
  go_ret
  exact ⟨rfl, by repeat (first | exact HB4 | apply pw_below_drewN)⟩
set_option maxHeartbeats 4000000 in
set_option maxRecDepth 100000 in
theorem tile_Has.z0 (k : Nat) (t x y z px py lev : Int) (w : World) (h1 : tile_Check.f k t = some 0) (h2 : sphere_Check.f k x y z = some 0) (h3 : tile_spot.f k t = some (0, px, py, lev)) (hm : x = 0) :
    Calls Try.prog 47 #[.int .i64 t, .agg #[.int .i64 x, .int .i64 y, .int .i64 z]] w fun e w' => e = .returned (.bool false) ∧ Below w.heap.size w w' := by
  have hmf : ∀ (fn : Fn) (first cap : Array Value) (w : World), (Instr.makeFunc fn first cap).run Try.prog w = .ok (.func fn first cap) w := fun _ _ _ _ => rfl
  have hu67 := Try.underlying67
  have hu124 := Try.underlying124
  have ix0 : ∀ w : World, (Instr.index 124 (.agg #[.int .i64 x, .int .i64 y, .int .i64 z]) (.int .i64 0)).run Try.prog w = .ok (.int .i64 x) w := fun _ => by kernel_rfl
  have ix1 : ∀ w : World, (Instr.index 124 (.agg #[.int .i64 x, .int .i64 y, .int .i64 z]) (.int .i64 1)).run Try.prog w = .ok (.int .i64 y) w := fun _ => by kernel_rfl
  have ix2 : ∀ w : World, (Instr.index 124 (.agg #[.int .i64 x, .int .i64 y, .int .i64 z]) (.int .i64 2)).run Try.prog w = .ok (.int .i64 z) w := fun _ => by kernel_rfl
  have lt_ : ∀ {g : Nat} {o : Obj} {V : World}, V.heap[g]? = some o → g < V.heap.size := fun h => (Array.getElem?_eq_some_iff.1 h).1
  have d1 : (x == 0) = true := beq_iff_eq.mpr hm
  have d2 : (x != 0) = false := bne_eq_false_iff_eq.mpr hm
  clear hm
  go_enter Try.func47, Try.ntmps47
  go_wp2_with (first
   | ((with_reducible refine gate_dst (N := 3) rfl ?_); refine bxq_ 3 #[.int .i64 x, .int .i64 y, .int .i64 z] 67 ?_; intro g3 hg w2 b3 hb; have HB2 : Below w.heap.size w w2 := hb; have ge3 : w.heap.size ≤ g3 := Nat.le_of_eq hg.symm; clear hg hb; have lt3 := lt_ b3; have q0 := (blk_cell b3 0).trans rfl; have q1 := (blk_cell b3 1).trans rfl; have q2 := (blk_cell b3 2).trans rfl)
   | (go_at_call 83; (with_reducible refine (tile_Check.calls k t 0 _ h1).mono ?_); rintro e w' ⟨rfl, ⟨nd, rfl⟩⟩)
   | (go_at_call 77; (with_reducible refine (sphere_Check.calls k x y z 0 _ h2).mono ?_); rintro e w4 ⟨rfl, hb⟩; have b4 := (hb.block g3 lt3).trans b3; have HB4 := Below.trans (by repeat (first | exact HB2 | apply pw_below_drewN)) (hb.mono HB2.size); have lt4 := lt_ b4; clear q0 q1 q2 hb; have q0 := (blk_cell b4 0).trans rfl; have q1 := (blk_cell b4 1).trans rfl; have q2 := (blk_cell b4 2).trans rfl)
   | (go_at_call 84; (with_reducible refine (tile_spot.calls k t 0 px py lev _ h3).mono ?_); rintro e w' ⟨rfl, ⟨nd2, rfl⟩⟩)
   | (go_at_call 80; (with_reducible refine (tile_axes.calls 0 0 1 2 _ tile_Has.axes0).mono ?_); rintro e w' ⟨rfl, ⟨nd3, rfl⟩⟩)
   | (go_at_call 79; (with_reducible refine (tile_parts.calls x y z x y z _ rfl).mono ?_); rintro e w5 ⟨rfl, hb⟩; have b5 := (hb.block g3 lt4).trans b4; have HB5 := Below.trans (by repeat (first | exact HB4 | apply pw_below_drewN)) (hb.mono HB4.size); have lt5 := lt_ b5; clear hb))
  go_ret
  exact ⟨rfl, by repeat (first | exact HB5 | apply pw_below_drewN)⟩
set_option maxHeartbeats 4000000 in
set_option maxRecDepth 100000 in
theorem tile_Has.n0 (k : Nat) (t x y z px py lev : Int) (w : World) (h1 : tile_Check.f k t = some 0) (h2 : sphere_Check.f k x y z = some 0) (h3 : tile_spot.f k t = some (0, px, py, lev)) (hm : x ≠ 0) (hs : decide (x < 0) = true) :
    Calls Try.prog 47 #[.int .i64 t, .agg #[.int .i64 x, .int .i64 y, .int .i64 z]] w fun e w' => e = .returned (.bool false) ∧ Below w.heap.size w w' := by
  have hmf : ∀ (fn : Fn) (first cap : Array Value) (w : World), (Instr.makeFunc fn first cap).run Try.prog w = .ok (.func fn first cap) w := fun _ _ _ _ => rfl
  have hu67 := Try.underlying67
  have hu124 := Try.underlying124
  have ix0 : ∀ w : World, (Instr.index 124 (.agg #[.int .i64 x, .int .i64 y, .int .i64 z]) (.int .i64 0)).run Try.prog w = .ok (.int .i64 x) w := fun _ => by kernel_rfl
  have ix1 : ∀ w : World, (Instr.index 124 (.agg #[.int .i64 x, .int .i64 y, .int .i64 z]) (.int .i64 1)).run Try.prog w = .ok (.int .i64 y) w := fun _ => by kernel_rfl
  have ix2 : ∀ w : World, (Instr.index 124 (.agg #[.int .i64 x, .int .i64 y, .int .i64 z]) (.int .i64 2)).run Try.prog w = .ok (.int .i64 z) w := fun _ => by kernel_rfl
  have lt_ : ∀ {g : Nat} {o : Obj} {V : World}, V.heap[g]? = some o → g < V.heap.size := fun h => (Array.getElem?_eq_some_iff.1 h).1
  have d1 : (x == 0) = false := beq_eq_false_iff_ne.mpr hm
  have d2 : (x != 0) = true := bne_iff_ne.mpr hm
  clear hm
  go_enter Try.func47, Try.ntmps47
  go_wp2_with (first
   | ((with_reducible refine gate_dst (N := 3) rfl ?_); refine bxq_ 3 #[.int .i64 x, .int .i64 y, .int .i64 z] 67 ?_; intro g3 hg w2 b3 hb; have HB2 : Below w.heap.size w w2 := hb; have ge3 : w.heap.size ≤ g3 := Nat.le_of_eq hg.symm; clear hg hb; have lt3 := lt_ b3; have q0 := (blk_cell b3 0).trans rfl; have q1 := (blk_cell b3 1).trans rfl; have q2 := (blk_cell b3 2).trans rfl)
   | (go_at_call 83; (with_reducible refine (tile_Check.calls k t 0 _ h1).mono ?_); rintro e w' ⟨rfl, ⟨nd, rfl⟩⟩)
   | (go_at_call 77; (with_reducible refine (sphere_Check.calls k x y z 0 _ h2).mono ?_); rintro e w4 ⟨rfl, hb⟩; have b4 := (hb.block g3 lt3).trans b3; have HB4 := Below.trans (by repeat (first | exact HB2 | apply pw_below_drewN)) (hb.mono HB2.size); have lt4 := lt_ b4; clear q0 q1 q2 hb; have q0 := (blk_cell b4 0).trans rfl; have q1 := (blk_cell b4 1).trans rfl; have q2 := (blk_cell b4 2).trans rfl)
   | (go_at_call 84; (with_reducible refine (tile_spot.calls k t 0 px py lev _ h3).mono ?_); rintro e w' ⟨rfl, ⟨nd2, rfl⟩⟩)
   | (go_at_call 80; (with_reducible refine (tile_axes.calls 0 0 1 2 _ tile_Has.axes0).mono ?_); rintro e w' ⟨rfl, ⟨nd3, rfl⟩⟩)
   | (go_at_call 79; (with_reducible refine (tile_parts.calls x y z x y z _ rfl).mono ?_); rintro e w5 ⟨rfl, hb⟩; have b5 := (hb.block g3 lt4).trans b4; have HB5 := Below.trans (by repeat (first | exact HB4 | apply pw_below_drewN)) (hb.mono HB4.size); have lt5 := lt_ b5; clear hb))
  go_ret
  exact ⟨rfl, by repeat (first | exact HB5 | apply pw_below_drewN)⟩
set_option maxHeartbeats 4000000 in
set_option maxRecDepth 100000 in
theorem tile_Has.c0 (k : Nat) (t x y z px py lev : Int) (l : List S67) (b : Bool) (w : World) (h1 : tile_Check.f k t = some 0) (h2 : sphere_Check.f k x y z = some 0) (h3 : tile_spot.f k t = some (0, px, py, lev)) (hm : x ≠ 0) (hs : decide (x < 0) = false) (h4 : tile_sides.f k t = some l) (h5 : slices_ContainsFunc_api_Vec_api_Vec__tile_Has_1.f k l [⟨x, y, z⟩] = some b) :
    Calls Try.prog 47 #[.int .i64 t, .agg #[.int .i64 x, .int .i64 y, .int .i64 z]] w fun e w' => e = .returned (.bool (!b)) ∧ Below w.heap.size w w' := by
  have hmf : ∀ (fn : Fn) (first cap : Array Value) (w : World), (Instr.makeFunc fn first cap).run Try.prog w = .ok (.func fn first cap) w := fun _ _ _ _ => rfl
  have hu67 := Try.underlying67
  have hu124 := Try.underlying124
  have ix0 : ∀ w : World, (Instr.index 124 (.agg #[.int .i64 x, .int .i64 y, .int .i64 z]) (.int .i64 0)).run Try.prog w = .ok (.int .i64 x) w := fun _ => by kernel_rfl
  have ix1 : ∀ w : World, (Instr.index 124 (.agg #[.int .i64 x, .int .i64 y, .int .i64 z]) (.int .i64 1)).run Try.prog w = .ok (.int .i64 y) w := fun _ => by kernel_rfl
  have ix2 : ∀ w : World, (Instr.index 124 (.agg #[.int .i64 x, .int .i64 y, .int .i64 z]) (.int .i64 2)).run Try.prog w = .ok (.int .i64 z) w := fun _ => by kernel_rfl
  have lt_ : ∀ {g : Nat} {o : Obj} {V : World}, V.heap[g]? = some o → g < V.heap.size := fun h => (Array.getElem?_eq_some_iff.1 h).1
  have d1 : (x == 0) = false := beq_eq_false_iff_ne.mpr hm
  have d2 : (x != 0) = true := bne_iff_ne.mpr hm
  clear hm
  go_enter Try.func47, Try.ntmps47
  go_wp2_with (first
   | ((with_reducible refine gate_dst (N := 3) rfl ?_); refine bxq_ 3 #[.int .i64 x, .int .i64 y, .int .i64 z] 67 ?_; intro g3 hg w2 b3 hb; have HB2 : Below w.heap.size w w2 := hb; have ge3 : w.heap.size ≤ g3 := Nat.le_of_eq hg.symm; clear hg hb; have lt3 := lt_ b3; have q0 := (blk_cell b3 0).trans rfl; have q1 := (blk_cell b3 1).trans rfl; have q2 := (blk_cell b3 2).trans rfl)
   | (go_at_call 83; (with_reducible refine (tile_Check.calls k t 0 _ h1).mono ?_); rintro e w' ⟨rfl, ⟨nd, rfl⟩⟩)
   | (go_at_call 77; (with_reducible refine (sphere_Check.calls k x y z 0 _ h2).mono ?_); rintro e w4 ⟨rfl, hb⟩; have b4 := (hb.block g3 lt3).trans b3; have HB4 := Below.trans (by repeat (first | exact HB2 | apply pw_below_drewN)) (hb.mono HB2.size); have lt4 := lt_ b4; clear q0 q1 q2 hb; have q0 := (blk_cell b4 0).trans rfl; have q1 := (blk_cell b4 1).trans rfl; have q2 := (blk_cell b4 2).trans rfl)
   | (go_at_call 84; (with_reducible refine (tile_spot.calls k t 0 px py lev _ h3).mono ?_); rintro e w' ⟨rfl, ⟨nd2, rfl⟩⟩)
   | (go_at_call 80; (with_reducible refine (tile_axes.calls 0 0 1 2 _ tile_Has.axes0).mono ?_); rintro e w' ⟨rfl, ⟨nd3, rfl⟩⟩)
   | (go_at_call 79; (with_reducible refine (tile_parts.calls x y z x y z _ rfl).mono ?_); rintro e w5 ⟨rfl, hb⟩; have b5 := (hb.block g3 lt4).trans b4; have HB5 := Below.trans (by repeat (first | exact HB4 | apply pw_below_drewN)) (hb.mono HB4.size); have lt5 := lt_ b5; clear hb)
   | (go_at_call 85; (with_reducible refine (tile_sides.calls k t l _ h4).mono ?_); rintro e w6 ⟨v0, rfl, hR6, hb⟩; obtain ⟨A6, c6, rfl, hl6, hC6⟩ := Kd.R_reads hR6; have b6 := (hb.block g3 lt5).trans b5; have HB6 := HB5.trans (hb.mono HB5.size); clear hb)
   | (go_at_call 49; (with_reducible refine (slices_ContainsFunc_api_Vec_api_Vec__tile_Has_1.calls k A6 c6 l (some ⟨g3, 0, none⟩) 1 [⟨x, y, z⟩] b _ hC6 hl6 ?sC ?sL h5).mono ?_); (case sC => exact cap_C (T := 67) (cs := #[.int .i64 x, .int .i64 y, .int .i64 z]) b6 (k67_mk _ _) rfl); (case sL => exact Nat.le_refl _); rintro e w7 ⟨rfl, hb⟩; have HB7 := HB6.trans (hb.mono HB6.size); clear hb))
  go_ret
  exact ⟨rfl, by repeat (first | exact HB7 | apply pw_below_drewN)⟩
set_option maxHeartbeats 4000000 in
set_option maxRecDepth 100000 in
theorem tile_Has.z1 (k : Nat) (t x y z px py lev : Int) (w : World) (h1 : tile_Check.f k t = some 0) (h2 : sphere_Check.f k x y z = some 0) (h3 : tile_spot.f k t = some (1, px, py, lev)) (hm : x = 0) :
    Calls Try.prog 47 #[.int .i64 t, .agg #[.int .i64 x, .int .i64 y, .int .i64 z]] w fun e w' => e = .returned (.bool false) ∧ Below w.heap.size w w' := by
  have hmf : ∀ (fn : Fn) (first cap : Array Value) (w : World), (Instr.makeFunc fn first cap).run Try.prog w = .ok (.func fn first cap) w := fun _ _ _ _ => rfl
  have hu67 := Try.underlying67
  have hu124 := Try.underlying124
  have ix0 : ∀ w : World, (Instr.index 124 (.agg #[.int .i64 x, .int .i64 y, .int .i64 z]) (.int .i64 0)).run Try.prog w = .ok (.int .i64 x) w := fun _ => by kernel_rfl
  have ix1 : ∀ w : World, (Instr.index 124 (.agg #[.int .i64 x, .int .i64 y, .int .i64 z]) (.int .i64 1)).run Try.prog w = .ok (.int .i64 y) w := fun _ => by kernel_rfl
  have ix2 : ∀ w : World, (Instr.index 124 (.agg #[.int .i64 x, .int .i64 y, .int .i64 z]) (.int .i64 2)).run Try.prog w = .ok (.int .i64 z) w := fun _ => by kernel_rfl
  have lt_ : ∀ {g : Nat} {o : Obj} {V : World}, V.heap[g]? = some o → g < V.heap.size := fun h => (Array.getElem?_eq_some_iff.1 h).1
  have d1 : (x == 0) = true := beq_iff_eq.mpr hm
  have d2 : (x != 0) = false := bne_eq_false_iff_eq.mpr hm
  clear hm
  go_enter Try.func47, Try.ntmps47
  go_wp2_with (first
   | ((with_reducible refine gate_dst (N := 3) rfl ?_); refine bxq_ 3 #[.int .i64 x, .int .i64 y, .int .i64 z] 67 ?_; intro g3 hg w2 b3 hb; have HB2 : Below w.heap.size w w2 := hb; have ge3 : w.heap.size ≤ g3 := Nat.le_of_eq hg.symm; clear hg hb; have lt3 := lt_ b3; have q0 := (blk_cell b3 0).trans rfl; have q1 := (blk_cell b3 1).trans rfl; have q2 := (blk_cell b3 2).trans rfl)
   | (go_at_call 83; (with_reducible refine (tile_Check.calls k t 0 _ h1).mono ?_); rintro e w' ⟨rfl, ⟨nd, rfl⟩⟩)
   | (go_at_call 77; (with_reducible refine (sphere_Check.calls k x y z 0 _ h2).mono ?_); rintro e w4 ⟨rfl, hb⟩; have b4 := (hb.block g3 lt3).trans b3; have HB4 := Below.trans (by repeat (first | exact HB2 | apply pw_below_drewN)) (hb.mono HB2.size); have lt4 := lt_ b4; clear q0 q1 q2 hb; have q0 := (blk_cell b4 0).trans rfl; have q1 := (blk_cell b4 1).trans rfl; have q2 := (blk_cell b4 2).trans rfl)
   | (go_at_call 84; (with_reducible refine (tile_spot.calls k t 1 px py lev _ h3).mono ?_); rintro e w' ⟨rfl, ⟨nd2, rfl⟩⟩)
   | (go_at_call 80; (with_reducible refine (tile_axes.calls 1 0 1 2 _ tile_Has.axes1).mono ?_); rintro e w' ⟨rfl, ⟨nd3, rfl⟩⟩)
   | (go_at_call 79; (with_reducible refine (tile_parts.calls x y z x y z _ rfl).mono ?_); rintro e w5 ⟨rfl, hb⟩; have b5 := (hb.block g3 lt4).trans b4; have HB5 := Below.trans (by repeat (first | exact HB4 | apply pw_below_drewN)) (hb.mono HB4.size); have lt5 := lt_ b5; clear hb))
  go_ret
  exact ⟨rfl, by repeat (first | exact HB5 | apply pw_below_drewN)⟩
set_option maxHeartbeats 4000000 in
set_option maxRecDepth 100000 in
theorem tile_Has.n1 (k : Nat) (t x y z px py lev : Int) (w : World) (h1 : tile_Check.f k t = some 0) (h2 : sphere_Check.f k x y z = some 0) (h3 : tile_spot.f k t = some (1, px, py, lev)) (hm : x ≠ 0) (hs : decide (x < 0) = false) :
    Calls Try.prog 47 #[.int .i64 t, .agg #[.int .i64 x, .int .i64 y, .int .i64 z]] w fun e w' => e = .returned (.bool false) ∧ Below w.heap.size w w' := by
  have hmf : ∀ (fn : Fn) (first cap : Array Value) (w : World), (Instr.makeFunc fn first cap).run Try.prog w = .ok (.func fn first cap) w := fun _ _ _ _ => rfl
  have hu67 := Try.underlying67
  have hu124 := Try.underlying124
  have ix0 : ∀ w : World, (Instr.index 124 (.agg #[.int .i64 x, .int .i64 y, .int .i64 z]) (.int .i64 0)).run Try.prog w = .ok (.int .i64 x) w := fun _ => by kernel_rfl
  have ix1 : ∀ w : World, (Instr.index 124 (.agg #[.int .i64 x, .int .i64 y, .int .i64 z]) (.int .i64 1)).run Try.prog w = .ok (.int .i64 y) w := fun _ => by kernel_rfl
  have ix2 : ∀ w : World, (Instr.index 124 (.agg #[.int .i64 x, .int .i64 y, .int .i64 z]) (.int .i64 2)).run Try.prog w = .ok (.int .i64 z) w := fun _ => by kernel_rfl
  have lt_ : ∀ {g : Nat} {o : Obj} {V : World}, V.heap[g]? = some o → g < V.heap.size := fun h => (Array.getElem?_eq_some_iff.1 h).1
  have d1 : (x == 0) = false := beq_eq_false_iff_ne.mpr hm
  have d2 : (x != 0) = true := bne_iff_ne.mpr hm
  clear hm
  go_enter Try.func47, Try.ntmps47
  go_wp2_with (first
   | ((with_reducible refine gate_dst (N := 3) rfl ?_); refine bxq_ 3 #[.int .i64 x, .int .i64 y, .int .i64 z] 67 ?_; intro g3 hg w2 b3 hb; have HB2 : Below w.heap.size w w2 := hb; have ge3 : w.heap.size ≤ g3 := Nat.le_of_eq hg.symm; clear hg hb; have lt3 := lt_ b3; have q0 := (blk_cell b3 0).trans rfl; have q1 := (blk_cell b3 1).trans rfl; have q2 := (blk_cell b3 2).trans rfl)
   | (go_at_call 83; (with_reducible refine (tile_Check.calls k t 0 _ h1).mono ?_); rintro e w' ⟨rfl, ⟨nd, rfl⟩⟩)
   | (go_at_call 77; (with_reducible refine (sphere_Check.calls k x y z 0 _ h2).mono ?_); rintro e w4 ⟨rfl, hb⟩; have b4 := (hb.block g3 lt3).trans b3; have HB4 := Below.trans (by repeat (first | exact HB2 | apply pw_below_drewN)) (hb.mono HB2.size); have lt4 := lt_ b4; clear q0 q1 q2 hb; have q0 := (blk_cell b4 0).trans rfl; have q1 := (blk_cell b4 1).trans rfl; have q2 := (blk_cell b4 2).trans rfl)
   | (go_at_call 84; (with_reducible refine (tile_spot.calls k t 1 px py lev _ h3).mono ?_); rintro e w' ⟨rfl, ⟨nd2, rfl⟩⟩)
   | (go_at_call 80; (with_reducible refine (tile_axes.calls 1 0 1 2 _ tile_Has.axes1).mono ?_); rintro e w' ⟨rfl, ⟨nd3, rfl⟩⟩)
   | (go_at_call 79; (with_reducible refine (tile_parts.calls x y z x y z _ rfl).mono ?_); rintro e w5 ⟨rfl, hb⟩; have b5 := (hb.block g3 lt4).trans b4; have HB5 := Below.trans (by repeat (first | exact HB4 | apply pw_below_drewN)) (hb.mono HB4.size); have lt5 := lt_ b5; clear hb))
  go_ret
  exact ⟨rfl, by repeat (first | exact HB5 | apply pw_below_drewN)⟩
set_option maxHeartbeats 4000000 in
set_option maxRecDepth 100000 in
theorem tile_Has.c1 (k : Nat) (t x y z px py lev : Int) (l : List S67) (b : Bool) (w : World) (h1 : tile_Check.f k t = some 0) (h2 : sphere_Check.f k x y z = some 0) (h3 : tile_spot.f k t = some (1, px, py, lev)) (hm : x ≠ 0) (hs : decide (x < 0) = true) (h4 : tile_sides.f k t = some l) (h5 : slices_ContainsFunc_api_Vec_api_Vec__tile_Has_1.f k l [⟨x, y, z⟩] = some b) :
    Calls Try.prog 47 #[.int .i64 t, .agg #[.int .i64 x, .int .i64 y, .int .i64 z]] w fun e w' => e = .returned (.bool (!b)) ∧ Below w.heap.size w w' := by
  have hmf : ∀ (fn : Fn) (first cap : Array Value) (w : World), (Instr.makeFunc fn first cap).run Try.prog w = .ok (.func fn first cap) w := fun _ _ _ _ => rfl
  have hu67 := Try.underlying67
  have hu124 := Try.underlying124
  have ix0 : ∀ w : World, (Instr.index 124 (.agg #[.int .i64 x, .int .i64 y, .int .i64 z]) (.int .i64 0)).run Try.prog w = .ok (.int .i64 x) w := fun _ => by kernel_rfl
  have ix1 : ∀ w : World, (Instr.index 124 (.agg #[.int .i64 x, .int .i64 y, .int .i64 z]) (.int .i64 1)).run Try.prog w = .ok (.int .i64 y) w := fun _ => by kernel_rfl
  have ix2 : ∀ w : World, (Instr.index 124 (.agg #[.int .i64 x, .int .i64 y, .int .i64 z]) (.int .i64 2)).run Try.prog w = .ok (.int .i64 z) w := fun _ => by kernel_rfl
  have lt_ : ∀ {g : Nat} {o : Obj} {V : World}, V.heap[g]? = some o → g < V.heap.size := fun h => (Array.getElem?_eq_some_iff.1 h).1
  have d1 : (x == 0) = false := beq_eq_false_iff_ne.mpr hm
  have d2 : (x != 0) = true := bne_iff_ne.mpr hm
  clear hm
  go_enter Try.func47, Try.ntmps47
  go_wp2_with (first
   | ((with_reducible refine gate_dst (N := 3) rfl ?_); refine bxq_ 3 #[.int .i64 x, .int .i64 y, .int .i64 z] 67 ?_; intro g3 hg w2 b3 hb; have HB2 : Below w.heap.size w w2 := hb; have ge3 : w.heap.size ≤ g3 := Nat.le_of_eq hg.symm; clear hg hb; have lt3 := lt_ b3; have q0 := (blk_cell b3 0).trans rfl; have q1 := (blk_cell b3 1).trans rfl; have q2 := (blk_cell b3 2).trans rfl)
   | (go_at_call 83; (with_reducible refine (tile_Check.calls k t 0 _ h1).mono ?_); rintro e w' ⟨rfl, ⟨nd, rfl⟩⟩)
   | (go_at_call 77; (with_reducible refine (sphere_Check.calls k x y z 0 _ h2).mono ?_); rintro e w4 ⟨rfl, hb⟩; have b4 := (hb.block g3 lt3).trans b3; have HB4 := Below.trans (by repeat (first | exact HB2 | apply pw_below_drewN)) (hb.mono HB2.size); have lt4 := lt_ b4; clear q0 q1 q2 hb; have q0 := (blk_cell b4 0).trans rfl; have q1 := (blk_cell b4 1).trans rfl; have q2 := (blk_cell b4 2).trans rfl)
   | (go_at_call 84; (with_reducible refine (tile_spot.calls k t 1 px py lev _ h3).mono ?_); rintro e w' ⟨rfl, ⟨nd2, rfl⟩⟩)
   | (go_at_call 80; (with_reducible refine (tile_axes.calls 1 0 1 2 _ tile_Has.axes1).mono ?_); rintro e w' ⟨rfl, ⟨nd3, rfl⟩⟩)
   | (go_at_call 79; (with_reducible refine (tile_parts.calls x y z x y z _ rfl).mono ?_); rintro e w5 ⟨rfl, hb⟩; have b5 := (hb.block g3 lt4).trans b4; have HB5 := Below.trans (by repeat (first | exact HB4 | apply pw_below_drewN)) (hb.mono HB4.size); have lt5 := lt_ b5; clear hb)
   | (go_at_call 85; (with_reducible refine (tile_sides.calls k t l _ h4).mono ?_); rintro e w6 ⟨v0, rfl, hR6, hb⟩; obtain ⟨A6, c6, rfl, hl6, hC6⟩ := Kd.R_reads hR6; have b6 := (hb.block g3 lt5).trans b5; have HB6 := HB5.trans (hb.mono HB5.size); clear hb)
   | (go_at_call 49; (with_reducible refine (slices_ContainsFunc_api_Vec_api_Vec__tile_Has_1.calls k A6 c6 l (some ⟨g3, 0, none⟩) 1 [⟨x, y, z⟩] b _ hC6 hl6 ?sC ?sL h5).mono ?_); (case sC => exact cap_C (T := 67) (cs := #[.int .i64 x, .int .i64 y, .int .i64 z]) b6 (k67_mk _ _) rfl); (case sL => exact Nat.le_refl _); rintro e w7 ⟨rfl, hb⟩; have HB7 := HB6.trans (hb.mono HB6.size); clear hb))
  go_ret
  exact ⟨rfl, by repeat (first | exact HB7 | apply pw_below_drewN)⟩
set_option maxHeartbeats 4000000 in
set_option maxRecDepth 100000 in
theorem tile_Has.z2 (k : Nat) (t x y z px py lev : Int) (w : World) (h1 : tile_Check.f k t = some 0) (h2 : sphere_Check.f k x y z = some 0) (h3 : tile_spot.f k t = some (2, px, py, lev)) (hm : y = 0) :
    Calls Try.prog 47 #[.int .i64 t, .agg #[.int .i64 x, .int .i64 y, .int .i64 z]] w fun e w' => e = .returned (.bool false) ∧ Below w.heap.size w w' := by
  have hmf : ∀ (fn : Fn) (first cap : Array Value) (w : World), (Instr.makeFunc fn first cap).run Try.prog w = .ok (.func fn first cap) w := fun _ _ _ _ => rfl
  have hu67 := Try.underlying67
  have hu124 := Try.underlying124
  have ix0 : ∀ w : World, (Instr.index 124 (.agg #[.int .i64 x, .int .i64 y, .int .i64 z]) (.int .i64 0)).run Try.prog w = .ok (.int .i64 x) w := fun _ => by kernel_rfl
  have ix1 : ∀ w : World, (Instr.index 124 (.agg #[.int .i64 x, .int .i64 y, .int .i64 z]) (.int .i64 1)).run Try.prog w = .ok (.int .i64 y) w := fun _ => by kernel_rfl
  have ix2 : ∀ w : World, (Instr.index 124 (.agg #[.int .i64 x, .int .i64 y, .int .i64 z]) (.int .i64 2)).run Try.prog w = .ok (.int .i64 z) w := fun _ => by kernel_rfl
  have lt_ : ∀ {g : Nat} {o : Obj} {V : World}, V.heap[g]? = some o → g < V.heap.size := fun h => (Array.getElem?_eq_some_iff.1 h).1
  have d1 : (y == 0) = true := beq_iff_eq.mpr hm
  have d2 : (y != 0) = false := bne_eq_false_iff_eq.mpr hm
  clear hm
  go_enter Try.func47, Try.ntmps47
  go_wp2_with (first
   | ((with_reducible refine gate_dst (N := 3) rfl ?_); refine bxq_ 3 #[.int .i64 x, .int .i64 y, .int .i64 z] 67 ?_; intro g3 hg w2 b3 hb; have HB2 : Below w.heap.size w w2 := hb; have ge3 : w.heap.size ≤ g3 := Nat.le_of_eq hg.symm; clear hg hb; have lt3 := lt_ b3; have q0 := (blk_cell b3 0).trans rfl; have q1 := (blk_cell b3 1).trans rfl; have q2 := (blk_cell b3 2).trans rfl)
   | (go_at_call 83; (with_reducible refine (tile_Check.calls k t 0 _ h1).mono ?_); rintro e w' ⟨rfl, ⟨nd, rfl⟩⟩)
   | (go_at_call 77; (with_reducible refine (sphere_Check.calls k x y z 0 _ h2).mono ?_); rintro e w4 ⟨rfl, hb⟩; have b4 := (hb.block g3 lt3).trans b3; have HB4 := Below.trans (by repeat (first | exact HB2 | apply pw_below_drewN)) (hb.mono HB2.size); have lt4 := lt_ b4; clear q0 q1 q2 hb; have q0 := (blk_cell b4 0).trans rfl; have q1 := (blk_cell b4 1).trans rfl; have q2 := (blk_cell b4 2).trans rfl)
   | (go_at_call 84; (with_reducible refine (tile_spot.calls k t 2 px py lev _ h3).mono ?_); rintro e w' ⟨rfl, ⟨nd2, rfl⟩⟩)
   | (go_at_call 80; (with_reducible refine (tile_axes.calls 2 1 2 0 _ tile_Has.axes2).mono ?_); rintro e w' ⟨rfl, ⟨nd3, rfl⟩⟩)
   | (go_at_call 79; (with_reducible refine (tile_parts.calls x y z x y z _ rfl).mono ?_); rintro e w5 ⟨rfl, hb⟩; have b5 := (hb.block g3 lt4).trans b4; have HB5 := Below.trans (by repeat (first | exact HB4 | apply pw_below_drewN)) (hb.mono HB4.size); have lt5 := lt_ b5; clear hb))
  go_ret
  exact ⟨rfl, by repeat (first | exact HB5 | apply pw_below_drewN)⟩
set_option maxHeartbeats 4000000 in
set_option maxRecDepth 100000 in
theorem tile_Has.n2 (k : Nat) (t x y z px py lev : Int) (w : World) (h1 : tile_Check.f k t = some 0) (h2 : sphere_Check.f k x y z = some 0) (h3 : tile_spot.f k t = some (2, px, py, lev)) (hm : y ≠ 0) (hs : decide (y < 0) = true) :
    Calls Try.prog 47 #[.int .i64 t, .agg #[.int .i64 x, .int .i64 y, .int .i64 z]] w fun e w' => e = .returned (.bool false) ∧ Below w.heap.size w w' := by
  have hmf : ∀ (fn : Fn) (first cap : Array Value) (w : World), (Instr.makeFunc fn first cap).run Try.prog w = .ok (.func fn first cap) w := fun _ _ _ _ => rfl
  have hu67 := Try.underlying67
  have hu124 := Try.underlying124
  have ix0 : ∀ w : World, (Instr.index 124 (.agg #[.int .i64 x, .int .i64 y, .int .i64 z]) (.int .i64 0)).run Try.prog w = .ok (.int .i64 x) w := fun _ => by kernel_rfl
  have ix1 : ∀ w : World, (Instr.index 124 (.agg #[.int .i64 x, .int .i64 y, .int .i64 z]) (.int .i64 1)).run Try.prog w = .ok (.int .i64 y) w := fun _ => by kernel_rfl
  have ix2 : ∀ w : World, (Instr.index 124 (.agg #[.int .i64 x, .int .i64 y, .int .i64 z]) (.int .i64 2)).run Try.prog w = .ok (.int .i64 z) w := fun _ => by kernel_rfl
  have lt_ : ∀ {g : Nat} {o : Obj} {V : World}, V.heap[g]? = some o → g < V.heap.size := fun h => (Array.getElem?_eq_some_iff.1 h).1
  have d1 : (y == 0) = false := beq_eq_false_iff_ne.mpr hm
  have d2 : (y != 0) = true := bne_iff_ne.mpr hm
  clear hm
  go_enter Try.func47, Try.ntmps47
  go_wp2_with (first
   | ((with_reducible refine gate_dst (N := 3) rfl ?_); refine bxq_ 3 #[.int .i64 x, .int .i64 y, .int .i64 z] 67 ?_; intro g3 hg w2 b3 hb; have HB2 : Below w.heap.size w w2 := hb; have ge3 : w.heap.size ≤ g3 := Nat.le_of_eq hg.symm; clear hg hb; have lt3 := lt_ b3; have q0 := (blk_cell b3 0).trans rfl; have q1 := (blk_cell b3 1).trans rfl; have q2 := (blk_cell b3 2).trans rfl)
   | (go_at_call 83; (with_reducible refine (tile_Check.calls k t 0 _ h1).mono ?_); rintro e w' ⟨rfl, ⟨nd, rfl⟩⟩)
   | (go_at_call 77; (with_reducible refine (sphere_Check.calls k x y z 0 _ h2).mono ?_); rintro e w4 ⟨rfl, hb⟩; have b4 := (hb.block g3 lt3).trans b3; have HB4 := Below.trans (by repeat (first | exact HB2 | apply pw_below_drewN)) (hb.mono HB2.size); have lt4 := lt_ b4; clear q0 q1 q2 hb; have q0 := (blk_cell b4 0).trans rfl; have q1 := (blk_cell b4 1).trans rfl; have q2 := (blk_cell b4 2).trans rfl)
   | (go_at_call 84; (with_reducible refine (tile_spot.calls k t 2 px py lev _ h3).mono ?_); rintro e w' ⟨rfl, ⟨nd2, rfl⟩⟩)
   | (go_at_call 80; (with_reducible refine (tile_axes.calls 2 1 2 0 _ tile_Has.axes2).mono ?_); rintro e w' ⟨rfl, ⟨nd3, rfl⟩⟩)
   | (go_at_call 79; (with_reducible refine (tile_parts.calls x y z x y z _ rfl).mono ?_); rintro e w5 ⟨rfl, hb⟩; have b5 := (hb.block g3 lt4).trans b4; have HB5 := Below.trans (by repeat (first | exact HB4 | apply pw_below_drewN)) (hb.mono HB4.size); have lt5 := lt_ b5; clear hb))
  go_ret
  exact ⟨rfl, by repeat (first | exact HB5 | apply pw_below_drewN)⟩
set_option maxHeartbeats 4000000 in
set_option maxRecDepth 100000 in
theorem tile_Has.c2 (k : Nat) (t x y z px py lev : Int) (l : List S67) (b : Bool) (w : World) (h1 : tile_Check.f k t = some 0) (h2 : sphere_Check.f k x y z = some 0) (h3 : tile_spot.f k t = some (2, px, py, lev)) (hm : y ≠ 0) (hs : decide (y < 0) = false) (h4 : tile_sides.f k t = some l) (h5 : slices_ContainsFunc_api_Vec_api_Vec__tile_Has_1.f k l [⟨x, y, z⟩] = some b) :
    Calls Try.prog 47 #[.int .i64 t, .agg #[.int .i64 x, .int .i64 y, .int .i64 z]] w fun e w' => e = .returned (.bool (!b)) ∧ Below w.heap.size w w' := by
  have hmf : ∀ (fn : Fn) (first cap : Array Value) (w : World), (Instr.makeFunc fn first cap).run Try.prog w = .ok (.func fn first cap) w := fun _ _ _ _ => rfl
  have hu67 := Try.underlying67
  have hu124 := Try.underlying124
  have ix0 : ∀ w : World, (Instr.index 124 (.agg #[.int .i64 x, .int .i64 y, .int .i64 z]) (.int .i64 0)).run Try.prog w = .ok (.int .i64 x) w := fun _ => by kernel_rfl
  have ix1 : ∀ w : World, (Instr.index 124 (.agg #[.int .i64 x, .int .i64 y, .int .i64 z]) (.int .i64 1)).run Try.prog w = .ok (.int .i64 y) w := fun _ => by kernel_rfl
  have ix2 : ∀ w : World, (Instr.index 124 (.agg #[.int .i64 x, .int .i64 y, .int .i64 z]) (.int .i64 2)).run Try.prog w = .ok (.int .i64 z) w := fun _ => by kernel_rfl
  have lt_ : ∀ {g : Nat} {o : Obj} {V : World}, V.heap[g]? = some o → g < V.heap.size := fun h => (Array.getElem?_eq_some_iff.1 h).1
  have d1 : (y == 0) = false := beq_eq_false_iff_ne.mpr hm
  have d2 : (y != 0) = true := bne_iff_ne.mpr hm
  clear hm
  go_enter Try.func47, Try.ntmps47
  go_wp2_with (first
   | ((with_reducible refine gate_dst (N := 3) rfl ?_); refine bxq_ 3 #[.int .i64 x, .int .i64 y, .int .i64 z] 67 ?_; intro g3 hg w2 b3 hb; have HB2 : Below w.heap.size w w2 := hb; have ge3 : w.heap.size ≤ g3 := Nat.le_of_eq hg.symm; clear hg hb; have lt3 := lt_ b3; have q0 := (blk_cell b3 0).trans rfl; have q1 := (blk_cell b3 1).trans rfl; have q2 := (blk_cell b3 2).trans rfl)
   | (go_at_call 83; (with_reducible refine (tile_Check.calls k t 0 _ h1).mono ?_); rintro e w' ⟨rfl, ⟨nd, rfl⟩⟩)
   | (go_at_call 77; (with_reducible refine (sphere_Check.calls k x y z 0 _ h2).mono ?_); rintro e w4 ⟨rfl, hb⟩; have b4 := (hb.block g3 lt3).trans b3; have HB4 := Below.trans (by repeat (first | exact HB2 | apply pw_below_drewN)) (hb.mono HB2.size); have lt4 := lt_ b4; clear q0 q1 q2 hb; have q0 := (blk_cell b4 0).trans rfl; have q1 := (blk_cell b4 1).trans rfl; have q2 := (blk_cell b4 2).trans rfl)
   | (go_at_call 84; (with_reducible refine (tile_spot.calls k t 2 px py lev _ h3).mono ?_); rintro e w' ⟨rfl, ⟨nd2, rfl⟩⟩)
   | (go_at_call 80; (with_reducible refine (tile_axes.calls 2 1 2 0 _ tile_Has.axes2).mono ?_); rintro e w' ⟨rfl, ⟨nd3, rfl⟩⟩)
   | (go_at_call 79; (with_reducible refine (tile_parts.calls x y z x y z _ rfl).mono ?_); rintro e w5 ⟨rfl, hb⟩; have b5 := (hb.block g3 lt4).trans b4; have HB5 := Below.trans (by repeat (first | exact HB4 | apply pw_below_drewN)) (hb.mono HB4.size); have lt5 := lt_ b5; clear hb)
   | (go_at_call 85; (with_reducible refine (tile_sides.calls k t l _ h4).mono ?_); rintro e w6 ⟨v0, rfl, hR6, hb⟩; obtain ⟨A6, c6, rfl, hl6, hC6⟩ := Kd.R_reads hR6; have b6 := (hb.block g3 lt5).trans b5; have HB6 := HB5.trans (hb.mono HB5.size); clear hb)
   | (go_at_call 49; (with_reducible refine (slices_ContainsFunc_api_Vec_api_Vec__tile_Has_1.calls k A6 c6 l (some ⟨g3, 0, none⟩) 1 [⟨x, y, z⟩] b _ hC6 hl6 ?sC ?sL h5).mono ?_); (case sC => exact cap_C (T := 67) (cs := #[.int .i64 x, .int .i64 y, .int .i64 z]) b6 (k67_mk _ _) rfl); (case sL => exact Nat.le_refl _); rintro e w7 ⟨rfl, hb⟩; have HB7 := HB6.trans (hb.mono HB6.size); clear hb))
  go_ret
  exact ⟨rfl, by repeat (first | exact HB7 | apply pw_below_drewN)⟩
set_option maxHeartbeats 4000000 in
set_option maxRecDepth 100000 in
theorem tile_Has.z3 (k : Nat) (t x y z px py lev : Int) (w : World) (h1 : tile_Check.f k t = some 0) (h2 : sphere_Check.f k x y z = some 0) (h3 : tile_spot.f k t = some (3, px, py, lev)) (hm : y = 0) :
    Calls Try.prog 47 #[.int .i64 t, .agg #[.int .i64 x, .int .i64 y, .int .i64 z]] w fun e w' => e = .returned (.bool false) ∧ Below w.heap.size w w' := by
  have hmf : ∀ (fn : Fn) (first cap : Array Value) (w : World), (Instr.makeFunc fn first cap).run Try.prog w = .ok (.func fn first cap) w := fun _ _ _ _ => rfl
  have hu67 := Try.underlying67
  have hu124 := Try.underlying124
  have ix0 : ∀ w : World, (Instr.index 124 (.agg #[.int .i64 x, .int .i64 y, .int .i64 z]) (.int .i64 0)).run Try.prog w = .ok (.int .i64 x) w := fun _ => by kernel_rfl
  have ix1 : ∀ w : World, (Instr.index 124 (.agg #[.int .i64 x, .int .i64 y, .int .i64 z]) (.int .i64 1)).run Try.prog w = .ok (.int .i64 y) w := fun _ => by kernel_rfl
  have ix2 : ∀ w : World, (Instr.index 124 (.agg #[.int .i64 x, .int .i64 y, .int .i64 z]) (.int .i64 2)).run Try.prog w = .ok (.int .i64 z) w := fun _ => by kernel_rfl
  have lt_ : ∀ {g : Nat} {o : Obj} {V : World}, V.heap[g]? = some o → g < V.heap.size := fun h => (Array.getElem?_eq_some_iff.1 h).1
  have d1 : (y == 0) = true := beq_iff_eq.mpr hm
  have d2 : (y != 0) = false := bne_eq_false_iff_eq.mpr hm
  clear hm
  go_enter Try.func47, Try.ntmps47
  go_wp2_with (first
   | ((with_reducible refine gate_dst (N := 3) rfl ?_); refine bxq_ 3 #[.int .i64 x, .int .i64 y, .int .i64 z] 67 ?_; intro g3 hg w2 b3 hb; have HB2 : Below w.heap.size w w2 := hb; have ge3 : w.heap.size ≤ g3 := Nat.le_of_eq hg.symm; clear hg hb; have lt3 := lt_ b3; have q0 := (blk_cell b3 0).trans rfl; have q1 := (blk_cell b3 1).trans rfl; have q2 := (blk_cell b3 2).trans rfl)
   | (go_at_call 83; (with_reducible refine (tile_Check.calls k t 0 _ h1).mono ?_); rintro e w' ⟨rfl, ⟨nd, rfl⟩⟩)
   | (go_at_call 77; (with_reducible refine (sphere_Check.calls k x y z 0 _ h2).mono ?_); rintro e w4 ⟨rfl, hb⟩; have b4 := (hb.block g3 lt3).trans b3; have HB4 := Below.trans (by repeat (first | exact HB2 | apply pw_below_drewN)) (hb.mono HB2.size); have lt4 := lt_ b4; clear q0 q1 q2 hb; have q0 := (blk_cell b4 0).trans rfl; have q1 := (blk_cell b4 1).trans rfl; have q2 := (blk_cell b4 2).trans rfl)
   | (go_at_call 84; (with_reducible refine (tile_spot.calls k t 3 px py lev _ h3).mono ?_); rintro e w' ⟨rfl, ⟨nd2, rfl⟩⟩)
   | (go_at_call 80; (with_reducible refine (tile_axes.calls 3 1 2 0 _ tile_Has.axes3).mono ?_); rintro e w' ⟨rfl, ⟨nd3, rfl⟩⟩)
   | (go_at_call 79; (with_reducible refine (tile_parts.calls x y z x y z _ rfl).mono ?_); rintro e w5 ⟨rfl, hb⟩; have b5 := (hb.block g3 lt4).trans b4; have HB5 := Below.trans (by repeat (first | exact HB4 | apply pw_below_drewN)) (hb.mono HB4.size); have lt5 := lt_ b5; clear hb))
  go_ret
  exact ⟨rfl, by repeat (first | exact HB5 | apply pw_below_drewN)⟩
set_option maxHeartbeats 4000000 in
set_option maxRecDepth 100000 in
theorem tile_Has.n3 (k : Nat) (t x y z px py lev : Int) (w : World) (h1 : tile_Check.f k t = some 0) (h2 : sphere_Check.f k x y z = some 0) (h3 : tile_spot.f k t = some (3, px, py, lev)) (hm : y ≠ 0) (hs : decide (y < 0) = false) :
    Calls Try.prog 47 #[.int .i64 t, .agg #[.int .i64 x, .int .i64 y, .int .i64 z]] w fun e w' => e = .returned (.bool false) ∧ Below w.heap.size w w' := by
  have hmf : ∀ (fn : Fn) (first cap : Array Value) (w : World), (Instr.makeFunc fn first cap).run Try.prog w = .ok (.func fn first cap) w := fun _ _ _ _ => rfl
  have hu67 := Try.underlying67
  have hu124 := Try.underlying124
  have ix0 : ∀ w : World, (Instr.index 124 (.agg #[.int .i64 x, .int .i64 y, .int .i64 z]) (.int .i64 0)).run Try.prog w = .ok (.int .i64 x) w := fun _ => by kernel_rfl
  have ix1 : ∀ w : World, (Instr.index 124 (.agg #[.int .i64 x, .int .i64 y, .int .i64 z]) (.int .i64 1)).run Try.prog w = .ok (.int .i64 y) w := fun _ => by kernel_rfl
  have ix2 : ∀ w : World, (Instr.index 124 (.agg #[.int .i64 x, .int .i64 y, .int .i64 z]) (.int .i64 2)).run Try.prog w = .ok (.int .i64 z) w := fun _ => by kernel_rfl
  have lt_ : ∀ {g : Nat} {o : Obj} {V : World}, V.heap[g]? = some o → g < V.heap.size := fun h => (Array.getElem?_eq_some_iff.1 h).1
  have d1 : (y == 0) = false := beq_eq_false_iff_ne.mpr hm
  have d2 : (y != 0) = true := bne_iff_ne.mpr hm
  clear hm
  go_enter Try.func47, Try.ntmps47
  go_wp2_with (first
   | ((with_reducible refine gate_dst (N := 3) rfl ?_); refine bxq_ 3 #[.int .i64 x, .int .i64 y, .int .i64 z] 67 ?_; intro g3 hg w2 b3 hb; have HB2 : Below w.heap.size w w2 := hb; have ge3 : w.heap.size ≤ g3 := Nat.le_of_eq hg.symm; clear hg hb; have lt3 := lt_ b3; have q0 := (blk_cell b3 0).trans rfl; have q1 := (blk_cell b3 1).trans rfl; have q2 := (blk_cell b3 2).trans rfl)
   | (go_at_call 83; (with_reducible refine (tile_Check.calls k t 0 _ h1).mono ?_); rintro e w' ⟨rfl, ⟨nd, rfl⟩⟩)
   | (go_at_call 77; (with_reducible refine (sphere_Check.calls k x y z 0 _ h2).mono ?_); rintro e w4 ⟨rfl, hb⟩; have b4 := (hb.block g3 lt3).trans b3; have HB4 := Below.trans (by repeat (first | exact HB2 | apply pw_below_drewN)) (hb.mono HB2.size); have lt4 := lt_ b4; clear q0 q1 q2 hb; have q0 := (blk_cell b4 0).trans rfl; have q1 := (blk_cell b4 1).trans rfl; have q2 := (blk_cell b4 2).trans rfl)
   | (go_at_call 84; (with_reducible refine (tile_spot.calls k t 3 px py lev _ h3).mono ?_); rintro e w' ⟨rfl, ⟨nd2, rfl⟩⟩)
   | (go_at_call 80; (with_reducible refine (tile_axes.calls 3 1 2 0 _ tile_Has.axes3).mono ?_); rintro e w' ⟨rfl, ⟨nd3, rfl⟩⟩)
   | (go_at_call 79; (with_reducible refine (tile_parts.calls x y z x y z _ rfl).mono ?_); rintro e w5 ⟨rfl, hb⟩; have b5 := (hb.block g3 lt4).trans b4; have HB5 := Below.trans (by repeat (first | exact HB4 | apply pw_below_drewN)) (hb.mono HB4.size); have lt5 := lt_ b5; clear hb))
  go_ret
  exact ⟨rfl, by repeat (first | exact HB5 | apply pw_below_drewN)⟩
set_option maxHeartbeats 4000000 in
set_option maxRecDepth 100000 in
theorem tile_Has.c3 (k : Nat) (t x y z px py lev : Int) (l : List S67) (b : Bool) (w : World) (h1 : tile_Check.f k t = some 0) (h2 : sphere_Check.f k x y z = some 0) (h3 : tile_spot.f k t = some (3, px, py, lev)) (hm : y ≠ 0) (hs : decide (y < 0) = true) (h4 : tile_sides.f k t = some l) (h5 : slices_ContainsFunc_api_Vec_api_Vec__tile_Has_1.f k l [⟨x, y, z⟩] = some b) :
    Calls Try.prog 47 #[.int .i64 t, .agg #[.int .i64 x, .int .i64 y, .int .i64 z]] w fun e w' => e = .returned (.bool (!b)) ∧ Below w.heap.size w w' := by
  have hmf : ∀ (fn : Fn) (first cap : Array Value) (w : World), (Instr.makeFunc fn first cap).run Try.prog w = .ok (.func fn first cap) w := fun _ _ _ _ => rfl
  have hu67 := Try.underlying67
  have hu124 := Try.underlying124
  have ix0 : ∀ w : World, (Instr.index 124 (.agg #[.int .i64 x, .int .i64 y, .int .i64 z]) (.int .i64 0)).run Try.prog w = .ok (.int .i64 x) w := fun _ => by kernel_rfl
  have ix1 : ∀ w : World, (Instr.index 124 (.agg #[.int .i64 x, .int .i64 y, .int .i64 z]) (.int .i64 1)).run Try.prog w = .ok (.int .i64 y) w := fun _ => by kernel_rfl
  have ix2 : ∀ w : World, (Instr.index 124 (.agg #[.int .i64 x, .int .i64 y, .int .i64 z]) (.int .i64 2)).run Try.prog w = .ok (.int .i64 z) w := fun _ => by kernel_rfl
  have lt_ : ∀ {g : Nat} {o : Obj} {V : World}, V.heap[g]? = some o → g < V.heap.size := fun h => (Array.getElem?_eq_some_iff.1 h).1
  have d1 : (y == 0) = false := beq_eq_false_iff_ne.mpr hm
  have d2 : (y != 0) = true := bne_iff_ne.mpr hm
  clear hm
  go_enter Try.func47, Try.ntmps47
  go_wp2_with (first
   | ((with_reducible refine gate_dst (N := 3) rfl ?_); refine bxq_ 3 #[.int .i64 x, .int .i64 y, .int .i64 z] 67 ?_; intro g3 hg w2 b3 hb; have HB2 : Below w.heap.size w w2 := hb; have ge3 : w.heap.size ≤ g3 := Nat.le_of_eq hg.symm; clear hg hb; have lt3 := lt_ b3; have q0 := (blk_cell b3 0).trans rfl; have q1 := (blk_cell b3 1).trans rfl; have q2 := (blk_cell b3 2).trans rfl)
   | (go_at_call 83; (with_reducible refine (tile_Check.calls k t 0 _ h1).mono ?_); rintro e w' ⟨rfl, ⟨nd, rfl⟩⟩)
   | (go_at_call 77; (with_reducible refine (sphere_Check.calls k x y z 0 _ h2).mono ?_); rintro e w4 ⟨rfl, hb⟩; have b4 := (hb.block g3 lt3).trans b3; have HB4 := Below.trans (by repeat (first | exact HB2 | apply pw_below_drewN)) (hb.mono HB2.size); have lt4 := lt_ b4; clear q0 q1 q2 hb; have q0 := (blk_cell b4 0).trans rfl; have q1 := (blk_cell b4 1).trans rfl; have q2 := (blk_cell b4 2).trans rfl)
   | (go_at_call 84; (with_reducible refine (tile_spot.calls k t 3 px py lev _ h3).mono ?_); rintro e w' ⟨rfl, ⟨nd2, rfl⟩⟩)
   | (go_at_call 80; (with_reducible refine (tile_axes.calls 3 1 2 0 _ tile_Has.axes3).mono ?_); rintro e w' ⟨rfl, ⟨nd3, rfl⟩⟩)
   | (go_at_call 79; (with_reducible refine (tile_parts.calls x y z x y z _ rfl).mono ?_); rintro e w5 ⟨rfl, hb⟩; have b5 := (hb.block g3 lt4).trans b4; have HB5 := Below.trans (by repeat (first | exact HB4 | apply pw_below_drewN)) (hb.mono HB4.size); have lt5 := lt_ b5; clear hb)
   | (go_at_call 85; (with_reducible refine (tile_sides.calls k t l _ h4).mono ?_); rintro e w6 ⟨v0, rfl, hR6, hb⟩; obtain ⟨A6, c6, rfl, hl6, hC6⟩ := Kd.R_reads hR6; have b6 := (hb.block g3 lt5).trans b5; have HB6 := HB5.trans (hb.mono HB5.size); clear hb)
   | (go_at_call 49; (with_reducible refine (slices_ContainsFunc_api_Vec_api_Vec__tile_Has_1.calls k A6 c6 l (some ⟨g3, 0, none⟩) 1 [⟨x, y, z⟩] b _ hC6 hl6 ?sC ?sL h5).mono ?_); (case sC => exact cap_C (T := 67) (cs := #[.int .i64 x, .int .i64 y, .int .i64 z]) b6 (k67_mk _ _) rfl); (case sL => exact Nat.le_refl _); rintro e w7 ⟨rfl, hb⟩; have HB7 := HB6.trans (hb.mono HB6.size); clear hb))
  go_ret
  exact ⟨rfl, by repeat (first | exact HB7 | apply pw_below_drewN)⟩
set_option maxHeartbeats 4000000 in
set_option maxRecDepth 100000 in
theorem tile_Has.z4 (k : Nat) (t x y z px py lev : Int) (w : World) (h1 : tile_Check.f k t = some 0) (h2 : sphere_Check.f k x y z = some 0) (h3 : tile_spot.f k t = some (4, px, py, lev)) (hm : z = 0) :
    Calls Try.prog 47 #[.int .i64 t, .agg #[.int .i64 x, .int .i64 y, .int .i64 z]] w fun e w' => e = .returned (.bool false) ∧ Below w.heap.size w w' := by
  have hmf : ∀ (fn : Fn) (first cap : Array Value) (w : World), (Instr.makeFunc fn first cap).run Try.prog w = .ok (.func fn first cap) w := fun _ _ _ _ => rfl
  have hu67 := Try.underlying67
  have hu124 := Try.underlying124
  have ix0 : ∀ w : World, (Instr.index 124 (.agg #[.int .i64 x, .int .i64 y, .int .i64 z]) (.int .i64 0)).run Try.prog w = .ok (.int .i64 x) w := fun _ => by kernel_rfl
  have ix1 : ∀ w : World, (Instr.index 124 (.agg #[.int .i64 x, .int .i64 y, .int .i64 z]) (.int .i64 1)).run Try.prog w = .ok (.int .i64 y) w := fun _ => by kernel_rfl
  have ix2 : ∀ w : World, (Instr.index 124 (.agg #[.int .i64 x, .int .i64 y, .int .i64 z]) (.int .i64 2)).run Try.prog w = .ok (.int .i64 z) w := fun _ => by kernel_rfl
  have lt_ : ∀ {g : Nat} {o : Obj} {V : World}, V.heap[g]? = some o → g < V.heap.size := fun h => (Array.getElem?_eq_some_iff.1 h).1
  have d1 : (z == 0) = true := beq_iff_eq.mpr hm
  have d2 : (z != 0) = false := bne_eq_false_iff_eq.mpr hm
  clear hm
  go_enter Try.func47, Try.ntmps47
  go_wp2_with (first
   | ((with_reducible refine gate_dst (N := 3) rfl ?_); refine bxq_ 3 #[.int .i64 x, .int .i64 y, .int .i64 z] 67 ?_; intro g3 hg w2 b3 hb; have HB2 : Below w.heap.size w w2 := hb; have ge3 : w.heap.size ≤ g3 := Nat.le_of_eq hg.symm; clear hg hb; have lt3 := lt_ b3; have q0 := (blk_cell b3 0).trans rfl; have q1 := (blk_cell b3 1).trans rfl; have q2 := (blk_cell b3 2).trans rfl)
   | (go_at_call 83; (with_reducible refine (tile_Check.calls k t 0 _ h1).mono ?_); rintro e w' ⟨rfl, ⟨nd, rfl⟩⟩)
   | (go_at_call 77; (with_reducible refine (sphere_Check.calls k x y z 0 _ h2).mono ?_); rintro e w4 ⟨rfl, hb⟩; have b4 := (hb.block g3 lt3).trans b3; have HB4 := Below.trans (by repeat (first | exact HB2 | apply pw_below_drewN)) (hb.mono HB2.size); have lt4 := lt_ b4; clear q0 q1 q2 hb; have q0 := (blk_cell b4 0).trans rfl; have q1 := (blk_cell b4 1).trans rfl; have q2 := (blk_cell b4 2).trans rfl)
   | (go_at_call 84; (with_reducible refine (tile_spot.calls k t 4 px py lev _ h3).mono ?_); rintro e w' ⟨rfl, ⟨nd2, rfl⟩⟩)
   | (go_at_call 80; (with_reducible refine (tile_axes.calls 4 2 0 1 _ tile_Has.axes4).mono ?_); rintro e w' ⟨rfl, ⟨nd3, rfl⟩⟩)
   | (go_at_call 79; (with_reducible refine (tile_parts.calls x y z x y z _ rfl).mono ?_); rintro e w5 ⟨rfl, hb⟩; have b5 := (hb.block g3 lt4).trans b4; have HB5 := Below.trans (by repeat (first | exact HB4 | apply pw_below_drewN)) (hb.mono HB4.size); have lt5 := lt_ b5; clear hb))
  go_ret
  exact ⟨rfl, by repeat (first | exact HB5 | apply pw_below_drewN)⟩
set_option maxHeartbeats 4000000 in
set_option maxRecDepth 100000 in
theorem tile_Has.n4 (k : Nat) (t x y z px py lev : Int) (w : World) (h1 : tile_Check.f k t = some 0) (h2 : sphere_Check.f k x y z = some 0) (h3 : tile_spot.f k t = some (4, px, py, lev)) (hm : z ≠ 0) (hs : decide (z < 0) = true) :
    Calls Try.prog 47 #[.int .i64 t, .agg #[.int .i64 x, .int .i64 y, .int .i64 z]] w fun e w' => e = .returned (.bool false) ∧ Below w.heap.size w w' := by
  have hmf : ∀ (fn : Fn) (first cap : Array Value) (w : World), (Instr.makeFunc fn first cap).run Try.prog w = .ok (.func fn first cap) w := fun _ _ _ _ => rfl
  have hu67 := Try.underlying67
  have hu124 := Try.underlying124
  have ix0 : ∀ w : World, (Instr.index 124 (.agg #[.int .i64 x, .int .i64 y, .int .i64 z]) (.int .i64 0)).run Try.prog w = .ok (.int .i64 x) w := fun _ => by kernel_rfl
  have ix1 : ∀ w : World, (Instr.index 124 (.agg #[.int .i64 x, .int .i64 y, .int .i64 z]) (.int .i64 1)).run Try.prog w = .ok (.int .i64 y) w := fun _ => by kernel_rfl
  have ix2 : ∀ w : World, (Instr.index 124 (.agg #[.int .i64 x, .int .i64 y, .int .i64 z]) (.int .i64 2)).run Try.prog w = .ok (.int .i64 z) w := fun _ => by kernel_rfl
  have lt_ : ∀ {g : Nat} {o : Obj} {V : World}, V.heap[g]? = some o → g < V.heap.size := fun h => (Array.getElem?_eq_some_iff.1 h).1
  have d1 : (z == 0) = false := beq_eq_false_iff_ne.mpr hm
  have d2 : (z != 0) = true := bne_iff_ne.mpr hm
  clear hm
  go_enter Try.func47, Try.ntmps47
  go_wp2_with (first
   | ((with_reducible refine gate_dst (N := 3) rfl ?_); refine bxq_ 3 #[.int .i64 x, .int .i64 y, .int .i64 z] 67 ?_; intro g3 hg w2 b3 hb; have HB2 : Below w.heap.size w w2 := hb; have ge3 : w.heap.size ≤ g3 := Nat.le_of_eq hg.symm; clear hg hb; have lt3 := lt_ b3; have q0 := (blk_cell b3 0).trans rfl; have q1 := (blk_cell b3 1).trans rfl; have q2 := (blk_cell b3 2).trans rfl)
   | (go_at_call 83; (with_reducible refine (tile_Check.calls k t 0 _ h1).mono ?_); rintro e w' ⟨rfl, ⟨nd, rfl⟩⟩)
   | (go_at_call 77; (with_reducible refine (sphere_Check.calls k x y z 0 _ h2).mono ?_); rintro e w4 ⟨rfl, hb⟩; have b4 := (hb.block g3 lt3).trans b3; have HB4 := Below.trans (by repeat (first | exact HB2 | apply pw_below_drewN)) (hb.mono HB2.size); have lt4 := lt_ b4; clear q0 q1 q2 hb; have q0 := (blk_cell b4 0).trans rfl; have q1 := (blk_cell b4 1).trans rfl; have q2 := (blk_cell b4 2).trans rfl)
   | (go_at_call 84; (with_reducible refine (tile_spot.calls k t 4 px py lev _ h3).mono ?_); rintro e w' ⟨rfl, ⟨nd2, rfl⟩⟩)
   | (go_at_call 80; (with_reducible refine (tile_axes.calls 4 2 0 1 _ tile_Has.axes4).mono ?_); rintro e w' ⟨rfl, ⟨nd3, rfl⟩⟩)
   | (go_at_call 79; (with_reducible refine (tile_parts.calls x y z x y z _ rfl).mono ?_); rintro e w5 ⟨rfl, hb⟩; have b5 := (hb.block g3 lt4).trans b4; have HB5 := Below.trans (by repeat (first | exact HB4 | apply pw_below_drewN)) (hb.mono HB4.size); have lt5 := lt_ b5; clear hb))
  go_ret
  exact ⟨rfl, by repeat (first | exact HB5 | apply pw_below_drewN)⟩
set_option maxHeartbeats 4000000 in
set_option maxRecDepth 100000 in
theorem tile_Has.c4 (k : Nat) (t x y z px py lev : Int) (l : List S67) (b : Bool) (w : World) (h1 : tile_Check.f k t = some 0) (h2 : sphere_Check.f k x y z = some 0) (h3 : tile_spot.f k t = some (4, px, py, lev)) (hm : z ≠ 0) (hs : decide (z < 0) = false) (h4 : tile_sides.f k t = some l) (h5 : slices_ContainsFunc_api_Vec_api_Vec__tile_Has_1.f k l [⟨x, y, z⟩] = some b) :
    Calls Try.prog 47 #[.int .i64 t, .agg #[.int .i64 x, .int .i64 y, .int .i64 z]] w fun e w' => e = .returned (.bool (!b)) ∧ Below w.heap.size w w' := by
  have hmf : ∀ (fn : Fn) (first cap : Array Value) (w : World), (Instr.makeFunc fn first cap).run Try.prog w = .ok (.func fn first cap) w := fun _ _ _ _ => rfl
  have hu67 := Try.underlying67
  have hu124 := Try.underlying124
  have ix0 : ∀ w : World, (Instr.index 124 (.agg #[.int .i64 x, .int .i64 y, .int .i64 z]) (.int .i64 0)).run Try.prog w = .ok (.int .i64 x) w := fun _ => by kernel_rfl
  have ix1 : ∀ w : World, (Instr.index 124 (.agg #[.int .i64 x, .int .i64 y, .int .i64 z]) (.int .i64 1)).run Try.prog w = .ok (.int .i64 y) w := fun _ => by kernel_rfl
  have ix2 : ∀ w : World, (Instr.index 124 (.agg #[.int .i64 x, .int .i64 y, .int .i64 z]) (.int .i64 2)).run Try.prog w = .ok (.int .i64 z) w := fun _ => by kernel_rfl
  have lt_ : ∀ {g : Nat} {o : Obj} {V : World}, V.heap[g]? = some o → g < V.heap.size := fun h => (Array.getElem?_eq_some_iff.1 h).1
  have d1 : (z == 0) = false := beq_eq_false_iff_ne.mpr hm
  have d2 : (z != 0) = true := bne_iff_ne.mpr hm
  clear hm
  go_enter Try.func47, Try.ntmps47
  go_wp2_with (first
   | ((with_reducible refine gate_dst (N := 3) rfl ?_); refine bxq_ 3 #[.int .i64 x, .int .i64 y, .int .i64 z] 67 ?_; intro g3 hg w2 b3 hb; have HB2 : Below w.heap.size w w2 := hb; have ge3 : w.heap.size ≤ g3 := Nat.le_of_eq hg.symm; clear hg hb; have lt3 := lt_ b3; have q0 := (blk_cell b3 0).trans rfl; have q1 := (blk_cell b3 1).trans rfl; have q2 := (blk_cell b3 2).trans rfl)
   | (go_at_call 83; (with_reducible refine (tile_Check.calls k t 0 _ h1).mono ?_); rintro e w' ⟨rfl, ⟨nd, rfl⟩⟩)
   | (go_at_call 77; (with_reducible refine (sphere_Check.calls k x y z 0 _ h2).mono ?_); rintro e w4 ⟨rfl, hb⟩; have b4 := (hb.block g3 lt3).trans b3; have HB4 := Below.trans (by repeat (first | exact HB2 | apply pw_below_drewN)) (hb.mono HB2.size); have lt4 := lt_ b4; clear q0 q1 q2 hb; have q0 := (blk_cell b4 0).trans rfl; have q1 := (blk_cell b4 1).trans rfl; have q2 := (blk_cell b4 2).trans rfl)
   | (go_at_call 84; (with_reducible refine (tile_spot.calls k t 4 px py lev _ h3).mono ?_); rintro e w' ⟨rfl, ⟨nd2, rfl⟩⟩)
   | (go_at_call 80; (with_reducible refine (tile_axes.calls 4 2 0 1 _ tile_Has.axes4).mono ?_); rintro e w' ⟨rfl, ⟨nd3, rfl⟩⟩)
   | (go_at_call 79; (with_reducible refine (tile_parts.calls x y z x y z _ rfl).mono ?_); rintro e w5 ⟨rfl, hb⟩; have b5 := (hb.block g3 lt4).trans b4; have HB5 := Below.trans (by repeat (first | exact HB4 | apply pw_below_drewN)) (hb.mono HB4.size); have lt5 := lt_ b5; clear hb)
   | (go_at_call 85; (with_reducible refine (tile_sides.calls k t l _ h4).mono ?_); rintro e w6 ⟨v0, rfl, hR6, hb⟩; obtain ⟨A6, c6, rfl, hl6, hC6⟩ := Kd.R_reads hR6; have b6 := (hb.block g3 lt5).trans b5; have HB6 := HB5.trans (hb.mono HB5.size); clear hb)
   | (go_at_call 49; (with_reducible refine (slices_ContainsFunc_api_Vec_api_Vec__tile_Has_1.calls k A6 c6 l (some ⟨g3, 0, none⟩) 1 [⟨x, y, z⟩] b _ hC6 hl6 ?sC ?sL h5).mono ?_); (case sC => exact cap_C (T := 67) (cs := #[.int .i64 x, .int .i64 y, .int .i64 z]) b6 (k67_mk _ _) rfl); (case sL => exact Nat.le_refl _); rintro e w7 ⟨rfl, hb⟩; have HB7 := HB6.trans (hb.mono HB6.size); clear hb))
  go_ret
  exact ⟨rfl, by repeat (first | exact HB7 | apply pw_below_drewN)⟩
set_option maxHeartbeats 4000000 in
set_option maxRecDepth 100000 in
theorem tile_Has.z5 (k : Nat) (t x y z px py lev : Int) (w : World) (h1 : tile_Check.f k t = some 0) (h2 : sphere_Check.f k x y z = some 0) (h3 : tile_spot.f k t = some (5, px, py, lev)) (hm : z = 0) :
    Calls Try.prog 47 #[.int .i64 t, .agg #[.int .i64 x, .int .i64 y, .int .i64 z]] w fun e w' => e = .returned (.bool false) ∧ Below w.heap.size w w' := by
  have hmf : ∀ (fn : Fn) (first cap : Array Value) (w : World), (Instr.makeFunc fn first cap).run Try.prog w = .ok (.func fn first cap) w := fun _ _ _ _ => rfl
  have hu67 := Try.underlying67
  have hu124 := Try.underlying124
  have ix0 : ∀ w : World, (Instr.index 124 (.agg #[.int .i64 x, .int .i64 y, .int .i64 z]) (.int .i64 0)).run Try.prog w = .ok (.int .i64 x) w := fun _ => by kernel_rfl
  have ix1 : ∀ w : World, (Instr.index 124 (.agg #[.int .i64 x, .int .i64 y, .int .i64 z]) (.int .i64 1)).run Try.prog w = .ok (.int .i64 y) w := fun _ => by kernel_rfl
  have ix2 : ∀ w : World, (Instr.index 124 (.agg #[.int .i64 x, .int .i64 y, .int .i64 z]) (.int .i64 2)).run Try.prog w = .ok (.int .i64 z) w := fun _ => by kernel_rfl
  have lt_ : ∀ {g : Nat} {o : Obj} {V : World}, V.heap[g]? = some o → g < V.heap.size := fun h => (Array.getElem?_eq_some_iff.1 h).1
  have d1 : (z == 0) = true := beq_iff_eq.mpr hm
  have d2 : (z != 0) = false := bne_eq_false_iff_eq.mpr hm
  clear hm
  go_enter Try.func47, Try.ntmps47
  go_wp2_with (first
   | ((with_reducible refine gate_dst (N := 3) rfl ?_); refine bxq_ 3 #[.int .i64 x, .int .i64 y, .int .i64 z] 67 ?_; intro g3 hg w2 b3 hb; have HB2 : Below w.heap.size w w2 := hb; have ge3 : w.heap.size ≤ g3 := Nat.le_of_eq hg.symm; clear hg hb; have lt3 := lt_ b3; have q0 := (blk_cell b3 0).trans rfl; have q1 := (blk_cell b3 1).trans rfl; have q2 := (blk_cell b3 2).trans rfl)
   | (go_at_call 83; (with_reducible refine (tile_Check.calls k t 0 _ h1).mono ?_); rintro e w' ⟨rfl, ⟨nd, rfl⟩⟩)
   | (go_at_call 77; (with_reducible refine (sphere_Check.calls k x y z 0 _ h2).mono ?_); rintro e w4 ⟨rfl, hb⟩; have b4 := (hb.block g3 lt3).trans b3; have HB4 := Below.trans (by repeat (first | exact HB2 | apply pw_below_drewN)) (hb.mono HB2.size); have lt4 := lt_ b4; clear q0 q1 q2 hb; have q0 := (blk_cell b4 0).trans rfl; have q1 := (blk_cell b4 1).trans rfl; have q2 := (blk_cell b4 2).trans rfl)
   | (go_at_call 84; (with_reducible refine (tile_spot.calls k t 5 px py lev _ h3).mono ?_); rintro e w' ⟨rfl, ⟨nd2, rfl⟩⟩)
   | (go_at_call 80; (with_reducible refine (tile_axes.calls 5 2 0 1 _ tile_Has.axes5).mono ?_); rintro e w' ⟨rfl, ⟨nd3, rfl⟩⟩)
   | (go_at_call 79; (with_reducible refine (tile_parts.calls x y z x y z _ rfl).mono ?_); rintro e w5 ⟨rfl, hb⟩; have b5 := (hb.block g3 lt4).trans b4; have HB5 := Below.trans (by repeat (first | exact HB4 | apply pw_below_drewN)) (hb.mono HB4.size); have lt5 := lt_ b5; clear hb))
  go_ret
  exact ⟨rfl, by repeat (first | exact HB5 | apply pw_below_drewN)⟩
set_option maxHeartbeats 4000000 in
set_option maxRecDepth 100000 in
theorem tile_Has.n5 (k : Nat) (t x y z px py lev : Int) (w : World) (h1 : tile_Check.f k t = some 0) (h2 : sphere_Check.f k x y z = some 0) (h3 : tile_spot.f k t = some (5, px, py, lev)) (hm : z ≠ 0) (hs : decide (z < 0) = false) :
    Calls Try.prog 47 #[.int .i64 t, .agg #[.int .i64 x, .int .i64 y, .int .i64 z]] w fun e w' => e = .returned (.bool false) ∧ Below w.heap.size w w' := by
  have hmf : ∀ (fn : Fn) (first cap : Array Value) (w : World), (Instr.makeFunc fn first cap).run Try.prog w = .ok (.func fn first cap) w := fun _ _ _ _ => rfl
  have hu67 := Try.underlying67
  have hu124 := Try.underlying124
  have ix0 : ∀ w : World, (Instr.index 124 (.agg #[.int .i64 x, .int .i64 y, .int .i64 z]) (.int .i64 0)).run Try.prog w = .ok (.int .i64 x) w := fun _ => by kernel_rfl
  have ix1 : ∀ w : World, (Instr.index 124 (.agg #[.int .i64 x, .int .i64 y, .int .i64 z]) (.int .i64 1)).run Try.prog w = .ok (.int .i64 y) w := fun _ => by kernel_rfl
  have ix2 : ∀ w : World, (Instr.index 124 (.agg #[.int .i64 x, .int .i64 y, .int .i64 z]) (.int .i64 2)).run Try.prog w = .ok (.int .i64 z) w := fun _ => by kernel_rfl
  have lt_ : ∀ {g : Nat} {o : Obj} {V : World}, V.heap[g]? = some o → g < V.heap.size := fun h => (Array.getElem?_eq_some_iff.1 h).1
  have d1 : (z == 0) = false := beq_eq_false_iff_ne.mpr hm
  have d2 : (z != 0) = true := bne_iff_ne.mpr hm
  clear hm
  go_enter Try.func47, Try.ntmps47
  go_wp2_with (first
   | ((with_reducible refine gate_dst (N := 3) rfl ?_); refine bxq_ 3 #[.int .i64 x, .int .i64 y, .int .i64 z] 67 ?_; intro g3 hg w2 b3 hb; have HB2 : Below w.heap.size w w2 := hb; have ge3 : w.heap.size ≤ g3 := Nat.le_of_eq hg.symm; clear hg hb; have lt3 := lt_ b3; have q0 := (blk_cell b3 0).trans rfl; have q1 := (blk_cell b3 1).trans rfl; have q2 := (blk_cell b3 2).trans rfl)
   | (go_at_call 83; (with_reducible refine (tile_Check.calls k t 0 _ h1).mono ?_); rintro e w' ⟨rfl, ⟨nd, rfl⟩⟩)
   | (go_at_call 77; (with_reducible refine (sphere_Check.calls k x y z 0 _ h2).mono ?_); rintro e w4 ⟨rfl, hb⟩; have b4 := (hb.block g3 lt3).trans b3; have HB4 := Below.trans (by repeat (first | exact HB2 | apply pw_below_drewN)) (hb.mono HB2.size); have lt4 := lt_ b4; clear q0 q1 q2 hb; have q0 := (blk_cell b4 0).trans rfl; have q1 := (blk_cell b4 1).trans rfl; have q2 := (blk_cell b4 2).trans rfl)
   | (go_at_call 84; (with_reducible refine (tile_spot.calls k t 5 px py lev _ h3).mono ?_); rintro e w' ⟨rfl, ⟨nd2, rfl⟩⟩)
   | (go_at_call 80; (with_reducible refine (tile_axes.calls 5 2 0 1 _ tile_Has.axes5).mono ?_); rintro e w' ⟨rfl, ⟨nd3, rfl⟩⟩)
   | (go_at_call 79; (with_reducible refine (tile_parts.calls x y z x y z _ rfl).mono ?_); rintro e w5 ⟨rfl, hb⟩; have b5 := (hb.block g3 lt4).trans b4; have HB5 := Below.trans (by repeat (first | exact HB4 | apply pw_below_drewN)) (hb.mono HB4.size); have lt5 := lt_ b5; clear hb))
  go_ret
  exact ⟨rfl, by repeat (first | exact HB5 | apply pw_below_drewN)⟩
set_option maxHeartbeats 4000000 in
set_option maxRecDepth 100000 in
theorem tile_Has.c5 (k : Nat) (t x y z px py lev : Int) (l : List S67) (b : Bool) (w : World) (h1 : tile_Check.f k t = some 0) (h2 : sphere_Check.f k x y z = some 0) (h3 : tile_spot.f k t = some (5, px, py, lev)) (hm : z ≠ 0) (hs : decide (z < 0) = true) (h4 : tile_sides.f k t = some l) (h5 : slices_ContainsFunc_api_Vec_api_Vec__tile_Has_1.f k l [⟨x, y, z⟩] = some b) :
    Calls Try.prog 47 #[.int .i64 t, .agg #[.int .i64 x, .int .i64 y, .int .i64 z]] w fun e w' => e = .returned (.bool (!b)) ∧ Below w.heap.size w w' := by
  have hmf : ∀ (fn : Fn) (first cap : Array Value) (w : World), (Instr.makeFunc fn first cap).run Try.prog w = .ok (.func fn first cap) w := fun _ _ _ _ => rfl
  have hu67 := Try.underlying67
  have hu124 := Try.underlying124
  have ix0 : ∀ w : World, (Instr.index 124 (.agg #[.int .i64 x, .int .i64 y, .int .i64 z]) (.int .i64 0)).run Try.prog w = .ok (.int .i64 x) w := fun _ => by kernel_rfl
  have ix1 : ∀ w : World, (Instr.index 124 (.agg #[.int .i64 x, .int .i64 y, .int .i64 z]) (.int .i64 1)).run Try.prog w = .ok (.int .i64 y) w := fun _ => by kernel_rfl
  have ix2 : ∀ w : World, (Instr.index 124 (.agg #[.int .i64 x, .int .i64 y, .int .i64 z]) (.int .i64 2)).run Try.prog w = .ok (.int .i64 z) w := fun _ => by kernel_rfl
  have lt_ : ∀ {g : Nat} {o : Obj} {V : World}, V.heap[g]? = some o → g < V.heap.size := fun h => (Array.getElem?_eq_some_iff.1 h).1
  have d1 : (z == 0) = false := beq_eq_false_iff_ne.mpr hm
  have d2 : (z != 0) = true := bne_iff_ne.mpr hm
  clear hm
  go_enter Try.func47, Try.ntmps47
  go_wp2_with (first
   | ((with_reducible refine gate_dst (N := 3) rfl ?_); refine bxq_ 3 #[.int .i64 x, .int .i64 y, .int .i64 z] 67 ?_; intro g3 hg w2 b3 hb; have HB2 : Below w.heap.size w w2 := hb; have ge3 : w.heap.size ≤ g3 := Nat.le_of_eq hg.symm; clear hg hb; have lt3 := lt_ b3; have q0 := (blk_cell b3 0).trans rfl; have q1 := (blk_cell b3 1).trans rfl; have q2 := (blk_cell b3 2).trans rfl)
   | (go_at_call 83; (with_reducible refine (tile_Check.calls k t 0 _ h1).mono ?_); rintro e w' ⟨rfl, ⟨nd, rfl⟩⟩)
   | (go_at_call 77; (with_reducible refine (sphere_Check.calls k x y z 0 _ h2).mono ?_); rintro e w4 ⟨rfl, hb⟩; have b4 := (hb.block g3 lt3).trans b3; have HB4 := Below.trans (by repeat (first | exact HB2 | apply pw_below_drewN)) (hb.mono HB2.size); have lt4 := lt_ b4; clear q0 q1 q2 hb; have q0 := (blk_cell b4 0).trans rfl; have q1 := (blk_cell b4 1).trans rfl; have q2 := (blk_cell b4 2).trans rfl)
   | (go_at_call 84; (with_reducible refine (tile_spot.calls k t 5 px py lev _ h3).mono ?_); rintro e w' ⟨rfl, ⟨nd2, rfl⟩⟩)
   | (go_at_call 80; (with_reducible refine (tile_axes.calls 5 2 0 1 _ tile_Has.axes5).mono ?_); rintro e w' ⟨rfl, ⟨nd3, rfl⟩⟩)
   | (go_at_call 79; (with_reducible refine (tile_parts.calls x y z x y z _ rfl).mono ?_); rintro e w5 ⟨rfl, hb⟩; have b5 := (hb.block g3 lt4).trans b4; have HB5 := Below.trans (by repeat (first | exact HB4 | apply pw_below_drewN)) (hb.mono HB4.size); have lt5 := lt_ b5; clear hb)
   | (go_at_call 85; (with_reducible refine (tile_sides.calls k t l _ h4).mono ?_); rintro e w6 ⟨v0, rfl, hR6, hb⟩; obtain ⟨A6, c6, rfl, hl6, hC6⟩ := Kd.R_reads hR6; have b6 := (hb.block g3 lt5).trans b5; have HB6 := HB5.trans (hb.mono HB5.size); clear hb)
   | (go_at_call 49; (with_reducible refine (slices_ContainsFunc_api_Vec_api_Vec__tile_Has_1.calls k A6 c6 l (some ⟨g3, 0, none⟩) 1 [⟨x, y, z⟩] b _ hC6 hl6 ?sC ?sL h5).mono ?_); (case sC => exact cap_C (T := 67) (cs := #[.int .i64 x, .int .i64 y, .int .i64 z]) b6 (k67_mk _ _) rfl); (case sL => exact Nat.le_refl _); rintro e w7 ⟨rfl, hb⟩; have HB7 := HB6.trans (hb.mono HB6.size); clear hb))
  go_ret
  exact ⟨rfl, by repeat (first | exact HB7 | apply pw_below_drewN)⟩
def tile_Has.g (k : Nat) (t x y z : Int) (odd : Bool) (m : Int) : Option Bool := if m = 0 then some false else if decide (m < 0) = odd then (tile_sides.f k t).bind fun l => (slices_ContainsFunc_api_Vec_api_Vec__tile_Has_1.f k l [⟨x, y, z⟩]).bind fun b => some (!b) else some false
def tile_Has.h (k : Nat) (t x y z fc : Int) : Option Bool := if fc = 0 then tile_Has.g k t x y z false x else if fc = 1 then tile_Has.g k t x y z true x else if fc = 2 then tile_Has.g k t x y z false y else if fc = 3 then tile_Has.g k t x y z true y else if fc = 4 then tile_Has.g k t x y z false z else if fc = 5 then tile_Has.g k t x y z true z else none
def tile_Has.f (k : Nat) (t x y z : Int) : Option Bool := (tile_Check.f k t).bind fun e => if e = 0 then (sphere_Check.f k x y z).bind fun e2 => if e2 = 0 then (tile_spot.f k t).bind fun s => tile_Has.h k t x y z s.1 else some false else some false
theorem tile_Has.mono : ∀ a0 a1_0 a1_1 a1_2 k, LeO (tile_Has.f k a0 a1_0 a1_1 a1_2) (tile_Has.f (k + 1) a0 a1_0 a1_1 a1_2) := by
  intro a0 a1 a2 a3 k
  unfold tile_Has.f
  refine LeO.bind (tile_Check.mono _ _) (fun _ => LeO.ite (LeO.bind (sphere_Check.mono _ _ _ _) (fun _ => LeO.ite (LeO.bind (tile_spot.mono _ _) (fun _ => ?_)) (LeO.refl _))) (LeO.refl _))
  unfold tile_Has.h tile_Has.g
  repeat' first
    | exact LeO.refl _
    | exact tile_sides.mono _ _
    | exact slices_ContainsFunc_api_Vec_api_Vec__tile_Has_1.mono _ _ _
    | refine LeO.ite ?_ ?_
    | refine LeO.bind ?_ (fun _ => ?_)
theorem tile_Has.calls (k : Nat) (a0 a1_0 a1_1 a1_2 : Int) (r : Bool) (w : World) (h : tile_Has.f k a0 a1_0 a1_1 a1_2 = some r) :
    Calls Try.prog 47 #[.int .i64 a0, .agg #[.int .i64 a1_0, .int .i64 a1_1, .int .i64 a1_2]] w fun e w' => e = .returned (.bool r) ∧ Below w.heap.size w w' := by
  unfold tile_Has.f at h
  obtain ⟨e, h1, h⟩ := Option.bind_eq_some_iff.mp h
  by_cases e0 : e = 0
  case neg => rw [if_neg e0] at h; cases h; exact tile_Has.e1 k _ _ _ _ _ w h1 e0
  subst e0
  rw [if_pos rfl] at h
  obtain ⟨e2, h2, h⟩ := Option.bind_eq_some_iff.mp h
  by_cases e0 : e2 = 0
  case neg => rw [if_neg e0] at h; cases h; exact tile_Has.e2 k _ _ _ _ _ w h1 h2 e0
  subst e0
  rw [if_pos rfl] at h
  obtain ⟨⟨fc, px, py, lev⟩, h3, h⟩ := Option.bind_eq_some_iff.mp h
  simp only [tile_Has.h, tile_Has.g] at h
  by_cases c0 : fc = 0
  · subst c0
    rw [if_pos rfl] at h
    by_cases hm : a1_0 = 0
    · rw [if_pos hm] at h; cases h; exact tile_Has.z0 k _ _ _ _ _ _ _ w h1 h2 h3 hm
    rw [if_neg hm] at h
    by_cases hs : decide (a1_0 < 0) = false
    · rw [if_pos hs] at h
      obtain ⟨l, h4, h⟩ := Option.bind_eq_some_iff.mp h
      obtain ⟨b, h5, h⟩ := Option.bind_eq_some_iff.mp h
      cases h
      exact tile_Has.c0 k _ _ _ _ _ _ _ l b w h1 h2 h3 hm hs h4 h5
    · rw [if_neg hs] at h; cases h; exact tile_Has.n0 k _ _ _ _ _ _ _ w h1 h2 h3 hm (by simpa using hs)
  by_cases c1 : fc = 1
  · subst c1
    rw [if_neg (by decide), if_pos rfl] at h
    by_cases hm : a1_0 = 0
    · rw [if_pos hm] at h; cases h; exact tile_Has.z1 k _ _ _ _ _ _ _ w h1 h2 h3 hm
    rw [if_neg hm] at h
    by_cases hs : decide (a1_0 < 0) = true
    · rw [if_pos hs] at h
      obtain ⟨l, h4, h⟩ := Option.bind_eq_some_iff.mp h
      obtain ⟨b, h5, h⟩ := Option.bind_eq_some_iff.mp h
      cases h
      exact tile_Has.c1 k _ _ _ _ _ _ _ l b w h1 h2 h3 hm hs h4 h5
    · rw [if_neg hs] at h; cases h; exact tile_Has.n1 k _ _ _ _ _ _ _ w h1 h2 h3 hm (by simpa using hs)
  by_cases c2 : fc = 2
  · subst c2
    rw [if_neg (by decide), if_neg (by decide), if_pos rfl] at h
    by_cases hm : a1_1 = 0
    · rw [if_pos hm] at h; cases h; exact tile_Has.z2 k _ _ _ _ _ _ _ w h1 h2 h3 hm
    rw [if_neg hm] at h
    by_cases hs : decide (a1_1 < 0) = false
    · rw [if_pos hs] at h
      obtain ⟨l, h4, h⟩ := Option.bind_eq_some_iff.mp h
      obtain ⟨b, h5, h⟩ := Option.bind_eq_some_iff.mp h
      cases h
      exact tile_Has.c2 k _ _ _ _ _ _ _ l b w h1 h2 h3 hm hs h4 h5
    · rw [if_neg hs] at h; cases h; exact tile_Has.n2 k _ _ _ _ _ _ _ w h1 h2 h3 hm (by simpa using hs)
  by_cases c3 : fc = 3
  · subst c3
    rw [if_neg (by decide), if_neg (by decide), if_neg (by decide), if_pos rfl] at h
    by_cases hm : a1_1 = 0
    · rw [if_pos hm] at h; cases h; exact tile_Has.z3 k _ _ _ _ _ _ _ w h1 h2 h3 hm
    rw [if_neg hm] at h
    by_cases hs : decide (a1_1 < 0) = true
    · rw [if_pos hs] at h
      obtain ⟨l, h4, h⟩ := Option.bind_eq_some_iff.mp h
      obtain ⟨b, h5, h⟩ := Option.bind_eq_some_iff.mp h
      cases h
      exact tile_Has.c3 k _ _ _ _ _ _ _ l b w h1 h2 h3 hm hs h4 h5
    · rw [if_neg hs] at h; cases h; exact tile_Has.n3 k _ _ _ _ _ _ _ w h1 h2 h3 hm (by simpa using hs)
  by_cases c4 : fc = 4
  · subst c4
    rw [if_neg (by decide), if_neg (by decide), if_neg (by decide), if_neg (by decide), if_pos rfl] at h
    by_cases hm : a1_2 = 0
    · rw [if_pos hm] at h; cases h; exact tile_Has.z4 k _ _ _ _ _ _ _ w h1 h2 h3 hm
    rw [if_neg hm] at h
    by_cases hs : decide (a1_2 < 0) = false
    · rw [if_pos hs] at h
      obtain ⟨l, h4, h⟩ := Option.bind_eq_some_iff.mp h
      obtain ⟨b, h5, h⟩ := Option.bind_eq_some_iff.mp h
      cases h
      exact tile_Has.c4 k _ _ _ _ _ _ _ l b w h1 h2 h3 hm hs h4 h5
    · rw [if_neg hs] at h; cases h; exact tile_Has.n4 k _ _ _ _ _ _ _ w h1 h2 h3 hm (by simpa using hs)
  by_cases c5 : fc = 5
  · subst c5
    rw [if_neg (by decide), if_neg (by decide), if_neg (by decide), if_neg (by decide), if_neg (by decide), if_pos rfl] at h
    by_cases hm : a1_2 = 0
    · rw [if_pos hm] at h; cases h; exact tile_Has.z5 k _ _ _ _ _ _ _ w h1 h2 h3 hm
    rw [if_neg hm] at h
    by_cases hs : decide (a1_2 < 0) = true
    · rw [if_pos hs] at h
      obtain ⟨l, h4, h⟩ := Option.bind_eq_some_iff.mp h
      obtain ⟨b, h5, h⟩ := Option.bind_eq_some_iff.mp h
      cases h
      exact tile_Has.c5 k _ _ _ _ _ _ _ l b w h1 h2 h3 hm hs h4 h5
    · rw [if_neg hs] at h; cases h; exact tile_Has.n5 k _ _ _ _ _ _ _ w h1 h2 h3 hm (by simpa using hs)
  simp_all
end

end Go.Proofs.Ytbaedcjophgiiaa.Q
