/- Contracts of Go functions of the seat, one by one: each call returns what the Lean function of the same name says, wherever that is 'some'; no other condition. Written by a program of this session. -/
import Derived.Test.YtbaedcjophgiiaaKTileZonesCutQx0
import Derived.Test.YtbaedcjophgiiaaKTileZonesCutQx9
namespace Go.Proofs.Ytbaedcjophgiiaa.Q
open Go.RowKit Go.Proofs.YtbaedcjophgiiaaW.PrintWords Go.Proofs.YtbaedcjophgiiaaW.PrintLast Go.Proofs.YtbaedcjophgiiaaW.PrintMore
attribute [local go_sem] max2_int min2_int max_two min_two max_three min_three max_four min_four   -- for this text's walks alone
set_option linter.unusedVariables false
set_option linter.unusedSimpArgs false

/-! ### spykeep1_TileZonesCut_1: function 55 -/
def spykeep1_TileZonesCut_1.f (k : Nat) (a0 : Int) (l1 : List (List Int)) : Option (Bool) := if 0 < (l1.length : Int) then ((slices_Contains_api_Tile_api_Tile.f k (rd_L3 l1 0) a0).bind fun t102 => (some (!t102))) else (none)
theorem spykeep1_TileZonesCut_1.mono : ∀ a0 a1 k, LeO (spykeep1_TileZonesCut_1.f k a0 a1) (spykeep1_TileZonesCut_1.f (k + 1) a0 a1) := by
 intro a0 a1 k
 unfold spykeep1_TileZonesCut_1.f
 repeat' first
  | (with_reducible exact slices_Contains_api_Tile_api_Tile.mono _ _ _)
  | (with_reducible exact LeO.refl _)
  | (with_reducible exact LeO.none _)
  | (with_reducible refine LeO.ite ?_ ?_)
  | (with_reducible refine LeO.bind ?_ (fun _ => ?_))
  | exact slices_Contains_api_Tile_api_Tile.mono _ _ _
  | exact LeO.none _
  | refine LeO.ite ?_ ?_
  | refine LeO.bind ?_ (fun _ => ?_)
set_option maxHeartbeats 8000000 in
set_option maxRecDepth 100000 in
theorem spykeep1_TileZonesCut_1.calls (k : Nat) (a0 : Int) (A1 : Option Addr) (c1 : Nat) (l1 : List (List Int)) (r : Bool) (w : World) (hr1 : Kd.C (Kd.slice 69 (Kd.int .i64)) w A1 l1.length l1) (hc1 : l1.length ≤ c1) (h : spykeep1_TileZonesCut_1.f k a0 l1 = some r) :
 Calls Try.prog 55 #[.int .i64 a0, .pointer A1] w fun e w' => e = .returned (.bool r) ∧ Drawn0 w w' := by
  have HR1 := Aside0.mk hr1
  have HC1 := Aside0.mk hc1
  clear hr1 hc1
  have H : (if 0 < (l1.length : Int) then ((slices_Contains_api_Tile_api_Tile.f k (rd_L3 l1 0) a0).bind fun t102 => (some (!t102))) else (none)) = some r := h
  clear h
  by_cases c3 : 0 < (l1.length : Int)
  rotate_left
  · rw [if_neg c3] at H
    exact absurd H (by simp)
  rw [if_pos c3] at H
  have c3b0 : decide (0 < (l1.length : Int)) = true := decide_eq_true c3
  have c3b1 : decide (0 < l1.length) = true := decide_eq_true (by omega)
  clear c3
  replace H := Option.bind_eq_some_iff.mp H
  obtain ⟨t102, A40, H⟩ := H
  try dsimp -simprocs only at H
  have A4 := Aside0.mk A40
  clear A40
  obtain rfl := Option.some.inj H
  have p101 : 0 ≤ (0 : Int) := (by omega)
  have q101 : 0 < (l1.length : Int) := of_decide_eq_true (by first | (with_reducible assumption) | assumption)
  obtain ⟨ad101, A101_0, c101_0, e101, hx101_0, hl101_0, hi101_0⟩ := at_L3 HR1.out 0 p101 q101
  cases e101
  have qi101 : (0 < l1.length) = True := eq_true (by omega)
  (try rw [show ((0 : Int)).toNat = 0 from rfl] at hx101_0)
  (try rw [Addr.add_zero'] at hx101_0)
  have HR101_0 := Aside0.mk hi101_0
  have HC101_0 := Aside0.mk hl101_0
  clear hi101_0 hl101_0
  replace p101 := eq_true p101
  replace q101 := eq_true q101
  go_enter Try.func55, Try.ntmps55
  go_wp2_with (first | ((with_reducible refine gate_callee (f := 45) rfl ?_); refine glq_ (some 6) Try.func45 #[.slice A101_0 (rd_L3 l1 0).length c101_0, .int .i64 a0] ?_; (with_reducible refine (slices_Contains_api_Tile_api_Tile.calls k _ _ (rd_L3 l1 0) a0 t102 _ ?side1 ?side2 A4.out).mono ?_); (case side1 => repeat (first | exact HR101_0.out | (with_reducible refine Kd.C_alloc ?_ _) | (with_reducible refine Kd.C_drewN ?_ _) | (with_reducible refine Kd.C_drew ?_))); (case side2 => exact HC101_0.out); rintro e w' ⟨rfl, ⟨nd, rfl⟩⟩; refine ⟨_, rfl, ?_⟩))
  go_ret
  exact ⟨by first | rfl | (simp; done) | (simp [*]; done), by repeat (first | exact Drawn0.refl _ | apply Drawn0.step)⟩

end Go.Proofs.Ytbaedcjophgiiaa.Q
