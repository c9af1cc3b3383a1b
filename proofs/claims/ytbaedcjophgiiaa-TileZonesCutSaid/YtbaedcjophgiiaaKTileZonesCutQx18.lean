/- Contracts of Go functions of the seat, one by one: each call returns what the Lean function of the same name says, wherever that is 'some'; no other condition. Written by a program of this session. -/
import Derived.Test.YtbaedcjophgiiaaKTileZonesCutQx0
import Derived.Test.YtbaedcjophgiiaaKTileZonesCutQx1
import Derived.Test.YtbaedcjophgiiaaKTileZonesCutQx4
import Derived.Test.YtbaedcjophgiiaaKTileZonesCutQx10
import Derived.Test.YtbaedcjophgiiaaKTileZonesCutQx11
import Derived.Test.YtbaedcjophgiiaaKTileZonesCutQx17
import Derived.BigQuiet
import Derived.BigRegion
import Derived.Deep.QuietTactic
import Derived.OwnWalkIn
import Derived.RangeFuncNested
import Derived.RegionTactic
import Derived.Shelf.Abstract
import Derived.Shelf.RegionOpen
import Derived.TacticsInMore
import Derived.WalkKit
namespace Go.Proofs.Ytbaedcjophgiiaa.Q
open Go.RowKit Go.Proofs.YtbaedcjophgiiaaW.PrintWords Go.Proofs.YtbaedcjophgiiaaW.PrintLast Go.Proofs.YtbaedcjophgiiaaW.PrintMore
attribute [local go_sem] max2_int min2_int max_two min_two max_three min_three max_four min_four   -- for this text's walks alone
set_option linter.unusedVariables false
set_option linter.unusedSimpArgs false

/-! ### tile_crosses: function 92 -/
-- IMPORTS: Derived.RangeFuncNested Derived.Shelf.Abstract Derived.Shelf.RegionOpen Derived.WalkKit Derived.OwnWalkIn Derived.TacticsInMore Derived.Deep.QuietTactic Derived.BigQuiet Derived.RegionTactic Derived.BigRegion
section
attribute [local go_sem high] eqA67
mutual
def tile_crossesL.l0 : Nat → List (S67) → Int → Int → List (S67) → Option (Bool)
 | 0, _, _, _, _ => none
 | k + 1, x18, x19, x20, x102000 => if x20 < x19 then (if 0 ≤ x20 then (if x20 < (x18.length : Int) then (if x20 ≤ (x102000.length : Int) then ((some (x102000.take (x20 : Int).toNat : List (S67))).bind fun y104 => (tile_crossesL.l1 k x18 x19 x20 y104 (y104.length : Int) 0 x102000 ((rd_T67 x18 x20).f0) ((rd_T67 x18 x20).f1) ((rd_T67 x18 x20).f2))) else (none)) else (none)) else (none)) else (some false)
def tile_crossesL.l1 : Nat → List (S67) → Int → Int → List (S67) → Int → Int → List (S67) → Int → Int → Int → Option (Bool)
 | 0, _, _, _, _, _, _, _, _, _, _ => none
 | k + 1, x18, x19, x20, x27, x28, x29, x102000, x104000, x104001, x104002 => if x29 < x28 then (if 0 ≤ x29 then (if x29 < (x27.length : Int) then ((tile_cross.f x104000 x104001 x104002 ((rd_T67 x27 x29).f0) ((rd_T67 x27 x29).f1) ((rd_T67 x27 x29).f2)).bind fun bt110 => ((tile_reduce.f k bt110.1 bt110.2.1 bt110.2.2).bind fun bt113 => (if (!(bt113.1 == 0) || (!(bt113.2.1 == 0) || (!(bt113.2.2 == 0)))) = true then ((tile_crosses_1.f k bt113.1 bt113.2.1 bt113.2.2 [x102000]).bind fun t117 => (if t117 = true then (some true) else ((tile_crosses_1.f k (wrap64 (-bt113.1)) (wrap64 (-bt113.2.1)) (wrap64 (-bt113.2.2)) [x102000]).bind fun t118 => (if t118 = true then (some true) else (tile_crossesL.l1 k x18 x19 x20 x27 x28 (wrap64 (x29 + 1)) x102000 x104000 x104001 x104002))))) else (tile_crossesL.l1 k x18 x19 x20 x27 x28 (wrap64 (x29 + 1)) x102000 x104000 x104001 x104002)))) else (none)) else (none)) else (tile_crossesL.l0 k x18 x19 (wrap64 (x20 + 1)) x102000)
end
def tile_crossesL.f (k : Nat) (l0 : List (S67)) : Option (Bool) := tile_crossesL.l0 k l0 (l0.length : Int) 0 l0
theorem tile_crossesL.mono_l : ∀ k, (∀ y0 y1 y2 y3, LeO (tile_crossesL.l0 k y0 y1 y2 y3) (tile_crossesL.l0 (k + 1) y0 y1 y2 y3)) ∧ (∀ y0 y1 y2 y3 y4 y5 y6 y7 y8 y9, LeO (tile_crossesL.l1 k y0 y1 y2 y3 y4 y5 y6 y7 y8 y9) (tile_crossesL.l1 (k + 1) y0 y1 y2 y3 y4 y5 y6 y7 y8 y9))
 | 0 => ⟨fun _ _ _ _ r h => by simp [tile_crossesL.l0] at h, fun _ _ _ _ _ _ _ _ _ _ r h => by simp [tile_crossesL.l1] at h⟩
 | k + 1 => by
  obtain ⟨ih0, ih1⟩ := tile_crossesL.mono_l k
  refine ⟨?_, ?_⟩
  · intro y0 y1 y2 y3
    unfold tile_crossesL.l0
    repeat' first
    | (with_reducible exact ih0 _ _ _ _)
    | (with_reducible exact ih1 _ _ _ _ _ _ _ _ _ _)
    | (with_reducible exact tile_crosses_1.mono _ _ _ _ _)
    | (with_reducible exact tile_reduce.mono _ _ _ _)
    | (with_reducible exact LeO.refl _)
    | (with_reducible exact LeO.none _)
    | (with_reducible refine LeO.ite ?_ ?_)
    | (with_reducible refine LeO.bind ?_ (fun _ => ?_))
    | exact ih0 _ _ _ _
    | exact ih1 _ _ _ _ _ _ _ _ _ _
    | exact tile_crosses_1.mono _ _ _ _ _
    | exact tile_reduce.mono _ _ _ _
    | exact LeO.none _
    | refine LeO.ite ?_ ?_
    | refine LeO.bind ?_ (fun _ => ?_)
  · intro y0 y1 y2 y3 y4 y5 y6 y7 y8 y9
    unfold tile_crossesL.l1
    repeat' first
    | (with_reducible exact ih0 _ _ _ _)
    | (with_reducible exact ih1 _ _ _ _ _ _ _ _ _ _)
    | (with_reducible exact tile_crosses_1.mono _ _ _ _ _)
    | (with_reducible exact tile_reduce.mono _ _ _ _)
    | (with_reducible exact LeO.refl _)
    | (with_reducible exact LeO.none _)
    | (with_reducible refine LeO.ite ?_ ?_)
    | (with_reducible refine LeO.bind ?_ (fun _ => ?_))
    | exact ih0 _ _ _ _
    | exact ih1 _ _ _ _ _ _ _ _ _ _
    | exact tile_crosses_1.mono _ _ _ _ _
    | exact tile_reduce.mono _ _ _ _
    | exact LeO.none _
    | refine LeO.ite ?_ ?_
    | refine LeO.bind ?_ (fun _ => ?_)
theorem tile_crossesL.mono : ∀ a0 k, LeO (tile_crossesL.f k a0) (tile_crossesL.f (k + 1) a0) := by
 intro a0 k
 obtain ⟨ih0, ih1⟩ := tile_crossesL.mono_l k
 unfold tile_crossesL.f
 repeat' first
  | (with_reducible exact ih0 _ _ _ _)
  | (with_reducible exact ih1 _ _ _ _ _ _ _ _ _ _)
  | (with_reducible exact tile_crosses_1.mono _ _ _ _ _)
  | (with_reducible exact tile_reduce.mono _ _ _ _)
  | (with_reducible exact LeO.refl _)
  | (with_reducible exact LeO.none _)
  | (with_reducible refine LeO.ite ?_ ?_)
  | (with_reducible refine LeO.bind ?_ (fun _ => ?_))
  | exact ih0 _ _ _ _
  | exact ih1 _ _ _ _ _ _ _ _ _ _
  | exact tile_crosses_1.mono _ _ _ _ _
  | exact tile_reduce.mono _ _ _ _
  | exact LeO.none _
  | refine LeO.ite ?_ ?_
  | refine LeO.bind ?_ (fun _ => ?_)
def tile_crosses.f (k : Nat) (a0 : Int) (l1 : List S67) : Option Bool := (tile_sides.f k a0).bind fun sd => (slices_Concat2.f sd l1).bind fun l0 => tile_crossesL.f k l0
theorem tile_crosses.mono : ∀ a0 a1 k, LeO (tile_crosses.f k a0 a1) (tile_crosses.f (k + 1) a0 a1) := by
  intro a0 a1 k
  unfold tile_crosses.f
  exact LeO.bind (tile_sides.mono _ _) (fun _ => LeO.bind (LeO.refl _) (fun _ => tile_crossesL.mono _ _))
def TzxHold (p : Prop) : Prop := p
theorem tzxhold_ {p : Prop} (h : TzxHold p) : p := h
set_option maxHeartbeats 8000000 in
set_option maxRecDepth 100000 in
theorem tile_crosses.calls (k : Nat) (a0 : Int) (A1 : Option Addr) (c1 : Nat) (l1 : List S67) (r : Bool) (w0 : World) (hr1 : Kd.C k67 w0 A1 l1.length l1) (hc1 : l1.length ≤ c1) (h : tile_crosses.f k a0 l1 = some r) :
    Calls Try.prog 92 #[.int .i64 a0, .slice A1 l1.length c1] w0 fun e w' => e = .returned (.bool r) ∧ Below w0.heap.size w0 w' := by
  unfold tile_crosses.f at h
  obtain ⟨sd, hs, h⟩ := Option.bind_eq_some_iff.mp h
  obtain ⟨l0, hcc, h⟩ := Option.bind_eq_some_iff.mp h
  have HS := Aside0.mk hs
  have HCC := Aside0.mk hcc
  have HRX := Aside0.mk hr1
  have HCX := Aside0.mk hc1
  clear hs hcc hr1 hc1
  have hu67 := Try.underlying67
  have hmf : ∀ (fn : Fn) (first cap : Array Value) (w : World), (Instr.makeFunc fn first cap).run Try.prog w = .ok (.func fn first cap) w := fun _ _ _ _ => rfl
  have H : (tile_crossesL.l0 k l0 (l0.length : Int) 0 l0) = some r := h
  clear h
  have H' := Aside0.mk H
  clear H
  go_enter Try.func92, Try.ntmps92
  go_wp2_with (first
    | ((with_reducible refine gate_dst (N := 17) rfl ?_); refine tzxhold_ ?_)
    | (go_at_call 85; (with_reducible refine (tile_sides.calls k a0 sd _ HS.out).mono ?_); rintro e w1 ⟨v, rfl, hR, hb⟩; obtain ⟨As, cs, rfl⟩ := Kd.R_slice hR; have CS := Aside0.mk (Kd.R_reads' hR); have CN := Aside0.mk (Kd.C_below HRX.out hb); have HB1 := Aside0.mk hb; clear hR hb)
    | (go_at_call 119; (with_reducible refine (slices_Concat2.calls As cs sd A1 c1 l1 l0 _ CS.out.2.2 CS.out.2.1 CN.out HCX.out HCC.out).mono ?_); rintro e w ⟨v, rfl, hR, hb⟩; obtain ⟨A0, c0, rfl⟩ := Kd.R_slice hR; have HR0 := Aside0.mk (Kd.R_reads' hR).2.2; have HC0 := Aside0.mk (Kd.R_reads' hR).2.1; have HBZ := Aside0.mk (below_step HB1.out hb); clear hR hb CS CN HB1)
    | ((with_reducible refine gate_dst (N := 5) rfl ?_); refine bxq_ 5 #[.slice none 0 0] 80 ?_; intro gb101 hg w2 hbox hb; have BK101 := Aside0.mk (hbox); have HB := Aside0.mk (Below.refl w.heap.size w); have GW101 := gwq_ HB hg rfl; have GE101 := GW101; replace HB := hbs_ HB hb rfl rfl rfl rfl; clear hb hbox hg; have hcz3_0 := bc_ BK101 0 rfl; have hfz3_0 := blk_frozen BK101.out 0))
  unfold TzxHold
  have BK101' := Aside0.mk (blk_put BK101.out 0 (.slice A0 l0.length c0) rfl)
  have HB' := Aside0.mk (HB.out.setCell (p := ⟨gb101, 0, none⟩) GW101.out (.slice A0 l0.length c0))
  clear BK101 HB hcz3_0 hfz3_0
  generalize w2.setCell ⟨gb101, 0, none⟩ (.slice A0 l0.length c0) = w3 at *
  have BK101 : Aside0 (w3.heap[gb101]? = some (.cells #[.slice A0 l0.length c0] 80 (0, 0))) := BK101'
  have HB := HB'
  clear BK101' HB'
  have hcz3_0 := bc_ BK101 0 rfl
  have hfz3_0 := blk_frozen BK101.out 0
  go_wp2
  go_loopg [20] k (fun kq v20 w' => ∃ (x20_1 : Int), v20 = .int .i64 x20_1 ∧ Aside0 (tile_crossesL.l0 kq l0 (l0.length : Int) x20_1 l0 = some r) ∧ Aside0 (kq ≤ k) ∧ Aside0 (w'.heap[gb101]? = some (.cells #[(.slice A0 l0.length c0)] 80 (0, 0))) ∧ Aside0 (Below w.heap.size w w'))
  case atStart => exact ⟨(0), (by first | rfl | (simp; done) | (simp [*]; done)), H', ⟨Nat.le_refl _⟩, ⟨by (with_reducible repeat (first | refine blk_drewN ?_ _ | refine blk_drew ?_ | refine blk_alloc ?_ _)); exact BK101.out⟩, ⟨by repeat (first | (with_reducible first | exact HB.out | apply below_alloc | apply pw_below_drewN | apply below_drew1 | refine below_set ?_ GE101.out) | exact HB.out)⟩⟩
  case round =>
   clear H'
   obtain ⟨x20_1, rfl, HA, HK1, BK101, HB⟩ := hrel
   cases gk with
   | zero => exact absurd HA.out (by simp [tile_crossesL.l0])
   | succ k1 =>
    have H := HA.out
    clear HA
    simp only [tile_crossesL.l0] at H
    by_cases c4 : x20_1 < (l0.length : Int)
    rotate_left
    · rw [if_neg c4] at H
      have c4b0 : decide (x20_1 < (l0.length : Int)) = false := decide_eq_false c4
      clear c4
      obtain rfl := Option.some.inj H
      go_wp2
      go_ret
      exact ⟨by first | rfl | (simp [errW_none, errW_some] <;> rfl) | (simp [*, errW_none, errW_some] <;> rfl), by refine HBZ.out.trans (Below.mono ?_ (Below.size HBZ.out)); repeat (first | (with_reducible first | exact HB.out | apply below_alloc | apply pw_below_drewN | apply below_drew1 | refine below_set ?_ GE101.out) | exact HB.out)⟩
    rw [if_pos c4] at H
    have c4b0 : decide (x20_1 < (l0.length : Int)) = true := decide_eq_true c4
    clear c4
    by_cases c5 : 0 ≤ x20_1
    rotate_left
    · rw [if_neg c5] at H
      exact absurd H (by simp)
    rw [if_pos c5] at H
    have c5b0 : decide (0 ≤ x20_1) = true := decide_eq_true c5
    clear c5
    by_cases c6 : x20_1 < (l0.length : Int)
    rotate_left
    · rw [if_neg c6] at H
      exact absurd H (by simp)
    rw [if_pos c6] at H
    have c6b0 : decide (x20_1 < (l0.length : Int)) = true := decide_eq_true c6
    clear c6
    have c7b0 := eq_true (of_decide_eq_true (by first | (with_reducible assumption) | assumption) : 0 ≤ x20_1)
    by_cases c8 : x20_1 ≤ (l0.length : Int)
    rotate_left
    · rw [if_neg c8] at H
      exact absurd H (by simp)
    rw [if_pos c8] at H
    have c8b0 := eq_true c8
    have c8b1 : decide (x20_1 ≤ (l0.length : Int)) = true := decide_eq_true c8
    clear c8
    obtain ⟨y104, hy104⟩ : ∃ y_ : List (S67), y_ = (l0.take (x20_1 : Int).toNat) := ⟨_, rfl⟩
    replace H : (tile_crossesL.l1 k1 l0 (l0.length : Int) x20_1 y104 (y104.length : Int) 0 l0 ((rd_T67 l0 x20_1).f0) ((rd_T67 l0 x20_1).f1) ((rd_T67 l0 x20_1).f2)) = some r := by first | (rw [hy104]; with_reducible exact H) | (have H2_ := (Option.bind_some _ _).symm.trans H; rw [hy104]; with_reducible exact H2_) | (have H2_ := (Option.bind_some _ _).symm.trans H; with_reducible exact H2_) | with_reducible exact H | (rw [hy104]; exact H) | exact H
    have Ny104 := Aside0.mk hy104
    clear hy104
    have H' := Aside0.mk H
    clear H
    have p102 : 0 ≤ (x20_1 : Int) := of_decide_eq_true (by first | (with_reducible assumption) | assumption)
    have q102 : x20_1 < (l0.length : Int) := of_decide_eq_true (by first | (with_reducible assumption) | assumption)
    obtain ⟨ad102, e102, hx102_0, hx102_1, hx102_2⟩ := at_T67 HR0.out x20_1 p102 q102
    cases e102
    replace hx102_0 := (HB.out.cell (World.block_lt_of_cell? w _ hx102_0)).trans hx102_0
    replace hx102_1 := (HB.out.cell (World.block_lt_of_cell? w _ hx102_1)).trans hx102_1
    replace hx102_2 := (HB.out.cell (World.block_lt_of_cell? w _ hx102_2)).trans hx102_2
    replace p102 := eq_true p102
    replace q102 := eq_true q102
    go_wp2_with (first | ((with_reducible refine gate_dst (N := 8) rfl ?_); refine bxq_ 8 #[.int .i64 0, .int .i64 0, .int .i64 0] 67 ?_; intro gb103 hg w9 hbox hb; have BK103 := Aside0.mk (hbox); have GW103 := gwq_ HB hg rfl; have GE103 := GW103; have NB101_103 := nbl_ BK101 hg rfl; have NB103_101 := nbg_ BK101 hg rfl; replace BK101 := bkb_ BK101 hb rfl; replace HB := hbs_ HB hb rfl rfl rfl rfl; clear hb hbox hg; have hnb10 := NB103_101.out; have hnc10 := NB101_103.out; have hcz11_0 := bc_ BK103 0 rfl; have hcz11_1 := bc_ BK103 1 rfl; have hcz11_2 := bc_ BK103 2 rfl; have hfz11_0 := blk_frozen BK103.out 0; have hfz11_1 := blk_frozen BK103.out 1; have hfz11_2 := blk_frozen BK103.out 2) | ((with_reducible refine gate_store (t := 67) (p := 8) rfl ?_); refine store_event (t := 67) (p := 8) (v := ?vo_w12) (w1 := (((w9.setCell ⟨gb103, 0, none⟩ (.int .i64 ((rd_T67 l0 x20_1).f0))).setCell ⟨gb103, 1, none⟩ (.int .i64 ((rd_T67 l0 x20_1).f1))).setCell ⟨gb103, 2, none⟩ (.int .i64 ((rd_T67 l0 x20_1).f2)))) ?hg ?ho ?hn ?hr ?_; (case ho => rfl); (case hg => rfl); (case hn => rfl); (case hr => first | (go_simp; done) | (go_simp; rfl)); intro w12 hw; replace BK101 : Aside0 (w12.heap[gb101]? = some (.cells #[.slice (some ad102) l0.length c0] 80 (0, 0))) := ⟨(by rw [hw]; exact (by (with_reducible repeat (first | refine blk_drewN ?_ _ | refine blk_drew ?_ | refine blk_alloc ?_ _)); refine blk_far ?_ NB101_103.out _; (with_reducible repeat (first | refine blk_drewN ?_ _ | refine blk_drew ?_ | refine blk_alloc ?_ _)); refine blk_far ?_ NB101_103.out _; (with_reducible repeat (first | refine blk_drewN ?_ _ | refine blk_drew ?_ | refine blk_alloc ?_ _)); refine blk_far ?_ NB101_103.out _; (with_reducible repeat (first | refine blk_drewN ?_ _ | refine blk_drew ?_ | refine blk_alloc ?_ _)); exact BK101.out))⟩; replace BK103 : Aside0 (w12.heap[gb103]? = some (.cells #[.int .i64 ((rd_T67 l0 x20_1).f0), .int .i64 ((rd_T67 l0 x20_1).f1), .int .i64 ((rd_T67 l0 x20_1).f2)] 67 (0, 0))) := ⟨(by rw [hw]; exact (by (with_reducible repeat (first | refine blk_drewN ?_ _ | refine blk_drew ?_ | refine blk_alloc ?_ _)); refine blk_put (cs := #[.int .i64 ((rd_T67 l0 x20_1).f0), .int .i64 ((rd_T67 l0 x20_1).f1), .int .i64 0]) ?_ 2 _ rfl; (with_reducible repeat (first | refine blk_drewN ?_ _ | refine blk_drew ?_ | refine blk_alloc ?_ _)); refine blk_put (cs := #[.int .i64 ((rd_T67 l0 x20_1).f0), .int .i64 0, .int .i64 0]) ?_ 1 _ rfl; (with_reducible repeat (first | refine blk_drewN ?_ _ | refine blk_drew ?_ | refine blk_alloc ?_ _)); refine blk_put (cs := #[.int .i64 0, .int .i64 0, .int .i64 0]) ?_ 0 _ rfl; (with_reducible repeat (first | refine blk_drewN ?_ _ | refine blk_drew ?_ | refine blk_alloc ?_ _)); exact BK103.out))⟩; replace HB : Aside0 (Below w.heap.size w w12) := ⟨(by rw [hw]; exact (by repeat (first | (with_reducible first | exact HB.out | apply below_alloc | apply pw_below_drewN | apply below_drew1 | refine below_set ?_ GE101.out | refine below_set ?_ GE103.out) | exact HB.out)))⟩; clear hw; have hcz13_0 := bc_ BK101 0 rfl; have hfz13_0 := blk_frozen BK101.out 0; have q14 : (x20_1 : Int) ≤ ((l0.length : Int) : Int) := of_decide_eq_true (by first | (with_reducible assumption) | assumption); obtain ⟨i014, hi014, _, hsz14, _⟩ := info_parts info67; have hroom14 : l0.length ≤ c0 := HC0.out; have hC14 : Kd.C k67 _ (some ad102) l0.length l0 := HR0.out; have hcut14 := cut_to (P := Try.prog) 80 67 .i64 Try.underlying80 hi014 (some ad102) l0.length c0 x20_1 (of_decide_eq_true (by first | (with_reducible assumption) | assumption)) q14 hroom14; have hr14 := Kd.C_take (m := (x20_1 : Int).toNat) hC14 (by omega); have hy14 : y104.length = (x20_1 : Int).toNat := (by rw [Ny104.out, List.length_take]; omega); rw [← Ny104.out] at hr14; rw [← hy14] at hcut14; have HR107 := Aside0.mk hr14; have HC107 := Aside0.mk (show y104.length ≤ c0 from by omega); clear hr14 hC14 hroom14 hi014 hsz14; have KY14 := Aside0.mk hy14; clear hy14; replace q14 := eq_true q14))
    go_loopg [29] k1 (fun kq v29 w' => ∃ (x29_2 : Int), v29 = .int .i64 x29_2 ∧ Aside0 (tile_crossesL.l1 kq l0 (l0.length : Int) x20_1 y104 (y104.length : Int) x29_2 l0 ((rd_T67 l0 x20_1).f0) ((rd_T67 l0 x20_1).f1) ((rd_T67 l0 x20_1).f2) = some r) ∧ Aside0 (kq ≤ k1) ∧ Aside0 (w'.heap[gb101]? = some (.cells #[(.slice (some ad102) l0.length c0)] 80 (0, 0))) ∧ Aside0 (w'.heap[gb103]? = some (.cells #[.int .i64 ((rd_T67 l0 x20_1).f0), .int .i64 ((rd_T67 l0 x20_1).f1), .int .i64 ((rd_T67 l0 x20_1).f2)] 67 (0, 0))) ∧ Aside0 (Below w.heap.size w w'))
    case atStart => exact ⟨(0), (by first | rfl | (simp; done) | (simp [*]; done)), H', ⟨Nat.le_refl _⟩, ⟨by (with_reducible repeat (first | refine blk_drewN ?_ _ | refine blk_drew ?_ | refine blk_alloc ?_ _)); exact BK101.out⟩, ⟨by (with_reducible repeat (first | refine blk_drewN ?_ _ | refine blk_drew ?_ | refine blk_alloc ?_ _)); exact BK103.out⟩, ⟨by repeat (first | (with_reducible first | exact HB.out | apply below_alloc | apply pw_below_drewN | apply below_drew1 | refine below_set ?_ GE101.out | refine below_set ?_ GE103.out) | exact HB.out)⟩⟩
    case round =>
     clear H'
     obtain ⟨x29_2, rfl, HA, HK2, BK101, BK103, HB⟩ := hrel
     cases gk with
     | zero => exact absurd HA.out (by simp [tile_crossesL.l1])
     | succ k2 =>
      have H := HA.out
      clear HA
      simp only [tile_crossesL.l1] at H
      by_cases c15 : x29_2 < (y104.length : Int)
      rotate_left
      · rw [if_neg c15] at H
        have c15b0 : decide (x29_2 < (y104.length : Int)) = false := decide_eq_false c15
        clear c15
        have H' := Aside0.mk H
        clear H
        go_wp2
        go_roundg k2
        case measure => have := HK1.out; have := HK2.out; omega
        case rel => exact ⟨(wrap64 (x20_1 + 1)), (by first | rfl | (simp; done) | (simp [*]; done)), H', ⟨by have := HK1.out; have := HK2.out; omega⟩, ⟨by (with_reducible repeat (first | refine blk_drewN ?_ _ | refine blk_drew ?_ | refine blk_alloc ?_ _)); exact BK101.out⟩, ⟨by repeat (first | (with_reducible first | exact HB.out | apply below_alloc | apply pw_below_drewN | apply below_drew1 | refine below_set ?_ GE101.out | refine below_set ?_ GE103.out) | exact HB.out)⟩⟩
      rw [if_pos c15] at H
      have c15b0 : decide (x29_2 < (y104.length : Int)) = true := decide_eq_true c15
      clear c15
      by_cases c16 : 0 ≤ x29_2
      rotate_left
      · rw [if_neg c16] at H
        exact absurd H (by simp)
      rw [if_pos c16] at H
      have c16b0 : decide (0 ≤ x29_2) = true := decide_eq_true c16
      clear c16
      by_cases c17 : x29_2 < (y104.length : Int)
      rotate_left
      · rw [if_neg c17] at H
        exact absurd H (by simp)
      rw [if_pos c17] at H
      have c17b0 : decide (x29_2 < (y104.length : Int)) = true := decide_eq_true c17
      clear c17
      replace H := Option.bind_eq_some_iff.mp H
      obtain ⟨⟨t110, t111, t112⟩, A180, H⟩ := H
      try dsimp -simprocs only at H
      have A18 := Aside0.mk A180
      clear A180
      replace H := Option.bind_eq_some_iff.mp H
      obtain ⟨⟨t113, t114, t115⟩, A190, H⟩ := H
      try dsimp -simprocs only at H
      have A19 := Aside0.mk A190
      clear A190
      by_cases c20 : (!(t113 == 0) || (!(t114 == 0) || (!(t115 == 0)))) = true
      rotate_left
      · rw [if_neg c20] at H
        have c20b0 : (!(t113 == 0) || (!(t114 == 0) || (!(t115 == 0)))) = false := by simpa using c20
        clear c20
        have H' := Aside0.mk H
        clear H
        have p108 : 0 ≤ (x29_2 : Int) := of_decide_eq_true (by first | (with_reducible assumption) | assumption)
        have q108 : x29_2 < (y104.length : Int) := of_decide_eq_true (by first | (with_reducible assumption) | assumption)
        obtain ⟨ad108, e108, hx108_0, hx108_1, hx108_2⟩ := at_T67 HR107.out x29_2 p108 q108
        obtain rfl : ad102 = ad108 := (by injection e108)
        replace hx108_0 := (HB.out.cell (World.block_lt_of_cell? w _ hx108_0)).trans hx108_0
        replace hx108_1 := (HB.out.cell (World.block_lt_of_cell? w _ hx108_1)).trans hx108_1
        replace hx108_2 := (HB.out.cell (World.block_lt_of_cell? w _ hx108_2)).trans hx108_2
        replace p108 := eq_true p108
        replace q108 := eq_true q108
        go_wp2_with (first | ((with_reducible refine gate_dst (N := 10) rfl ?_); refine bxq_ 10 #[.int .i64 0, .int .i64 0, .int .i64 0] 67 ?_; intro gb109 hg w71 hbox hb; have BK109 := Aside0.mk (hbox); have GW109 := gwq_ HB hg rfl; have GE109 := GW109; have NB101_109 := nbl_ BK101 hg rfl; have NB109_101 := nbg_ BK101 hg rfl; have NB103_109 := nbl_ BK103 hg rfl; have NB109_103 := nbg_ BK103 hg rfl; replace BK101 := bkb_ BK101 hb rfl; replace BK103 := bkb_ BK103 hb rfl; replace HB := hbs_ HB hb rfl rfl rfl rfl; clear hb hbox hg; have hnb72 := NB109_101.out; have hnc72 := NB101_109.out; have hnb73 := NB109_103.out; have hnc73 := NB103_109.out; have hcz74_0 := bc_ BK109 0 rfl; have hcz74_1 := bc_ BK109 1 rfl; have hcz74_2 := bc_ BK109 2 rfl; have hfz74_0 := blk_frozen BK109.out 0; have hfz74_1 := blk_frozen BK109.out 1; have hfz74_2 := blk_frozen BK109.out 2; have hnb75 := NB103_101.out; have hnc75 := NB101_103.out; have hcz76_0 := bc_ BK103 0 rfl; have hcz76_1 := bc_ BK103 1 rfl; have hcz76_2 := bc_ BK103 2 rfl; have hfz76_0 := blk_frozen BK103.out 0; have hfz76_1 := blk_frozen BK103.out 1; have hfz76_2 := blk_frozen BK103.out 2) | ((with_reducible refine gate_callee (f := 123) rfl ?_); refine glq_ (some 35) Try.func123 #[.agg #[.int .i64 ((rd_T67 l0 x20_1).f0), .int .i64 ((rd_T67 l0 x20_1).f1), .int .i64 ((rd_T67 l0 x20_1).f2)], .agg #[.int .i64 ((rd_T67 y104 x29_2).f0), .int .i64 ((rd_T67 y104 x29_2).f1), .int .i64 ((rd_T67 y104 x29_2).f2)]] ?_; (with_reducible refine (tile_cross.calls ((rd_T67 l0 x20_1).f0) ((rd_T67 l0 x20_1).f1) ((rd_T67 l0 x20_1).f2) ((rd_T67 y104 x29_2).f0) ((rd_T67 y104 x29_2).f1) ((rd_T67 y104 x29_2).f2) t110 t111 t112 _ A18.out).mono ?_); rintro e w77 ⟨rfl, hb⟩; refine ⟨_, rfl, ?_⟩; replace BK101 := Aside0.mk (blk_below (g := gb101) (o := .cells #[.slice (some ad102) l0.length c0] 80 (0, 0)) (by (with_reducible repeat (first | refine blk_drewN ?_ _ | refine blk_drew ?_ | refine blk_alloc ?_ _)); refine blk_far ?_ NB101_109.out _; (with_reducible repeat (first | refine blk_drewN ?_ _ | refine blk_drew ?_ | refine blk_alloc ?_ _)); refine blk_far ?_ NB101_109.out _; (with_reducible repeat (first | refine blk_drewN ?_ _ | refine blk_drew ?_ | refine blk_alloc ?_ _)); refine blk_far ?_ NB101_109.out _; (with_reducible repeat (first | refine blk_drewN ?_ _ | refine blk_drew ?_ | refine blk_alloc ?_ _)); exact BK101.out) hb); replace BK103 := Aside0.mk (blk_below (g := gb103) (o := .cells #[.int .i64 ((rd_T67 l0 x20_1).f0), .int .i64 ((rd_T67 l0 x20_1).f1), .int .i64 ((rd_T67 l0 x20_1).f2)] 67 (0, 0)) (by (with_reducible repeat (first | refine blk_drewN ?_ _ | refine blk_drew ?_ | refine blk_alloc ?_ _)); refine blk_far ?_ NB103_109.out _; (with_reducible repeat (first | refine blk_drewN ?_ _ | refine blk_drew ?_ | refine blk_alloc ?_ _)); refine blk_far ?_ NB103_109.out _; (with_reducible repeat (first | refine blk_drewN ?_ _ | refine blk_drew ?_ | refine blk_alloc ?_ _)); refine blk_far ?_ NB103_109.out _; (with_reducible repeat (first | refine blk_drewN ?_ _ | refine blk_drew ?_ | refine blk_alloc ?_ _)); exact BK103.out) hb); replace BK109 := Aside0.mk (blk_below (g := gb109) (o := .cells #[.int .i64 ((rd_T67 y104 x29_2).f0), .int .i64 ((rd_T67 y104 x29_2).f1), .int .i64 ((rd_T67 y104 x29_2).f2)] 67 (0, 0)) (by (with_reducible repeat (first | refine blk_drewN ?_ _ | refine blk_drew ?_ | refine blk_alloc ?_ _)); refine blk_put (cs := #[.int .i64 ((rd_T67 y104 x29_2).f0), .int .i64 ((rd_T67 y104 x29_2).f1), .int .i64 0]) ?_ 2 _ rfl; (with_reducible repeat (first | refine blk_drewN ?_ _ | refine blk_drew ?_ | refine blk_alloc ?_ _)); refine blk_put (cs := #[.int .i64 ((rd_T67 y104 x29_2).f0), .int .i64 0, .int .i64 0]) ?_ 1 _ rfl; (with_reducible repeat (first | refine blk_drewN ?_ _ | refine blk_drew ?_ | refine blk_alloc ?_ _)); refine blk_put (cs := #[.int .i64 0, .int .i64 0, .int .i64 0]) ?_ 0 _ rfl; (with_reducible repeat (first | refine blk_drewN ?_ _ | refine blk_drew ?_ | refine blk_alloc ?_ _)); exact BK109.out) hb); replace HB := Aside0.mk (below_step (by repeat (first | (with_reducible first | exact HB.out | apply below_alloc | apply pw_below_drewN | apply below_drew1 | refine below_set ?_ GE101.out | refine below_set ?_ GE103.out | refine below_set ?_ GE109.out) | exact HB.out)) hb); (try clear hb)) | ((with_reducible refine gate_callee (f := 122) rfl ?_); refine glq_ (some 36) Try.func122 #[.agg #[.int .i64 t110, .int .i64 t111, .int .i64 t112]] ?_; (with_reducible refine (tile_reduce.calls k2 t110 t111 t112 t113 t114 t115 _ A19.out).mono ?_); rintro e w78 ⟨rfl, hb⟩; refine ⟨_, rfl, ?_⟩; replace BK101 := bkb_ BK101 hb rfl; replace BK103 := bkb_ BK103 hb rfl; replace BK109 := bkb_ BK109 hb rfl; replace HB := hbs_ HB hb rfl rfl rfl rfl; (try clear hb)) | ((with_reducible refine gate_dst (N := 11) rfl ?_); refine bxq_ 11 #[.int .i64 0, .int .i64 0, .int .i64 0] 67 ?_; intro gb116 hg w79 hbox hb; have BK116 := Aside0.mk (hbox); have GW116 := gwq_ HB hg rfl; have GE116 := GW116; have NB101_116 := nbl_ BK101 hg rfl; have NB116_101 := nbg_ BK101 hg rfl; have NB103_116 := nbl_ BK103 hg rfl; have NB116_103 := nbg_ BK103 hg rfl; have NB109_116 := nbl_ BK109 hg rfl; have NB116_109 := nbg_ BK109 hg rfl; replace BK101 := bkb_ BK101 hb rfl; replace BK103 := bkb_ BK103 hb rfl; replace BK109 := bkb_ BK109 hb rfl; replace HB := hbs_ HB hb rfl rfl rfl rfl; clear hb hbox hg; have hnb80 := NB116_101.out; have hnc80 := NB101_116.out; have hnb81 := NB116_103.out; have hnc81 := NB103_116.out; have hnb82 := NB116_109.out; have hnc82 := NB109_116.out; have hcz83_0 := bc_ BK116 0 rfl; have hcz83_1 := bc_ BK116 1 rfl; have hcz83_2 := bc_ BK116 2 rfl; have hfz83_0 := blk_frozen BK116.out 0; have hfz83_1 := blk_frozen BK116.out 1; have hfz83_2 := blk_frozen BK116.out 2))
        go_roundg k2
        case measure => have := HK1.out; have := HK2.out; omega
        case rel => exact ⟨(wrap64 (x29_2 + 1)), (by first | rfl | (simp; done) | (simp [*]; done)), H', ⟨by have := HK1.out; have := HK2.out; omega⟩, ⟨by (with_reducible repeat (first | refine blk_drewN ?_ _ | refine blk_drew ?_ | refine blk_alloc ?_ _)); refine blk_far ?_ NB101_116.out _; (with_reducible repeat (first | refine blk_drewN ?_ _ | refine blk_drew ?_ | refine blk_alloc ?_ _)); refine blk_far ?_ NB101_116.out _; (with_reducible repeat (first | refine blk_drewN ?_ _ | refine blk_drew ?_ | refine blk_alloc ?_ _)); refine blk_far ?_ NB101_116.out _; (with_reducible repeat (first | refine blk_drewN ?_ _ | refine blk_drew ?_ | refine blk_alloc ?_ _)); exact BK101.out⟩, ⟨by (with_reducible repeat (first | refine blk_drewN ?_ _ | refine blk_drew ?_ | refine blk_alloc ?_ _)); refine blk_far ?_ NB103_116.out _; (with_reducible repeat (first | refine blk_drewN ?_ _ | refine blk_drew ?_ | refine blk_alloc ?_ _)); refine blk_far ?_ NB103_116.out _; (with_reducible repeat (first | refine blk_drewN ?_ _ | refine blk_drew ?_ | refine blk_alloc ?_ _)); refine blk_far ?_ NB103_116.out _; (with_reducible repeat (first | refine blk_drewN ?_ _ | refine blk_drew ?_ | refine blk_alloc ?_ _)); exact BK103.out⟩, ⟨by repeat (first | (with_reducible first | exact HB.out | apply below_alloc | apply pw_below_drewN | apply below_drew1 | refine below_set ?_ GE101.out | refine below_set ?_ GE103.out | refine below_set ?_ GE109.out | refine below_set ?_ GE116.out) | exact HB.out)⟩⟩
      rw [if_pos c20] at H
      have c20b0 : (!(t113 == 0) || (!(t114 == 0) || (!(t115 == 0)))) = true := c20
      clear c20
      replace H := Option.bind_eq_some_iff.mp H
      obtain ⟨t117, A210, H⟩ := H
      try dsimp -simprocs only at H
      have A21 := Aside0.mk A210
      clear A210
      by_cases c22 : t117 = true
      · subst c22
        rw [if_pos rfl] at H
        obtain rfl := Option.some.inj H
        have p108 : 0 ≤ (x29_2 : Int) := of_decide_eq_true (by first | (with_reducible assumption) | assumption)
        have q108 : x29_2 < (y104.length : Int) := of_decide_eq_true (by first | (with_reducible assumption) | assumption)
        obtain ⟨ad108, e108, hx108_0, hx108_1, hx108_2⟩ := at_T67 HR107.out x29_2 p108 q108
        obtain rfl : ad102 = ad108 := (by injection e108)
        replace hx108_0 := (HB.out.cell (World.block_lt_of_cell? w _ hx108_0)).trans hx108_0
        replace hx108_1 := (HB.out.cell (World.block_lt_of_cell? w _ hx108_1)).trans hx108_1
        replace hx108_2 := (HB.out.cell (World.block_lt_of_cell? w _ hx108_2)).trans hx108_2
        replace p108 := eq_true p108
        replace q108 := eq_true q108
        go_wp2_with (first | ((with_reducible refine gate_dst (N := 10) rfl ?_); refine bxq_ 10 #[.int .i64 0, .int .i64 0, .int .i64 0] 67 ?_; intro gb109 hg w23 hbox hb; have BK109 := Aside0.mk (hbox); have GW109 := gwq_ HB hg rfl; have GE109 := GW109; have NB101_109 := nbl_ BK101 hg rfl; have NB109_101 := nbg_ BK101 hg rfl; have NB103_109 := nbl_ BK103 hg rfl; have NB109_103 := nbg_ BK103 hg rfl; replace BK101 := bkb_ BK101 hb rfl; replace BK103 := bkb_ BK103 hb rfl; replace HB := hbs_ HB hb rfl rfl rfl rfl; clear hb hbox hg; have hnb24 := NB109_101.out; have hnc24 := NB101_109.out; have hnb25 := NB109_103.out; have hnc25 := NB103_109.out; have hcz26_0 := bc_ BK109 0 rfl; have hcz26_1 := bc_ BK109 1 rfl; have hcz26_2 := bc_ BK109 2 rfl; have hfz26_0 := blk_frozen BK109.out 0; have hfz26_1 := blk_frozen BK109.out 1; have hfz26_2 := blk_frozen BK109.out 2; have hnb27 := NB103_101.out; have hnc27 := NB101_103.out; have hcz28_0 := bc_ BK103 0 rfl; have hcz28_1 := bc_ BK103 1 rfl; have hcz28_2 := bc_ BK103 2 rfl; have hfz28_0 := blk_frozen BK103.out 0; have hfz28_1 := blk_frozen BK103.out 1; have hfz28_2 := blk_frozen BK103.out 2) | ((with_reducible refine gate_callee (f := 123) rfl ?_); refine glq_ (some 35) Try.func123 #[.agg #[.int .i64 ((rd_T67 l0 x20_1).f0), .int .i64 ((rd_T67 l0 x20_1).f1), .int .i64 ((rd_T67 l0 x20_1).f2)], .agg #[.int .i64 ((rd_T67 y104 x29_2).f0), .int .i64 ((rd_T67 y104 x29_2).f1), .int .i64 ((rd_T67 y104 x29_2).f2)]] ?_; (with_reducible refine (tile_cross.calls ((rd_T67 l0 x20_1).f0) ((rd_T67 l0 x20_1).f1) ((rd_T67 l0 x20_1).f2) ((rd_T67 y104 x29_2).f0) ((rd_T67 y104 x29_2).f1) ((rd_T67 y104 x29_2).f2) t110 t111 t112 _ A18.out).mono ?_); rintro e w29 ⟨rfl, hb⟩; refine ⟨_, rfl, ?_⟩; replace BK101 := Aside0.mk (blk_below (g := gb101) (o := .cells #[.slice (some ad102) l0.length c0] 80 (0, 0)) (by (with_reducible repeat (first | refine blk_drewN ?_ _ | refine blk_drew ?_ | refine blk_alloc ?_ _)); refine blk_far ?_ NB101_109.out _; (with_reducible repeat (first | refine blk_drewN ?_ _ | refine blk_drew ?_ | refine blk_alloc ?_ _)); refine blk_far ?_ NB101_109.out _; (with_reducible repeat (first | refine blk_drewN ?_ _ | refine blk_drew ?_ | refine blk_alloc ?_ _)); refine blk_far ?_ NB101_109.out _; (with_reducible repeat (first | refine blk_drewN ?_ _ | refine blk_drew ?_ | refine blk_alloc ?_ _)); exact BK101.out) hb); replace BK103 := Aside0.mk (blk_below (g := gb103) (o := .cells #[.int .i64 ((rd_T67 l0 x20_1).f0), .int .i64 ((rd_T67 l0 x20_1).f1), .int .i64 ((rd_T67 l0 x20_1).f2)] 67 (0, 0)) (by (with_reducible repeat (first | refine blk_drewN ?_ _ | refine blk_drew ?_ | refine blk_alloc ?_ _)); refine blk_far ?_ NB103_109.out _; (with_reducible repeat (first | refine blk_drewN ?_ _ | refine blk_drew ?_ | refine blk_alloc ?_ _)); refine blk_far ?_ NB103_109.out _; (with_reducible repeat (first | refine blk_drewN ?_ _ | refine blk_drew ?_ | refine blk_alloc ?_ _)); refine blk_far ?_ NB103_109.out _; (with_reducible repeat (first | refine blk_drewN ?_ _ | refine blk_drew ?_ | refine blk_alloc ?_ _)); exact BK103.out) hb); replace BK109 := Aside0.mk (blk_below (g := gb109) (o := .cells #[.int .i64 ((rd_T67 y104 x29_2).f0), .int .i64 ((rd_T67 y104 x29_2).f1), .int .i64 ((rd_T67 y104 x29_2).f2)] 67 (0, 0)) (by (with_reducible repeat (first | refine blk_drewN ?_ _ | refine blk_drew ?_ | refine blk_alloc ?_ _)); refine blk_put (cs := #[.int .i64 ((rd_T67 y104 x29_2).f0), .int .i64 ((rd_T67 y104 x29_2).f1), .int .i64 0]) ?_ 2 _ rfl; (with_reducible repeat (first | refine blk_drewN ?_ _ | refine blk_drew ?_ | refine blk_alloc ?_ _)); refine blk_put (cs := #[.int .i64 ((rd_T67 y104 x29_2).f0), .int .i64 0, .int .i64 0]) ?_ 1 _ rfl; (with_reducible repeat (first | refine blk_drewN ?_ _ | refine blk_drew ?_ | refine blk_alloc ?_ _)); refine blk_put (cs := #[.int .i64 0, .int .i64 0, .int .i64 0]) ?_ 0 _ rfl; (with_reducible repeat (first | refine blk_drewN ?_ _ | refine blk_drew ?_ | refine blk_alloc ?_ _)); exact BK109.out) hb); replace HB := Aside0.mk (below_step (by repeat (first | (with_reducible first | exact HB.out | apply below_alloc | apply pw_below_drewN | apply below_drew1 | refine below_set ?_ GE101.out | refine below_set ?_ GE103.out | refine below_set ?_ GE109.out) | exact HB.out)) hb); (try clear hb)) | ((with_reducible refine gate_callee (f := 122) rfl ?_); refine glq_ (some 36) Try.func122 #[.agg #[.int .i64 t110, .int .i64 t111, .int .i64 t112]] ?_; (with_reducible refine (tile_reduce.calls k2 t110 t111 t112 t113 t114 t115 _ A19.out).mono ?_); rintro e w30 ⟨rfl, hb⟩; refine ⟨_, rfl, ?_⟩; replace BK101 := bkb_ BK101 hb rfl; replace BK103 := bkb_ BK103 hb rfl; replace BK109 := bkb_ BK109 hb rfl; replace HB := hbs_ HB hb rfl rfl rfl rfl; (try clear hb)) | ((with_reducible refine gate_dst (N := 11) rfl ?_); refine bxq_ 11 #[.int .i64 0, .int .i64 0, .int .i64 0] 67 ?_; intro gb116 hg w31 hbox hb; have BK116 := Aside0.mk (hbox); have GW116 := gwq_ HB hg rfl; have GE116 := GW116; have NB101_116 := nbl_ BK101 hg rfl; have NB116_101 := nbg_ BK101 hg rfl; have NB103_116 := nbl_ BK103 hg rfl; have NB116_103 := nbg_ BK103 hg rfl; have NB109_116 := nbl_ BK109 hg rfl; have NB116_109 := nbg_ BK109 hg rfl; replace BK101 := bkb_ BK101 hb rfl; replace BK103 := bkb_ BK103 hb rfl; replace BK109 := bkb_ BK109 hb rfl; replace HB := hbs_ HB hb rfl rfl rfl rfl; clear hb hbox hg; have hnb32 := NB116_101.out; have hnc32 := NB101_116.out; have hnb33 := NB116_103.out; have hnc33 := NB103_116.out; have hnb34 := NB116_109.out; have hnc34 := NB109_116.out; have hcz35_0 := bc_ BK116 0 rfl; have hcz35_1 := bc_ BK116 1 rfl; have hcz35_2 := bc_ BK116 2 rfl; have hfz35_0 := blk_frozen BK116.out 0; have hfz35_1 := blk_frozen BK116.out 1; have hfz35_2 := blk_frozen BK116.out 2) | (go_at_call 120; (with_reducible refine (tile_crosses_1.calls k2 t113 t114 t115 _ (List.length [l0]) [l0] true _ ?side1 ?side2 A21.out).mono ?_); (case side1 => exact cap_C (T := 80) (cs := #[.slice (some ad102) l0.length c0]) (by (with_reducible repeat (first | refine blk_drewN ?_ _ | refine blk_drew ?_ | refine blk_alloc ?_ _)); refine blk_far ?_ NB101_116.out _; (with_reducible repeat (first | refine blk_drewN ?_ _ | refine blk_drew ?_ | refine blk_alloc ?_ _)); refine blk_far ?_ NB101_116.out _; (with_reducible repeat (first | refine blk_drewN ?_ _ | refine blk_drew ?_ | refine blk_alloc ?_ _)); refine blk_far ?_ NB101_116.out _; (with_reducible repeat (first | refine blk_drewN ?_ _ | refine blk_drew ?_ | refine blk_alloc ?_ _)); exact BK101.out) (⟨_, _, rfl, (by exact HC0.out), (by exact Kd.C_below HR0.out (by repeat (first | (with_reducible first | exact HB.out | apply below_alloc | apply pw_below_drewN | apply below_drew1 | refine below_set ?_ GE101.out | refine below_set ?_ GE103.out | refine below_set ?_ GE109.out | refine below_set ?_ GE116.out) | exact HB.out)))⟩) rfl); (case side2 => exact Nat.le_refl _); rintro e w36 ⟨rfl, hb⟩; replace BK101 := Aside0.mk (blk_below (g := gb101) (o := .cells #[.slice (some ad102) l0.length c0] 80 (0, 0)) (by (with_reducible repeat (first | refine blk_drewN ?_ _ | refine blk_drew ?_ | refine blk_alloc ?_ _)); refine blk_far ?_ NB101_116.out _; (with_reducible repeat (first | refine blk_drewN ?_ _ | refine blk_drew ?_ | refine blk_alloc ?_ _)); refine blk_far ?_ NB101_116.out _; (with_reducible repeat (first | refine blk_drewN ?_ _ | refine blk_drew ?_ | refine blk_alloc ?_ _)); refine blk_far ?_ NB101_116.out _; (with_reducible repeat (first | refine blk_drewN ?_ _ | refine blk_drew ?_ | refine blk_alloc ?_ _)); exact BK101.out) hb); replace BK103 := Aside0.mk (blk_below (g := gb103) (o := .cells #[.int .i64 ((rd_T67 l0 x20_1).f0), .int .i64 ((rd_T67 l0 x20_1).f1), .int .i64 ((rd_T67 l0 x20_1).f2)] 67 (0, 0)) (by (with_reducible repeat (first | refine blk_drewN ?_ _ | refine blk_drew ?_ | refine blk_alloc ?_ _)); refine blk_far ?_ NB103_116.out _; (with_reducible repeat (first | refine blk_drewN ?_ _ | refine blk_drew ?_ | refine blk_alloc ?_ _)); refine blk_far ?_ NB103_116.out _; (with_reducible repeat (first | refine blk_drewN ?_ _ | refine blk_drew ?_ | refine blk_alloc ?_ _)); refine blk_far ?_ NB103_116.out _; (with_reducible repeat (first | refine blk_drewN ?_ _ | refine blk_drew ?_ | refine blk_alloc ?_ _)); exact BK103.out) hb); replace BK109 := Aside0.mk (blk_below (g := gb109) (o := .cells #[.int .i64 ((rd_T67 y104 x29_2).f0), .int .i64 ((rd_T67 y104 x29_2).f1), .int .i64 ((rd_T67 y104 x29_2).f2)] 67 (0, 0)) (by (with_reducible repeat (first | refine blk_drewN ?_ _ | refine blk_drew ?_ | refine blk_alloc ?_ _)); refine blk_far ?_ NB109_116.out _; (with_reducible repeat (first | refine blk_drewN ?_ _ | refine blk_drew ?_ | refine blk_alloc ?_ _)); refine blk_far ?_ NB109_116.out _; (with_reducible repeat (first | refine blk_drewN ?_ _ | refine blk_drew ?_ | refine blk_alloc ?_ _)); refine blk_far ?_ NB109_116.out _; (with_reducible repeat (first | refine blk_drewN ?_ _ | refine blk_drew ?_ | refine blk_alloc ?_ _)); exact BK109.out) hb); replace BK116 := Aside0.mk (blk_below (g := gb116) (o := .cells #[.int .i64 t113, .int .i64 t114, .int .i64 t115] 67 (0, 0)) (by (with_reducible repeat (first | refine blk_drewN ?_ _ | refine blk_drew ?_ | refine blk_alloc ?_ _)); refine blk_put (cs := #[.int .i64 t113, .int .i64 t114, .int .i64 0]) ?_ 2 _ rfl; (with_reducible repeat (first | refine blk_drewN ?_ _ | refine blk_drew ?_ | refine blk_alloc ?_ _)); refine blk_put (cs := #[.int .i64 t113, .int .i64 0, .int .i64 0]) ?_ 1 _ rfl; (with_reducible repeat (first | refine blk_drewN ?_ _ | refine blk_drew ?_ | refine blk_alloc ?_ _)); refine blk_put (cs := #[.int .i64 0, .int .i64 0, .int .i64 0]) ?_ 0 _ rfl; (with_reducible repeat (first | refine blk_drewN ?_ _ | refine blk_drew ?_ | refine blk_alloc ?_ _)); exact BK116.out) hb); replace HB := Aside0.mk (below_step (by repeat (first | (with_reducible first | exact HB.out | apply below_alloc | apply pw_below_drewN | apply below_drew1 | refine below_set ?_ GE101.out | refine below_set ?_ GE103.out | refine below_set ?_ GE109.out | refine below_set ?_ GE116.out) | exact HB.out)) hb); (try clear hb)))
        go_ret
        exact ⟨by first | rfl | (simp [errW_none, errW_some] <;> rfl) | (simp [*, errW_none, errW_some] <;> rfl), by refine HBZ.out.trans (Below.mono ?_ (Below.size HBZ.out)); repeat (first | (with_reducible first | exact HB.out | apply below_alloc | apply pw_below_drewN | apply below_drew1 | refine below_set ?_ GE101.out | refine below_set ?_ GE103.out | refine below_set ?_ GE109.out | refine below_set ?_ GE116.out) | exact HB.out)⟩
      replace c22 := Bool.eq_false_iff.mpr c22
      subst c22
      rw [if_neg (show ¬ (false = true) by decide)] at H
      replace H := Option.bind_eq_some_iff.mp H
      obtain ⟨t118, A370, H⟩ := H
      try dsimp -simprocs only at H
      have A37 := Aside0.mk A370
      clear A370
      by_cases c38 : t118 = true
      · subst c38
        rw [if_pos rfl] at H
        obtain rfl := Option.some.inj H
        have p108 : 0 ≤ (x29_2 : Int) := of_decide_eq_true (by first | (with_reducible assumption) | assumption)
        have q108 : x29_2 < (y104.length : Int) := of_decide_eq_true (by first | (with_reducible assumption) | assumption)
        obtain ⟨ad108, e108, hx108_0, hx108_1, hx108_2⟩ := at_T67 HR107.out x29_2 p108 q108
        obtain rfl : ad102 = ad108 := (by injection e108)
        replace hx108_0 := (HB.out.cell (World.block_lt_of_cell? w _ hx108_0)).trans hx108_0
        replace hx108_1 := (HB.out.cell (World.block_lt_of_cell? w _ hx108_1)).trans hx108_1
        replace hx108_2 := (HB.out.cell (World.block_lt_of_cell? w _ hx108_2)).trans hx108_2
        replace p108 := eq_true p108
        replace q108 := eq_true q108
        go_wp2_with (first | ((with_reducible refine gate_dst (N := 10) rfl ?_); refine bxq_ 10 #[.int .i64 0, .int .i64 0, .int .i64 0] 67 ?_; intro gb109 hg w39 hbox hb; have BK109 := Aside0.mk (hbox); have GW109 := gwq_ HB hg rfl; have GE109 := GW109; have NB101_109 := nbl_ BK101 hg rfl; have NB109_101 := nbg_ BK101 hg rfl; have NB103_109 := nbl_ BK103 hg rfl; have NB109_103 := nbg_ BK103 hg rfl; replace BK101 := bkb_ BK101 hb rfl; replace BK103 := bkb_ BK103 hb rfl; replace HB := hbs_ HB hb rfl rfl rfl rfl; clear hb hbox hg; have hnb40 := NB109_101.out; have hnc40 := NB101_109.out; have hnb41 := NB109_103.out; have hnc41 := NB103_109.out; have hcz42_0 := bc_ BK109 0 rfl; have hcz42_1 := bc_ BK109 1 rfl; have hcz42_2 := bc_ BK109 2 rfl; have hfz42_0 := blk_frozen BK109.out 0; have hfz42_1 := blk_frozen BK109.out 1; have hfz42_2 := blk_frozen BK109.out 2; have hnb43 := NB103_101.out; have hnc43 := NB101_103.out; have hcz44_0 := bc_ BK103 0 rfl; have hcz44_1 := bc_ BK103 1 rfl; have hcz44_2 := bc_ BK103 2 rfl; have hfz44_0 := blk_frozen BK103.out 0; have hfz44_1 := blk_frozen BK103.out 1; have hfz44_2 := blk_frozen BK103.out 2) | ((with_reducible refine gate_callee (f := 123) rfl ?_); refine glq_ (some 35) Try.func123 #[.agg #[.int .i64 ((rd_T67 l0 x20_1).f0), .int .i64 ((rd_T67 l0 x20_1).f1), .int .i64 ((rd_T67 l0 x20_1).f2)], .agg #[.int .i64 ((rd_T67 y104 x29_2).f0), .int .i64 ((rd_T67 y104 x29_2).f1), .int .i64 ((rd_T67 y104 x29_2).f2)]] ?_; (with_reducible refine (tile_cross.calls ((rd_T67 l0 x20_1).f0) ((rd_T67 l0 x20_1).f1) ((rd_T67 l0 x20_1).f2) ((rd_T67 y104 x29_2).f0) ((rd_T67 y104 x29_2).f1) ((rd_T67 y104 x29_2).f2) t110 t111 t112 _ A18.out).mono ?_); rintro e w45 ⟨rfl, hb⟩; refine ⟨_, rfl, ?_⟩; replace BK101 := Aside0.mk (blk_below (g := gb101) (o := .cells #[.slice (some ad102) l0.length c0] 80 (0, 0)) (by (with_reducible repeat (first | refine blk_drewN ?_ _ | refine blk_drew ?_ | refine blk_alloc ?_ _)); refine blk_far ?_ NB101_109.out _; (with_reducible repeat (first | refine blk_drewN ?_ _ | refine blk_drew ?_ | refine blk_alloc ?_ _)); refine blk_far ?_ NB101_109.out _; (with_reducible repeat (first | refine blk_drewN ?_ _ | refine blk_drew ?_ | refine blk_alloc ?_ _)); refine blk_far ?_ NB101_109.out _; (with_reducible repeat (first | refine blk_drewN ?_ _ | refine blk_drew ?_ | refine blk_alloc ?_ _)); exact BK101.out) hb); replace BK103 := Aside0.mk (blk_below (g := gb103) (o := .cells #[.int .i64 ((rd_T67 l0 x20_1).f0), .int .i64 ((rd_T67 l0 x20_1).f1), .int .i64 ((rd_T67 l0 x20_1).f2)] 67 (0, 0)) (by (with_reducible repeat (first | refine blk_drewN ?_ _ | refine blk_drew ?_ | refine blk_alloc ?_ _)); refine blk_far ?_ NB103_109.out _; (with_reducible repeat (first | refine blk_drewN ?_ _ | refine blk_drew ?_ | refine blk_alloc ?_ _)); refine blk_far ?_ NB103_109.out _; (with_reducible repeat (first | refine blk_drewN ?_ _ | refine blk_drew ?_ | refine blk_alloc ?_ _)); refine blk_far ?_ NB103_109.out _; (with_reducible repeat (first | refine blk_drewN ?_ _ | refine blk_drew ?_ | refine blk_alloc ?_ _)); exact BK103.out) hb); replace BK109 := Aside0.mk (blk_below (g := gb109) (o := .cells #[.int .i64 ((rd_T67 y104 x29_2).f0), .int .i64 ((rd_T67 y104 x29_2).f1), .int .i64 ((rd_T67 y104 x29_2).f2)] 67 (0, 0)) (by (with_reducible repeat (first | refine blk_drewN ?_ _ | refine blk_drew ?_ | refine blk_alloc ?_ _)); refine blk_put (cs := #[.int .i64 ((rd_T67 y104 x29_2).f0), .int .i64 ((rd_T67 y104 x29_2).f1), .int .i64 0]) ?_ 2 _ rfl; (with_reducible repeat (first | refine blk_drewN ?_ _ | refine blk_drew ?_ | refine blk_alloc ?_ _)); refine blk_put (cs := #[.int .i64 ((rd_T67 y104 x29_2).f0), .int .i64 0, .int .i64 0]) ?_ 1 _ rfl; (with_reducible repeat (first | refine blk_drewN ?_ _ | refine blk_drew ?_ | refine blk_alloc ?_ _)); refine blk_put (cs := #[.int .i64 0, .int .i64 0, .int .i64 0]) ?_ 0 _ rfl; (with_reducible repeat (first | refine blk_drewN ?_ _ | refine blk_drew ?_ | refine blk_alloc ?_ _)); exact BK109.out) hb); replace HB := Aside0.mk (below_step (by repeat (first | (with_reducible first | exact HB.out | apply below_alloc | apply pw_below_drewN | apply below_drew1 | refine below_set ?_ GE101.out | refine below_set ?_ GE103.out | refine below_set ?_ GE109.out) | exact HB.out)) hb); (try clear hb)) | ((with_reducible refine gate_callee (f := 122) rfl ?_); refine glq_ (some 36) Try.func122 #[.agg #[.int .i64 t110, .int .i64 t111, .int .i64 t112]] ?_; (with_reducible refine (tile_reduce.calls k2 t110 t111 t112 t113 t114 t115 _ A19.out).mono ?_); rintro e w46 ⟨rfl, hb⟩; refine ⟨_, rfl, ?_⟩; replace BK101 := bkb_ BK101 hb rfl; replace BK103 := bkb_ BK103 hb rfl; replace BK109 := bkb_ BK109 hb rfl; replace HB := hbs_ HB hb rfl rfl rfl rfl; (try clear hb)) | ((with_reducible refine gate_dst (N := 11) rfl ?_); refine bxq_ 11 #[.int .i64 0, .int .i64 0, .int .i64 0] 67 ?_; intro gb116 hg w47 hbox hb; have BK116 := Aside0.mk (hbox); have GW116 := gwq_ HB hg rfl; have GE116 := GW116; have NB101_116 := nbl_ BK101 hg rfl; have NB116_101 := nbg_ BK101 hg rfl; have NB103_116 := nbl_ BK103 hg rfl; have NB116_103 := nbg_ BK103 hg rfl; have NB109_116 := nbl_ BK109 hg rfl; have NB116_109 := nbg_ BK109 hg rfl; replace BK101 := bkb_ BK101 hb rfl; replace BK103 := bkb_ BK103 hb rfl; replace BK109 := bkb_ BK109 hb rfl; replace HB := hbs_ HB hb rfl rfl rfl rfl; clear hb hbox hg; have hnb48 := NB116_101.out; have hnc48 := NB101_116.out; have hnb49 := NB116_103.out; have hnc49 := NB103_116.out; have hnb50 := NB116_109.out; have hnc50 := NB109_116.out; have hcz51_0 := bc_ BK116 0 rfl; have hcz51_1 := bc_ BK116 1 rfl; have hcz51_2 := bc_ BK116 2 rfl; have hfz51_0 := blk_frozen BK116.out 0; have hfz51_1 := blk_frozen BK116.out 1; have hfz51_2 := blk_frozen BK116.out 2) | (go_at_call 120; (with_reducible refine (tile_crosses_1.calls k2 t113 t114 t115 _ (List.length [l0]) [l0] false _ ?side1 ?side2 A21.out).mono ?_); (case side1 => exact cap_C (T := 80) (cs := #[.slice (some ad102) l0.length c0]) (by (with_reducible repeat (first | refine blk_drewN ?_ _ | refine blk_drew ?_ | refine blk_alloc ?_ _)); refine blk_far ?_ NB101_116.out _; (with_reducible repeat (first | refine blk_drewN ?_ _ | refine blk_drew ?_ | refine blk_alloc ?_ _)); refine blk_far ?_ NB101_116.out _; (with_reducible repeat (first | refine blk_drewN ?_ _ | refine blk_drew ?_ | refine blk_alloc ?_ _)); refine blk_far ?_ NB101_116.out _; (with_reducible repeat (first | refine blk_drewN ?_ _ | refine blk_drew ?_ | refine blk_alloc ?_ _)); exact BK101.out) (⟨_, _, rfl, (by exact HC0.out), (by exact Kd.C_below HR0.out (by repeat (first | (with_reducible first | exact HB.out | apply below_alloc | apply pw_below_drewN | apply below_drew1 | refine below_set ?_ GE101.out | refine below_set ?_ GE103.out | refine below_set ?_ GE109.out | refine below_set ?_ GE116.out) | exact HB.out)))⟩) rfl); (case side2 => exact Nat.le_refl _); rintro e w52 ⟨rfl, hb⟩; replace BK101 := Aside0.mk (blk_below (g := gb101) (o := .cells #[.slice (some ad102) l0.length c0] 80 (0, 0)) (by (with_reducible repeat (first | refine blk_drewN ?_ _ | refine blk_drew ?_ | refine blk_alloc ?_ _)); refine blk_far ?_ NB101_116.out _; (with_reducible repeat (first | refine blk_drewN ?_ _ | refine blk_drew ?_ | refine blk_alloc ?_ _)); refine blk_far ?_ NB101_116.out _; (with_reducible repeat (first | refine blk_drewN ?_ _ | refine blk_drew ?_ | refine blk_alloc ?_ _)); refine blk_far ?_ NB101_116.out _; (with_reducible repeat (first | refine blk_drewN ?_ _ | refine blk_drew ?_ | refine blk_alloc ?_ _)); exact BK101.out) hb); replace BK103 := Aside0.mk (blk_below (g := gb103) (o := .cells #[.int .i64 ((rd_T67 l0 x20_1).f0), .int .i64 ((rd_T67 l0 x20_1).f1), .int .i64 ((rd_T67 l0 x20_1).f2)] 67 (0, 0)) (by (with_reducible repeat (first | refine blk_drewN ?_ _ | refine blk_drew ?_ | refine blk_alloc ?_ _)); refine blk_far ?_ NB103_116.out _; (with_reducible repeat (first | refine blk_drewN ?_ _ | refine blk_drew ?_ | refine blk_alloc ?_ _)); refine blk_far ?_ NB103_116.out _; (with_reducible repeat (first | refine blk_drewN ?_ _ | refine blk_drew ?_ | refine blk_alloc ?_ _)); refine blk_far ?_ NB103_116.out _; (with_reducible repeat (first | refine blk_drewN ?_ _ | refine blk_drew ?_ | refine blk_alloc ?_ _)); exact BK103.out) hb); replace BK109 := Aside0.mk (blk_below (g := gb109) (o := .cells #[.int .i64 ((rd_T67 y104 x29_2).f0), .int .i64 ((rd_T67 y104 x29_2).f1), .int .i64 ((rd_T67 y104 x29_2).f2)] 67 (0, 0)) (by (with_reducible repeat (first | refine blk_drewN ?_ _ | refine blk_drew ?_ | refine blk_alloc ?_ _)); refine blk_far ?_ NB109_116.out _; (with_reducible repeat (first | refine blk_drewN ?_ _ | refine blk_drew ?_ | refine blk_alloc ?_ _)); refine blk_far ?_ NB109_116.out _; (with_reducible repeat (first | refine blk_drewN ?_ _ | refine blk_drew ?_ | refine blk_alloc ?_ _)); refine blk_far ?_ NB109_116.out _; (with_reducible repeat (first | refine blk_drewN ?_ _ | refine blk_drew ?_ | refine blk_alloc ?_ _)); exact BK109.out) hb); replace BK116 := Aside0.mk (blk_below (g := gb116) (o := .cells #[.int .i64 t113, .int .i64 t114, .int .i64 t115] 67 (0, 0)) (by (with_reducible repeat (first | refine blk_drewN ?_ _ | refine blk_drew ?_ | refine blk_alloc ?_ _)); refine blk_put (cs := #[.int .i64 t113, .int .i64 t114, .int .i64 0]) ?_ 2 _ rfl; (with_reducible repeat (first | refine blk_drewN ?_ _ | refine blk_drew ?_ | refine blk_alloc ?_ _)); refine blk_put (cs := #[.int .i64 t113, .int .i64 0, .int .i64 0]) ?_ 1 _ rfl; (with_reducible repeat (first | refine blk_drewN ?_ _ | refine blk_drew ?_ | refine blk_alloc ?_ _)); refine blk_put (cs := #[.int .i64 0, .int .i64 0, .int .i64 0]) ?_ 0 _ rfl; (with_reducible repeat (first | refine blk_drewN ?_ _ | refine blk_drew ?_ | refine blk_alloc ?_ _)); exact BK116.out) hb); replace HB := Aside0.mk (below_step (by repeat (first | (with_reducible first | exact HB.out | apply below_alloc | apply pw_below_drewN | apply below_drew1 | refine below_set ?_ GE101.out | refine below_set ?_ GE103.out | refine below_set ?_ GE109.out | refine below_set ?_ GE116.out) | exact HB.out)) hb); (try clear hb); have hcz53_0 := bc_ BK116 0 rfl; have hcz53_1 := bc_ BK116 1 rfl; have hcz53_2 := bc_ BK116 2 rfl; have hfz53_0 := blk_frozen BK116.out 0; have hfz53_1 := blk_frozen BK116.out 1; have hfz53_2 := blk_frozen BK116.out 2) | (go_at_call 120; (with_reducible refine (tile_crosses_1.calls k2 (wrap64 (-t113)) (wrap64 (-t114)) (wrap64 (-t115)) _ (List.length [l0]) [l0] true _ ?side1 ?side2 A37.out).mono ?_); (case side1 => exact cap_C (T := 80) (cs := #[.slice (some ad102) l0.length c0]) BK101.out (⟨_, _, rfl, (by exact HC0.out), (by repeat (first | exact (Kd.C_below HR0.out HB.out) | (with_reducible refine Kd.C_alloc ?_ _) | (with_reducible refine Kd.C_drewN ?_ _) | (with_reducible refine Kd.C_drew ?_)))⟩) rfl); (case side2 => exact Nat.le_refl _); rintro e w54 ⟨rfl, hb⟩; replace BK101 := bkb_ BK101 hb rfl; replace BK103 := bkb_ BK103 hb rfl; replace BK109 := bkb_ BK109 hb rfl; replace BK116 := bkb_ BK116 hb rfl; replace HB := hbs_ HB hb rfl rfl rfl rfl; (try clear hb)))
        go_ret
        exact ⟨by first | rfl | (simp [errW_none, errW_some] <;> rfl) | (simp [*, errW_none, errW_some] <;> rfl), by refine HBZ.out.trans (Below.mono ?_ (Below.size HBZ.out)); repeat (first | (with_reducible first | exact HB.out | apply below_alloc | apply pw_below_drewN | apply below_drew1 | refine below_set ?_ GE101.out | refine below_set ?_ GE103.out | refine below_set ?_ GE109.out | refine below_set ?_ GE116.out) | exact HB.out)⟩
      replace c38 := Bool.eq_false_iff.mpr c38
      subst c38
      rw [if_neg (show ¬ (false = true) by decide)] at H
      have H' := Aside0.mk H
      clear H
      have p108 : 0 ≤ (x29_2 : Int) := of_decide_eq_true (by first | (with_reducible assumption) | assumption)
      have q108 : x29_2 < (y104.length : Int) := of_decide_eq_true (by first | (with_reducible assumption) | assumption)
      obtain ⟨ad108, e108, hx108_0, hx108_1, hx108_2⟩ := at_T67 HR107.out x29_2 p108 q108
      obtain rfl : ad102 = ad108 := (by injection e108)
      replace hx108_0 := (HB.out.cell (World.block_lt_of_cell? w _ hx108_0)).trans hx108_0
      replace hx108_1 := (HB.out.cell (World.block_lt_of_cell? w _ hx108_1)).trans hx108_1
      replace hx108_2 := (HB.out.cell (World.block_lt_of_cell? w _ hx108_2)).trans hx108_2
      replace p108 := eq_true p108
      replace q108 := eq_true q108
      go_wp2_with (first | ((with_reducible refine gate_dst (N := 10) rfl ?_); refine bxq_ 10 #[.int .i64 0, .int .i64 0, .int .i64 0] 67 ?_; intro gb109 hg w55 hbox hb; have BK109 := Aside0.mk (hbox); have GW109 := gwq_ HB hg rfl; have GE109 := GW109; have NB101_109 := nbl_ BK101 hg rfl; have NB109_101 := nbg_ BK101 hg rfl; have NB103_109 := nbl_ BK103 hg rfl; have NB109_103 := nbg_ BK103 hg rfl; replace BK101 := bkb_ BK101 hb rfl; replace BK103 := bkb_ BK103 hb rfl; replace HB := hbs_ HB hb rfl rfl rfl rfl; clear hb hbox hg; have hnb56 := NB109_101.out; have hnc56 := NB101_109.out; have hnb57 := NB109_103.out; have hnc57 := NB103_109.out; have hcz58_0 := bc_ BK109 0 rfl; have hcz58_1 := bc_ BK109 1 rfl; have hcz58_2 := bc_ BK109 2 rfl; have hfz58_0 := blk_frozen BK109.out 0; have hfz58_1 := blk_frozen BK109.out 1; have hfz58_2 := blk_frozen BK109.out 2; have hnb59 := NB103_101.out; have hnc59 := NB101_103.out; have hcz60_0 := bc_ BK103 0 rfl; have hcz60_1 := bc_ BK103 1 rfl; have hcz60_2 := bc_ BK103 2 rfl; have hfz60_0 := blk_frozen BK103.out 0; have hfz60_1 := blk_frozen BK103.out 1; have hfz60_2 := blk_frozen BK103.out 2) | ((with_reducible refine gate_callee (f := 123) rfl ?_); refine glq_ (some 35) Try.func123 #[.agg #[.int .i64 ((rd_T67 l0 x20_1).f0), .int .i64 ((rd_T67 l0 x20_1).f1), .int .i64 ((rd_T67 l0 x20_1).f2)], .agg #[.int .i64 ((rd_T67 y104 x29_2).f0), .int .i64 ((rd_T67 y104 x29_2).f1), .int .i64 ((rd_T67 y104 x29_2).f2)]] ?_; (with_reducible refine (tile_cross.calls ((rd_T67 l0 x20_1).f0) ((rd_T67 l0 x20_1).f1) ((rd_T67 l0 x20_1).f2) ((rd_T67 y104 x29_2).f0) ((rd_T67 y104 x29_2).f1) ((rd_T67 y104 x29_2).f2) t110 t111 t112 _ A18.out).mono ?_); rintro e w61 ⟨rfl, hb⟩; refine ⟨_, rfl, ?_⟩; replace BK101 := Aside0.mk (blk_below (g := gb101) (o := .cells #[.slice (some ad102) l0.length c0] 80 (0, 0)) (by (with_reducible repeat (first | refine blk_drewN ?_ _ | refine blk_drew ?_ | refine blk_alloc ?_ _)); refine blk_far ?_ NB101_109.out _; (with_reducible repeat (first | refine blk_drewN ?_ _ | refine blk_drew ?_ | refine blk_alloc ?_ _)); refine blk_far ?_ NB101_109.out _; (with_reducible repeat (first | refine blk_drewN ?_ _ | refine blk_drew ?_ | refine blk_alloc ?_ _)); refine blk_far ?_ NB101_109.out _; (with_reducible repeat (first | refine blk_drewN ?_ _ | refine blk_drew ?_ | refine blk_alloc ?_ _)); exact BK101.out) hb); replace BK103 := Aside0.mk (blk_below (g := gb103) (o := .cells #[.int .i64 ((rd_T67 l0 x20_1).f0), .int .i64 ((rd_T67 l0 x20_1).f1), .int .i64 ((rd_T67 l0 x20_1).f2)] 67 (0, 0)) (by (with_reducible repeat (first | refine blk_drewN ?_ _ | refine blk_drew ?_ | refine blk_alloc ?_ _)); refine blk_far ?_ NB103_109.out _; (with_reducible repeat (first | refine blk_drewN ?_ _ | refine blk_drew ?_ | refine blk_alloc ?_ _)); refine blk_far ?_ NB103_109.out _; (with_reducible repeat (first | refine blk_drewN ?_ _ | refine blk_drew ?_ | refine blk_alloc ?_ _)); refine blk_far ?_ NB103_109.out _; (with_reducible repeat (first | refine blk_drewN ?_ _ | refine blk_drew ?_ | refine blk_alloc ?_ _)); exact BK103.out) hb); replace BK109 := Aside0.mk (blk_below (g := gb109) (o := .cells #[.int .i64 ((rd_T67 y104 x29_2).f0), .int .i64 ((rd_T67 y104 x29_2).f1), .int .i64 ((rd_T67 y104 x29_2).f2)] 67 (0, 0)) (by (with_reducible repeat (first | refine blk_drewN ?_ _ | refine blk_drew ?_ | refine blk_alloc ?_ _)); refine blk_put (cs := #[.int .i64 ((rd_T67 y104 x29_2).f0), .int .i64 ((rd_T67 y104 x29_2).f1), .int .i64 0]) ?_ 2 _ rfl; (with_reducible repeat (first | refine blk_drewN ?_ _ | refine blk_drew ?_ | refine blk_alloc ?_ _)); refine blk_put (cs := #[.int .i64 ((rd_T67 y104 x29_2).f0), .int .i64 0, .int .i64 0]) ?_ 1 _ rfl; (with_reducible repeat (first | refine blk_drewN ?_ _ | refine blk_drew ?_ | refine blk_alloc ?_ _)); refine blk_put (cs := #[.int .i64 0, .int .i64 0, .int .i64 0]) ?_ 0 _ rfl; (with_reducible repeat (first | refine blk_drewN ?_ _ | refine blk_drew ?_ | refine blk_alloc ?_ _)); exact BK109.out) hb); replace HB := Aside0.mk (below_step (by repeat (first | (with_reducible first | exact HB.out | apply below_alloc | apply pw_below_drewN | apply below_drew1 | refine below_set ?_ GE101.out | refine below_set ?_ GE103.out | refine below_set ?_ GE109.out) | exact HB.out)) hb); (try clear hb)) | ((with_reducible refine gate_callee (f := 122) rfl ?_); refine glq_ (some 36) Try.func122 #[.agg #[.int .i64 t110, .int .i64 t111, .int .i64 t112]] ?_; (with_reducible refine (tile_reduce.calls k2 t110 t111 t112 t113 t114 t115 _ A19.out).mono ?_); rintro e w62 ⟨rfl, hb⟩; refine ⟨_, rfl, ?_⟩; replace BK101 := bkb_ BK101 hb rfl; replace BK103 := bkb_ BK103 hb rfl; replace BK109 := bkb_ BK109 hb rfl; replace HB := hbs_ HB hb rfl rfl rfl rfl; (try clear hb)) | ((with_reducible refine gate_dst (N := 11) rfl ?_); refine bxq_ 11 #[.int .i64 0, .int .i64 0, .int .i64 0] 67 ?_; intro gb116 hg w63 hbox hb; have BK116 := Aside0.mk (hbox); have GW116 := gwq_ HB hg rfl; have GE116 := GW116; have NB101_116 := nbl_ BK101 hg rfl; have NB116_101 := nbg_ BK101 hg rfl; have NB103_116 := nbl_ BK103 hg rfl; have NB116_103 := nbg_ BK103 hg rfl; have NB109_116 := nbl_ BK109 hg rfl; have NB116_109 := nbg_ BK109 hg rfl; replace BK101 := bkb_ BK101 hb rfl; replace BK103 := bkb_ BK103 hb rfl; replace BK109 := bkb_ BK109 hb rfl; replace HB := hbs_ HB hb rfl rfl rfl rfl; clear hb hbox hg; have hnb64 := NB116_101.out; have hnc64 := NB101_116.out; have hnb65 := NB116_103.out; have hnc65 := NB103_116.out; have hnb66 := NB116_109.out; have hnc66 := NB109_116.out; have hcz67_0 := bc_ BK116 0 rfl; have hcz67_1 := bc_ BK116 1 rfl; have hcz67_2 := bc_ BK116 2 rfl; have hfz67_0 := blk_frozen BK116.out 0; have hfz67_1 := blk_frozen BK116.out 1; have hfz67_2 := blk_frozen BK116.out 2) | (go_at_call 120; (with_reducible refine (tile_crosses_1.calls k2 t113 t114 t115 _ (List.length [l0]) [l0] false _ ?side1 ?side2 A21.out).mono ?_); (case side1 => exact cap_C (T := 80) (cs := #[.slice (some ad102) l0.length c0]) (by (with_reducible repeat (first | refine blk_drewN ?_ _ | refine blk_drew ?_ | refine blk_alloc ?_ _)); refine blk_far ?_ NB101_116.out _; (with_reducible repeat (first | refine blk_drewN ?_ _ | refine blk_drew ?_ | refine blk_alloc ?_ _)); refine blk_far ?_ NB101_116.out _; (with_reducible repeat (first | refine blk_drewN ?_ _ | refine blk_drew ?_ | refine blk_alloc ?_ _)); refine blk_far ?_ NB101_116.out _; (with_reducible repeat (first | refine blk_drewN ?_ _ | refine blk_drew ?_ | refine blk_alloc ?_ _)); exact BK101.out) (⟨_, _, rfl, (by exact HC0.out), (by exact Kd.C_below HR0.out (by repeat (first | (with_reducible first | exact HB.out | apply below_alloc | apply pw_below_drewN | apply below_drew1 | refine below_set ?_ GE101.out | refine below_set ?_ GE103.out | refine below_set ?_ GE109.out | refine below_set ?_ GE116.out) | exact HB.out)))⟩) rfl); (case side2 => exact Nat.le_refl _); rintro e w68 ⟨rfl, hb⟩; replace BK101 := Aside0.mk (blk_below (g := gb101) (o := .cells #[.slice (some ad102) l0.length c0] 80 (0, 0)) (by (with_reducible repeat (first | refine blk_drewN ?_ _ | refine blk_drew ?_ | refine blk_alloc ?_ _)); refine blk_far ?_ NB101_116.out _; (with_reducible repeat (first | refine blk_drewN ?_ _ | refine blk_drew ?_ | refine blk_alloc ?_ _)); refine blk_far ?_ NB101_116.out _; (with_reducible repeat (first | refine blk_drewN ?_ _ | refine blk_drew ?_ | refine blk_alloc ?_ _)); refine blk_far ?_ NB101_116.out _; (with_reducible repeat (first | refine blk_drewN ?_ _ | refine blk_drew ?_ | refine blk_alloc ?_ _)); exact BK101.out) hb); replace BK103 := Aside0.mk (blk_below (g := gb103) (o := .cells #[.int .i64 ((rd_T67 l0 x20_1).f0), .int .i64 ((rd_T67 l0 x20_1).f1), .int .i64 ((rd_T67 l0 x20_1).f2)] 67 (0, 0)) (by (with_reducible repeat (first | refine blk_drewN ?_ _ | refine blk_drew ?_ | refine blk_alloc ?_ _)); refine blk_far ?_ NB103_116.out _; (with_reducible repeat (first | refine blk_drewN ?_ _ | refine blk_drew ?_ | refine blk_alloc ?_ _)); refine blk_far ?_ NB103_116.out _; (with_reducible repeat (first | refine blk_drewN ?_ _ | refine blk_drew ?_ | refine blk_alloc ?_ _)); refine blk_far ?_ NB103_116.out _; (with_reducible repeat (first | refine blk_drewN ?_ _ | refine blk_drew ?_ | refine blk_alloc ?_ _)); exact BK103.out) hb); replace BK109 := Aside0.mk (blk_below (g := gb109) (o := .cells #[.int .i64 ((rd_T67 y104 x29_2).f0), .int .i64 ((rd_T67 y104 x29_2).f1), .int .i64 ((rd_T67 y104 x29_2).f2)] 67 (0, 0)) (by (with_reducible repeat (first | refine blk_drewN ?_ _ | refine blk_drew ?_ | refine blk_alloc ?_ _)); refine blk_far ?_ NB109_116.out _; (with_reducible repeat (first | refine blk_drewN ?_ _ | refine blk_drew ?_ | refine blk_alloc ?_ _)); refine blk_far ?_ NB109_116.out _; (with_reducible repeat (first | refine blk_drewN ?_ _ | refine blk_drew ?_ | refine blk_alloc ?_ _)); refine blk_far ?_ NB109_116.out _; (with_reducible repeat (first | refine blk_drewN ?_ _ | refine blk_drew ?_ | refine blk_alloc ?_ _)); exact BK109.out) hb); replace BK116 := Aside0.mk (blk_below (g := gb116) (o := .cells #[.int .i64 t113, .int .i64 t114, .int .i64 t115] 67 (0, 0)) (by (with_reducible repeat (first | refine blk_drewN ?_ _ | refine blk_drew ?_ | refine blk_alloc ?_ _)); refine blk_put (cs := #[.int .i64 t113, .int .i64 t114, .int .i64 0]) ?_ 2 _ rfl; (with_reducible repeat (first | refine blk_drewN ?_ _ | refine blk_drew ?_ | refine blk_alloc ?_ _)); refine blk_put (cs := #[.int .i64 t113, .int .i64 0, .int .i64 0]) ?_ 1 _ rfl; (with_reducible repeat (first | refine blk_drewN ?_ _ | refine blk_drew ?_ | refine blk_alloc ?_ _)); refine blk_put (cs := #[.int .i64 0, .int .i64 0, .int .i64 0]) ?_ 0 _ rfl; (with_reducible repeat (first | refine blk_drewN ?_ _ | refine blk_drew ?_ | refine blk_alloc ?_ _)); exact BK116.out) hb); replace HB := Aside0.mk (below_step (by repeat (first | (with_reducible first | exact HB.out | apply below_alloc | apply pw_below_drewN | apply below_drew1 | refine below_set ?_ GE101.out | refine below_set ?_ GE103.out | refine below_set ?_ GE109.out | refine below_set ?_ GE116.out) | exact HB.out)) hb); (try clear hb); have hcz69_0 := bc_ BK116 0 rfl; have hcz69_1 := bc_ BK116 1 rfl; have hcz69_2 := bc_ BK116 2 rfl; have hfz69_0 := blk_frozen BK116.out 0; have hfz69_1 := blk_frozen BK116.out 1; have hfz69_2 := blk_frozen BK116.out 2) | (go_at_call 120; (with_reducible refine (tile_crosses_1.calls k2 (wrap64 (-t113)) (wrap64 (-t114)) (wrap64 (-t115)) _ (List.length [l0]) [l0] false _ ?side1 ?side2 A37.out).mono ?_); (case side1 => exact cap_C (T := 80) (cs := #[.slice (some ad102) l0.length c0]) BK101.out (⟨_, _, rfl, (by exact HC0.out), (by repeat (first | exact (Kd.C_below HR0.out HB.out) | (with_reducible refine Kd.C_alloc ?_ _) | (with_reducible refine Kd.C_drewN ?_ _) | (with_reducible refine Kd.C_drew ?_)))⟩) rfl); (case side2 => exact Nat.le_refl _); rintro e w70 ⟨rfl, hb⟩; replace BK101 := bkb_ BK101 hb rfl; replace BK103 := bkb_ BK103 hb rfl; replace BK109 := bkb_ BK109 hb rfl; replace BK116 := bkb_ BK116 hb rfl; replace HB := hbs_ HB hb rfl rfl rfl rfl; (try clear hb)))
      go_roundg k2
      case measure => have := HK1.out; have := HK2.out; omega
      case rel => exact ⟨(wrap64 (x29_2 + 1)), (by first | rfl | (simp; done) | (simp [*]; done)), H', ⟨by have := HK1.out; have := HK2.out; omega⟩, ⟨by (with_reducible repeat (first | refine blk_drewN ?_ _ | refine blk_drew ?_ | refine blk_alloc ?_ _)); exact BK101.out⟩, ⟨by (with_reducible repeat (first | refine blk_drewN ?_ _ | refine blk_drew ?_ | refine blk_alloc ?_ _)); exact BK103.out⟩, ⟨by repeat (first | (with_reducible first | exact HB.out | apply below_alloc | apply pw_below_drewN | apply below_drew1 | refine below_set ?_ GE101.out | refine below_set ?_ GE103.out | refine below_set ?_ GE109.out | refine below_set ?_ GE116.out) | exact HB.out)⟩⟩

end

end Go.Proofs.Ytbaedcjophgiiaa.Q
