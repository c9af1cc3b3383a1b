/- Contracts of Go functions of the seat, one by one: each call returns what the Lean function of the same name says, wherever that is 'some'; no other condition. Written by a program of this session. -/
import Derived.Test.YtbaedcjophgiiaaKTileZonesCutQx0
import Derived.BigQuiet
import Derived.BigRegion
import Derived.Deep.QuietTactic
import Derived.Deep.RegionLaw
import Derived.Lib.SliceRun
import Derived.LoopIn
import Derived.LoopNIn
import Derived.OwnWalkIn
import Derived.RangeFuncBound
import Derived.RangeFuncCalls
import Derived.RangeFuncLeaves
import Derived.RangeFuncNested
import Derived.RegionTactic
import Derived.Shelf.Abstract
import Derived.Shelf.RegionOpen
import Derived.TacticsInMore
import Derived.WalkKit
namespace Go.Proofs.Ytbaedcjophgiiaa.Q
open Go.RowKit Go.Proofs.YtbaedcjophgiiaaW.PrintWords Go.Proofs.YtbaedcjophgiiaaW.PrintLast Go.Proofs.YtbaedcjophgiiaaW.PrintMore
attribute [local go_sem] max2_int min2_int max_two min_two max_three min_three max_four min_four   -- for this text's walks alone
set_option linter.unusedVariables false
set_option linter.unusedSimpArgs false

/-! ### slices_Concat2: function 119 -/
-- IMPORTS: Derived.RangeFuncNested Derived.RangeFuncBound Derived.RangeFuncCalls Derived.RangeFuncLeaves Derived.Shelf.Abstract Derived.Shelf.RegionOpen Derived.WalkKit Derived.OwnWalkIn Derived.TacticsInMore Derived.LoopNIn Derived.LoopIn Derived.Deep.QuietTactic Derived.BigQuiet Derived.RegionTactic Derived.BigRegion Derived.Deep.RegionLaw Derived.Lib.SliceRun
section
open Go.Proofs Go.RowKit Go.Shelf Go.Proofs.YtbaedcjophgiiaaW.PrintWords Go.Proofs.YtbaedcjophgiiaaW.PrintLast Go.Proofs.YtbaedcjophgiiaaW.PrintMore
theorem k67_KM {w W : World} {base : Nat} {ok : Nat → Prop} {x : S67} {cs : List Value} (h : k67.K w x cs) : k67.M W base ok x cs := by
  obtain rfl := k67_open h
  exact k67_mkM _ _ _ _
theorem tzk_nil {α : Type} {d : Kd α} {w : World} {n : Nat} {l : List α} (h : d.C w none n l) : l = [] := by
  have h2 := h.2.2
  have h1 := h.1
  rcases Nat.eq_zero_or_pos n with z | z
  · exact List.length_eq_zero_iff.1 (h1.trans z)
  · obtain ⟨ad, h, _⟩ := h2 z
    cases h
set_option maxHeartbeats 4000000 in
set_option maxRecDepth 100000 in
theorem tz_grow (m : Int) (w : World) (h0 : 0 ≤ m) (hn : m ≤ 2000) :
    Calls Try.prog 132 #[.slice none 0 0, .int .i64 m] w fun e w' => ∃ v0_ : Value, e = .returned (v0_) ∧ Kd.R k67 67 w' w.heap.size (fun _ => True) v0_ [] ∧ Below w.heap.size w w' := by
  have hu80 := Try.underlying80
  have hu67 := Try.underlying67
  by_cases hz : m = 0
  · subst hz
    go_enter Try.func132, Try.ntmps132
    go_wp2
    go_ret
    exact ⟨_, rfl, Kd.R_nil _ _ _ _ _, Below.refl _ _⟩
  · have e0 : decide (m < 0) = false := decide_eq_false (by omega)
    have e1 : decide (m > 0) = true := decide_eq_true (by omega)
    have e2 : wrap64 m = m := by unfold wrap64; omega
    have e3 : decide (0 < m) = true := e1
    go_enter Try.func132, Try.ntmps132
    go_wp2_with ((with_reducible refine gate_builtin (b := .append) (xs := #[.tmp 20, .tmp 21]) rfl ?_); at_builtin; refine Kd.R_append_zeros k67 (w0 := w) w.heap.size rfl (.tmp 20) (.tmp 21) 80 3 67 (.agg #[(.int .i64 0), (.int .i64 0), (.int .i64 0)]) 24 rfl Try.underlying80 Try.underlying3 info67 rfl (by decide) (by omega) _ [] (⟨0, 0, 0⟩ : S67) m (fun _ => True) rfl rfl (k67_mkM _ _ _ _) (fun _ _ => trivial) (Kd.R_nil _ _ _ _ _) (by omega) (Below.refl _ _) (Nat.le_refl _) (by simp; omega) ?_)
    intro v1 w1 hR hB hg _
    obtain ⟨A1, c1, rfl⟩ := Kd.R_slice hR
    have hR0 := Kd.R_take (m := 0) hR (Nat.zero_le _)
    go_wp2
    go_ret
    exact ⟨_, rfl, hR0, hB⟩
theorem wrap_nat (n : Nat) (h : n ≤ 1000000) : wrap64 (n : Int) = (n : Int) := by unfold wrap64; omega
set_option maxHeartbeats 4000000 in
set_option maxRecDepth 100000 in
theorem tz_concat (g : Nat) (A0 A1 : Option Addr) (c0 c1 : Nat) (l0 l1 : List S67) (w : World) (hb : w.heap[g]? = some (.cells #[.slice A0 l0.length c0, .slice A1 l1.length c1] 80 (0, 0)))
    (hr0 : Kd.C k67 w A0 l0.length l0) (hc0 : l0.length ≤ c0) (hr1 : Kd.C k67 w A1 l1.length l1) (hc1 : l1.length ≤ c1) (h0 : l0.length ≤ 1000) (h1 : l1.length ≤ 1000) :
    Calls Try.prog 119 #[.slice (some ⟨g, 0, none⟩) 2 2] w fun e w' => ∃ v0_ : Value, e = .returned (v0_) ∧ Kd.R k67 67 w' w.heap.size (fun _ => True) v0_ (l0 ++ l1) ∧ Below w.heap.size w w' := by
  have hu80 := Try.underlying80
  have hu67 := Try.underlying67
  have HR0 := Aside0.mk hr0
  have HR1 := Aside0.mk hr1
  clear hr0 hr1
  have e0 : wrap64 (0 + (l0.length : Int)) = ((l0.length : Nat) : Int) := by unfold wrap64; omega
  have e1 : wrap64 ((l0.length : Int) + (l1.length : Int)) = ((l0.length + l1.length : Nat) : Int) := by unfold wrap64; omega
  have d0 : decide ((l0.length : Int) < 0) = false := decide_eq_false (by omega)
  have d1 : decide (((l0.length + l1.length : Nat) : Int) < 0) = false := decide_eq_false (by omega)
  have E0 := Aside0.mk e0
  have E1 := Aside0.mk e1
  clear e0 e1
  go_enter Try.func119, Try.ntmps119
  go_wp2
  go_loopw [3, 11] (fun v3 v11 wr => ∃ i : Nat, i ≤ 2 ∧ v11 = .int .i64 i ∧ v3 = .int .i64 (if i = 0 then 0 else if i = 1 then (l0.length : Int) else ((l0.length + l1.length : Nat) : Int)) ∧ wr.heap[g]? = some (.cells #[.slice A0 l0.length c0, .slice A1 l1.length c1] 80 (0, 0)) ∧ Below w.heap.size w wr)
    (fun _ i _ => 2 - (intOf i).toNat)
  case atStart => exact ⟨0, by omega, rfl, rfl, hb, Below.refl _ _⟩
  case round =>
    clear hb
    obtain ⟨i, hi, rfl, rfl, bl, hB⟩ := hrel
    have f0 := (blk_cell bl 0).trans rfl
    have f1 := (blk_cell bl 1).trans rfl
    have HB := Aside0.mk hB
    have BL := Aside0.mk bl
    clear hB bl
    rcases i with _ | _ | _ | i
    · have e0 := E0.out
      go_wp2
      exact ⟨⟨1, by omega, rfl, rfl, BL.out, HB.out⟩, by simp [intOf]⟩
    · have e1 := E1.out
      go_wp2
      exact ⟨⟨2, by omega, rfl, rfl, BL.out, HB.out⟩, by simp [intOf]⟩
    · go_wp2_with (go_at_call 132; (with_reducible refine (tz_grow ((l0.length : Int) + (l1.length : Int)) _ (by omega) (by omega)).mono ?_); rintro e w1 ⟨v, rfl, hR, hb⟩; have HR := Aside0.mk (Kd.R_lower hR (Below.size HB.out)); have HB1 := Aside0.mk (below_step HB.out hb); have bl := (hb.block g (blk_lt BL.out)).trans BL.out; clear hb hR)
      go_loopw [6, 27] (fun v6 v27 wr => ∃ i : Nat, i ≤ 2 ∧ v27 = .int .i64 i ∧ wr.heap[g]? = some (.cells #[.slice A0 l0.length c0, .slice A1 l1.length c1] 80 (0, 0)) ∧ Aside0 (Kd.R k67 67 wr w.heap.size (fun _ => True) v6 (if i = 0 then [] else if i = 1 then l0 else l0 ++ l1)) ∧ Below w.heap.size w wr)
        (fun _ i _ => 2 - (intOf i).toNat)
      case atStart => exact ⟨0, by omega, rfl, bl, HR, HB1.out⟩
      case round =>
        clear HB BL HR HB1 bl
        obtain ⟨i, hi, rfl, bl, HR, hB⟩ := hrel
        have f0 := (blk_cell bl 0).trans rfl
        have f1 := (blk_cell bl 1).trans rfl
        have HB := Aside0.mk hB
        have BL := Aside0.mk bl
        clear hB bl
        rcases i with _ | _ | _ | i
        · obtain ⟨A6, c6, rfl⟩ := Kd.R_slice HR.out
          go_wp2_with ((with_reducible refine gate_builtin (b := .append) (xs := #[.tmp 31, .tmp 32]) rfl ?_); at_builtin; refine Kd.R_append_rows k67 (Rr := k67.K wr) (w0 := w) w.heap.size rfl (.tmp 31) (.tmp 32) 80 67 (.agg #[(.int .i64 0), (.int .i64 0), (.int .i64 0)]) 24 rfl Try.underlying80 info67 rfl (by decide) (by omega) _ [] l0 _ _ _ (fun _ => True) (fun _ => False) rfl rfl HR.out (Kd.C_below HR0.out HB.out) (fun _ _ h => k67_KM h) (fun _ h => h.elim) (fun _ _ => trivial) HB.out (Below.size HB.out) (by simp; omega) ?_; intro v1 w1 hR hB2 hg _; have HR2 := Aside0.mk hR; have HB2 := Aside0.mk hB2; have bl := (hg.block g (blk_lt BL.out) (Kd.R_ne HR.out BL.out (by decide))).trans BL.out; clear hR hB2 hg)
          exact ⟨⟨1, by omega, rfl, bl, ⟨by simpa using HR2.out⟩, HB2.out⟩, by simp [intOf]⟩
        · obtain ⟨A6, c6, rfl⟩ := Kd.R_slice HR.out
          go_wp2_with ((with_reducible refine gate_builtin (b := .append) (xs := #[.tmp 31, .tmp 32]) rfl ?_); at_builtin; refine Kd.R_append_rows k67 (Rr := k67.K wr) (w0 := w) w.heap.size rfl (.tmp 31) (.tmp 32) 80 67 (.agg #[(.int .i64 0), (.int .i64 0), (.int .i64 0)]) 24 rfl Try.underlying80 info67 rfl (by decide) (by omega) _ l0 l1 _ _ _ (fun _ => True) (fun _ => False) rfl rfl HR.out (Kd.C_below HR1.out HB.out) (fun _ _ h => k67_KM h) (fun _ h => h.elim) (fun _ _ => trivial) HB.out (Below.size HB.out) (by omega) ?_; intro v1 w1 hR hB2 hg _; have HR2 := Aside0.mk hR; have HB2 := Aside0.mk hB2; have bl := (hg.block g (blk_lt BL.out) (Kd.R_ne HR.out BL.out (by decide))).trans BL.out; clear hR hB2 hg)
          exact ⟨⟨2, by omega, rfl, bl, ⟨by simpa using HR2.out⟩, HB2.out⟩, by simp [intOf]⟩
        · go_wp2
          go_ret
          exact ⟨_, rfl, HR.out, HB.out⟩
        · omega
    · omega
def slices_Concat2.f (l0 l1 : List S67) : Option (List S67) := if l0.length ≤ 1000 then (if l1.length ≤ 1000 then some (l0 ++ l1) else none) else none
theorem slices_Concat2.calls (A0 : Option Addr) (c0 : Nat) (l0 : List S67) (A1 : Option Addr) (c1 : Nat) (l1 r : List S67) (w : World) (hr0 : Kd.C k67 w A0 l0.length l0) (hc0 : l0.length ≤ c0) (hr1 : Kd.C k67 w A1 l1.length l1) (hc1 : l1.length ≤ c1) (h : slices_Concat2.f l0 l1 = some r) :
    Calls Try.prog 119 #[.slice (some ⟨w.heap.size, 0, none⟩) 2 2] (w.alloc (.cells #[.slice A0 l0.length c0, .slice A1 l1.length c1] 80)) fun e w' => ∃ v0_ : Value, e = .returned (v0_) ∧ Kd.R k67 67 w' w.heap.size (fun _ => True) v0_ r ∧ Below w.heap.size w w' := by
  unfold slices_Concat2.f at h
  split at h
  case isFalse => cases h
  split at h
  case isFalse => cases h
  rename_i h0 h1
  obtain rfl := Option.some.inj h
  refine (tz_concat w.heap.size A0 A1 c0 c1 l0 l1 _ (World.alloc_heap_new w _) (Kd.C_alloc hr0 _) hc0 (Kd.C_alloc hr1 _) hc1 h0 h1).mono ?_
  rintro e w' ⟨v, rfl, hR, hB⟩
  exact ⟨v, rfl, Kd.R_lower hR (by simp), ((Below.refl _ w).alloc (Nat.le_refl _) _).trans (hB.mono (by simp))⟩
end

end Go.Proofs.Ytbaedcjophgiiaa.Q
