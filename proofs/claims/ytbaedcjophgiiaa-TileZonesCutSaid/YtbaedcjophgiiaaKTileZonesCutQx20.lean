/- Contracts of Go functions of the seat, one by one: each call returns what the Lean function of the same name says, wherever that is 'some'; no other condition. Written by a program of this session. -/
import Derived.Test.YtbaedcjophgiiaaKTileZonesCutQx0
import Derived.Test.YtbaedcjophgiiaaKTileZonesCutQx4
import Derived.Test.YtbaedcjophgiiaaKTileZonesCutQx19
import Derived.BigQuiet
import Derived.BigRegion
import Derived.Deep.QuietTactic
import Derived.Deep.RegionLaw
import Derived.LoopIn
import Derived.LoopNIn
import Derived.OwnWalkIn
import Derived.RangeFuncNested
import Derived.RegionTactic
import Derived.Shelf.Abstract
import Derived.Shelf.RegionOpen
import Derived.TacticsInMore
import Derived.WalkKit
namespace Go.Proofs.Ytbaedcjophgiiaa.Q
open Go.RowKit Go.Proofs.YtbaedcjophgiiaaW.PrintWords Go.Proofs.YtbaedcjophgiiaaW.PrintLast Go.Proofs.YtbaedcjophgiiaaW.PrintMore
attribute [local go_sem] max2_int min2_int max_two min_two max_three min_three max_four min_four   -- for this text's walks alone
set_option linter.unusedVariables false
set_option linter.unusedSimpArgs false

/-! ### tile_cover__tile_Zone_1: function 90 -/
-- IMPORTS: Derived.RangeFuncNested Derived.Shelf.Abstract Derived.Shelf.RegionOpen Derived.WalkKit Derived.OwnWalkIn Derived.TacticsInMore Derived.LoopNIn Derived.LoopIn Derived.Deep.QuietTactic Derived.BigQuiet Derived.RegionTactic Derived.BigRegion Derived.Deep.RegionLaw
section
open Go.Proofs Go.RowKit Go.Shelf Go.Proofs.YtbaedcjophgiiaaW.PrintWords Go.Proofs.YtbaedcjophgiiaaW.PrintLast Go.Proofs.YtbaedcjophgiiaaW.PrintMore
/-- The elements at which q says true, where q says something at each. -/
def tz_filter (q : Int → Option Bool) : List Int → Option (List Int)
  | [] => some []
  | t :: ts => (q t).bind fun b => (tz_filter q ts).bind fun r => some (if b = true then t :: r else r)
def tz_round (q : Int → Option Bool) (kd : Int → Option (List Int)) : List Int → Option (List Int)
  | [] => some []
  | t :: ts => (kd t).bind fun ks => (tz_filter q ks).bind fun a => (tz_round q kd ts).bind fun b => some (a ++ b)
def tz_levels (q : Int → Option Bool) (kd : Int → Option (List Int)) : Nat → List Int → Option (List Int × Int)
  | 0, l => some (l, 0)
  | n + 1, l => (tz_round q kd l).bind fun l' => if l'.length ≤ 100000 then (if l'.length ≤ 4096 then tz_levels q kd n l' else some ([], 2)) else none
theorem tz_filter_all {q : Int → Option Bool} : ∀ {l r : List Int}, tz_filter q l = some r → ∀ x ∈ l, ∃ b, q x = some b
  | [], _, _, x, hx => by cases hx
  | t :: ts, r, h, x, hx => by
    simp only [tz_filter] at h
    obtain ⟨b, hb, h⟩ := Option.bind_eq_some_iff.mp h
    obtain ⟨r', hr', _⟩ := Option.bind_eq_some_iff.mp h
    rcases List.mem_cons.1 hx with rfl | hx
    · exact ⟨b, hb⟩
    · exact tz_filter_all hr' x hx
theorem tz_filter_len {q : Int → Option Bool} : ∀ {l r : List Int}, tz_filter q l = some r → r.length ≤ l.length
  | [], _, h => by simp only [tz_filter, Option.some.injEq] at h; subst h; exact Nat.le_refl _
  | t :: ts, r, h => by
    simp only [tz_filter] at h
    obtain ⟨b, hb, h⟩ := Option.bind_eq_some_iff.mp h
    obtain ⟨r', hr', h⟩ := Option.bind_eq_some_iff.mp h
    have := tz_filter_len hr'
    simp only [Option.some.injEq] at h
    subst h
    split <;> simp <;> omega
theorem tz_filter_app {q : Int → Option Bool} : ∀ {l m r : List Int}, tz_filter q (l ++ m) = some r → (∀ x ∈ l, q x = some true) → ∃ r', tz_filter q m = some r' ∧ r = l ++ r'
  | [], m, r, h, _ => ⟨r, h, rfl⟩
  | t :: ts, m, r, h, ha => by
    simp only [List.cons_append, tz_filter] at h
    rw [ha t (List.mem_cons_self ..)] at h
    simp only [Option.bind_some, if_true] at h
    obtain ⟨r1, hr1, h⟩ := Option.bind_eq_some_iff.mp h
    obtain ⟨r', h1, h2⟩ := tz_filter_app hr1 (fun x hx => ha x (List.mem_cons_of_mem _ hx))
    refine ⟨r', h1, ?_⟩
    rw [← Option.some.inj h, h2]
    rfl
section
variable {q : Int → Option Bool} {u : World} {gb : Nat} {A : Option Addr}
set_option maxHeartbeats 4000000 in
set_option maxRecDepth 100000 in
theorem tz_clo (bg : u.heap[gb]? = some (.cells #[.func (.func 91) #[] #[.pointer A]] 90 (0, 0)))
    (hq : ∀ (W : World) (t : Int) (b : Bool), Below u.heap.size u W → q t = some b → Calls Try.prog 91 #[.int .i64 t, .pointer A] W fun e w' => e = .returned (.bool b) ∧ Below W.heap.size W w')
    (W : World) (t : Int) (b : Bool) (hB : Below u.heap.size u W) (ht : q t = some b) :
    Calls Try.prog 118 #[.int .i64 t, .pointer (some ⟨gb, 0, none⟩)] W fun e w' => e = .returned (.bool (!b)) ∧ Below W.heap.size W w' := by
  have hmf : ∀ (fn : Fn) (first cap : Array Value) (w : World), (Instr.makeFunc fn first cap).run Try.prog w = .ok (.func fn first cap) w := fun _ _ _ _ => rfl
  have bW := (hB.block gb (blk_lt bg)).trans bg
  have f0 := (blk_cell bW 0).trans rfl
  have HH := Aside0.mk (hq W t b hB ht)
  clear hq ht hB bW
  go_enter Try.func118, Try.ntmps118
  go_wp2_with ((with_reducible refine gatev_ (t := 4) rfl ?_); refine goescL_ (caps := #[.pointer A]) (some 6) rfl rfl Try.func91 (by kernel_rfl) rfl #[.int .i64 t, .pointer A] rfl (by first | rfl | (simp [Act.eval, Act.put] <;> rfl)) (by (try simp only [List.map_toArray, List.map_cons, List.map_nil]); first | done | rfl) ?_; (with_reducible refine HH.out.mono ?_); rintro e w8 ⟨rfl, hb⟩; refine ⟨_, rfl, ?_⟩)
  go_ret
  exact ⟨rfl, hb⟩
set_option maxHeartbeats 4000000 in
set_option maxRecDepth 100000 in
theorem tz_index (bg : u.heap[gb]? = some (.cells #[.func (.func 91) #[] #[.pointer A]] 90 (0, 0)))
    (hq : ∀ (W : World) (t : Int) (b : Bool), Below u.heap.size u W → q t = some b → Calls Try.prog 91 #[.int .i64 t, .pointer A] W fun e w' => e = .returned (.bool b) ∧ Below W.heap.size W w')
    (A0 : Option Addr) (c0 : Nat) (l0 : List Int) (w : World) (hB : Below u.heap.size u w) (hr0 : Kd.C (Kd.int .i64) w A0 l0.length l0) (hl : l0.length ≤ 100000) (hall : ∀ x ∈ l0, ∃ b, q x = some b) :
    Calls Try.prog 93 #[.slice A0 l0.length c0, .func (.func 118) #[] #[.pointer (some ⟨gb, 0, none⟩)]] w fun e w' => ∃ i : Int, e = .returned (.int .i64 i) ∧ (i = -1 ∧ (∀ x ∈ l0, q x = some true) ∨ ∃ n : Nat, i = n ∧ ∃ h : n < l0.length, q l0[n] = some false ∧ ∀ x ∈ l0.take n, q x = some true) ∧ Below w.heap.size w w' := by
  have HC := fun W t b h1 h2 => Aside0.mk (tz_clo bg hq W t b h1 h2)
  have HC' := Aside0.mk HC
  have HR0 := Aside0.mk hr0
  have HU := Aside0.mk hB
  have HALL := Aside0.mk hall
  clear hr0 HC hq hB hall
  go_enter Try.func93, Try.ntmps93
  go_wp2
  go_loopw [8] (fun v8 w' => ∃ n : Nat, n ≤ l0.length ∧ v8 = .int .i64 n ∧ Aside0 (∀ x ∈ l0.take n, q x = some true) ∧ Aside0 (Below w.heap.size w w')) (fun v8 _ => l0.length - (intOf v8).toNat)
  case atStart => exact ⟨0, by omega, rfl, ⟨fun x hx => by cases hx⟩, ⟨Below.refl _ _⟩⟩
  case round =>
    obtain ⟨n, hn, rfl, HT, HB⟩ := hrel
    have HBU := Aside0.mk (HU.out.trans (HB.out.mono (Below.size HU.out)))
    by_cases c : n < l0.length
    · have c1 : decide ((n : Int) < (l0.length : Int)) = true := decide_eq_true (by omega)
      have c2 : decide (0 ≤ (n : Int)) = true := decide_eq_true (by omega)
      have hw : wrap64 ((n : Int) + 1) = ((n + 1 : Nat) : Int) := by unfold wrap64; omega
      have p101 : 0 ≤ (n : Int) := by omega
      have q101 : (n : Int) < (l0.length : Int) := by omega
      obtain ⟨ad101, e101, hx101_0⟩ := Kd.at_int HR0.out n p101 q101
      cases e101
      replace hx101_0 := (HB.out.cell (World.block_lt_of_cell? w _ hx101_0)).trans hx101_0
      have er : rd l0 (n : Int) = l0[n] := by unfold rd; simp [c]
      rw [er] at hx101_0
      simp only [Int.toNat_natCast] at hx101_0
      obtain ⟨b, hb⟩ := HALL.out l0[n] (List.getElem_mem c)
      have HCC := Aside0.mk (fun W h1 => (HC'.out W l0[n] b h1 hb).out)
      have HQ := Aside0.mk hb
      replace p101 := eq_true p101
      replace q101 := eq_true q101
      clear hb
      generalize hx : l0[n] = x at *
      have HX := Aside0.mk hx
      clear hx er
      cases b
      · go_wp2_with ((with_reducible refine gatev_ (t := 11) rfl ?_); refine goescL_ (caps := #[.pointer (some ⟨gb, 0, none⟩)]) (some 16) rfl rfl Try.func118 (by kernel_rfl) rfl #[.int .i64 x, .pointer (some ⟨gb, 0, none⟩)] rfl (by first | rfl | (simp [Act.eval, Act.put] <;> rfl)) (by (try simp only [List.map_toArray, List.map_cons, List.map_nil]); first | done | rfl) ?_; (with_reducible refine (HCC.out _ HBU.out).mono ?_); rintro e w8 ⟨rfl, hb⟩; refine ⟨_, rfl, ?_⟩; have HB8 := Aside0.mk (below_step HB.out hb); clear hb)
        go_ret
        exact ⟨_, rfl, .inr ⟨n, rfl, c, HX.out.symm ▸ HQ.out, HT.out⟩, HB8.out⟩
      · go_wp2_with ((with_reducible refine gatev_ (t := 11) rfl ?_); refine goescL_ (caps := #[.pointer (some ⟨gb, 0, none⟩)]) (some 16) rfl rfl Try.func118 (by kernel_rfl) rfl #[.int .i64 x, .pointer (some ⟨gb, 0, none⟩)] rfl (by first | rfl | (simp [Act.eval, Act.put] <;> rfl)) (by (try simp only [List.map_toArray, List.map_cons, List.map_nil]); first | done | rfl) ?_; (with_reducible refine (HCC.out _ HBU.out).mono ?_); rintro e w8 ⟨rfl, hb⟩; refine ⟨_, rfl, ?_⟩; have HB8 := Aside0.mk (below_step HB.out hb); clear hb)
        refine ⟨⟨n + 1, by omega, rfl, ⟨fun y hy => ?_⟩, HB8⟩, by simp only [intOf]; omega⟩
        rw [List.take_succ_eq_append_getElem c, List.mem_append] at hy
        rcases hy with hy | hy
        · exact HT.out y hy
        · rw [List.mem_singleton] at hy
          rw [hy, HX.out]
          exact HQ.out
    · have c1 : decide ((n : Int) < (l0.length : Int)) = false := decide_eq_false (by omega)
      go_wp2
      go_ret
      refine ⟨_, rfl, .inl ⟨rfl, fun x hx => HT.out x ?_⟩, HB.out⟩
      rw [List.take_of_length_le (by omega)]
      exact hx
end
def TzvHold (p : Prop) : Prop := p
theorem tzvhold_ {p : Prop} (h : TzvHold p) : p := h
section
variable {q : Int → Option Bool} {u : World} {gb : Nat} {A : Option Addr}
set_option maxHeartbeats 4000000 in
set_option maxRecDepth 100000 in
theorem tz_delete (bg : u.heap[gb]? = some (.cells #[.func (.func 91) #[] #[.pointer A]] 90 (0, 0)))
    (hq : ∀ (W : World) (t : Int) (b : Bool), Below u.heap.size u W → q t = some b → Calls Try.prog 91 #[.int .i64 t, .pointer A] W fun e w' => e = .returned (.bool b) ∧ Below W.heap.size W w')
    (g c0 : Nat) (l0 r : List Int) (w : World) (hB : Below u.heap.size u w) (hR : (Kd.int .i64).R 69 w u.heap.size (fun _ => True) (.slice (some ⟨g, 0, none⟩) l0.length c0) l0) (hl : l0.length ≤ 100000) (hf : tz_filter q l0 = some r) :
    Calls Try.prog 117 #[.slice (some ⟨g, 0, none⟩) l0.length c0, .func (.func 118) #[] #[.pointer (some ⟨gb, 0, none⟩)]] w fun e w' => ∃ v, e = .returned v ∧ (Kd.int .i64).R 69 w' u.heap.size (fun _ => True) v r ∧ Below u.heap.size u w' := by
  have HI := Aside0.mk (tz_index bg hq (some ⟨g, 0, none⟩) c0 l0 w hB (Kd.R_reads' hR).2.2 hl (tz_filter_all hf))
  have HC := fun W t b h1 h2 => Aside0.mk (tz_clo bg hq W t b h1 h2)
  have HC' := Aside0.mk HC
  have HR := Aside0.mk hR
  have hcap := (Kd.R_reads' hR).2.1
  have HU := Aside0.mk hB
  have HF := Aside0.mk hf
  clear HC hq hB hf hR
  go_enter Try.func117, Try.ntmps117
  go_wp2_with (go_at_call 93; (with_reducible refine HI.out.mono ?_); rintro e w1 ⟨i, rfl, hcase, hb⟩; have HCA := Aside0.mk hcase; have HB1 := Aside0.mk (HU.out.trans (hb.mono (Below.size HU.out))); have HR1 := Aside0.mk (Kd.R_below HR.out hb); clear hb hcase; refine tzvhold_ ?_)
  unfold TzvHold
  rcases HCA.out with ⟨rfl, hall⟩ | ⟨n0, rfl, hn0, hq0, ht0⟩
  · go_wp2
    go_ret
    refine ⟨_, rfl, ?_, HB1.out⟩
    have e1 : r = l0 := by
      obtain ⟨r', h1, h2⟩ := tz_filter_app (m := []) (by rw [List.append_nil]; exact HF.out) hall
      simp only [tz_filter, Option.some.injEq] at h1
      rw [h2, ← h1, List.append_nil]
    rw [e1]
    exact HR1.out
  · have e0 : ((n0 : Int) == -1) = false := beq_eq_false_iff_ne.mpr (by omega)
    have e1 : wrap64 ((n0 : Int) + 1) = ((n0 + 1 : Nat) : Int) := by unfold wrap64; omega
    have hst : ∃ r2, tz_filter q (l0.drop (n0 + 1)) = some r2 ∧ l0.take n0 ++ r2 = r := by
      have h := HF.out
      rw [← List.take_append_drop n0 l0] at h
      obtain ⟨r', h1, h2⟩ := tz_filter_app h ht0
      rw [List.drop_eq_getElem_cons hn0] at h1
      simp only [tz_filter, hq0, Option.bind_some] at h1
      obtain ⟨r2, h3, h4⟩ := Option.bind_eq_some_iff.mp h1
      simp only [Bool.false_eq_true, if_false, Option.some.injEq] at h4
      exact ⟨r2, h3, by rw [h4]; exact h2.symm⟩
    have HST := Aside0.mk hst
    clear HCA HI HF hst hq0 ht0 HR HU
    go_wp2
    go_loopw [5, 6] (fun v5 v6 w' => ∃ (xs : List Int) (i j : Nat), v5 = .int .i64 i ∧ v6 = .int .i64 j ∧ i < j ∧ j ≤ l0.length ∧ xs.length = l0.length ∧ Aside0 (xs.drop j = l0.drop j) ∧ Aside0 (∃ r2, tz_filter q (l0.drop j) = some r2 ∧ xs.take i ++ r2 = r) ∧ Aside0 ((Kd.int .i64).R 69 w' u.heap.size (fun _ => True) (.slice (some ⟨g, 0, none⟩) l0.length c0) xs) ∧ Aside0 (Below u.heap.size u w')) (fun _ v6 _ => l0.length - (intOf v6).toNat)
    case atStart => exact ⟨l0, n0, n0 + 1, rfl, rfl, by omega, by omega, rfl, ⟨rfl⟩, HST, HR1, HB1⟩
    case round =>
      clear HR1 HB1 HST e0 e1 hn0
      obtain ⟨xs, i, j, rfl, rfl, hij, hj, hlx, HD, HST, HR, HB⟩ := hrel
      by_cases c : j < l0.length
      · have c1 : decide ((j : Int) < (l0.length : Int)) = true := decide_eq_true (by omega)
        have c2 : decide (0 ≤ (j : Int)) = true := decide_eq_true (by omega)
        have c3 : decide ((i : Int) < (l0.length : Int)) = true := decide_eq_true (by omega)
        have c4 : decide (0 ≤ (i : Int)) = true := decide_eq_true (by omega)
        have e1 : wrap64 ((j : Int) + 1) = ((j + 1 : Nat) : Int) := by unfold wrap64; omega
        have e2 : wrap64 ((i : Int) + 1) = ((i + 1 : Nat) : Int) := by unfold wrap64; omega
        have hx101_0 := (Kd.R_celln 0 HR.out (j : Int) (by omega) (by omega)).1
        have hci := (Kd.R_celln 0 HR.out (i : Int) (by omega) (by omega)).1
        have hcf := (Kd.R_celln 0 HR.out (i : Int) (by omega) (by omega)).2
        have er : rdOf (0 : Int) xs (j : Int) = l0[j] := by
          unfold rdOf
          have := congrArg (fun l => l[0]?) HD.out
          simp only [List.getElem?_drop, Nat.add_zero] at this
          simp [this, c]
        rw [er] at hx101_0
        simp only [Int.toNat_natCast] at hx101_0 hci hcf
        obtain ⟨r2, hr2, hr3⟩ := HST.out
        rw [List.drop_eq_getElem_cons c] at hr2
        simp only [tz_filter] at hr2
        obtain ⟨b, hb, hr2⟩ := Option.bind_eq_some_iff.mp hr2
        obtain ⟨r4, hr4, hr2⟩ := Option.bind_eq_some_iff.mp hr2
        have HCC := Aside0.mk (HC'.out wr l0[j] b HB.out hb).out
        have HQ := Aside0.mk hb
        have H3 := Aside0.mk hr3
        have H4 := Aside0.mk hr4
        have H2 := Aside0.mk hr2
        clear hb hr2 hr3 hr4 HST
        generalize hx : l0[j] = x at *
        have HX := Aside0.mk hx
        clear hx er
        have k1 : decide ((i : Int) < 0) = false := decide_eq_false (by omega)
        have k2 : decide ((j : Int) < 0) = false := decide_eq_false (by omega)
        cases b
        · go_wp2_with ((with_reducible refine gatev_ (t := 26) rfl ?_); refine goescL_ (caps := #[.pointer (some ⟨gb, 0, none⟩)]) (some 28) rfl rfl Try.func118 (by kernel_rfl) rfl #[.int .i64 x, .pointer (some ⟨gb, 0, none⟩)] rfl (by first | rfl | (simp [Act.eval, Act.put] <;> rfl)) (by (try simp only [List.map_toArray, List.map_cons, List.map_nil]); first | done | rfl) ?_; (with_reducible refine HCC.out.mono ?_); rintro e w8 ⟨rfl, hb⟩; refine ⟨_, rfl, ?_⟩; have HB8 := Aside0.mk (HB.out.trans (hb.mono (Below.size HB.out))); have HR8 := Aside0.mk (Kd.R_below HR.out hb); clear hb)
          refine ⟨⟨xs, i, j + 1, rfl, by rw [Int.natCast_add]; rfl, by omega, by omega, hlx, ⟨?_⟩, ⟨r4, H4.out, ?_⟩, HR8, HB8⟩, by simp only [intOf]; omega⟩
          · have := congrArg (List.drop 1) HD.out
            simpa only [List.drop_drop] using this
          · have h2 := H2.out
            simp only [Bool.false_eq_true, if_false, Option.some.injEq] at h2
            rw [h2]; exact H3.out
        · go_wp2_with ((with_reducible refine gatev_ (t := 26) rfl ?_); refine goescL_ (caps := #[.pointer (some ⟨gb, 0, none⟩)]) (some 28) rfl rfl Try.func118 (by kernel_rfl) rfl #[.int .i64 x, .pointer (some ⟨gb, 0, none⟩)] rfl (by first | rfl | (simp [Act.eval, Act.put] <;> rfl)) (by (try simp only [List.map_toArray, List.map_cons, List.map_nil]); first | done | rfl) ?_; (with_reducible refine HCC.out.mono ?_); rintro e w8 ⟨rfl, hb⟩; refine ⟨_, rfl, ?_⟩; have HB8 := Aside0.mk (HB.out.trans (hb.mono (Below.size HB.out))); have HR8 := Aside0.mk (Kd.R_below HR.out hb); have hci8 := (Kd.R_celln 0 HR8.out (i : Int) (by omega) (by omega)).1; have hcf8 := (Kd.R_celln 0 HR8.out (i : Int) (by omega) (by omega)).2; simp only [Int.toNat_natCast] at hci8 hcf8; clear hb)
          have HP := Kd.R_putg (enc := Value.int .i64) (h1 := fun _ => rfl) HR8.out (i : Int) x
          simp only [Int.toNat_natCast] at HP
          refine ⟨⟨xs.set i x, i + 1, j + 1, by rw [Int.natCast_add]; rfl, by rw [Int.natCast_add]; rfl, by omega, by omega, by rw [List.length_set]; exact hlx, ⟨?_⟩, ⟨r4, H4.out, ?_⟩, ⟨HP.1⟩, ⟨HB8.out.grown HP.2 (Below.size HB8.out) (fun k hk => by injection hk with hk; subst hk; exact Kd.R_base HR8.out _ (by simp [Value.ownBlock]))⟩⟩, by simp only [intOf]; omega⟩
          · have := congrArg (List.drop 1) HD.out
            rw [List.drop_set_of_lt (by omega)]
            simpa only [List.drop_drop] using this
          · have h2 := H2.out
            simp only [if_true, Option.some.injEq] at h2
            rw [← H3.out, ← h2, List.take_succ_eq_append_getElem (by rw [List.length_set]; omega), List.take_set_of_le (Nat.le_refl _)]
            simp
      · have c1 : decide ((j : Int) < (l0.length : Int)) = false := decide_eq_false (by omega)
        have hjl : j = l0.length := by omega
        obtain ⟨r2, hr2, hr3⟩ := HST.out
        rw [List.drop_of_length_le (by omega)] at hr2
        simp only [tz_filter, Option.some.injEq] at hr2
        rw [← hr2, List.append_nil] at hr3
        have H3 := Aside0.mk hr3
        have hil : i < l0.length := by omega
        have k1 : decide ((i : Int) < 0) = false := decide_eq_false (by omega)
        have k2 : decide ((i : Int) ≤ (l0.length : Int)) = true := decide_eq_true (by omega)
        have k3 : decide ((i : Int) ≤ (c0 : Int)) = true := decide_eq_true (by omega)
        have k4 : decide ((l0.length : Int) ≤ (c0 : Int)) = true := decide_eq_true (by omega)
        have k5 : decide ((l0.length : Int) < (i : Int)) = false := decide_eq_false (by omega)
        have k6 : decide ((c0 : Int) < (i : Int)) = false := decide_eq_false (by omega)
        have k7 : ¬ c0 = i := by omega
        clear HST hr2 hr3 HD
        go_wp2_with ((with_reducible refine gate_builtin (b := .clear) (xs := #[.tmp 38]) rfl ?_); refine tzvhold_ ?_)
        unfold TzvHold
        refine R_clear (w0 := u) u.heap.size rfl (.tmp 38) 77 69 8 rfl Try.underlying77 info69 (g := g) (n := l0.length) (c := c0) (i := i) (xs := xs) (ok := fun _ => True) rfl (by rw [if_neg k7]; simp [Addr.add]) rfl (by omega) HR.out HB.out (Below.size HB.out) ?_
        intro w2 hR2 hB2 _
        have HR2 := Aside0.mk hR2
        have HB2 := Aside0.mk hB2
        clear hR2 hB2 HR HB
        go_wp2
        go_ret
        refine ⟨_, rfl, ?_, HB2.out⟩
        have hT := Kd.R_take (m := i) HR2.out (by simp; omega)
        rw [List.take_append_of_le_length (by simp; omega), List.take_take, Nat.min_self, H3.out] at hT
        exact hT
end
section
variable {q : Int → Option Bool} {k : Nat}
def tz_cover (q : Int → Option Bool) (kd : Int → Option (List Int)) (n : Nat) : Option (List Int × Int) := (tz_filter q [8, 9, 10, 11, 12, 13]).bind fun l => tz_levels q kd n l
theorem tz_w {n : Nat} (h : n ≤ 1000000) : wrap64 ((n : Int) + 1) = ((n + 1 : Nat) : Int) := by unfold wrap64; omega
theorem tz_lt {n m : Nat} (h : n < m) : decide ((n : Int) < (m : Int)) = true := decide_eq_true (by omega)
theorem tz_nlt {n m : Nat} (h : ¬ n < m) : decide ((n : Int) < (m : Int)) = false := decide_eq_false (by omega)
theorem tz_ge (n : Nat) : decide (0 ≤ (n : Int)) = true := decide_eq_true (by omega)
theorem tz_w2 {n L : Nat} (h : n < L) (hL : L ≤ 100000) : wrap64 ((n : Int) + 1) = ((n + 1 : Nat) : Int) := tz_w (by omega)
theorem tz_dec {n L : Nat} {z : Int} (h : n < L) (e : z = ((n + 1 : Nat) : Int)) : L - (intOf (Value.int .i64 z)).toNat < L - (intOf (Value.int .i64 (n : Int))).toNat := by
  subst e
  exact Nat.sub_lt_sub_left h (Nat.lt_succ_self n)
theorem tz_kids_len {k : Nat} {x : Int} {ks : List Int} (h : tile_Kids.f k x = some ks) : ks.length ≤ 100000 := by
  unfold tile_Kids.f at h
  obtain ⟨bt, _, h⟩ := Option.bind_eq_some_iff.mp h
  split at h
  · split at h <;> (cases h; simp)
  · cases h; simp
set_option maxHeartbeats 8000000 in
set_option maxRecDepth 100000 in
theorem tz_cov (A : Option Addr) (lev : Nat) (hlev : lev ≤ 12) (w : World) (r1 : List Int) (r2 : Int)
    (hq : ∀ (W : World) (t : Int) (b : Bool), Below w.heap.size w W → q t = some b → Calls Try.prog 91 #[.int .i64 t, .pointer A] W fun e w' => e = .returned (.bool b) ∧ Below W.heap.size W w')
    (h : tz_cover q (tile_Kids.f k) lev = some (r1, r2)) :
    Calls Try.prog 90 #[.int .i64 lev, .func (.func 91) #[] #[.pointer A]] w fun e w' => ∃ v0_ : Value, e = .returned (.tuple #[v0_, .int .i64 r2]) ∧ Kd.R (Kd.int .i64) 69 w' w.heap.size (fun _ => True) v0_ r1 ∧ Below w.heap.size w w' := by
  unfold tz_cover at h
  obtain ⟨l1, hl1, h⟩ := Option.bind_eq_some_iff.mp h
  have HQ := Aside0.mk hq
  have HL1 := Aside0.mk hl1
  have HH := Aside0.mk h
  clear hq hl1 h
  have hmf : ∀ (fn : Fn) (first cap : Array Value) (w : World), (Instr.makeFunc fn first cap).run Try.prog w = .ok (.func fn first cap) w := fun _ _ _ _ => rfl
  go_enter Try.func90, Try.ntmps90
  go_wp2_with ((with_reducible refine gate_dst (N := 3) rfl ?_); refine bxq_ 3 #[.func (.func 91) #[] #[.pointer A]] 90 ?_; intro gb hg u hbox hb; have BG := Aside0.mk hbox; have HWU := Aside0.mk hb; have HGB := Aside0.mk (show w.heap.size ≤ gb by omega); clear hb hbox hg)
  have HQ' := Aside0.mk (fun (W : World) (t : Int) (b : Bool) (h1 : Below u.heap.size u W) (h2 : q t = some b) => HQ.out W t b (HWU.out.trans (h1.mono (Below.size HWU.out))) h2)
  clear HQ
  go_loopw [6, 13] (fun v6 v13 w' => ∃ i : Nat, i ≤ 6 ∧ v13 = .int .i64 i ∧ Aside0 ((Kd.int .i64).R 69 w' u.heap.size (fun _ => True) v6 (([8, 9, 10, 11, 12, 13] : List Int).take i)) ∧ Aside0 (Below u.heap.size u w')) (fun _ v13 _ => 6 - (intOf v13).toNat)
  case atStart => exact ⟨0, by omega, rfl, ⟨Kd.R_nil _ _ _ _ _⟩, ⟨Below.refl _ _⟩⟩
  case round =>
    obtain ⟨i, hi, rfl, HR, HB⟩ := hrel
    obtain ⟨A6, c6, rfl⟩ := Kd.R_slice HR.out
    by_cases c : i < 6
    · have c1 : decide ((i : Int) < 6) = true := decide_eq_true (by omega)
      have e1 : wrap64 (8 + (i : Int)) = 8 + (i : Int) := by unfold wrap64; omega
      have e2 : wrap64 ((i : Int) + 1) = (i : Int) + 1 := by unfold wrap64; omega
      go_wp2_with ((with_reducible refine gate_builtin (b := .append) (xs := #[.tmp 16, .tmp 19]) rfl ?_); at_builtin; refine Kd.R_append (Kd.int .i64) (w0 := u) u.heap.size rfl (.tmp 16) (.tmp 19) 77 69 (.int .i64 0) 8 rfl Try.underlying77 info69 rfl (by decide) (by omega) _ (([8, 9, 10, 11, 12, 13] : List Int).take i) (8 + (i : Int)) [.int .i64 (8 + (i : Int))] (fun _ => True) (fun _ => False) rfl rfl rfl (fun _ hk => hk.elim) (fun _ _ => trivial) HR.out HB.out (Below.size HB.out) (by simp; omega) ?_; intro v1 w1 hR hB hg _; have HR1 := Aside0.mk hR; have HB1 := Aside0.mk hB; clear hR hB hg)
      refine ⟨⟨i + 1, by omega, by rw [Int.natCast_add]; rfl, ⟨?_⟩, HB1⟩, by simp only [intOf]; omega⟩
      have : ([8, 9, 10, 11, 12, 13] : List Int).take (i + 1) = ([8, 9, 10, 11, 12, 13] : List Int).take i ++ [8 + (i : Int)] := by
        rcases i with _ | _ | _ | _ | _ | _ | i <;> first | rfl | omega
      rw [this]
      exact HR1.out
    · have c1 : decide ((i : Int) < 6) = false := decide_eq_false (by omega)
      obtain rfl : i = 6 := by omega
      obtain ⟨g, c7, he, _⟩ := Kd.R_form HR.out (by simp)
      simp only [Value.slice.injEq] at he
      obtain ⟨rfl, _, rfl⟩ := he
      have HD := Aside0.mk (show Calls Try.prog 117 #[.slice (some ⟨g, 0, none⟩) 6 c6, .func (.func 118) #[] #[.pointer (some ⟨gb, 0, none⟩)]] wr _ from tz_delete BG.out HQ'.out g c6 [8, 9, 10, 11, 12, 13] l1 wr HB.out HR.out (by simp) HL1.out)
      go_wp2_with (go_at_call 117; (with_reducible refine HD.out.mono ?_); rintro e w1 ⟨v, rfl, hR, hB⟩; have HR1 := Aside0.mk hR; have HB1 := Aside0.mk hB; clear hR hB)
      have HLN := Aside0.mk (tz_filter_len HL1.out)
      clear HR HB HD HL1
      go_loopw [6, 26] (fun v6 v26 w' => ∃ (i : Nat) (xs : List Int), i ≤ lev ∧ v26 = .int .i64 i ∧ Aside0 ((Kd.int .i64).R 69 w' u.heap.size (fun _ => True) v6 xs) ∧ Aside0 (tz_levels q (tile_Kids.f k) (lev - i) xs = some (r1, r2)) ∧ Aside0 (xs.length ≤ 4096) ∧ Aside0 (Below u.heap.size u w')) (fun _ v26 _ => lev - (intOf v26).toNat)
      case atStart => exact ⟨0, l1, by omega, rfl, HR1, HH, ⟨by have := HLN.out; simp at this; omega⟩, HB1⟩
      case round =>
        clear HR1 HB1 HH HLN
        obtain ⟨i, xs, hi, rfl, HR, HT, HLX, HB⟩ := hrel
        obtain ⟨A6, c6, rfl⟩ := Kd.R_slice HR.out
        by_cases c : i < lev
        · have c1 := tz_lt c
          have E2 := Aside0.mk (tz_w2 c (by omega))
          have ht := HT.out
          rw [show lev - i = (lev - (i + 1)) + 1 by omega] at ht
          simp only [tz_levels] at ht
          obtain ⟨l', hl', ht⟩ := Option.bind_eq_some_iff.mp ht
          split at ht
          case isFalse => cases ht
          rename_i hlen
          have HL' := Aside0.mk hl'
          have HT' := Aside0.mk ht
          have HLN := Aside0.mk hlen
          have CX := Aside0.mk (Kd.R_reads' HR.out).2.2
          rename World => wq
          clear HT ht hl' hlen
          go_wp2
          go_loopw [8, 30] (fun v8 v30 w' => ∃ (n : Nat) (ys : List Int), n ≤ xs.length ∧ v30 = .int .i64 n ∧ Aside0 ((Kd.int .i64).R 69 w' wq.heap.size (fun _ => True) v8 ys) ∧ Aside0 (∃ b, tz_round q (tile_Kids.f k) (xs.drop n) = some b ∧ ys ++ b = l') ∧ Aside0 (Below wq.heap.size wq w')) (fun _ v30 _ => xs.length - (intOf v30).toNat)
          case atStart => exact ⟨0, [], by omega, rfl, ⟨Kd.R_nil _ _ _ _ _⟩, ⟨l', HL'.out, rfl⟩, ⟨Below.refl _ _⟩⟩
          case round =>
            clear HL' HR
            obtain ⟨n, ys, hn, rfl, HR2, HE, HB2⟩ := hrel
            obtain ⟨A8, c8, rfl⟩ := Kd.R_slice HR2.out
            rename World => wy
            by_cases c : n < xs.length
            · have c1 := tz_lt c
              have c2 := tz_ge n
              have E3 := Aside0.mk (tz_w2 c (by have := HLX.out; omega))
              have p101 : 0 ≤ (n : Int) := by omega
              have q101 : (n : Int) < (xs.length : Int) := by omega
              obtain ⟨ad101, e101, hx101_0⟩ := Kd.at_int CX.out n p101 q101
              cases e101
              replace hx101_0 := (HB2.out.cell (World.block_lt_of_cell? wq _ hx101_0)).trans hx101_0
              have er : rd xs (n : Int) = xs[n] := by unfold rd; simp [c]
              rw [er] at hx101_0
              simp only [Int.toNat_natCast] at hx101_0
              obtain ⟨b0, hb0, hb1⟩ := HE.out
              rw [List.drop_eq_getElem_cons c] at hb0
              simp only [tz_round] at hb0
              obtain ⟨ks, hks, hb0⟩ := Option.bind_eq_some_iff.mp hb0
              obtain ⟨a, ha, hb0⟩ := Option.bind_eq_some_iff.mp hb0
              obtain ⟨b2, hb2, hb0⟩ := Option.bind_eq_some_iff.mp hb0
              simp only [Option.some.injEq] at hb0
              have HKS := Aside0.mk hks
              have HA := Aside0.mk ha
              have HB0 := Aside0.mk hb2
              have HEQ := Aside0.mk (show ys ++ a ++ b2 = l' by rw [List.append_assoc, hb0]; exact hb1)
              clear hks ha hb2 hb0 hb1 HE
              replace p101 := eq_true p101
              replace q101 := eq_true q101
              generalize hx : xs[n] = x at *
              clear hx er
              go_wp2_with (go_at_call 46; (with_reducible refine (tile_Kids.calls k x ks _ HKS.out).mono ?_); rintro e wk ⟨kv, rfl, hR, hb⟩; obtain ⟨Ak, ck, rfl⟩ := Kd.R_slice hR; have HRK := Aside0.mk (Kd.R_tight rfl hR); have HRB := Aside0.mk (Kd.R_base hR); have HR3 := Aside0.mk (Kd.R_below HR2.out hb); have HB3 := Aside0.mk (HB2.out.trans (hb.mono (Below.size HB2.out))); clear hR hb)
              have HKL := Aside0.mk (show ks.length ≤ 100000 from tz_kids_len HKS.out)
              go_loopw [8, 37] (fun v8 v37 w' => ∃ (m : Nat) (zs : List Int), m ≤ ks.length ∧ v37 = .int .i64 m ∧ Aside0 ((Kd.int .i64).R 69 w' wq.heap.size (fun _ => True) v8 zs) ∧ Aside0 (∃ a2, tz_filter q (ks.drop m) = some a2 ∧ zs ++ a2 = ys ++ a) ∧ Aside0 ((Kd.int .i64).R 69 w' wy.heap.size (fun j => some j = (Value.slice Ak ks.length ck).ownBlock) (.slice Ak ks.length ck) ks) ∧ Aside0 (∀ j, (Value.slice Ak ks.length ck).ownBlock = some j → v8.ownBlock ≠ some j) ∧ Aside0 (Below wq.heap.size wq w')) (fun _ v37 _ => ks.length - (intOf v37).toNat)
              case atStart => exact ⟨0, ys, by omega, rfl, HR3, ⟨a, HA.out, rfl⟩, HRK, ⟨fun j hj he => by have h1 := HRB.out j hj; have h2 := Kd.R_lt HR2.out j he; omega⟩, HB3⟩
              case round =>
                clear HR3 HRK HB3 HRB HA HKS HR2 HB2 hx101_0
                obtain ⟨m, zs, hm, rfl, HR3, HE3, HRK, HNE, HB3⟩ := hrel
                obtain ⟨A9, c9, rfl⟩ := Kd.R_slice HR3.out
                have HBU := Aside0.mk (HB.out.trans (HB3.out.mono (Below.size HB.out)))
                by_cases d : m < ks.length
                · have d1 := tz_lt d
                  have d2 := tz_ge m
                  have D3 := Aside0.mk (tz_w2 d HKL.out)
                  have p102 : 0 ≤ (m : Int) := Int.natCast_nonneg m
                  have q102 : (m : Int) < (ks.length : Int) := Int.ofNat_lt.mpr d
                  obtain ⟨ad102, e102, hx102_0⟩ := Kd.at_int (Kd.R_reads' HRK.out).2.2 m p102 q102
                  cases e102
                  obtain ⟨y, hy⟩ : ∃ y, ks[m] = y := ⟨_, rfl⟩
                  have er : rd ks (m : Int) = y := by rw [← hy]; unfold rd; simp [d]
                  rw [er] at hx102_0
                  simp only [Int.toNat_natCast] at hx102_0
                  have hgb := (blk_cell ((HBU.out.block gb (blk_lt BG.out)).trans BG.out) 0).trans rfl
                  obtain ⟨a2, ha2, hzs⟩ := HE3.out
                  rw [List.drop_eq_getElem_cons d, hy] at ha2
                  simp only [tz_filter] at ha2
                  obtain ⟨b, hb, ha2⟩ := Option.bind_eq_some_iff.mp ha2
                  obtain ⟨r4, hr4, ha2⟩ := Option.bind_eq_some_iff.mp ha2
                  have HCC := Aside0.mk (HQ'.out wr y b HBU.out hb)
                  have H4 := Aside0.mk hr4
                  have H2 := Aside0.mk ha2
                  have HZ := Aside0.mk hzs
                  clear hb hr4 ha2 hzs HE3
                  replace p102 := eq_true p102
                  replace q102 := eq_true q102
                  clear hy er
                  cases b
                  · go_wp2_with ((with_reducible refine gatev_ (t := 41) rfl ?_); refine goescL_ (caps := #[.pointer A]) (some 43) rfl rfl Try.func91 (by kernel_rfl) rfl #[.int .i64 y, .pointer A] rfl (by first | rfl | (simp [Act.eval, Act.put] <;> rfl)) (by (try simp only [List.map_toArray, List.map_cons, List.map_nil]); first | done | rfl) ?_; (with_reducible refine HCC.out.mono ?_); rintro e w8 ⟨rfl, hb⟩; refine ⟨_, rfl, ?_⟩; have HB8 := Aside0.mk (HB3.out.trans (hb.mono (Below.size HB3.out))); have HR8 := Aside0.mk (Kd.R_below HR3.out hb); have HK8 := Aside0.mk (Kd.R_below HRK.out hb); clear hb)
                    refine ⟨⟨m + 1, zs, d, congrArg (Value.int .i64) D3.out, HR8, ⟨r4, H4.out, ?_⟩, HK8, HNE, HB8⟩, tz_dec d D3.out⟩
                    have h2 := H2.out
                    simp only [Bool.false_eq_true, if_false, Option.some.injEq] at h2
                    rw [h2]; exact HZ.out
                  · have HZL := Aside0.mk (show (zs.length + 1) * 8 ≤ 140737488355328 by
                      have h1 := congrArg List.length HZ.out
                      have h2 := congrArg List.length HEQ.out
                      have h3 := HLN.out
                      simp only [List.length_append] at h1 h2
                      omega)
                    go_wp2_with (first
                      | ((with_reducible refine gatev_ (t := 41) rfl ?_); refine goescL_ (caps := #[.pointer A]) (some 43) rfl rfl Try.func91 (by kernel_rfl) rfl #[.int .i64 y, .pointer A] rfl (by first | rfl | (simp [Act.eval, Act.put] <;> rfl)) (by (try simp only [List.map_toArray, List.map_cons, List.map_nil]); first | done | rfl) ?_; (with_reducible refine HCC.out.mono ?_); rintro e w8 ⟨rfl, hb⟩; refine ⟨_, rfl, ?_⟩; have HB8 := Aside0.mk (HB3.out.trans (hb.mono (Below.size HB3.out))); have HR8 := Aside0.mk (Kd.R_below HR3.out hb); have HK8 := Aside0.mk (Kd.R_below HRK.out hb); clear hb)
                      | ((with_reducible refine gate_builtin (b := .append) (xs := #[.tmp 44, .tmp 46]) rfl ?_); at_builtin; refine Kd.R_append (Kd.int .i64) (w0 := wq) wq.heap.size rfl (.tmp 44) (.tmp 46) 77 69 (.int .i64 0) 8 rfl Try.underlying77 info69 rfl (by decide) (by omega) _ zs y [.int .i64 y] (fun _ => True) (fun _ => False) rfl rfl rfl (fun _ hk => hk.elim) (fun _ _ => trivial) HR8.out HB8.out (Below.size HB8.out) HZL.out ?_; intro v1 w9 hR hB hg hat; have HR9 := Aside0.mk hR; have HB9 := Aside0.mk hB; have HK9 := Aside0.mk (Kd.R_grown HK8.out hg (fun j hj he => HNE.out j hj.symm he.symm)); have HN9 := Aside0.mk (fun (j : Nat) (hj : (Value.slice (some ad102) ks.length ck).ownBlock = some j) => (show v1.ownBlock ≠ some j from fun he => by
                          rcases hat with hat | ⟨b3, hat, hb3⟩
                          · exact HNE.out j hj (hat.symm.trans he)
                          · have h5 := Kd.R_lt HK8.out j hj
                            rw [hat] at he
                            injection he with he
                            omega)); clear hR hB hg hat))
                    refine ⟨⟨m + 1, zs ++ [y], d, congrArg (Value.int .i64) D3.out, HR9, ⟨r4, H4.out, ?_⟩, HK9, HN9, HB9⟩, tz_dec d D3.out⟩
                    have h2 := H2.out
                    simp only [if_true, Option.some.injEq] at h2
                    rw [← HZ.out, ← h2]
                    simp
                · have d1 := tz_nlt d
                  obtain ⟨a2, ha2, hzs⟩ := HE3.out
                  rw [List.drop_of_length_le (Nat.le_of_not_lt d)] at ha2
                  simp only [tz_filter, Option.some.injEq] at ha2
                  rw [← ha2, List.append_nil] at hzs
                  go_wp2
                  exact ⟨⟨n + 1, zs, c, congrArg (Value.int .i64) E3.out, HR3, ⟨b2, HB0.out, by rw [hzs]; exact HEQ.out⟩, HB3⟩, tz_dec c E3.out⟩
            · have c1 := tz_nlt c
              obtain ⟨b0, hb0, hb1⟩ := HE.out
              rw [List.drop_of_length_le (by omega)] at hb0
              simp only [tz_round, Option.some.injEq] at hb0
              rw [← hb0, List.append_nil] at hb1
              subst hb1
              have ht := HT'.out
              by_cases d : ys.length ≤ 4096
              · rw [if_pos d] at ht
                have d1 : decide ((ys.length : Int) > 4096) = false := decide_eq_false (by omega)
                have d2 : decide (4096 < (ys.length : Int)) = false := decide_eq_false (by omega)
                have HT2 := Aside0.mk ht
                clear ht HT'
                go_wp2
                exact ⟨⟨i + 1, ys, by omega, by first | exact congrArg (Value.int .i64) E2.out | (rw [Int.natCast_add]; rfl), ⟨Kd.R_lower HR2.out (Below.size HB.out)⟩, HT2, ⟨d⟩, ⟨HB.out.trans (HB2.out.mono (Below.size HB.out))⟩⟩, by first | exact tz_dec c E2.out | (simp only [intOf]; omega)⟩
              · rw [if_neg d] at ht
                have d1 : decide ((ys.length : Int) > 4096) = true := decide_eq_true (by omega)
                have d2 : decide (4096 < (ys.length : Int)) = true := decide_eq_true (by omega)
                simp only [Option.some.injEq, Prod.mk.injEq] at ht
                obtain ⟨rfl, rfl⟩ := ht
                go_wp2
                refine bodyPost_ret (v := .tuple #[.slice none 0 0, .int .i64 2]) (by simp [results, Try.results90, go_sem]) rfl ?_
                exact ⟨_, rfl, Kd.R_nil _ _ _ _ _, HWU.out.trans ((HB.out.trans (HB2.out.mono (Below.size HB.out))).mono (Below.size HWU.out))⟩
        · have c1 := tz_nlt c
          have ht := HT.out
          rw [show lev - i = 0 by omega] at ht
          simp only [tz_levels, Option.some.injEq, Prod.mk.injEq] at ht
          obtain ⟨rfl, rfl⟩ := ht
          go_wp2
          refine bodyPost_ret (v := .tuple #[.slice A6 xs.length c6, .int .i64 0]) (by simp [results, Try.results90, go_sem]) rfl ?_
          exact ⟨_, rfl, Kd.R_lower HR.out (Below.size HWU.out), HWU.out.trans (HB.out.mono (Below.size HWU.out))⟩
end
theorem tz_filter_mono {q q' : Int → Option Bool} (h : ∀ t, LeO (q t) (q' t)) : ∀ l, LeO (tz_filter q l) (tz_filter q' l)
  | [] => LeO.refl _
  | t :: ts => by
    simp only [tz_filter]
    exact LeO.bind (h t) (fun _ => LeO.bind (tz_filter_mono h ts) (fun _ => LeO.refl _))
theorem tz_round_mono {q q' : Int → Option Bool} {kd kd' : Int → Option (List Int)} (h : ∀ t, LeO (q t) (q' t)) (h2 : ∀ t, LeO (kd t) (kd' t)) : ∀ l, LeO (tz_round q kd l) (tz_round q' kd' l)
  | [] => LeO.refl _
  | t :: ts => by
    simp only [tz_round]
    exact LeO.bind (h2 t) (fun ks => LeO.bind (tz_filter_mono h ks) (fun _ => LeO.bind (tz_round_mono h h2 ts) (fun _ => LeO.refl _)))
theorem tz_levels_mono {q q' : Int → Option Bool} {kd kd' : Int → Option (List Int)} (h : ∀ t, LeO (q t) (q' t)) (h2 : ∀ t, LeO (kd t) (kd' t)) : ∀ n l, LeO (tz_levels q kd n l) (tz_levels q' kd' n l)
  | 0, _ => LeO.refl _
  | n + 1, l => by
    simp only [tz_levels]
    exact LeO.bind (tz_round_mono h h2 l) (fun l' => LeO.ite (LeO.ite (tz_levels_mono h h2 n l') (LeO.refl _)) (LeO.refl _))
def tile_cover__tile_Zone_1.f (k : Nat) (a0 : Int) (l1_0 : List (List S67)) : Option (List Int × Int) := if 0 ≤ a0 then (if a0 ≤ 12 then tz_cover (fun t => tile_Zone_1.f k t l1_0) (tile_Kids.f k) a0.toNat else none) else none
theorem tile_cover__tile_Zone_1.mono : ∀ a0 a1 k, LeO (tile_cover__tile_Zone_1.f k a0 a1) (tile_cover__tile_Zone_1.f (k + 1) a0 a1) := by
  intro a0 a1 k
  unfold tile_cover__tile_Zone_1.f tz_cover
  exact LeO.ite (LeO.ite (LeO.bind (tz_filter_mono (fun t => tile_Zone_1.mono _ _ _) _) (fun l => tz_levels_mono (fun t => tile_Zone_1.mono _ _ _) (fun t => tile_Kids.mono _ _) _ _)) (LeO.refl _)) (LeO.refl _)
theorem tile_cover__tile_Zone_1.calls (k : Nat) (a0 : Int) (A1_0 : Option Addr) (c1_0 : Nat) (l1_0 : List (List S67)) (r1 : List Int) (r2 : Int) (w : World) (hr1_0 : Kd.C (Kd.slice 67 k67) w A1_0 l1_0.length l1_0) (hc1_0 : l1_0.length ≤ c1_0) (h : tile_cover__tile_Zone_1.f k a0 l1_0 = some (r1, r2)) :
    Calls Try.prog 90 #[.int .i64 a0, .func (.func 91) #[] #[.pointer A1_0]] w fun e w' => ∃ v0_ : Value, e = .returned (.tuple #[v0_, .int .i64 r2]) ∧ Kd.R (Kd.int .i64) 69 w' w.heap.size (fun _ => True) v0_ r1 ∧ Below w.heap.size w w' := by
  unfold tile_cover__tile_Zone_1.f at h
  split at h
  case isFalse => cases h
  split at h
  case isFalse => cases h
  rename_i h0 h12
  obtain ⟨lev, rfl⟩ := Int.eq_ofNat_of_zero_le h0
  exact tz_cov A1_0 lev (by omega) w r1 r2 (fun W t b hB hb => tile_Zone_1.calls k t A1_0 l1_0.length l1_0 b W (Kd.C_below hr1_0 hB) (Nat.le_refl _) hb) h
end

end Go.Proofs.Ytbaedcjophgiiaa.Q
