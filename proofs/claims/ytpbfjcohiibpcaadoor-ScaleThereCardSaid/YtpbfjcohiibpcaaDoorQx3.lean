/- Contracts of Go functions of the seat, one by one: each call returns what the Lean function of the same name says, wherever that is 'some'; no other condition. Written by a program of this session. -/
import Derived.Test.YtpbfjcohiibpcaaDoorQx0
import Derived.Test.YtpbfjcohiibpcaaDoorQx2
import Derived.Test.YtpbfjcohiibpcaaDoorQx7
import Derived.Test.YtpbfjcohiibpcaaDoorQx10
import Derived.Test.YtpbfjcohiibpcaaDoorQx13
namespace Go.Proofs.YtpbfjcohiibpcaaDoor.Q
open Go.RowKit Go.Proofs.YtpbfjcohiibpcaaDoorW.PrintWords Go.Proofs.YtpbfjcohiibpcaaDoorW.PrintLast Go.Proofs.YtpbfjcohiibpcaaDoorW.PrintMore
attribute [local go_sem] max2_int min2_int max_two min_two max_three min_three max_four min_four   -- for this text's walks alone
set_option linter.unusedVariables false
set_option linter.unusedSimpArgs false

/-! ### scale_ToCivil: function 7 -/
mutual
def scale_ToCivil.j0 : Nat → Int → Bool → List (S45) → Option (Int × Int × Int × Int × Int × Int × Int × Int)
 | 0, _, _, _ => none
 | k + 1, x0, x17, x102000 => if x17 = true then (some (0, 0, 0, 0, 0, 0, 0, 4)) else ((scale_CheckLeaps.f k x102000).bind fun t103 => (if t103 = 0 then (scale_ToCivil.l0 k x0 (wrap64 ((wrap64 (Int.tdiv x0 86400000)) + 2)) x102000) else (some (0, 0, 0, 0, 0, 0, 0, t103))))
def scale_ToCivil.l0 : Nat → Int → Int → List (S45) → Option (Int × Int × Int × Int × Int × Int × Int × Int)
 | 0, _, _, _ => none
 | k + 1, x0, x7, x102000 => (scale_ToCivil_1.f k x7 [x102000]).bind fun t104 => (if t104 > x0 then (scale_ToCivil.l0 k x0 (wrap64 (x7 - 1)) x102000) else ((scale_ToCivil_1.f k x7 [x102000]).bind fun t105 => ((scale_Date.f k x7).bind fun bt107 => (some (bt107.1, bt107.2.1, bt107.2.2.1, mn (wrap64 (Int.tdiv (wrap64 (Int.tdiv (wrap64 (x0 - t104)) 1000)) 3600)) 23, mn (wrap64 (Int.tdiv (wrap64 ((wrap64 (Int.tdiv (wrap64 (x0 - t104)) 1000)) - (wrap64 ((mn (wrap64 (Int.tdiv (wrap64 (Int.tdiv (wrap64 (x0 - t104)) 1000)) 3600)) 23) * 3600)))) 60)) 59, wrap64 ((wrap64 ((wrap64 (Int.tdiv (wrap64 (x0 - t104)) 1000)) - (wrap64 ((mn (wrap64 (Int.tdiv (wrap64 (Int.tdiv (wrap64 (x0 - t104)) 1000)) 3600)) 23) * 3600)))) - (wrap64 ((mn (wrap64 (Int.tdiv (wrap64 ((wrap64 (Int.tdiv (wrap64 (x0 - t104)) 1000)) - (wrap64 ((mn (wrap64 (Int.tdiv (wrap64 (Int.tdiv (wrap64 (x0 - t104)) 1000)) 3600)) 23) * 3600)))) 60)) 59) * 60))), Int.tmod (wrap64 (x0 - t104)) 1000, 0)))))
end
def scale_ToCivil.f (k : Nat) (a0 : Int) (l1 : List (S45)) : Option (Int × Int × Int × Int × Int × Int × Int × Int) := if a0 < (-17592186044416) then (scale_ToCivil.j0 k a0 true l1) else (scale_ToCivil.j0 k a0 (decide (a0 > 17592186044416)) l1)
theorem scale_ToCivil.mono_l : ∀ k, (∀ y0 y1 y2, LeO (scale_ToCivil.j0 k y0 y1 y2) (scale_ToCivil.j0 (k + 1) y0 y1 y2)) ∧ (∀ y0 y1 y2, LeO (scale_ToCivil.l0 k y0 y1 y2) (scale_ToCivil.l0 (k + 1) y0 y1 y2))
 | 0 => ⟨fun _ _ _ r h => by simp [scale_ToCivil.j0] at h, fun _ _ _ r h => by simp [scale_ToCivil.l0] at h⟩
 | k + 1 => by
  obtain ⟨ih0, ih1⟩ := scale_ToCivil.mono_l k
  refine ⟨?_, ?_⟩
  · intro y0 y1 y2
    unfold scale_ToCivil.j0
    repeat' first
    | (with_reducible exact ih0 _ _ _)
    | (with_reducible exact ih1 _ _ _)
    | (with_reducible exact scale_CheckLeaps.mono _ _)
    | (with_reducible exact scale_Date.mono _ _)
    | (with_reducible exact scale_ToCivil_1.mono _ _ _)
    | (with_reducible exact LeO.refl _)
    | (with_reducible exact LeO.none _)
    | (with_reducible refine LeO.ite ?_ ?_)
    | (with_reducible refine LeO.bind ?_ (fun _ => ?_))
    | exact ih0 _ _ _
    | exact ih1 _ _ _
    | exact scale_CheckLeaps.mono _ _
    | exact scale_Date.mono _ _
    | exact scale_ToCivil_1.mono _ _ _
    | exact LeO.none _
    | refine LeO.ite ?_ ?_
    | refine LeO.bind ?_ (fun _ => ?_)
  · intro y0 y1 y2
    unfold scale_ToCivil.l0
    repeat' first
    | (with_reducible exact ih0 _ _ _)
    | (with_reducible exact ih1 _ _ _)
    | (with_reducible exact scale_CheckLeaps.mono _ _)
    | (with_reducible exact scale_Date.mono _ _)
    | (with_reducible exact scale_ToCivil_1.mono _ _ _)
    | (with_reducible exact LeO.refl _)
    | (with_reducible exact LeO.none _)
    | (with_reducible refine LeO.ite ?_ ?_)
    | (with_reducible refine LeO.bind ?_ (fun _ => ?_))
    | exact ih0 _ _ _
    | exact ih1 _ _ _
    | exact scale_CheckLeaps.mono _ _
    | exact scale_Date.mono _ _
    | exact scale_ToCivil_1.mono _ _ _
    | exact LeO.none _
    | refine LeO.ite ?_ ?_
    | refine LeO.bind ?_ (fun _ => ?_)
theorem scale_ToCivil.mono : ∀ a0 a1 k, LeO (scale_ToCivil.f k a0 a1) (scale_ToCivil.f (k + 1) a0 a1) := by
 intro a0 a1 k
 obtain ⟨ih0, ih1⟩ := scale_ToCivil.mono_l k
 unfold scale_ToCivil.f
 repeat' first
  | (with_reducible exact ih0 _ _ _)
  | (with_reducible exact ih1 _ _ _)
  | (with_reducible exact scale_CheckLeaps.mono _ _)
  | (with_reducible exact scale_Date.mono _ _)
  | (with_reducible exact scale_ToCivil_1.mono _ _ _)
  | (with_reducible exact LeO.refl _)
  | (with_reducible exact LeO.none _)
  | (with_reducible refine LeO.ite ?_ ?_)
  | (with_reducible refine LeO.bind ?_ (fun _ => ?_))
  | exact ih0 _ _ _
  | exact ih1 _ _ _
  | exact scale_CheckLeaps.mono _ _
  | exact scale_Date.mono _ _
  | exact scale_ToCivil_1.mono _ _ _
  | exact LeO.none _
  | refine LeO.ite ?_ ?_
  | refine LeO.bind ?_ (fun _ => ?_)
def puts_ : World → Nat → Nat → List Value → World
  | w, _, _, [] => w
  | w, g, i, v :: l => puts_ (w.setCell ⟨g, i, none⟩ v) g (i + 1) l
def sets_ : Array Value → Nat → List Value → Array Value
  | cs, _, [] => cs
  | cs, i, v :: l => sets_ (cs.setIfInBounds i v) (i + 1) l
theorem puts_below {w : World} {g : Nat} (hg : w.heap.size ≤ g) : ∀ (l : List Value) (i : Nat) (W : World), Below w.heap.size w W → Below w.heap.size w (puts_ W g i l)
  | [], _, _, h => h
  | _ :: l, i, _, h => puts_below hg l (i + 1) _ (below_set h hg)
theorem puts_far {g' g : Nat} {t : TypeId} {cs : Array Value} (hne : g' ≠ g) : ∀ (l : List Value) (i : Nat) (W : World), W.heap[g']? = some (.cells cs t (0, 0)) → (puts_ W g i l).heap[g']? = some (.cells cs t (0, 0))
  | [], _, _, h => h
  | v :: l, i, _, h => puts_far hne l (i + 1) _ (blk_far (p := ⟨g, i, none⟩) h hne v)
theorem puts_blk {g : Nat} {t : TypeId} : ∀ (l : List Value) (i : Nat) (cs : Array Value) (W : World), W.heap[g]? = some (.cells cs t (0, 0)) → (puts_ W g i l).heap[g]? = some (.cells (sets_ cs i l) t (0, 0))
  | [], _, _, _, h => h
  | v :: l, i, _, _, h => puts_blk l (i + 1) _ _ (blk_put h i v rfl)
theorem puts_blk' {g : Nat} {t : TypeId} {l : List Value} {i : Nat} {cs cs' : Array Value} {W : World} (_ : Nat) (_ : Nat) (h : W.heap[g]? = some (.cells cs t (0, 0))) (e : sets_ cs i l = cs') : (puts_ W g i l).heap[g]? = some (.cells cs' t (0, 0)) := e ▸ puts_blk l i cs W h
theorem srow_ {P : Program} {ops : Array Oper} {rest : List Oper} {o : Oper} {a : Act} {w : World} {Q : Exit → Act → World → Prop} (hgd : o.guard = none) (ty : TypeId) (x y : Operand) (ho : o.op = .store ty x y)
    (hd : o.dst = none) (g : Nat) (cells : Array Value) (hx : a.eval x = .pointer (some ⟨g, 0, none⟩)) (hy : a.eval y = .agg cells)
    (t : TypeId) (old : Array Value) (hg : w.heap[g]? = some (.cells old t (0, 0))) (hi : (P.info? ty).map (·.size) = some cells.size)
    (hold : old.size = cells.size) (h1 : cells.all (·.oneCell') = true)
    (h : wpList P ops Q rest a (w.setRow g cells)) : wpList P ops Q (o :: rest) a w :=
  wpList_store_row hgd ty x y ho g cells hx hy t old hg hi hold h1 (by rw [hd]; exact h)
theorem below_row {w W : World} {g : Nat} (h : Below w.heap.size w W) (hg : w.heap.size ≤ g) (cs : Array Value) : Below w.heap.size w (W.setRow g cs) :=
  ⟨h.os, h.tape, h.output, by rw [setRow_size]; exact h.size, fun k hk => (setRow_other W g k cs (by omega)).trans (h.block k hk)⟩
theorem row_far {g' g : Nat} {t : TypeId} {cs : Array Value} {W : World} (h : W.heap[g']? = some (.cells cs t (0, 0))) (hne : g' ≠ g) (c : Array Value) : (W.setRow g c).heap[g']? = some (.cells cs t (0, 0)) := (setRow_other W g g' c hne).trans h
set_option maxHeartbeats 8000000 in
set_option maxRecDepth 100000 in
theorem scale_ToCivil.calls (k : Nat) (a0 : Int) (A1 : Option Addr) (c1 : Nat) (l1 : List (S45)) (r1 : Int) (r2 : Int) (r3 : Int) (r4 : Int) (r5 : Int) (r6 : Int) (r7 : Int) (r8 : Int) (w : World) (hr1 : Kd.C k45 w A1 l1.length l1) (hc1 : l1.length ≤ c1) (h : scale_ToCivil.f k a0 l1 = some (r1, r2, r3, r4, r5, r6, r7, r8)) :
 Calls Tryd.prog 7 #[.int .i64 a0, .slice A1 l1.length c1] w fun e w' => e = .returned (.tuple #[.agg #[.int .i64 r1, .int .i64 r2, .int .i64 r3, .int .i64 r4, .int .i64 r5, .int .i64 r6, .int .i64 r7], .int .i64 r8]) ∧ Below w.heap.size w w' := by
  have hu32 := Tryd.underlying32
  have hmf : ∀ (fn : Fn) (first cap : Array Value) (w : World), (Instr.makeFunc fn first cap).run Tryd.prog w = .ok (.func fn first cap) w := fun _ _ _ _ => rfl
  have HR1 := Aside0.mk hr1
  have HC1 := Aside0.mk hc1
  clear hr1 hc1
  have HB := Aside0.mk (Below.refl w.heap.size w)
  have H : (if a0 < (-17592186044416) then (scale_ToCivil.j0 k a0 true l1) else (scale_ToCivil.j0 k a0 (decide (a0 > 17592186044416)) l1)) = some (r1, r2, r3, r4, r5, r6, r7, r8) := h
  clear h
  have HC3 := Aside0.mk H
  clear H
  go_enter Tryd.func7, Tryd.ntmps7
  go_upto_region 1 with (first | ((with_reducible refine gate_dst (N := 3) rfl ?_); refine bxq_ 3 #[.slice A1 l1.length c1] 26 ?_; intro gb101 hg w4 hbox hb; have BK101 := Aside0.mk (hbox); have GW101 := gwq_ HB hg rfl; have GE101 := GW101; replace HB := hbs_ HB hb rfl rfl rfl rfl; clear hb hbox hg) | ((with_reducible refine gate_dst (N := 4) rfl ?_); refine bxq_ 4 #[.int .i64 0, .int .i64 0, .int .i64 0, .int .i64 0, .int .i64 0, .int .i64 0, .int .i64 0] 32 ?_; intro gb102 hg w5 hbox hb; have BK102 := Aside0.mk (hbox); have GW102 := gwq_ HB hg rfl; have GE102 := GW102; have NB101_102 := nbl_ BK101 hg rfl; have NB102_101 := nbg_ BK101 hg rfl; replace BK101 := bkb_ BK101 hb rfl; replace HB := hbs_ HB hb rfl rfl rfl rfl; clear hb hbox hg))
  (try simp only [Act.put, List.setIfInBounds_toArray, List.set_cons_zero, List.set_cons_succ])
  go_cut [17] (fun v17 wc => ∃ (kq : Nat) (x17_2 : Bool), v17 = .bool x17_2 ∧ Aside0 (scale_ToCivil.j0 kq a0 x17_2 l1 = some (r1, r2, r3, r4, r5, r6, r7, r8)) ∧ Aside0 (kq ≤ k) ∧ Aside0 (wc.heap[gb101]? = some (.cells #[(.slice A1 l1.length c1)] 26 (0, 0))) ∧ Aside0 (wc.heap[gb102]? = some (.cells #[.int .i64 0, .int .i64 0, .int .i64 0, .int .i64 0, .int .i64 0, .int .i64 0, .int .i64 0] 32 (0, 0))) ∧ Aside0 (Below w.heap.size w wc))
  case first =>
   have H := HC3.out
   clear HC3
   by_cases c6 : a0 < (-17592186044416)
   · rw [if_pos c6] at H
     have c6b0 : decide (a0 < (-17592186044416)) = true := decide_eq_true c6
     clear c6
     (first | rw [c6b0] | (simp only [i64_w, i32_w]; rw [c6b0]) | skip)
     have H' := Aside0.mk H
     clear H
     go_wp2
     go_meet
     case rel => exact ⟨_, (true), (by first | rfl | (simp; done) | (simp [*]; done)), H', ⟨by first | omega | exact Nat.le_refl _⟩, ⟨by (with_reducible repeat (first | refine blk_drewN ?_ _ | refine blk_drew ?_ | refine blk_alloc ?_ _)); exact BK101.out⟩, ⟨by (with_reducible repeat (first | refine blk_drewN ?_ _ | refine blk_drew ?_ | refine blk_alloc ?_ _)); exact BK102.out⟩, ⟨by repeat (first | (with_reducible first | exact HB.out | apply below_alloc | apply pw_below_drewN | apply below_drew1 | refine below_set ?_ GE101.out | refine below_set ?_ GE102.out) | exact HB.out)⟩⟩
   rw [if_neg c6] at H
   have c6b0 : decide (a0 < (-17592186044416)) = false := decide_eq_false c6
   clear c6
   (first | rw [c6b0] | (simp only [i64_w, i32_w]; rw [c6b0]) | skip)
   have H' := Aside0.mk H
   clear H
   go_wp2
   go_meet
   case rel => exact ⟨_, (decide (a0 > 17592186044416)), (by first | rfl | (simp; done) | (simp [*]; done)), H', ⟨by first | omega | exact Nat.le_refl _⟩, ⟨by (with_reducible repeat (first | refine blk_drewN ?_ _ | refine blk_drew ?_ | refine blk_alloc ?_ _)); exact BK101.out⟩, ⟨by (with_reducible repeat (first | refine blk_drewN ?_ _ | refine blk_drew ?_ | refine blk_alloc ?_ _)); exact BK102.out⟩, ⟨by repeat (first | (with_reducible first | exact HB.out | apply below_alloc | apply pw_below_drewN | apply below_drew1 | refine below_set ?_ GE101.out | refine below_set ?_ GE102.out) | exact HB.out)⟩⟩
  case rest =>
   clear HC3
   obtain ⟨kq, x17_2, rfl, HA, HJ2, BK101, BK102, HB⟩ := hcut
   cases kq with
   | zero => exact absurd HA.out (by simp [scale_ToCivil.j0])
   | succ kj2 =>
    have H := HA.out
    clear HA
    simp only [scale_ToCivil.j0] at H
    by_cases c7 : x17_2 = true
    · subst c7
      rw [if_pos rfl] at H
      simp only [Option.some.injEq, Prod.mk.injEq] at H
      obtain ⟨rfl, rfl, rfl, rfl, rfl, rfl, rfl, rfl⟩ := H
      have hnb8 := NB102_101.out
      have hnc8 := NB101_102.out
      have hcz9_0 := bc_ BK102 0 rfl
      have hcz9_1 := bc_ BK102 1 rfl
      have hcz9_2 := bc_ BK102 2 rfl
      have hcz9_3 := bc_ BK102 3 rfl
      have hcz9_4 := bc_ BK102 4 rfl
      have hcz9_5 := bc_ BK102 5 rfl
      have hcz9_6 := bc_ BK102 6 rfl
      have hfz9_0 := blk_frozen BK102.out 0
      have hfz9_1 := blk_frozen BK102.out 1
      have hfz9_2 := blk_frozen BK102.out 2
      have hfz9_3 := blk_frozen BK102.out 3
      have hfz9_4 := blk_frozen BK102.out 4
      have hfz9_5 := blk_frozen BK102.out 5
      have hfz9_6 := blk_frozen BK102.out 6
      go_wp2
      refine bodyPost_ret (results_ct rfl _ _ gb102 32 #[.int .i64 0, .int .i64 0, .int .i64 0, .int .i64 0, .int .i64 0, .int .i64 0, .int .i64 0] (0, 0) _ rfl (by (with_reducible repeat (first | refine blk_drewN ?_ _ | refine blk_drew ?_ | refine blk_alloc ?_ _)); refine blk_put (cs := #[.int .i64 0, .int .i64 0, .int .i64 0, .int .i64 0, .int .i64 0, .int .i64 0, .int .i64 0]) ?_ 6 _ rfl; (with_reducible repeat (first | refine blk_drewN ?_ _ | refine blk_drew ?_ | refine blk_alloc ?_ _)); refine blk_put (cs := #[.int .i64 0, .int .i64 0, .int .i64 0, .int .i64 0, .int .i64 0, .int .i64 0, .int .i64 0]) ?_ 5 _ rfl; (with_reducible repeat (first | refine blk_drewN ?_ _ | refine blk_drew ?_ | refine blk_alloc ?_ _)); refine blk_put (cs := #[.int .i64 0, .int .i64 0, .int .i64 0, .int .i64 0, .int .i64 0, .int .i64 0, .int .i64 0]) ?_ 4 _ rfl; (with_reducible repeat (first | refine blk_drewN ?_ _ | refine blk_drew ?_ | refine blk_alloc ?_ _)); refine blk_put (cs := #[.int .i64 0, .int .i64 0, .int .i64 0, .int .i64 0, .int .i64 0, .int .i64 0, .int .i64 0]) ?_ 3 _ rfl; (with_reducible repeat (first | refine blk_drewN ?_ _ | refine blk_drew ?_ | refine blk_alloc ?_ _)); refine blk_put (cs := #[.int .i64 0, .int .i64 0, .int .i64 0, .int .i64 0, .int .i64 0, .int .i64 0, .int .i64 0]) ?_ 2 _ rfl; (with_reducible repeat (first | refine blk_drewN ?_ _ | refine blk_drew ?_ | refine blk_alloc ?_ _)); refine blk_put (cs := #[.int .i64 0, .int .i64 0, .int .i64 0, .int .i64 0, .int .i64 0, .int .i64 0, .int .i64 0]) ?_ 1 _ rfl; (with_reducible repeat (first | refine blk_drewN ?_ _ | refine blk_drew ?_ | refine blk_alloc ?_ _)); refine blk_put (cs := #[.int .i64 0, .int .i64 0, .int .i64 0, .int .i64 0, .int .i64 0, .int .i64 0, .int .i64 0]) ?_ 0 _ rfl; (with_reducible repeat (first | refine blk_drewN ?_ _ | refine blk_drew ?_ | refine blk_alloc ?_ _)); exact BK102.out) Tryd.underlying32 rfl (by kernel_rfl)) rfl ?_
      exact ⟨by first | rfl | (simp [errW_none, errW_some] <;> rfl) | (simp [*, errW_none, errW_some] <;> rfl), by repeat (first | (with_reducible first | exact HB.out | apply below_alloc | apply pw_below_drewN | apply below_drew1 | refine below_set ?_ GE101.out | refine below_set ?_ GE102.out) | exact HB.out)⟩
    replace c7 := Bool.eq_false_iff.mpr c7
    subst c7
    rw [if_neg (show ¬ (false = true) by decide)] at H
    replace H := Option.bind_eq_some_iff.mp H
    obtain ⟨t103, A100, H⟩ := H
    try dsimp -simprocs only at H
    have A10 := Aside0.mk A100
    clear A100
    by_cases c11 : t103 = 0
    rotate_left
    · rw [if_neg c11] at H
      have c11b0 : (t103 == 0) = false := beq_eq_false_iff_ne.mpr c11
      have c11b1 : (t103 != 0) = true := bne_iff_ne.mpr c11
      simp only [Option.some.injEq, Prod.mk.injEq] at H
      obtain ⟨rfl, rfl, rfl, rfl, rfl, rfl, rfl, rfl⟩ := H
      have hnb32 := NB101_102.out
      have hnc32 := NB102_101.out
      have hcz33_0 := bc_ BK101 0 rfl
      have hfz33_0 := blk_frozen BK101.out 0
      go_wp2_with (first | ((with_reducible refine gate_callee (f := 14) rfl ?_); refine glq_ (some 20) Tryd.func14 #[.slice A1 l1.length c1] ?_; (with_reducible refine (scale_CheckLeaps.calls kj2 _ _ l1 t103 _ ?side1 ?side2 A10.out).mono ?_); (case side1 => repeat (first | exact (Kd.C_below HR1.out HB.out) | (with_reducible refine Kd.C_alloc ?_ _) | (with_reducible refine Kd.C_drewN ?_ _) | (with_reducible refine Kd.C_drew ?_))); (case side2 => exact HC1.out); rintro e w34 ⟨rfl, hb⟩; refine ⟨_, rfl, ?_⟩; replace BK101 := bkb_ BK101 hb rfl; replace BK102 := bkb_ BK102 hb rfl; replace HB := hbs_ HB hb rfl rfl rfl rfl; (try clear hb); have hcz35_0 := bc_ BK102 0 rfl; have hcz35_1 := bc_ BK102 1 rfl; have hcz35_2 := bc_ BK102 2 rfl; have hcz35_3 := bc_ BK102 3 rfl; have hcz35_4 := bc_ BK102 4 rfl; have hcz35_5 := bc_ BK102 5 rfl; have hcz35_6 := bc_ BK102 6 rfl; have hfz35_0 := blk_frozen BK102.out 0; have hfz35_1 := blk_frozen BK102.out 1; have hfz35_2 := blk_frozen BK102.out 2; have hfz35_3 := blk_frozen BK102.out 3; have hfz35_4 := blk_frozen BK102.out 4; have hfz35_5 := blk_frozen BK102.out 5; have hfz35_6 := blk_frozen BK102.out 6))
      refine bodyPost_ret (results_ct rfl _ _ gb102 32 #[.int .i64 0, .int .i64 0, .int .i64 0, .int .i64 0, .int .i64 0, .int .i64 0, .int .i64 0] (0, 0) _ rfl (by (with_reducible repeat (first | refine blk_drewN ?_ _ | refine blk_drew ?_ | refine blk_alloc ?_ _)); refine blk_put (cs := #[.int .i64 0, .int .i64 0, .int .i64 0, .int .i64 0, .int .i64 0, .int .i64 0, .int .i64 0]) ?_ 6 _ rfl; (with_reducible repeat (first | refine blk_drewN ?_ _ | refine blk_drew ?_ | refine blk_alloc ?_ _)); refine blk_put (cs := #[.int .i64 0, .int .i64 0, .int .i64 0, .int .i64 0, .int .i64 0, .int .i64 0, .int .i64 0]) ?_ 5 _ rfl; (with_reducible repeat (first | refine blk_drewN ?_ _ | refine blk_drew ?_ | refine blk_alloc ?_ _)); refine blk_put (cs := #[.int .i64 0, .int .i64 0, .int .i64 0, .int .i64 0, .int .i64 0, .int .i64 0, .int .i64 0]) ?_ 4 _ rfl; (with_reducible repeat (first | refine blk_drewN ?_ _ | refine blk_drew ?_ | refine blk_alloc ?_ _)); refine blk_put (cs := #[.int .i64 0, .int .i64 0, .int .i64 0, .int .i64 0, .int .i64 0, .int .i64 0, .int .i64 0]) ?_ 3 _ rfl; (with_reducible repeat (first | refine blk_drewN ?_ _ | refine blk_drew ?_ | refine blk_alloc ?_ _)); refine blk_put (cs := #[.int .i64 0, .int .i64 0, .int .i64 0, .int .i64 0, .int .i64 0, .int .i64 0, .int .i64 0]) ?_ 2 _ rfl; (with_reducible repeat (first | refine blk_drewN ?_ _ | refine blk_drew ?_ | refine blk_alloc ?_ _)); refine blk_put (cs := #[.int .i64 0, .int .i64 0, .int .i64 0, .int .i64 0, .int .i64 0, .int .i64 0, .int .i64 0]) ?_ 1 _ rfl; (with_reducible repeat (first | refine blk_drewN ?_ _ | refine blk_drew ?_ | refine blk_alloc ?_ _)); refine blk_put (cs := #[.int .i64 0, .int .i64 0, .int .i64 0, .int .i64 0, .int .i64 0, .int .i64 0, .int .i64 0]) ?_ 0 _ rfl; (with_reducible repeat (first | refine blk_drewN ?_ _ | refine blk_drew ?_ | refine blk_alloc ?_ _)); exact BK102.out) Tryd.underlying32 rfl (by kernel_rfl)) rfl ?_
      exact ⟨by first | rfl | (simp [errW_none, errW_some] <;> rfl) | (simp [*, errW_none, errW_some] <;> rfl), by repeat (first | (with_reducible first | exact HB.out | apply below_alloc | apply pw_below_drewN | apply below_drew1 | refine below_set ?_ GE101.out | refine below_set ?_ GE102.out) | exact HB.out)⟩
    rw [if_pos c11] at H
    have c11b0 : (t103 == 0) = true := beq_iff_eq.mpr c11
    have c11b1 : (t103 != 0) = false := bne_eq_false_iff_eq.mpr c11
    clear c11
    have H' := Aside0.mk H
    clear H
    have hnb12 := NB101_102.out
    have hnc12 := NB102_101.out
    have hcz13_0 := bc_ BK101 0 rfl
    have hfz13_0 := blk_frozen BK101.out 0
    go_wp2_with (first | ((with_reducible refine gate_callee (f := 14) rfl ?_); refine glq_ (some 20) Tryd.func14 #[.slice A1 l1.length c1] ?_; (with_reducible refine (scale_CheckLeaps.calls kj2 _ _ l1 t103 _ ?side1 ?side2 A10.out).mono ?_); (case side1 => repeat (first | exact (Kd.C_below HR1.out HB.out) | (with_reducible refine Kd.C_alloc ?_ _) | (with_reducible refine Kd.C_drewN ?_ _) | (with_reducible refine Kd.C_drew ?_))); (case side2 => exact HC1.out); rintro e w14 ⟨rfl, hb⟩; refine ⟨_, rfl, ?_⟩; replace BK101 := bkb_ BK101 hb rfl; replace BK102 := bkb_ BK102 hb rfl; replace HB := hbs_ HB hb rfl rfl rfl rfl; (try clear hb)))
    go_loopg [7] kj2 (fun kq v7 w' => ∃ (x7_2 : Int), v7 = .int .i64 x7_2 ∧ Aside0 (scale_ToCivil.l0 kq a0 x7_2 l1 = some (r1, r2, r3, r4, r5, r6, r7, r8)) ∧ Aside0 (kq ≤ kj2) ∧ Aside0 (w'.heap[gb101]? = some (.cells #[(.slice A1 l1.length c1)] 26 (0, 0))) ∧ Aside0 (w'.heap[gb102]? = some (.cells #[.int .i64 0, .int .i64 0, .int .i64 0, .int .i64 0, .int .i64 0, .int .i64 0, .int .i64 0] 32 (0, 0))) ∧ Aside0 (Below w.heap.size w w'))
    case atStart => exact ⟨(wrap64 ((wrap64 (Int.tdiv a0 86400000)) + 2)), (by first | rfl | (simp; done) | (simp [*]; done)), H', ⟨Nat.le_refl _⟩, ⟨by (with_reducible repeat (first | refine blk_drewN ?_ _ | refine blk_drew ?_ | refine blk_alloc ?_ _)); exact BK101.out⟩, ⟨by (with_reducible repeat (first | refine blk_drewN ?_ _ | refine blk_drew ?_ | refine blk_alloc ?_ _)); exact BK102.out⟩, ⟨by repeat (first | (with_reducible first | exact HB.out | apply below_alloc | apply pw_below_drewN | apply below_drew1 | refine below_set ?_ GE101.out | refine below_set ?_ GE102.out) | exact HB.out)⟩⟩
    case round =>
     clear H'
     obtain ⟨x7_2, rfl, HA, HK2, BK101, BK102, HB⟩ := hrel
     cases gk with
     | zero => exact absurd HA.out (by simp [scale_ToCivil.l0])
     | succ k2 =>
      have H := HA.out
      clear HA
      simp only [scale_ToCivil.l0] at H
      replace H := Option.bind_eq_some_iff.mp H
      obtain ⟨t104, A150, H⟩ := H
      try dsimp -simprocs only at H
      have A15 := Aside0.mk A150
      clear A150
      by_cases c16 : t104 > a0
      · rw [if_pos c16] at H
        have c16b0 : decide (a0 < t104) = true := decide_eq_true c16
        clear c16
        have H' := Aside0.mk H
        clear H
        go_wp2_with (first | ((with_reducible refine gatev_ (t := 29) rfl ?_); refine goescL_ (caps := #[.pointer (some ⟨gb101, 0, none⟩)]) (some 31) rfl rfl Tryd.func15 (by kernel_rfl) rfl #[.int .i64 x7_2, .pointer (some ⟨gb101, 0, none⟩)] rfl (by first | rfl | (simp [Act.eval, Act.put] <;> rfl)) (by (try simp only [List.map_toArray, List.map_cons, List.map_nil]); first | done | rfl | (simp only [List.length_drop, List.length_take]; rfl)) ?_; (with_reducible refine (scale_ToCivil_1.calls k2 x7_2 _ (List.length [l1]) [l1] t104 _ ?side1 ?side2 A15.out).mono ?_); (case side1 => exact cap_C (T := 26) (cs := #[.slice A1 l1.length c1]) BK101.out (⟨_, _, rfl, (by exact HC1.out), (by repeat (first | exact (Kd.C_below HR1.out HB.out) | (with_reducible refine Kd.C_alloc ?_ _) | (with_reducible refine Kd.C_drewN ?_ _) | (with_reducible refine Kd.C_drew ?_)))⟩) rfl); (case side2 => exact Nat.le_refl _); rintro e w17 ⟨rfl, hb⟩; refine ⟨_, rfl, ?_⟩; have n0_ := bkb_ BK101 hb rfl; have n1_ := bkb_ BK102 hb rfl; have n2_ := hbs_ HB hb rfl rfl rfl rfl; clear BK101; clear BK102; clear HB; have BK101 := n0_; have BK102 := n1_; have HB := n2_; clear n0_ n1_ n2_; (try clear hb); (try clear hb2); (try clear hk); (try clear hi)))
        go_roundg k2
        case measure => have := HJ2.out; have := HK2.out; omega
        case rel => exact ⟨(wrap64 (x7_2 - 1)), (by first | rfl | (simp; done) | (simp [*]; done)), H', ⟨by have := HJ2.out; have := HK2.out; omega⟩, ⟨by (with_reducible repeat (first | refine blk_drewN ?_ _ | refine blk_drew ?_ | refine blk_alloc ?_ _)); exact BK101.out⟩, ⟨by (with_reducible repeat (first | refine blk_drewN ?_ _ | refine blk_drew ?_ | refine blk_alloc ?_ _)); exact BK102.out⟩, ⟨by repeat (first | (with_reducible first | exact HB.out | apply below_alloc | apply pw_below_drewN | apply below_drew1 | refine below_set ?_ GE101.out | refine below_set ?_ GE102.out) | exact HB.out)⟩⟩
      rw [if_neg c16] at H
      have c16b0 : decide (a0 < t104) = false := decide_eq_false c16
      clear c16
      replace H := Option.bind_eq_some_iff.mp H
      obtain ⟨t105, A180, H⟩ := H
      try dsimp -simprocs only at H
      have E_ := Option.some.inj (A15.out.symm.trans A180)
      subst E_
      have A18 := Aside0.mk A180
      clear A180
      obtain ⟨ji19, hji19⟩ : ∃ j_ : Int, (mn (wrap64 (Int.tdiv (wrap64 (Int.tdiv (wrap64 (a0 - t104)) 1000)) 3600)) 23) = j_ := ⟨_, rfl⟩
      replace H : ((scale_Date.f k2 x7_2).bind fun bt107 => (some (bt107.1, bt107.2.1, bt107.2.2.1, ji19, mn (wrap64 (Int.tdiv (wrap64 ((wrap64 (Int.tdiv (wrap64 (a0 - t104)) 1000)) - (wrap64 ((ji19) * 3600)))) 60)) 59, wrap64 ((wrap64 ((wrap64 (Int.tdiv (wrap64 (a0 - t104)) 1000)) - (wrap64 ((ji19) * 3600)))) - (wrap64 ((mn (wrap64 (Int.tdiv (wrap64 ((wrap64 (Int.tdiv (wrap64 (a0 - t104)) 1000)) - (wrap64 ((ji19) * 3600)))) 60)) 59) * 60))), Int.tmod (wrap64 (a0 - t104)) 1000, 0))) = some (r1, r2, r3, r4, r5, r6, r7, r8) := by first | (rw [hji19] at H; exact H) | (simp only [hji19] at H ⊢; exact H)
      (try rw [hji19] at A15)
      (try rw [hji19] at A18)
      have hji19_ : (if 23 < (wrap64 (Int.tdiv (wrap64 (Int.tdiv (wrap64 (a0 - t104)) 1000)) 3600)) then 23 else (wrap64 (Int.tdiv (wrap64 (Int.tdiv (wrap64 (a0 - t104)) 1000)) 3600))) = ji19 := hji19
      obtain ⟨ji20, hji20⟩ : ∃ j_ : Int, (mn (wrap64 (Int.tdiv (wrap64 ((wrap64 (Int.tdiv (wrap64 (a0 - t104)) 1000)) - (wrap64 ((ji19) * 3600)))) 60)) 59) = j_ := ⟨_, rfl⟩
      replace H : ((scale_Date.f k2 x7_2).bind fun bt107 => (some (bt107.1, bt107.2.1, bt107.2.2.1, ji19, ji20, wrap64 ((wrap64 ((wrap64 (Int.tdiv (wrap64 (a0 - t104)) 1000)) - (wrap64 ((ji19) * 3600)))) - (wrap64 ((ji20) * 60))), Int.tmod (wrap64 (a0 - t104)) 1000, 0))) = some (r1, r2, r3, r4, r5, r6, r7, r8) := by first | (rw [hji20] at H; exact H) | (simp only [hji20] at H ⊢; exact H)
      (try rw [hji20] at A15)
      (try rw [hji20] at A18)
      have hji20_ : (if 59 < (wrap64 (Int.tdiv (wrap64 ((wrap64 (Int.tdiv (wrap64 (a0 - t104)) 1000)) - (wrap64 ((ji19) * 3600)))) 60)) then 59 else (wrap64 (Int.tdiv (wrap64 ((wrap64 (Int.tdiv (wrap64 (a0 - t104)) 1000)) - (wrap64 ((ji19) * 3600)))) 60))) = ji20 := hji20
      replace H := Option.bind_eq_some_iff.mp H
      obtain ⟨⟨t107, t108, t109, t110⟩, A210, H⟩ := H
      try dsimp -simprocs only at H
      have A21 := Aside0.mk A210
      clear A210
      simp only [Option.some.injEq, Prod.mk.injEq] at H
      obtain ⟨rfl, rfl, rfl, rfl, rfl, rfl, rfl, rfl⟩ := H
      go_wp2_with (first | ((with_reducible refine gatev_ (t := 29) rfl ?_); refine goescL_ (caps := #[.pointer (some ⟨gb101, 0, none⟩)]) (some 31) rfl rfl Tryd.func15 (by kernel_rfl) rfl #[.int .i64 x7_2, .pointer (some ⟨gb101, 0, none⟩)] rfl (by first | rfl | (simp [Act.eval, Act.put] <;> rfl)) (by (try simp only [List.map_toArray, List.map_cons, List.map_nil]); first | done | rfl | (simp only [List.length_drop, List.length_take]; rfl)) ?_; (with_reducible refine (scale_ToCivil_1.calls k2 x7_2 _ (List.length [l1]) [l1] t104 _ ?side1 ?side2 A15.out).mono ?_); (case side1 => exact cap_C (T := 26) (cs := #[.slice A1 l1.length c1]) BK101.out (⟨_, _, rfl, (by exact HC1.out), (by repeat (first | exact (Kd.C_below HR1.out HB.out) | (with_reducible refine Kd.C_alloc ?_ _) | (with_reducible refine Kd.C_drewN ?_ _) | (with_reducible refine Kd.C_drew ?_)))⟩) rfl); (case side2 => exact Nat.le_refl _); rintro e w22 ⟨rfl, hb⟩; refine ⟨_, rfl, ?_⟩; have n0_ := bkb_ BK101 hb rfl; have n1_ := bkb_ BK102 hb rfl; have n2_ := hbs_ HB hb rfl rfl rfl rfl; clear BK101; clear BK102; clear HB; have BK101 := n0_; have BK102 := n1_; have HB := n2_; clear n0_ n1_ n2_; (try clear hb); (try clear hb2); (try clear hk); (try clear hi)) | ((with_reducible refine gatev_ (t := 37) rfl ?_); refine goescL_ (caps := #[.pointer (some ⟨gb101, 0, none⟩)]) (some 39) rfl rfl Tryd.func15 (by kernel_rfl) rfl #[.int .i64 x7_2, .pointer (some ⟨gb101, 0, none⟩)] rfl (by first | rfl | (simp [Act.eval, Act.put] <;> rfl)) (by (try simp only [List.map_toArray, List.map_cons, List.map_nil]); first | done | rfl | (simp only [List.length_drop, List.length_take]; rfl)) ?_; (with_reducible refine (scale_ToCivil_1.calls k2 x7_2 _ (List.length [l1]) [l1] t104 _ ?side1 ?side2 A18.out).mono ?_); (case side1 => exact cap_C (T := 26) (cs := #[.slice A1 l1.length c1]) BK101.out (⟨_, _, rfl, (by exact HC1.out), (by repeat (first | exact (Kd.C_below HR1.out HB.out) | (with_reducible refine Kd.C_alloc ?_ _) | (with_reducible refine Kd.C_drewN ?_ _) | (with_reducible refine Kd.C_drew ?_)))⟩) rfl); (case side2 => exact Nat.le_refl _); rintro e w23 ⟨rfl, hb⟩; refine ⟨_, rfl, ?_⟩; have n0_ := bkb_ BK101 hb rfl; have n1_ := bkb_ BK102 hb rfl; have n2_ := hbs_ HB hb rfl rfl rfl rfl; clear BK101; clear BK102; clear HB; have BK101 := n0_; have BK102 := n1_; have HB := n2_; clear n0_ n1_ n2_; (try clear hb); (try clear hb2); (try clear hk); (try clear hi)) | ((with_reducible refine gate_dst (N := 11) rfl ?_); refine bxq_ 11 #[.int .i64 0, .int .i64 0, .int .i64 0, .int .i64 0, .int .i64 0, .int .i64 0, .int .i64 0] 32 ?_; intro gb106 hg w24 hbox hb; have BK106 := Aside0.mk (hbox); have GW106 := gwq_ HB hg rfl; have GE106 := GW106; have NB101_106 := nbl_ BK101 hg rfl; have NB106_101 := nbg_ BK101 hg rfl; have NB102_106 := nbl_ BK102 hg rfl; have NB106_102 := nbg_ BK102 hg rfl; replace BK101 := bkb_ BK101 hb rfl; replace BK102 := bkb_ BK102 hb rfl; replace HB := hbs_ HB hb rfl rfl rfl rfl; clear hb hbox hg) | ((with_reducible refine gate_store (t := 32) (p := 11) rfl ?_); refine srow_ rfl 32 _ _ rfl rfl gb106 #[.int .i64 0, .int .i64 0, .int .i64 0, .int .i64 ji19, .int .i64 0, .int .i64 0, .int .i64 (Int.tmod (wrap64 (a0 - t104)) 1000)] (by first | rfl | (go_simp; done) | (go_simp; rfl)) (by first | rfl | (go_simp; done) | (go_simp; rfl)) 32 #[.int .i64 0, .int .i64 0, .int .i64 0, .int .i64 0, .int .i64 0, .int .i64 0, .int .i64 0] BK106.out (by kernel_rfl) (by kernel_rfl) (by kernel_rfl) ?_; have n1_ := Aside0.mk (below_row (by repeat (first | (with_reducible first | exact HB.out | apply below_alloc | apply pw_below_drewN | apply below_drew1) | exact HB.out)) GE106.out #[.int .i64 0, .int .i64 0, .int .i64 0, .int .i64 ji19, .int .i64 0, .int .i64 0, .int .i64 (Int.tmod (wrap64 (a0 - t104)) 1000)]); have n3_ := Aside0.mk (setRow_heap _ gb106 _ #[.int .i64 0, .int .i64 0, .int .i64 0, .int .i64 ji19, .int .i64 0, .int .i64 0, .int .i64 (Int.tmod (wrap64 (a0 - t104)) 1000)] _ _ BK106.out); have m0_ := Aside0.mk (row_far BK101.out NB101_106.out #[.int .i64 0, .int .i64 0, .int .i64 0, .int .i64 ji19, .int .i64 0, .int .i64 0, .int .i64 (Int.tmod (wrap64 (a0 - t104)) 1000)]); have m1_ := Aside0.mk (row_far BK102.out NB102_106.out #[.int .i64 0, .int .i64 0, .int .i64 0, .int .i64 ji19, .int .i64 0, .int .i64 0, .int .i64 (Int.tmod (wrap64 (a0 - t104)) 1000)]); generalize World.setRow _ gb106 #[.int .i64 0, .int .i64 0, .int .i64 0, .int .i64 ji19, .int .i64 0, .int .i64 0, .int .i64 (Int.tmod (wrap64 (a0 - t104)) 1000)] = w_ at *; clear HB BK106 BK101 BK102; have HB := n1_; have BK106 := n3_; have BK101 := m0_; clear m0_; have BK102 := m1_; clear m1_; clear n1_ n3_; have hq_ := bc_ BK106 3 rfl) | ((with_reducible refine gate_store (t := 3) (p := 57) rfl ?_); (try clear hq_); have hz_ := bc_ BK106 4 rfl; have hf_ := blk_frozen BK106.out 4; refine store_event (w1 := puts_ _ gb106 4 [.int .i64 ji20]) rfl (t := 3) (p := 57) (v := _) rfl rfl (by first | (go_simp; done) | (go_simp; rfl)) ?_; clear hz_ hf_; intro w_ eK; have n1_ := Aside0.mk (show Below w.heap.size w w_ by rw [eK]; exact puts_below GE106.out _ _ _ (by repeat (first | (with_reducible first | exact HB.out | apply below_alloc | apply pw_below_drewN | apply below_drew1) | exact HB.out))); have n3_ := Aside0.mk (show w_.heap[gb106]? = some (.cells #[.int .i64 0, .int .i64 0, .int .i64 0, .int .i64 ji19, .int .i64 ji20, .int .i64 0, .int .i64 (Int.tmod (wrap64 (a0 - t104)) 1000)] 32 (0, 0)) by rw [eK]; exact puts_blk' 0 0 BK106.out (by kernel_rfl)); have m0_ := Aside0.mk (show w_.heap[gb101]? = some (.cells #[.slice A1 l1.length c1] 26 (0, 0)) by rw [eK]; exact puts_far NB101_106.out _ _ _ BK101.out); have m1_ := Aside0.mk (show w_.heap[gb102]? = some (.cells #[.int .i64 0, .int .i64 0, .int .i64 0, .int .i64 0, .int .i64 0, .int .i64 0, .int .i64 0] 32 (0, 0)) by rw [eK]; exact puts_far NB102_106.out _ _ _ BK102.out); clear HB BK106 BK101 BK102; have HB := n1_; have BK106 := n3_; have BK101 := m0_; clear m0_; have BK102 := m1_; clear m1_; clear n1_ n3_; clear eK; have hq_ := bc_ BK106 4 rfl) | ((with_reducible refine gate_store (t := 3) (p := 63) rfl ?_); (try clear hq_); have hz_ := bc_ BK106 5 rfl; have hf_ := blk_frozen BK106.out 5; refine store_event (w1 := puts_ _ gb106 5 [.int .i64 (wrap64 ((wrap64 ((wrap64 (Int.tdiv (wrap64 (a0 - t104)) 1000)) - (wrap64 ((ji19) * 3600)))) - (wrap64 ((ji20) * 60))))]) rfl (t := 3) (p := 63) (v := _) rfl rfl (by first | (go_simp; done) | (go_simp; rfl)) ?_; clear hz_ hf_; intro w_ eK; have n1_ := Aside0.mk (show Below w.heap.size w w_ by rw [eK]; exact puts_below GE106.out _ _ _ (by repeat (first | (with_reducible first | exact HB.out | apply below_alloc | apply pw_below_drewN | apply below_drew1) | exact HB.out))); have n3_ := Aside0.mk (show w_.heap[gb106]? = some (.cells #[.int .i64 0, .int .i64 0, .int .i64 0, .int .i64 ji19, .int .i64 ji20, .int .i64 (wrap64 ((wrap64 ((wrap64 (Int.tdiv (wrap64 (a0 - t104)) 1000)) - (wrap64 ((ji19) * 3600)))) - (wrap64 ((ji20) * 60)))), .int .i64 (Int.tmod (wrap64 (a0 - t104)) 1000)] 32 (0, 0)) by rw [eK]; exact puts_blk' 0 0 BK106.out (by kernel_rfl)); have m0_ := Aside0.mk (show w_.heap[gb101]? = some (.cells #[.slice A1 l1.length c1] 26 (0, 0)) by rw [eK]; exact puts_far NB101_106.out _ _ _ BK101.out); have m1_ := Aside0.mk (show w_.heap[gb102]? = some (.cells #[.int .i64 0, .int .i64 0, .int .i64 0, .int .i64 0, .int .i64 0, .int .i64 0, .int .i64 0] 32 (0, 0)) by rw [eK]; exact puts_far NB102_106.out _ _ _ BK102.out); clear HB BK106 BK101 BK102; have HB := n1_; have BK106 := n3_; have BK101 := m0_; clear m0_; have BK102 := m1_; clear m1_; clear n1_ n3_; clear eK) | ((with_reducible refine gate_callee (f := 17) rfl ?_); refine glq_ (some 66) Tryd.func17 #[.int .i64 x7_2] ?_; (with_reducible refine (scale_Date.calls k2 x7_2 t107 t108 t109 t110 _ A21.out).mono ?_); rintro e w_ ⟨rfl, hb⟩; refine ⟨_, rfl, ?_⟩; have n1_ := hbs_ HB hb rfl rfl rfl rfl; have n3_ := bkb_ BK106 hb rfl; have m0_ := bkb_ BK101 hb rfl; have m1_ := bkb_ BK102 hb rfl; clear HB BK106 BK101 BK102; have HB := n1_; have BK106 := n3_; have BK101 := m0_; clear m0_; have BK102 := m1_; clear m1_; clear n1_ n3_; (try clear hb)) | ((with_reducible refine gate_store (t := 3) (p := 71) rfl ?_); have hz_ := bc_ BK106 0 rfl; have hf_ := blk_frozen BK106.out 0; refine store_event (w1 := puts_ _ gb106 0 [.int .i64 t107]) rfl (t := 3) (p := 71) (v := _) rfl rfl (by first | (go_simp; done) | (go_simp; rfl)) ?_; clear hz_ hf_; intro w_ eK; have n1_ := Aside0.mk (show Below w.heap.size w w_ by rw [eK]; exact puts_below GE106.out _ _ _ (by repeat (first | (with_reducible first | exact HB.out | apply below_alloc | apply pw_below_drewN | apply below_drew1) | exact HB.out))); have n3_ := Aside0.mk (show w_.heap[gb106]? = some (.cells #[.int .i64 t107, .int .i64 0, .int .i64 0, .int .i64 ji19, .int .i64 ji20, .int .i64 (wrap64 ((wrap64 ((wrap64 (Int.tdiv (wrap64 (a0 - t104)) 1000)) - (wrap64 ((ji19) * 3600)))) - (wrap64 ((ji20) * 60)))), .int .i64 (Int.tmod (wrap64 (a0 - t104)) 1000)] 32 (0, 0)) by rw [eK]; exact puts_blk' 0 0 BK106.out (by kernel_rfl)); have m0_ := Aside0.mk (show w_.heap[gb101]? = some (.cells #[.slice A1 l1.length c1] 26 (0, 0)) by rw [eK]; exact puts_far NB101_106.out _ _ _ BK101.out); have m1_ := Aside0.mk (show w_.heap[gb102]? = some (.cells #[.int .i64 0, .int .i64 0, .int .i64 0, .int .i64 0, .int .i64 0, .int .i64 0, .int .i64 0] 32 (0, 0)) by rw [eK]; exact puts_far NB102_106.out _ _ _ BK102.out); clear HB BK106 BK101 BK102; have HB := n1_; have BK106 := n3_; have BK101 := m0_; clear m0_; have BK102 := m1_; clear m1_; clear n1_ n3_; clear eK) | ((with_reducible refine gate_store (t := 3) (p := 72) rfl ?_); have hz_ := bc_ BK106 1 rfl; have hf_ := blk_frozen BK106.out 1; refine store_event (w1 := puts_ _ gb106 1 [.int .i64 t108]) rfl (t := 3) (p := 72) (v := _) rfl rfl (by first | (go_simp; done) | (go_simp; rfl)) ?_; clear hz_ hf_; intro w_ eK; have n1_ := Aside0.mk (show Below w.heap.size w w_ by rw [eK]; exact puts_below GE106.out _ _ _ (by repeat (first | (with_reducible first | exact HB.out | apply below_alloc | apply pw_below_drewN | apply below_drew1) | exact HB.out))); have n3_ := Aside0.mk (show w_.heap[gb106]? = some (.cells #[.int .i64 t107, .int .i64 t108, .int .i64 0, .int .i64 ji19, .int .i64 ji20, .int .i64 (wrap64 ((wrap64 ((wrap64 (Int.tdiv (wrap64 (a0 - t104)) 1000)) - (wrap64 ((ji19) * 3600)))) - (wrap64 ((ji20) * 60)))), .int .i64 (Int.tmod (wrap64 (a0 - t104)) 1000)] 32 (0, 0)) by rw [eK]; exact puts_blk' 0 0 BK106.out (by kernel_rfl)); have m0_ := Aside0.mk (show w_.heap[gb101]? = some (.cells #[.slice A1 l1.length c1] 26 (0, 0)) by rw [eK]; exact puts_far NB101_106.out _ _ _ BK101.out); have m1_ := Aside0.mk (show w_.heap[gb102]? = some (.cells #[.int .i64 0, .int .i64 0, .int .i64 0, .int .i64 0, .int .i64 0, .int .i64 0, .int .i64 0] 32 (0, 0)) by rw [eK]; exact puts_far NB102_106.out _ _ _ BK102.out); clear HB BK106 BK101 BK102; have HB := n1_; have BK106 := n3_; have BK101 := m0_; clear m0_; have BK102 := m1_; clear m1_; clear n1_ n3_; clear eK) | ((with_reducible refine gate_store (t := 3) (p := 73) rfl ?_); have hz_ := bc_ BK106 2 rfl; have hf_ := blk_frozen BK106.out 2; refine store_event (w1 := puts_ _ gb106 2 [.int .i64 t109]) rfl (t := 3) (p := 73) (v := _) rfl rfl (by first | (go_simp; done) | (go_simp; rfl)) ?_; clear hz_ hf_; intro w_ eK; have n1_ := Aside0.mk (show Below w.heap.size w w_ by rw [eK]; exact puts_below GE106.out _ _ _ (by repeat (first | (with_reducible first | exact HB.out | apply below_alloc | apply pw_below_drewN | apply below_drew1) | exact HB.out))); have n3_ := Aside0.mk (show w_.heap[gb106]? = some (.cells #[.int .i64 t107, .int .i64 t108, .int .i64 t109, .int .i64 ji19, .int .i64 ji20, .int .i64 (wrap64 ((wrap64 ((wrap64 (Int.tdiv (wrap64 (a0 - t104)) 1000)) - (wrap64 ((ji19) * 3600)))) - (wrap64 ((ji20) * 60)))), .int .i64 (Int.tmod (wrap64 (a0 - t104)) 1000)] 32 (0, 0)) by rw [eK]; exact puts_blk' 0 0 BK106.out (by kernel_rfl)); have m0_ := Aside0.mk (show w_.heap[gb101]? = some (.cells #[.slice A1 l1.length c1] 26 (0, 0)) by rw [eK]; exact puts_far NB101_106.out _ _ _ BK101.out); have m1_ := Aside0.mk (show w_.heap[gb102]? = some (.cells #[.int .i64 0, .int .i64 0, .int .i64 0, .int .i64 0, .int .i64 0, .int .i64 0, .int .i64 0] 32 (0, 0)) by rw [eK]; exact puts_far NB102_106.out _ _ _ BK102.out); clear HB BK106 BK101 BK102; have HB := n1_; have BK106 := n3_; have BK101 := m0_; clear m0_; have BK102 := m1_; clear m1_; clear n1_ n3_; clear eK) | ((with_reducible refine gate_dst (N := 74) rfl ?_); refine wpList_load_row rfl 32 _ rfl gb106 (by first | rfl | (go_simp; done) | (go_simp; rfl)) 32 #[.int .i64 t107, .int .i64 t108, .int .i64 t109, .int .i64 ji19, .int .i64 ji20, .int .i64 (wrap64 ((wrap64 ((wrap64 (Int.tdiv (wrap64 (a0 - t104)) 1000)) - (wrap64 ((ji19) * 3600)))) - (wrap64 ((ji20) * 60)))), .int .i64 (Int.tmod (wrap64 (a0 - t104)) 1000)] (0, 0) _ BK106.out Tryd.underlying32 rfl (by kernel_rfl) ?_) | ((with_reducible refine gate_store (t := 32) (p := 4) rfl ?_); refine srow_ rfl 32 _ _ rfl rfl gb102 #[.int .i64 t107, .int .i64 t108, .int .i64 t109, .int .i64 ji19, .int .i64 ji20, .int .i64 (wrap64 ((wrap64 ((wrap64 (Int.tdiv (wrap64 (a0 - t104)) 1000)) - (wrap64 ((ji19) * 3600)))) - (wrap64 ((ji20) * 60)))), .int .i64 (Int.tmod (wrap64 (a0 - t104)) 1000)] (by first | rfl | (go_simp; done) | (go_simp; rfl)) (by first | rfl | (go_simp; done) | (go_simp; rfl)) 32 #[.int .i64 0, .int .i64 0, .int .i64 0, .int .i64 0, .int .i64 0, .int .i64 0, .int .i64 0] BK102.out (by kernel_rfl) (by kernel_rfl) (by kernel_rfl) ?_; have n1_ := Aside0.mk (below_row (by repeat (first | (with_reducible first | exact HB.out | apply below_alloc | apply pw_below_drewN | apply below_drew1) | exact HB.out)) GE102.out #[.int .i64 t107, .int .i64 t108, .int .i64 t109, .int .i64 ji19, .int .i64 ji20, .int .i64 (wrap64 ((wrap64 ((wrap64 (Int.tdiv (wrap64 (a0 - t104)) 1000)) - (wrap64 ((ji19) * 3600)))) - (wrap64 ((ji20) * 60)))), .int .i64 (Int.tmod (wrap64 (a0 - t104)) 1000)]); have n3_ := Aside0.mk (setRow_heap _ gb102 _ #[.int .i64 t107, .int .i64 t108, .int .i64 t109, .int .i64 ji19, .int .i64 ji20, .int .i64 (wrap64 ((wrap64 ((wrap64 (Int.tdiv (wrap64 (a0 - t104)) 1000)) - (wrap64 ((ji19) * 3600)))) - (wrap64 ((ji20) * 60)))), .int .i64 (Int.tmod (wrap64 (a0 - t104)) 1000)] _ _ BK102.out); generalize World.setRow _ gb102 #[.int .i64 t107, .int .i64 t108, .int .i64 t109, .int .i64 ji19, .int .i64 ji20, .int .i64 (wrap64 ((wrap64 ((wrap64 (Int.tdiv (wrap64 (a0 - t104)) 1000)) - (wrap64 ((ji19) * 3600)))) - (wrap64 ((ji20) * 60)))), .int .i64 (Int.tmod (wrap64 (a0 - t104)) 1000)] = w_ at *; clear HB BK102; have HB := n1_; have BK102 := n3_; clear n1_ n3_))
      refine bodyPost_ret (results_ct rfl _ _ gb102 32 #[.int .i64 t107, .int .i64 t108, .int .i64 t109, .int .i64 ji19, .int .i64 ji20, .int .i64 (wrap64 ((wrap64 ((wrap64 (Int.tdiv (wrap64 (a0 - t104)) 1000)) - (wrap64 ((ji19) * 3600)))) - (wrap64 ((ji20) * 60)))), .int .i64 (Int.tmod (wrap64 (a0 - t104)) 1000)] (0, 0) _ rfl BK102.out Tryd.underlying32 rfl (by kernel_rfl)) rfl ?_
      exact ⟨by first | rfl | (simp only [← hji19, ← hji20]; rfl), by repeat (first | (with_reducible first | exact HB.out | apply below_alloc | apply pw_below_drewN | apply below_drew1) | exact HB.out)⟩

/-! ### scale_length: function 24 -/
def scale_length.j0 : Nat → Int → Bool → Option (Int)
 | 0, _, _ => none
 | k + 1, x1, x5 => if x5 = true then (some 29) else (if x1 = 2 then (some 28) else (if x1 = 4 then (some 30) else (if x1 = 6 then (some 30) else (if x1 = 9 then (some 30) else (if x1 = 11 then (some 30) else (some 31))))))
def scale_length.f (k : Nat) (a0 : Int) (a1 : Int) : Option (Int) := if a1 = 2 then (if (Int.tmod a0 4) = 0 then (if (Int.tmod a0 100) = 0 then (scale_length.j0 k a1 ((Int.tmod a0 400) == 0)) else (scale_length.j0 k a1 true)) else (scale_length.j0 k a1 false)) else (scale_length.j0 k a1 false)
theorem scale_length.mono_l : ∀ k, (∀ y0 y1, LeO (scale_length.j0 k y0 y1) (scale_length.j0 (k + 1) y0 y1))
 | 0 => fun _ _ r h => by simp [scale_length.j0] at h
 | k + 1 => by
  have ih0 := scale_length.mono_l k
  · intro y0 y1
    unfold scale_length.j0
    repeat' first
    | (with_reducible exact ih0 _ _)
    | (with_reducible exact LeO.refl _)
    | (with_reducible exact LeO.none _)
    | (with_reducible refine LeO.ite ?_ ?_)
    | (with_reducible refine LeO.bind ?_ (fun _ => ?_))
    | exact ih0 _ _
    | exact LeO.none _
    | refine LeO.ite ?_ ?_
    | refine LeO.bind ?_ (fun _ => ?_)
theorem scale_length.mono : ∀ a0 a1 k, LeO (scale_length.f k a0 a1) (scale_length.f (k + 1) a0 a1) := by
 intro a0 a1 k
 have ih0 := scale_length.mono_l k
 unfold scale_length.f
 repeat' first
  | (with_reducible exact ih0 _ _)
  | (with_reducible exact LeO.refl _)
  | (with_reducible exact LeO.none _)
  | (with_reducible refine LeO.ite ?_ ?_)
  | (with_reducible refine LeO.bind ?_ (fun _ => ?_))
  | exact ih0 _ _
  | exact LeO.none _
  | refine LeO.ite ?_ ?_
  | refine LeO.bind ?_ (fun _ => ?_)
set_option maxHeartbeats 8000000 in
set_option maxRecDepth 100000 in
theorem scale_length.calls (k : Nat) (a0 : Int) (a1 : Int) (r : Int) (w : World) (h : scale_length.f k a0 a1 = some r) :
 Calls Tryd.prog 24 #[.int .i64 a0, .int .i64 a1] w fun e w' => e = .returned (.int .i64 r) ∧ Drawn0 w w' := by
  have H : (if a1 = 2 then (if (Int.tmod a0 4) = 0 then (if (Int.tmod a0 100) = 0 then (scale_length.j0 k a1 ((Int.tmod a0 400) == 0)) else (scale_length.j0 k a1 true)) else (scale_length.j0 k a1 false)) else (scale_length.j0 k a1 false)) = some r := h
  clear h
  have HC3 := Aside0.mk H
  clear H
  go_enter Tryd.func24, Tryd.ntmps24
  go_upto_region 1 with (fail)
  go_cut [5] (fun v5 wc => ∃ (kq : Nat) (x5_2 : Bool), v5 = .bool x5_2 ∧ Aside0 (scale_length.j0 kq a1 x5_2 = some r) ∧ Aside0 (kq ≤ k) ∧ Drawn0 w wc)
  case first =>
   have H := HC3.out
   clear HC3
   by_cases c4 : a1 = 2
   rotate_left
   · rw [if_neg c4] at H
     have c4b0 : (a1 == 2) = false := beq_eq_false_iff_ne.mpr c4
     have c4b1 : (a1 != 2) = true := bne_iff_ne.mpr c4
     (first | rw [c4b0] | (simp only [i64_w, i32_w]; rw [c4b0]) | skip)
     have H' := Aside0.mk H
     clear H
     go_wp2
     go_meet
     case rel => exact ⟨_, (false), (by first | rfl | (simp; done) | (simp [*]; done)), H', ⟨by first | omega | exact Nat.le_refl _⟩, by repeat (first | exact Drawn0.refl _ | apply Drawn0.step)⟩
   rw [if_pos c4] at H
   have c4b0 : (a1 == 2) = true := beq_iff_eq.mpr c4
   have c4b1 : (a1 != 2) = false := bne_eq_false_iff_eq.mpr c4
   clear c4
   (first | rw [c4b0] | (simp only [i64_w, i32_w]; rw [c4b0]) | skip)
   by_cases c5 : (Int.tmod a0 4) = 0
   · rw [if_pos c5] at H
     have c5b0 : ((Int.tmod a0 4) == 0) = true := beq_iff_eq.mpr c5
     have c5b1 : ((Int.tmod a0 4) != 0) = false := bne_eq_false_iff_eq.mpr c5
     clear c5
     by_cases c6 : (Int.tmod a0 100) = 0
     · rw [if_pos c6] at H
       have c6b0 : ((Int.tmod a0 100) == 0) = true := beq_iff_eq.mpr c6
       have c6b1 : ((Int.tmod a0 100) != 0) = false := bne_eq_false_iff_eq.mpr c6
       clear c6
       have H' := Aside0.mk H
       clear H
       go_wp2
       go_meet
       case rel => exact ⟨_, (((Int.tmod a0 400) == 0)), (by first | rfl | (simp; done) | (simp [*]; done)), H', ⟨by first | omega | exact Nat.le_refl _⟩, by repeat (first | exact Drawn0.refl _ | apply Drawn0.step)⟩
     rw [if_neg c6] at H
     have c6b0 : ((Int.tmod a0 100) == 0) = false := beq_eq_false_iff_ne.mpr c6
     have c6b1 : ((Int.tmod a0 100) != 0) = true := bne_iff_ne.mpr c6
     have H' := Aside0.mk H
     clear H
     go_wp2
     go_meet
     case rel => exact ⟨_, (true), (by first | rfl | (simp; done) | (simp [*]; done)), H', ⟨by first | omega | exact Nat.le_refl _⟩, by repeat (first | exact Drawn0.refl _ | apply Drawn0.step)⟩
   rw [if_neg c5] at H
   have c5b0 : ((Int.tmod a0 4) == 0) = false := beq_eq_false_iff_ne.mpr c5
   have c5b1 : ((Int.tmod a0 4) != 0) = true := bne_iff_ne.mpr c5
   have H' := Aside0.mk H
   clear H
   go_wp2
   go_meet
   case rel => exact ⟨_, (false), (by first | rfl | (simp; done) | (simp [*]; done)), H', ⟨by first | omega | exact Nat.le_refl _⟩, by repeat (first | exact Drawn0.refl _ | apply Drawn0.step)⟩
  case rest =>
   clear HC3
   obtain ⟨kq, x5_2, rfl, HA, HJ2, ⟨mc2, rfl⟩⟩ := hcut
   cases kq with
   | zero => exact absurd HA.out (by simp [scale_length.j0])
   | succ kj2 =>
    have H := HA.out
    clear HA
    simp only [scale_length.j0] at H
    by_cases c7 : x5_2 = true
    · subst c7
      rw [if_pos rfl] at H
      obtain rfl := Option.some.inj H
      go_wp2
      go_ret
      exact ⟨by first | rfl | (simp; done) | (simp [*]; done), by repeat (first | exact Drawn0.refl _ | apply Drawn0.step)⟩
    replace c7 := Bool.eq_false_iff.mpr c7
    subst c7
    rw [if_neg (show ¬ (false = true) by decide)] at H
    by_cases c8 : a1 = 2
    · rw [if_pos c8] at H
      have c8b0 : (a1 == 2) = true := beq_iff_eq.mpr c8
      have c8b1 : (a1 != 2) = false := bne_eq_false_iff_eq.mpr c8
      clear c8
      obtain rfl := Option.some.inj H
      go_wp2
      go_ret
      exact ⟨by first | rfl | (simp; done) | (simp [*]; done), by repeat (first | exact Drawn0.refl _ | apply Drawn0.step)⟩
    rw [if_neg c8] at H
    have c8b0 : (a1 == 2) = false := beq_eq_false_iff_ne.mpr c8
    have c8b1 : (a1 != 2) = true := bne_iff_ne.mpr c8
    by_cases c9 : a1 = 4
    · rw [if_pos c9] at H
      have c9b0 : (a1 == 4) = true := beq_iff_eq.mpr c9
      have c9b1 : (a1 != 4) = false := bne_eq_false_iff_eq.mpr c9
      clear c9
      obtain rfl := Option.some.inj H
      go_wp2
      go_ret
      exact ⟨by first | rfl | (simp; done) | (simp [*]; done), by repeat (first | exact Drawn0.refl _ | apply Drawn0.step)⟩
    rw [if_neg c9] at H
    have c9b0 : (a1 == 4) = false := beq_eq_false_iff_ne.mpr c9
    have c9b1 : (a1 != 4) = true := bne_iff_ne.mpr c9
    by_cases c10 : a1 = 6
    · rw [if_pos c10] at H
      have c10b0 : (a1 == 6) = true := beq_iff_eq.mpr c10
      have c10b1 : (a1 != 6) = false := bne_eq_false_iff_eq.mpr c10
      clear c10
      obtain rfl := Option.some.inj H
      go_wp2
      go_ret
      exact ⟨by first | rfl | (simp; done) | (simp [*]; done), by repeat (first | exact Drawn0.refl _ | apply Drawn0.step)⟩
    rw [if_neg c10] at H
    have c10b0 : (a1 == 6) = false := beq_eq_false_iff_ne.mpr c10
    have c10b1 : (a1 != 6) = true := bne_iff_ne.mpr c10
    by_cases c11 : a1 = 9
    · rw [if_pos c11] at H
      have c11b0 : (a1 == 9) = true := beq_iff_eq.mpr c11
      have c11b1 : (a1 != 9) = false := bne_eq_false_iff_eq.mpr c11
      clear c11
      obtain rfl := Option.some.inj H
      go_wp2
      go_ret
      exact ⟨by first | rfl | (simp; done) | (simp [*]; done), by repeat (first | exact Drawn0.refl _ | apply Drawn0.step)⟩
    rw [if_neg c11] at H
    have c11b0 : (a1 == 9) = false := beq_eq_false_iff_ne.mpr c11
    have c11b1 : (a1 != 9) = true := bne_iff_ne.mpr c11
    by_cases c12 : a1 = 11
    · rw [if_pos c12] at H
      have c12b0 : (a1 == 11) = true := beq_iff_eq.mpr c12
      have c12b1 : (a1 != 11) = false := bne_eq_false_iff_eq.mpr c12
      clear c12
      obtain rfl := Option.some.inj H
      go_wp2
      go_ret
      exact ⟨by first | rfl | (simp; done) | (simp [*]; done), by repeat (first | exact Drawn0.refl _ | apply Drawn0.step)⟩
    rw [if_neg c12] at H
    have c12b0 : (a1 == 11) = false := beq_eq_false_iff_ne.mpr c12
    have c12b1 : (a1 != 11) = true := bne_iff_ne.mpr c12
    obtain rfl := Option.some.inj H
    go_wp2
    go_ret
    exact ⟨by first | rfl | (simp; done) | (simp [*]; done), by repeat (first | exact Drawn0.refl _ | apply Drawn0.step)⟩

/-! ### scale_Days: function 21 -/
def scale_Days.f (k : Nat) (a0 : Int) (a1 : Int) (a2 : Int) : Option (Int × Int) := if a0 < 1 then (some (0, 4)) else (if a0 > 9999 then (some (0, 4)) else (if a1 < 1 then (some (0, 4)) else (if a1 > 12 then (some (0, 4)) else (if a2 < 1 then (some (0, 4)) else ((scale_length.f k a0 a1).bind fun t101 => (if a2 > t101 then (some (0, 4)) else ((scale_days.f a0 a1 a2).bind fun t102 => (some (t102, 0)))))))))
theorem scale_Days.mono : ∀ a0 a1 a2 k, LeO (scale_Days.f k a0 a1 a2) (scale_Days.f (k + 1) a0 a1 a2) := by
 intro a0 a1 a2 k
 unfold scale_Days.f
 repeat' first
  | (with_reducible exact scale_length.mono _ _ _)
  | (with_reducible exact LeO.refl _)
  | (with_reducible exact LeO.none _)
  | (with_reducible refine LeO.ite ?_ ?_)
  | (with_reducible refine LeO.bind ?_ (fun _ => ?_))
  | exact scale_length.mono _ _ _
  | exact LeO.none _
  | refine LeO.ite ?_ ?_
  | refine LeO.bind ?_ (fun _ => ?_)
set_option maxHeartbeats 8000000 in
set_option maxRecDepth 100000 in
theorem scale_Days.calls (k : Nat) (a0 : Int) (a1 : Int) (a2 : Int) (r1 : Int) (r2 : Int) (w : World) (h : scale_Days.f k a0 a1 a2 = some (r1, r2)) :
 Calls Tryd.prog 21 #[.int .i64 a0, .int .i64 a1, .int .i64 a2] w fun e w' => e = .returned (.tuple #[.int .i64 r1, .int .i64 r2]) ∧ Drawn0 w w' := by
  have H : (if a0 < 1 then (some (0, 4)) else (if a0 > 9999 then (some (0, 4)) else (if a1 < 1 then (some (0, 4)) else (if a1 > 12 then (some (0, 4)) else (if a2 < 1 then (some (0, 4)) else ((scale_length.f k a0 a1).bind fun t101 => (if a2 > t101 then (some (0, 4)) else ((scale_days.f a0 a1 a2).bind fun t102 => (some (t102, 0)))))))))) = some (r1, r2) := h
  clear h
  by_cases c4 : a0 < 1
  · rw [if_pos c4] at H
    have c4b0 : decide (a0 < 1) = true := decide_eq_true c4
    clear c4
    simp only [Option.some.injEq, Prod.mk.injEq] at H
    obtain ⟨rfl, rfl⟩ := H
    go_enter Tryd.func21, Tryd.ntmps21
    go_wp2
    go_ret2
    exact ⟨by first | rfl | (simp; done) | (simp [*]; done), by repeat (first | exact Drawn0.refl _ | apply Drawn0.step)⟩
  rw [if_neg c4] at H
  have c4b0 : decide (a0 < 1) = false := decide_eq_false c4
  clear c4
  by_cases c5 : a0 > 9999
  · rw [if_pos c5] at H
    have c5b0 : decide (9999 < a0) = true := decide_eq_true c5
    clear c5
    simp only [Option.some.injEq, Prod.mk.injEq] at H
    obtain ⟨rfl, rfl⟩ := H
    go_enter Tryd.func21, Tryd.ntmps21
    go_wp2
    go_ret2
    exact ⟨by first | rfl | (simp; done) | (simp [*]; done), by repeat (first | exact Drawn0.refl _ | apply Drawn0.step)⟩
  rw [if_neg c5] at H
  have c5b0 : decide (9999 < a0) = false := decide_eq_false c5
  clear c5
  by_cases c6 : a1 < 1
  · rw [if_pos c6] at H
    have c6b0 : decide (a1 < 1) = true := decide_eq_true c6
    clear c6
    simp only [Option.some.injEq, Prod.mk.injEq] at H
    obtain ⟨rfl, rfl⟩ := H
    go_enter Tryd.func21, Tryd.ntmps21
    go_wp2
    go_ret2
    exact ⟨by first | rfl | (simp; done) | (simp [*]; done), by repeat (first | exact Drawn0.refl _ | apply Drawn0.step)⟩
  rw [if_neg c6] at H
  have c6b0 : decide (a1 < 1) = false := decide_eq_false c6
  clear c6
  by_cases c7 : a1 > 12
  · rw [if_pos c7] at H
    have c7b0 : decide (12 < a1) = true := decide_eq_true c7
    clear c7
    simp only [Option.some.injEq, Prod.mk.injEq] at H
    obtain ⟨rfl, rfl⟩ := H
    go_enter Tryd.func21, Tryd.ntmps21
    go_wp2
    go_ret2
    exact ⟨by first | rfl | (simp; done) | (simp [*]; done), by repeat (first | exact Drawn0.refl _ | apply Drawn0.step)⟩
  rw [if_neg c7] at H
  have c7b0 : decide (12 < a1) = false := decide_eq_false c7
  clear c7
  by_cases c8 : a2 < 1
  · rw [if_pos c8] at H
    have c8b0 : decide (a2 < 1) = true := decide_eq_true c8
    clear c8
    simp only [Option.some.injEq, Prod.mk.injEq] at H
    obtain ⟨rfl, rfl⟩ := H
    go_enter Tryd.func21, Tryd.ntmps21
    go_wp2
    go_ret2
    exact ⟨by first | rfl | (simp; done) | (simp [*]; done), by repeat (first | exact Drawn0.refl _ | apply Drawn0.step)⟩
  rw [if_neg c8] at H
  have c8b0 : decide (a2 < 1) = false := decide_eq_false c8
  clear c8
  replace H := Option.bind_eq_some_iff.mp H
  obtain ⟨t101, A90, H⟩ := H
  try dsimp -simprocs only at H
  have A9 := Aside0.mk A90
  clear A90
  by_cases c10 : a2 > t101
  · rw [if_pos c10] at H
    have c10b0 : decide (t101 < a2) = true := decide_eq_true c10
    clear c10
    simp only [Option.some.injEq, Prod.mk.injEq] at H
    obtain ⟨rfl, rfl⟩ := H
    go_enter Tryd.func21, Tryd.ntmps21
    go_wp2_with (first | (go_at_call 24; (with_reducible refine (scale_length.calls k a0 a1 t101 _ A9.out).mono ?_); rintro e w' ⟨rfl, ⟨nd, rfl⟩⟩))
    go_ret2
    exact ⟨by first | rfl | (simp; done) | (simp [*]; done), by repeat (first | exact Drawn0.refl _ | apply Drawn0.step)⟩
  rw [if_neg c10] at H
  have c10b0 : decide (t101 < a2) = false := decide_eq_false c10
  clear c10
  replace H := Option.bind_eq_some_iff.mp H
  obtain ⟨t102, A110, H⟩ := H
  try dsimp -simprocs only at H
  have A11 := Aside0.mk A110
  clear A110
  simp only [Option.some.injEq, Prod.mk.injEq] at H
  obtain ⟨rfl, rfl⟩ := H
  go_enter Tryd.func21, Tryd.ntmps21
  go_wp2_with (first | (go_at_call 24; (with_reducible refine (scale_length.calls k a0 a1 t101 _ A9.out).mono ?_); rintro e w' ⟨rfl, ⟨nd, rfl⟩⟩) | ((with_reducible refine gate_callee (f := 20) rfl ?_); refine glq_ (some 36) Tryd.func20 #[.int .i64 a0, .int .i64 a1, .int .i64 a2] ?_; (with_reducible refine (scale_days.calls a0 a1 a2 t102 _ A11.out).mono ?_); rintro e w' ⟨rfl, ⟨nd, rfl⟩⟩; refine ⟨_, rfl, ?_⟩))
  go_ret2
  exact ⟨by first | rfl | (simp; done) | (simp [*]; done), by repeat (first | exact Drawn0.refl _ | apply Drawn0.step)⟩

/-! ### scale_Check: function 18 -/
def scale_Check.j0 : Nat → Int → Int → Bool → Int → Int → Int → Int → Int → Int → Int → Option (Int)
 | 0, _, _, _, _, _, _, _, _, _, _ => none
 | k + 1, x4, x5, x23, x102000, x102001, x102002, x102003, x102004, x102005, x102006 => if x23 = true then (if x4 = 0 then (if x102003 < 0 then (some 4) else (if x102003 > 23 then (some 4) else (if x102004 < 0 then (some 4) else (if x102004 > 59 then (some 4) else (if x102005 < 0 then (some 4) else (if x102005 > 60 then (some 4) else (if x102006 < 0 then (some 4) else (if x102006 > 999 then (some 4) else (some 0))))))))) else (some 4)) else (if x4 = 0 then (if x102003 < 0 then (some 4) else (if x102003 > 23 then (some 4) else (if x102004 < 0 then (some 4) else (if x102004 > 59 then (some 4) else (if x102005 < 0 then (some 4) else (if x102005 > x5 then (some 4) else (if x102006 < 0 then (some 4) else (if x102006 > 999 then (some 4) else (some 0))))))))) else (some 4))
def scale_Check.f (k : Nat) (a0_0 : Int) (a0_1 : Int) (a0_2 : Int) (a0_3 : Int) (a0_4 : Int) (a0_5 : Int) (a0_6 : Int) : Option (Int) := (scale_Days.f k a0_0 a0_1 a0_2).bind fun bt102 => (if a0_3 = 23 then (scale_Check.j0 k bt102.2 59 (a0_4 == 59) a0_0 a0_1 a0_2 a0_3 a0_4 a0_5 a0_6) else (scale_Check.j0 k bt102.2 59 false a0_0 a0_1 a0_2 a0_3 a0_4 a0_5 a0_6))
theorem scale_Check.mono_l : ∀ k, (∀ y0 y1 y2 y3 y4 y5 y6 y7 y8 y9, LeO (scale_Check.j0 k y0 y1 y2 y3 y4 y5 y6 y7 y8 y9) (scale_Check.j0 (k + 1) y0 y1 y2 y3 y4 y5 y6 y7 y8 y9))
 | 0 => fun _ _ _ _ _ _ _ _ _ _ r h => by simp [scale_Check.j0] at h
 | k + 1 => by
  have ih0 := scale_Check.mono_l k
  · intro y0 y1 y2 y3 y4 y5 y6 y7 y8 y9
    unfold scale_Check.j0
    repeat' first
    | (with_reducible exact ih0 _ _ _ _ _ _ _ _ _ _)
    | (with_reducible exact scale_Days.mono _ _ _ _)
    | (with_reducible exact LeO.refl _)
    | (with_reducible exact LeO.none _)
    | (with_reducible refine LeO.ite ?_ ?_)
    | (with_reducible refine LeO.bind ?_ (fun _ => ?_))
    | exact ih0 _ _ _ _ _ _ _ _ _ _
    | exact scale_Days.mono _ _ _ _
    | exact LeO.none _
    | refine LeO.ite ?_ ?_
    | refine LeO.bind ?_ (fun _ => ?_)
theorem scale_Check.mono : ∀ a0 a1 a2 a3 a4 a5 a6 k, LeO (scale_Check.f k a0 a1 a2 a3 a4 a5 a6) (scale_Check.f (k + 1) a0 a1 a2 a3 a4 a5 a6) := by
 intro a0 a1 a2 a3 a4 a5 a6 k
 have ih0 := scale_Check.mono_l k
 unfold scale_Check.f
 repeat' first
  | (with_reducible exact ih0 _ _ _ _ _ _ _ _ _ _)
  | (with_reducible exact scale_Days.mono _ _ _ _)
  | (with_reducible exact LeO.refl _)
  | (with_reducible exact LeO.none _)
  | (with_reducible refine LeO.ite ?_ ?_)
  | (with_reducible refine LeO.bind ?_ (fun _ => ?_))
  | exact ih0 _ _ _ _ _ _ _ _ _ _
  | exact scale_Days.mono _ _ _ _
  | exact LeO.none _
  | refine LeO.ite ?_ ?_
  | refine LeO.bind ?_ (fun _ => ?_)
set_option maxHeartbeats 8000000 in
set_option maxRecDepth 100000 in
theorem scale_Check.calls (k : Nat) (a0_0 : Int) (a0_1 : Int) (a0_2 : Int) (a0_3 : Int) (a0_4 : Int) (a0_5 : Int) (a0_6 : Int) (r : Int) (w : World) (h : scale_Check.f k a0_0 a0_1 a0_2 a0_3 a0_4 a0_5 a0_6 = some r) :
 Calls Tryd.prog 18 #[.agg #[.int .i64 a0_0, .int .i64 a0_1, .int .i64 a0_2, .int .i64 a0_3, .int .i64 a0_4, .int .i64 a0_5, .int .i64 a0_6]] w fun e w' => e = .returned (.int .i64 r) ∧ Below w.heap.size w w' := by
  have hu32 := Tryd.underlying32
  have HB := Aside0.mk (Below.refl w.heap.size w)
  have H : ((scale_Days.f k a0_0 a0_1 a0_2).bind fun bt102 => (if a0_3 = 23 then (scale_Check.j0 k bt102.2 59 (a0_4 == 59) a0_0 a0_1 a0_2 a0_3 a0_4 a0_5 a0_6) else (scale_Check.j0 k bt102.2 59 false a0_0 a0_1 a0_2 a0_3 a0_4 a0_5 a0_6))) = some r := h
  clear h
  replace H := Option.bind_eq_some_iff.mp H
  obtain ⟨⟨t102, t103⟩, A20, H⟩ := H
  try dsimp -simprocs only at H
  have A2 := Aside0.mk A20
  clear A20
  have HC3 := Aside0.mk H
  clear H
  go_enter Tryd.func18, Tryd.ntmps18
  go_upto_region 3 with (first | ((with_reducible refine gate_dst (N := 1) rfl ?_); refine bxq_ 1 #[.int .i64 a0_0, .int .i64 a0_1, .int .i64 a0_2, .int .i64 a0_3, .int .i64 a0_4, .int .i64 a0_5, .int .i64 a0_6] 32 ?_; intro gb101 hg w4 hbox hb; have BK101 := Aside0.mk (hbox); have GW101 := gwq_ HB hg rfl; have GE101 := GW101; replace HB := hbs_ HB hb rfl rfl rfl rfl; clear hb hbox hg; have hcz5_0 := bc_ BK101 0 rfl; have hcz5_1 := bc_ BK101 1 rfl; have hcz5_2 := bc_ BK101 2 rfl; have hcz5_3 := bc_ BK101 3 rfl; have hcz5_4 := bc_ BK101 4 rfl; have hcz5_5 := bc_ BK101 5 rfl; have hcz5_6 := bc_ BK101 6 rfl; have hfz5_0 := blk_frozen BK101.out 0; have hfz5_1 := blk_frozen BK101.out 1; have hfz5_2 := blk_frozen BK101.out 2; have hfz5_3 := blk_frozen BK101.out 3; have hfz5_4 := blk_frozen BK101.out 4; have hfz5_5 := blk_frozen BK101.out 5; have hfz5_6 := blk_frozen BK101.out 6) | ((with_reducible refine gate_callee (f := 21) rfl ?_); refine glq_ (some 13) Tryd.func21 #[.int .i64 a0_0, .int .i64 a0_1, .int .i64 a0_2] ?_; (with_reducible refine (scale_Days.calls k a0_0 a0_1 a0_2 t102 t103 _ A2.out).mono ?_); rintro e w' ⟨rfl, ⟨nd, rfl⟩⟩; refine ⟨_, rfl, ?_⟩))
  (try simp only [Act.put, List.setIfInBounds_toArray, List.set_cons_zero, List.set_cons_succ])
  go_cut [23] (fun v23 wc => ∃ (kq : Nat) (x23_2 : Bool), v23 = .bool x23_2 ∧ Aside0 (scale_Check.j0 kq t103 59 x23_2 a0_0 a0_1 a0_2 a0_3 a0_4 a0_5 a0_6 = some r) ∧ Aside0 (kq ≤ k) ∧ Aside0 (wc.heap[gb101]? = some (.cells #[.int .i64 a0_0, .int .i64 a0_1, .int .i64 a0_2, .int .i64 a0_3, .int .i64 a0_4, .int .i64 a0_5, .int .i64 a0_6] 32 (0, 0))) ∧ Aside0 (Below w.heap.size w wc))
  case first =>
   have H := HC3.out
   clear HC3
   by_cases c6 : a0_3 = 23
   · rw [if_pos c6] at H
     have c6b0 : (a0_3 == 23) = true := beq_iff_eq.mpr c6
     have c6b1 : (a0_3 != 23) = false := bne_eq_false_iff_eq.mpr c6
     clear c6
     (first | rw [c6b0] | (simp only [i64_w, i32_w]; rw [c6b0]) | skip)
     have H' := Aside0.mk H
     clear H
     have hcz7_0 := bc_ BK101 0 rfl
     have hcz7_1 := bc_ BK101 1 rfl
     have hcz7_2 := bc_ BK101 2 rfl
     have hcz7_3 := bc_ BK101 3 rfl
     have hcz7_4 := bc_ BK101 4 rfl
     have hcz7_5 := bc_ BK101 5 rfl
     have hcz7_6 := bc_ BK101 6 rfl
     have hfz7_0 := blk_frozen BK101.out 0
     have hfz7_1 := blk_frozen BK101.out 1
     have hfz7_2 := blk_frozen BK101.out 2
     have hfz7_3 := blk_frozen BK101.out 3
     have hfz7_4 := blk_frozen BK101.out 4
     have hfz7_5 := blk_frozen BK101.out 5
     have hfz7_6 := blk_frozen BK101.out 6
     go_wp2
     go_meet
     case rel => exact ⟨_, ((a0_4 == 59)), (by first | rfl | (simp; done) | (simp [*]; done)), H', ⟨by first | omega | exact Nat.le_refl _⟩, ⟨by (with_reducible repeat (first | refine blk_drewN ?_ _ | refine blk_drew ?_ | refine blk_alloc ?_ _)); exact BK101.out⟩, ⟨by repeat (first | (with_reducible first | exact HB.out | apply below_alloc | apply pw_below_drewN | apply below_drew1 | refine below_set ?_ GE101.out) | exact HB.out)⟩⟩
   rw [if_neg c6] at H
   have c6b0 : (a0_3 == 23) = false := beq_eq_false_iff_ne.mpr c6
   have c6b1 : (a0_3 != 23) = true := bne_iff_ne.mpr c6
   (first | rw [c6b0] | (simp only [i64_w, i32_w]; rw [c6b0]) | skip)
   have H' := Aside0.mk H
   clear H
   have hcz8_0 := bc_ BK101 0 rfl
   have hcz8_1 := bc_ BK101 1 rfl
   have hcz8_2 := bc_ BK101 2 rfl
   have hcz8_3 := bc_ BK101 3 rfl
   have hcz8_4 := bc_ BK101 4 rfl
   have hcz8_5 := bc_ BK101 5 rfl
   have hcz8_6 := bc_ BK101 6 rfl
   have hfz8_0 := blk_frozen BK101.out 0
   have hfz8_1 := blk_frozen BK101.out 1
   have hfz8_2 := blk_frozen BK101.out 2
   have hfz8_3 := blk_frozen BK101.out 3
   have hfz8_4 := blk_frozen BK101.out 4
   have hfz8_5 := blk_frozen BK101.out 5
   have hfz8_6 := blk_frozen BK101.out 6
   go_wp2
   go_meet
   case rel => exact ⟨_, (false), (by first | rfl | (simp; done) | (simp [*]; done)), H', ⟨by first | omega | exact Nat.le_refl _⟩, ⟨by (with_reducible repeat (first | refine blk_drewN ?_ _ | refine blk_drew ?_ | refine blk_alloc ?_ _)); exact BK101.out⟩, ⟨by repeat (first | (with_reducible first | exact HB.out | apply below_alloc | apply pw_below_drewN | apply below_drew1 | refine below_set ?_ GE101.out) | exact HB.out)⟩⟩
  case rest =>
   clear HC3
   obtain ⟨kq, x23_2, rfl, HA, HJ2, BK101, HB⟩ := hcut
   cases kq with
   | zero => exact absurd HA.out (by simp [scale_Check.j0])
   | succ kj2 =>
    have H := HA.out
    clear HA
    simp only [scale_Check.j0] at H
    by_cases c9 : x23_2 = true
    · subst c9
      rw [if_pos rfl] at H
      by_cases c10 : t103 = 0
      rotate_left
      · rw [if_neg c10] at H
        have c10b0 : (t103 == 0) = false := beq_eq_false_iff_ne.mpr c10
        have c10b1 : (t103 != 0) = true := bne_iff_ne.mpr c10
        obtain rfl := Option.some.inj H
        go_wp2
        go_ret
        exact ⟨by first | rfl | (simp [errW_none, errW_some] <;> rfl) | (simp [*, errW_none, errW_some] <;> rfl), by repeat (first | (with_reducible first | exact HB.out | apply below_alloc | apply pw_below_drewN | apply below_drew1 | refine below_set ?_ GE101.out) | exact HB.out)⟩
      rw [if_pos c10] at H
      have c10b0 : (t103 == 0) = true := beq_iff_eq.mpr c10
      have c10b1 : (t103 != 0) = false := bne_eq_false_iff_eq.mpr c10
      clear c10
      by_cases c11 : a0_3 < 0
      · rw [if_pos c11] at H
        have c11b0 : decide (a0_3 < 0) = true := decide_eq_true c11
        clear c11
        obtain rfl := Option.some.inj H
        have hcz12_0 := bc_ BK101 0 rfl
        have hcz12_1 := bc_ BK101 1 rfl
        have hcz12_2 := bc_ BK101 2 rfl
        have hcz12_3 := bc_ BK101 3 rfl
        have hcz12_4 := bc_ BK101 4 rfl
        have hcz12_5 := bc_ BK101 5 rfl
        have hcz12_6 := bc_ BK101 6 rfl
        have hfz12_0 := blk_frozen BK101.out 0
        have hfz12_1 := blk_frozen BK101.out 1
        have hfz12_2 := blk_frozen BK101.out 2
        have hfz12_3 := blk_frozen BK101.out 3
        have hfz12_4 := blk_frozen BK101.out 4
        have hfz12_5 := blk_frozen BK101.out 5
        have hfz12_6 := blk_frozen BK101.out 6
        go_wp2
        go_ret
        exact ⟨by first | rfl | (simp [errW_none, errW_some] <;> rfl) | (simp [*, errW_none, errW_some] <;> rfl), by repeat (first | (with_reducible first | exact HB.out | apply below_alloc | apply pw_below_drewN | apply below_drew1 | refine below_set ?_ GE101.out) | exact HB.out)⟩
      rw [if_neg c11] at H
      have c11b0 : decide (a0_3 < 0) = false := decide_eq_false c11
      clear c11
      by_cases c13 : a0_3 > 23
      · rw [if_pos c13] at H
        have c13b0 : decide (23 < a0_3) = true := decide_eq_true c13
        clear c13
        obtain rfl := Option.some.inj H
        have hcz14_0 := bc_ BK101 0 rfl
        have hcz14_1 := bc_ BK101 1 rfl
        have hcz14_2 := bc_ BK101 2 rfl
        have hcz14_3 := bc_ BK101 3 rfl
        have hcz14_4 := bc_ BK101 4 rfl
        have hcz14_5 := bc_ BK101 5 rfl
        have hcz14_6 := bc_ BK101 6 rfl
        have hfz14_0 := blk_frozen BK101.out 0
        have hfz14_1 := blk_frozen BK101.out 1
        have hfz14_2 := blk_frozen BK101.out 2
        have hfz14_3 := blk_frozen BK101.out 3
        have hfz14_4 := blk_frozen BK101.out 4
        have hfz14_5 := blk_frozen BK101.out 5
        have hfz14_6 := blk_frozen BK101.out 6
        go_wp2
        go_ret
        exact ⟨by first | rfl | (simp [errW_none, errW_some] <;> rfl) | (simp [*, errW_none, errW_some] <;> rfl), by repeat (first | (with_reducible first | exact HB.out | apply below_alloc | apply pw_below_drewN | apply below_drew1 | refine below_set ?_ GE101.out) | exact HB.out)⟩
      rw [if_neg c13] at H
      have c13b0 : decide (23 < a0_3) = false := decide_eq_false c13
      clear c13
      by_cases c15 : a0_4 < 0
      · rw [if_pos c15] at H
        have c15b0 : decide (a0_4 < 0) = true := decide_eq_true c15
        clear c15
        obtain rfl := Option.some.inj H
        have hcz16_0 := bc_ BK101 0 rfl
        have hcz16_1 := bc_ BK101 1 rfl
        have hcz16_2 := bc_ BK101 2 rfl
        have hcz16_3 := bc_ BK101 3 rfl
        have hcz16_4 := bc_ BK101 4 rfl
        have hcz16_5 := bc_ BK101 5 rfl
        have hcz16_6 := bc_ BK101 6 rfl
        have hfz16_0 := blk_frozen BK101.out 0
        have hfz16_1 := blk_frozen BK101.out 1
        have hfz16_2 := blk_frozen BK101.out 2
        have hfz16_3 := blk_frozen BK101.out 3
        have hfz16_4 := blk_frozen BK101.out 4
        have hfz16_5 := blk_frozen BK101.out 5
        have hfz16_6 := blk_frozen BK101.out 6
        go_wp2
        go_ret
        exact ⟨by first | rfl | (simp [errW_none, errW_some] <;> rfl) | (simp [*, errW_none, errW_some] <;> rfl), by repeat (first | (with_reducible first | exact HB.out | apply below_alloc | apply pw_below_drewN | apply below_drew1 | refine below_set ?_ GE101.out) | exact HB.out)⟩
      rw [if_neg c15] at H
      have c15b0 : decide (a0_4 < 0) = false := decide_eq_false c15
      clear c15
      by_cases c17 : a0_4 > 59
      · rw [if_pos c17] at H
        have c17b0 : decide (59 < a0_4) = true := decide_eq_true c17
        clear c17
        obtain rfl := Option.some.inj H
        have hcz18_0 := bc_ BK101 0 rfl
        have hcz18_1 := bc_ BK101 1 rfl
        have hcz18_2 := bc_ BK101 2 rfl
        have hcz18_3 := bc_ BK101 3 rfl
        have hcz18_4 := bc_ BK101 4 rfl
        have hcz18_5 := bc_ BK101 5 rfl
        have hcz18_6 := bc_ BK101 6 rfl
        have hfz18_0 := blk_frozen BK101.out 0
        have hfz18_1 := blk_frozen BK101.out 1
        have hfz18_2 := blk_frozen BK101.out 2
        have hfz18_3 := blk_frozen BK101.out 3
        have hfz18_4 := blk_frozen BK101.out 4
        have hfz18_5 := blk_frozen BK101.out 5
        have hfz18_6 := blk_frozen BK101.out 6
        go_wp2
        go_ret
        exact ⟨by first | rfl | (simp [errW_none, errW_some] <;> rfl) | (simp [*, errW_none, errW_some] <;> rfl), by repeat (first | (with_reducible first | exact HB.out | apply below_alloc | apply pw_below_drewN | apply below_drew1 | refine below_set ?_ GE101.out) | exact HB.out)⟩
      rw [if_neg c17] at H
      have c17b0 : decide (59 < a0_4) = false := decide_eq_false c17
      clear c17
      by_cases c19 : a0_5 < 0
      · rw [if_pos c19] at H
        have c19b0 : decide (a0_5 < 0) = true := decide_eq_true c19
        clear c19
        obtain rfl := Option.some.inj H
        have hcz20_0 := bc_ BK101 0 rfl
        have hcz20_1 := bc_ BK101 1 rfl
        have hcz20_2 := bc_ BK101 2 rfl
        have hcz20_3 := bc_ BK101 3 rfl
        have hcz20_4 := bc_ BK101 4 rfl
        have hcz20_5 := bc_ BK101 5 rfl
        have hcz20_6 := bc_ BK101 6 rfl
        have hfz20_0 := blk_frozen BK101.out 0
        have hfz20_1 := blk_frozen BK101.out 1
        have hfz20_2 := blk_frozen BK101.out 2
        have hfz20_3 := blk_frozen BK101.out 3
        have hfz20_4 := blk_frozen BK101.out 4
        have hfz20_5 := blk_frozen BK101.out 5
        have hfz20_6 := blk_frozen BK101.out 6
        go_wp2
        go_ret
        exact ⟨by first | rfl | (simp [errW_none, errW_some] <;> rfl) | (simp [*, errW_none, errW_some] <;> rfl), by repeat (first | (with_reducible first | exact HB.out | apply below_alloc | apply pw_below_drewN | apply below_drew1 | refine below_set ?_ GE101.out) | exact HB.out)⟩
      rw [if_neg c19] at H
      have c19b0 : decide (a0_5 < 0) = false := decide_eq_false c19
      clear c19
      by_cases c21 : a0_5 > 60
      · rw [if_pos c21] at H
        have c21b0 : decide (60 < a0_5) = true := decide_eq_true c21
        clear c21
        obtain rfl := Option.some.inj H
        have hcz22_0 := bc_ BK101 0 rfl
        have hcz22_1 := bc_ BK101 1 rfl
        have hcz22_2 := bc_ BK101 2 rfl
        have hcz22_3 := bc_ BK101 3 rfl
        have hcz22_4 := bc_ BK101 4 rfl
        have hcz22_5 := bc_ BK101 5 rfl
        have hcz22_6 := bc_ BK101 6 rfl
        have hfz22_0 := blk_frozen BK101.out 0
        have hfz22_1 := blk_frozen BK101.out 1
        have hfz22_2 := blk_frozen BK101.out 2
        have hfz22_3 := blk_frozen BK101.out 3
        have hfz22_4 := blk_frozen BK101.out 4
        have hfz22_5 := blk_frozen BK101.out 5
        have hfz22_6 := blk_frozen BK101.out 6
        go_wp2
        go_ret
        exact ⟨by first | rfl | (simp [errW_none, errW_some] <;> rfl) | (simp [*, errW_none, errW_some] <;> rfl), by repeat (first | (with_reducible first | exact HB.out | apply below_alloc | apply pw_below_drewN | apply below_drew1 | refine below_set ?_ GE101.out) | exact HB.out)⟩
      rw [if_neg c21] at H
      have c21b0 : decide (60 < a0_5) = false := decide_eq_false c21
      clear c21
      by_cases c23 : a0_6 < 0
      · rw [if_pos c23] at H
        have c23b0 : decide (a0_6 < 0) = true := decide_eq_true c23
        clear c23
        obtain rfl := Option.some.inj H
        have hcz24_0 := bc_ BK101 0 rfl
        have hcz24_1 := bc_ BK101 1 rfl
        have hcz24_2 := bc_ BK101 2 rfl
        have hcz24_3 := bc_ BK101 3 rfl
        have hcz24_4 := bc_ BK101 4 rfl
        have hcz24_5 := bc_ BK101 5 rfl
        have hcz24_6 := bc_ BK101 6 rfl
        have hfz24_0 := blk_frozen BK101.out 0
        have hfz24_1 := blk_frozen BK101.out 1
        have hfz24_2 := blk_frozen BK101.out 2
        have hfz24_3 := blk_frozen BK101.out 3
        have hfz24_4 := blk_frozen BK101.out 4
        have hfz24_5 := blk_frozen BK101.out 5
        have hfz24_6 := blk_frozen BK101.out 6
        go_wp2
        go_ret
        exact ⟨by first | rfl | (simp [errW_none, errW_some] <;> rfl) | (simp [*, errW_none, errW_some] <;> rfl), by repeat (first | (with_reducible first | exact HB.out | apply below_alloc | apply pw_below_drewN | apply below_drew1 | refine below_set ?_ GE101.out) | exact HB.out)⟩
      rw [if_neg c23] at H
      have c23b0 : decide (a0_6 < 0) = false := decide_eq_false c23
      clear c23
      by_cases c25 : a0_6 > 999
      · rw [if_pos c25] at H
        have c25b0 : decide (999 < a0_6) = true := decide_eq_true c25
        clear c25
        obtain rfl := Option.some.inj H
        have hcz26_0 := bc_ BK101 0 rfl
        have hcz26_1 := bc_ BK101 1 rfl
        have hcz26_2 := bc_ BK101 2 rfl
        have hcz26_3 := bc_ BK101 3 rfl
        have hcz26_4 := bc_ BK101 4 rfl
        have hcz26_5 := bc_ BK101 5 rfl
        have hcz26_6 := bc_ BK101 6 rfl
        have hfz26_0 := blk_frozen BK101.out 0
        have hfz26_1 := blk_frozen BK101.out 1
        have hfz26_2 := blk_frozen BK101.out 2
        have hfz26_3 := blk_frozen BK101.out 3
        have hfz26_4 := blk_frozen BK101.out 4
        have hfz26_5 := blk_frozen BK101.out 5
        have hfz26_6 := blk_frozen BK101.out 6
        go_wp2
        go_ret
        exact ⟨by first | rfl | (simp [errW_none, errW_some] <;> rfl) | (simp [*, errW_none, errW_some] <;> rfl), by repeat (first | (with_reducible first | exact HB.out | apply below_alloc | apply pw_below_drewN | apply below_drew1 | refine below_set ?_ GE101.out) | exact HB.out)⟩
      rw [if_neg c25] at H
      have c25b0 : decide (999 < a0_6) = false := decide_eq_false c25
      clear c25
      obtain rfl := Option.some.inj H
      have hcz27_0 := bc_ BK101 0 rfl
      have hcz27_1 := bc_ BK101 1 rfl
      have hcz27_2 := bc_ BK101 2 rfl
      have hcz27_3 := bc_ BK101 3 rfl
      have hcz27_4 := bc_ BK101 4 rfl
      have hcz27_5 := bc_ BK101 5 rfl
      have hcz27_6 := bc_ BK101 6 rfl
      have hfz27_0 := blk_frozen BK101.out 0
      have hfz27_1 := blk_frozen BK101.out 1
      have hfz27_2 := blk_frozen BK101.out 2
      have hfz27_3 := blk_frozen BK101.out 3
      have hfz27_4 := blk_frozen BK101.out 4
      have hfz27_5 := blk_frozen BK101.out 5
      have hfz27_6 := blk_frozen BK101.out 6
      go_wp2
      go_ret
      exact ⟨by first | rfl | (simp [errW_none, errW_some] <;> rfl) | (simp [*, errW_none, errW_some] <;> rfl), by repeat (first | (with_reducible first | exact HB.out | apply below_alloc | apply pw_below_drewN | apply below_drew1 | refine below_set ?_ GE101.out) | exact HB.out)⟩
    replace c9 := Bool.eq_false_iff.mpr c9
    subst c9
    rw [if_neg (show ¬ (false = true) by decide)] at H
    by_cases c28 : t103 = 0
    rotate_left
    · rw [if_neg c28] at H
      have c28b0 : (t103 == 0) = false := beq_eq_false_iff_ne.mpr c28
      have c28b1 : (t103 != 0) = true := bne_iff_ne.mpr c28
      obtain rfl := Option.some.inj H
      go_wp2
      go_ret
      exact ⟨by first | rfl | (simp [errW_none, errW_some] <;> rfl) | (simp [*, errW_none, errW_some] <;> rfl), by repeat (first | (with_reducible first | exact HB.out | apply below_alloc | apply pw_below_drewN | apply below_drew1 | refine below_set ?_ GE101.out) | exact HB.out)⟩
    rw [if_pos c28] at H
    have c28b0 : (t103 == 0) = true := beq_iff_eq.mpr c28
    have c28b1 : (t103 != 0) = false := bne_eq_false_iff_eq.mpr c28
    clear c28
    by_cases c29 : a0_3 < 0
    · rw [if_pos c29] at H
      have c29b0 : decide (a0_3 < 0) = true := decide_eq_true c29
      clear c29
      obtain rfl := Option.some.inj H
      have hcz30_0 := bc_ BK101 0 rfl
      have hcz30_1 := bc_ BK101 1 rfl
      have hcz30_2 := bc_ BK101 2 rfl
      have hcz30_3 := bc_ BK101 3 rfl
      have hcz30_4 := bc_ BK101 4 rfl
      have hcz30_5 := bc_ BK101 5 rfl
      have hcz30_6 := bc_ BK101 6 rfl
      have hfz30_0 := blk_frozen BK101.out 0
      have hfz30_1 := blk_frozen BK101.out 1
      have hfz30_2 := blk_frozen BK101.out 2
      have hfz30_3 := blk_frozen BK101.out 3
      have hfz30_4 := blk_frozen BK101.out 4
      have hfz30_5 := blk_frozen BK101.out 5
      have hfz30_6 := blk_frozen BK101.out 6
      go_wp2
      go_ret
      exact ⟨by first | rfl | (simp [errW_none, errW_some] <;> rfl) | (simp [*, errW_none, errW_some] <;> rfl), by repeat (first | (with_reducible first | exact HB.out | apply below_alloc | apply pw_below_drewN | apply below_drew1 | refine below_set ?_ GE101.out) | exact HB.out)⟩
    rw [if_neg c29] at H
    have c29b0 : decide (a0_3 < 0) = false := decide_eq_false c29
    clear c29
    by_cases c31 : a0_3 > 23
    · rw [if_pos c31] at H
      have c31b0 : decide (23 < a0_3) = true := decide_eq_true c31
      clear c31
      obtain rfl := Option.some.inj H
      have hcz32_0 := bc_ BK101 0 rfl
      have hcz32_1 := bc_ BK101 1 rfl
      have hcz32_2 := bc_ BK101 2 rfl
      have hcz32_3 := bc_ BK101 3 rfl
      have hcz32_4 := bc_ BK101 4 rfl
      have hcz32_5 := bc_ BK101 5 rfl
      have hcz32_6 := bc_ BK101 6 rfl
      have hfz32_0 := blk_frozen BK101.out 0
      have hfz32_1 := blk_frozen BK101.out 1
      have hfz32_2 := blk_frozen BK101.out 2
      have hfz32_3 := blk_frozen BK101.out 3
      have hfz32_4 := blk_frozen BK101.out 4
      have hfz32_5 := blk_frozen BK101.out 5
      have hfz32_6 := blk_frozen BK101.out 6
      go_wp2
      go_ret
      exact ⟨by first | rfl | (simp [errW_none, errW_some] <;> rfl) | (simp [*, errW_none, errW_some] <;> rfl), by repeat (first | (with_reducible first | exact HB.out | apply below_alloc | apply pw_below_drewN | apply below_drew1 | refine below_set ?_ GE101.out) | exact HB.out)⟩
    rw [if_neg c31] at H
    have c31b0 : decide (23 < a0_3) = false := decide_eq_false c31
    clear c31
    by_cases c33 : a0_4 < 0
    · rw [if_pos c33] at H
      have c33b0 : decide (a0_4 < 0) = true := decide_eq_true c33
      clear c33
      obtain rfl := Option.some.inj H
      have hcz34_0 := bc_ BK101 0 rfl
      have hcz34_1 := bc_ BK101 1 rfl
      have hcz34_2 := bc_ BK101 2 rfl
      have hcz34_3 := bc_ BK101 3 rfl
      have hcz34_4 := bc_ BK101 4 rfl
      have hcz34_5 := bc_ BK101 5 rfl
      have hcz34_6 := bc_ BK101 6 rfl
      have hfz34_0 := blk_frozen BK101.out 0
      have hfz34_1 := blk_frozen BK101.out 1
      have hfz34_2 := blk_frozen BK101.out 2
      have hfz34_3 := blk_frozen BK101.out 3
      have hfz34_4 := blk_frozen BK101.out 4
      have hfz34_5 := blk_frozen BK101.out 5
      have hfz34_6 := blk_frozen BK101.out 6
      go_wp2
      go_ret
      exact ⟨by first | rfl | (simp [errW_none, errW_some] <;> rfl) | (simp [*, errW_none, errW_some] <;> rfl), by repeat (first | (with_reducible first | exact HB.out | apply below_alloc | apply pw_below_drewN | apply below_drew1 | refine below_set ?_ GE101.out) | exact HB.out)⟩
    rw [if_neg c33] at H
    have c33b0 : decide (a0_4 < 0) = false := decide_eq_false c33
    clear c33
    by_cases c35 : a0_4 > 59
    · rw [if_pos c35] at H
      have c35b0 : decide (59 < a0_4) = true := decide_eq_true c35
      clear c35
      obtain rfl := Option.some.inj H
      have hcz36_0 := bc_ BK101 0 rfl
      have hcz36_1 := bc_ BK101 1 rfl
      have hcz36_2 := bc_ BK101 2 rfl
      have hcz36_3 := bc_ BK101 3 rfl
      have hcz36_4 := bc_ BK101 4 rfl
      have hcz36_5 := bc_ BK101 5 rfl
      have hcz36_6 := bc_ BK101 6 rfl
      have hfz36_0 := blk_frozen BK101.out 0
      have hfz36_1 := blk_frozen BK101.out 1
      have hfz36_2 := blk_frozen BK101.out 2
      have hfz36_3 := blk_frozen BK101.out 3
      have hfz36_4 := blk_frozen BK101.out 4
      have hfz36_5 := blk_frozen BK101.out 5
      have hfz36_6 := blk_frozen BK101.out 6
      go_wp2
      go_ret
      exact ⟨by first | rfl | (simp [errW_none, errW_some] <;> rfl) | (simp [*, errW_none, errW_some] <;> rfl), by repeat (first | (with_reducible first | exact HB.out | apply below_alloc | apply pw_below_drewN | apply below_drew1 | refine below_set ?_ GE101.out) | exact HB.out)⟩
    rw [if_neg c35] at H
    have c35b0 : decide (59 < a0_4) = false := decide_eq_false c35
    clear c35
    by_cases c37 : a0_5 < 0
    · rw [if_pos c37] at H
      have c37b0 : decide (a0_5 < 0) = true := decide_eq_true c37
      clear c37
      obtain rfl := Option.some.inj H
      have hcz38_0 := bc_ BK101 0 rfl
      have hcz38_1 := bc_ BK101 1 rfl
      have hcz38_2 := bc_ BK101 2 rfl
      have hcz38_3 := bc_ BK101 3 rfl
      have hcz38_4 := bc_ BK101 4 rfl
      have hcz38_5 := bc_ BK101 5 rfl
      have hcz38_6 := bc_ BK101 6 rfl
      have hfz38_0 := blk_frozen BK101.out 0
      have hfz38_1 := blk_frozen BK101.out 1
      have hfz38_2 := blk_frozen BK101.out 2
      have hfz38_3 := blk_frozen BK101.out 3
      have hfz38_4 := blk_frozen BK101.out 4
      have hfz38_5 := blk_frozen BK101.out 5
      have hfz38_6 := blk_frozen BK101.out 6
      go_wp2
      go_ret
      exact ⟨by first | rfl | (simp [errW_none, errW_some] <;> rfl) | (simp [*, errW_none, errW_some] <;> rfl), by repeat (first | (with_reducible first | exact HB.out | apply below_alloc | apply pw_below_drewN | apply below_drew1 | refine below_set ?_ GE101.out) | exact HB.out)⟩
    rw [if_neg c37] at H
    have c37b0 : decide (a0_5 < 0) = false := decide_eq_false c37
    clear c37
    by_cases c39 : a0_5 > 59
    · rw [if_pos c39] at H
      have c39b0 : decide (59 < a0_5) = true := decide_eq_true c39
      clear c39
      obtain rfl := Option.some.inj H
      have hcz40_0 := bc_ BK101 0 rfl
      have hcz40_1 := bc_ BK101 1 rfl
      have hcz40_2 := bc_ BK101 2 rfl
      have hcz40_3 := bc_ BK101 3 rfl
      have hcz40_4 := bc_ BK101 4 rfl
      have hcz40_5 := bc_ BK101 5 rfl
      have hcz40_6 := bc_ BK101 6 rfl
      have hfz40_0 := blk_frozen BK101.out 0
      have hfz40_1 := blk_frozen BK101.out 1
      have hfz40_2 := blk_frozen BK101.out 2
      have hfz40_3 := blk_frozen BK101.out 3
      have hfz40_4 := blk_frozen BK101.out 4
      have hfz40_5 := blk_frozen BK101.out 5
      have hfz40_6 := blk_frozen BK101.out 6
      go_wp2
      go_ret
      exact ⟨by first | rfl | (simp [errW_none, errW_some] <;> rfl) | (simp [*, errW_none, errW_some] <;> rfl), by repeat (first | (with_reducible first | exact HB.out | apply below_alloc | apply pw_below_drewN | apply below_drew1 | refine below_set ?_ GE101.out) | exact HB.out)⟩
    rw [if_neg c39] at H
    have c39b0 : decide (59 < a0_5) = false := decide_eq_false c39
    clear c39
    by_cases c41 : a0_6 < 0
    · rw [if_pos c41] at H
      have c41b0 : decide (a0_6 < 0) = true := decide_eq_true c41
      clear c41
      obtain rfl := Option.some.inj H
      have hcz42_0 := bc_ BK101 0 rfl
      have hcz42_1 := bc_ BK101 1 rfl
      have hcz42_2 := bc_ BK101 2 rfl
      have hcz42_3 := bc_ BK101 3 rfl
      have hcz42_4 := bc_ BK101 4 rfl
      have hcz42_5 := bc_ BK101 5 rfl
      have hcz42_6 := bc_ BK101 6 rfl
      have hfz42_0 := blk_frozen BK101.out 0
      have hfz42_1 := blk_frozen BK101.out 1
      have hfz42_2 := blk_frozen BK101.out 2
      have hfz42_3 := blk_frozen BK101.out 3
      have hfz42_4 := blk_frozen BK101.out 4
      have hfz42_5 := blk_frozen BK101.out 5
      have hfz42_6 := blk_frozen BK101.out 6
      go_wp2
      go_ret
      exact ⟨by first | rfl | (simp [errW_none, errW_some] <;> rfl) | (simp [*, errW_none, errW_some] <;> rfl), by repeat (first | (with_reducible first | exact HB.out | apply below_alloc | apply pw_below_drewN | apply below_drew1 | refine below_set ?_ GE101.out) | exact HB.out)⟩
    rw [if_neg c41] at H
    have c41b0 : decide (a0_6 < 0) = false := decide_eq_false c41
    clear c41
    by_cases c43 : a0_6 > 999
    · rw [if_pos c43] at H
      have c43b0 : decide (999 < a0_6) = true := decide_eq_true c43
      clear c43
      obtain rfl := Option.some.inj H
      have hcz44_0 := bc_ BK101 0 rfl
      have hcz44_1 := bc_ BK101 1 rfl
      have hcz44_2 := bc_ BK101 2 rfl
      have hcz44_3 := bc_ BK101 3 rfl
      have hcz44_4 := bc_ BK101 4 rfl
      have hcz44_5 := bc_ BK101 5 rfl
      have hcz44_6 := bc_ BK101 6 rfl
      have hfz44_0 := blk_frozen BK101.out 0
      have hfz44_1 := blk_frozen BK101.out 1
      have hfz44_2 := blk_frozen BK101.out 2
      have hfz44_3 := blk_frozen BK101.out 3
      have hfz44_4 := blk_frozen BK101.out 4
      have hfz44_5 := blk_frozen BK101.out 5
      have hfz44_6 := blk_frozen BK101.out 6
      go_wp2
      go_ret
      exact ⟨by first | rfl | (simp [errW_none, errW_some] <;> rfl) | (simp [*, errW_none, errW_some] <;> rfl), by repeat (first | (with_reducible first | exact HB.out | apply below_alloc | apply pw_below_drewN | apply below_drew1 | refine below_set ?_ GE101.out) | exact HB.out)⟩
    rw [if_neg c43] at H
    have c43b0 : decide (999 < a0_6) = false := decide_eq_false c43
    clear c43
    obtain rfl := Option.some.inj H
    have hcz45_0 := bc_ BK101 0 rfl
    have hcz45_1 := bc_ BK101 1 rfl
    have hcz45_2 := bc_ BK101 2 rfl
    have hcz45_3 := bc_ BK101 3 rfl
    have hcz45_4 := bc_ BK101 4 rfl
    have hcz45_5 := bc_ BK101 5 rfl
    have hcz45_6 := bc_ BK101 6 rfl
    have hfz45_0 := blk_frozen BK101.out 0
    have hfz45_1 := blk_frozen BK101.out 1
    have hfz45_2 := blk_frozen BK101.out 2
    have hfz45_3 := blk_frozen BK101.out 3
    have hfz45_4 := blk_frozen BK101.out 4
    have hfz45_5 := blk_frozen BK101.out 5
    have hfz45_6 := blk_frozen BK101.out 6
    go_wp2
    go_ret
    exact ⟨by first | rfl | (simp [errW_none, errW_some] <;> rfl) | (simp [*, errW_none, errW_some] <;> rfl), by repeat (first | (with_reducible first | exact HB.out | apply below_alloc | apply pw_below_drewN | apply below_drew1 | refine below_set ?_ GE101.out) | exact HB.out)⟩

/-! ### scale_pad: function 19 -/
def scale_pad.f (a0 : Int) (a1 : Int) : Option (ByteArray) := (strconv_Itoa_22.f a0).bind fun t101 => ((strings_Repeat.f (⟨#[48]⟩ : ByteArray) (wrap64 (a1 - (t101.size : Int)))).bind fun t102 => (if t102.size + t101.size ≤ 9223372036854775807 then (some (t102 ++ t101)) else (none)))
set_option maxHeartbeats 8000000 in
set_option maxRecDepth 100000 in
theorem scale_pad.calls (a0 : Int) (a1 : Int) (r : ByteArray) (w : World) (ht : ScTab w) (h : scale_pad.f a0 a1 = some r) :
 Calls Tryd.prog 19 #[.int .i64 a0, .int .i64 a1] w fun e w' => e = .returned (.string r) ∧ Below w.heap.size w w' := by
  have HB := Aside0.mk (Below.refl w.heap.size w)
  have H : ((strconv_Itoa_22.f a0).bind fun t101 => ((strings_Repeat.f (⟨#[48]⟩ : ByteArray) (wrap64 (a1 - (t101.size : Int)))).bind fun t102 => (if t102.size + t101.size ≤ 9223372036854775807 then (some (t102 ++ t101)) else (none)))) = some r := h
  clear h
  replace H := Option.bind_eq_some_iff.mp H
  obtain ⟨t101, A30, H⟩ := H
  try dsimp -simprocs only at H
  have A3 := Aside0.mk A30
  clear A30
  replace H := Option.bind_eq_some_iff.mp H
  obtain ⟨t102, A40, H⟩ := H
  try dsimp -simprocs only at H
  have A4 := Aside0.mk A40
  clear A40
  by_cases c5 : t102.size + t101.size ≤ 9223372036854775807
  · rw [if_pos c5] at H
    have c5b0 := eq_true c5
    have c5b1 : decide (t102.size + t101.size ≤ 9223372036854775807) = true := decide_eq_true c5
    try have c5b2 : (9223372036854775807 < t102.size + t101.size) = False := eq_false (Nat.not_lt.2 c5)
    obtain rfl := Option.some.inj H
    go_enter Tryd.func19, Tryd.ntmps19
    go_wp2_with (first | ((with_reducible refine gate_callee (f := 22) rfl ?_); refine glq_ (some 7) Tryd.func22 #[.int .i64 a0] ?_; (with_reducible refine (strconv_Itoa_22.calls a0 t101 _ (sctab_below ht HB.out) A3.out).mono ?_); rintro e w6 ⟨rfl, hb⟩; refine ⟨_, rfl, ?_⟩; replace HB := hbs_ HB hb rfl rfl rfl rfl; (try clear hb)) | ((with_reducible refine gate_callee (f := 23) rfl ?_); refine glq_ (some 12) Tryd.func23 #[.string (⟨#[48]⟩ : ByteArray), .int .i64 (wrap64 (a1 - (t101.size : Int)))] ?_; (with_reducible refine (strings_Repeat.calls (⟨#[48]⟩ : ByteArray) (wrap64 (a1 - (t101.size : Int))) t102 _ A4.out).mono ?_); rintro e w7 ⟨rfl, hb⟩; refine ⟨_, rfl, ?_⟩; replace HB := hbs_ HB hb rfl rfl rfl rfl; (try clear hb)))
    go_ret
    exact ⟨by first | rfl | (simp [errW_none, errW_some] <;> rfl) | (simp [*, errW_none, errW_some] <;> rfl), by repeat (first | (with_reducible first | exact HB.out | apply below_alloc | apply pw_below_drewN | apply below_drew1) | exact HB.out)⟩
  rw [if_neg c5] at H
  exact absurd H (by simp)

end Go.Proofs.YtpbfjcohiibpcaaDoor.Q
