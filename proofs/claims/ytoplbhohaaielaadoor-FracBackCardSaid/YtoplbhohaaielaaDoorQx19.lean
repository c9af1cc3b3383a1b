/- Contracts of Go functions of the seat, one by one: each call returns what the Lean function of the same name says, wherever that is 'some'; no other condition. Written by a program of this session. -/
import Derived.Test.YtoplbhohaaielaaDoorQx0
import Derived.Test.YtoplbhohaaielaaDoorQx3
import Derived.LoopIn
import Derived.LoopNIn
import Derived.OwnWalkIn
import Derived.RangeFuncBound
import Derived.RangeFuncCalls
import Derived.RangeFuncLeaves
import Derived.RangeFuncNested
import Derived.Shelf.Abstract
import Derived.Shelf.RegionOpen
import Derived.TacticsInMore
import Derived.WalkKit
namespace Go.Proofs.YtoplbhohaaielaaDoor.Q
open Go.RowKit Go.Proofs.YtoplbhohaaielaaDoorW.PrintWords Go.Proofs.YtoplbhohaaielaaDoorW.PrintLast Go.Proofs.YtoplbhohaaielaaDoorW.PrintMore
attribute [local go_sem] max2_int min2_int max_two min_two max_three min_three max_four min_four   -- for this text's walks alone
set_option linter.unusedVariables false
set_option linter.unusedSimpArgs false

/-! ### frac_From: function 9 -/
-- IMPORTS: Derived.RangeFuncNested Derived.RangeFuncBound Derived.RangeFuncCalls Derived.RangeFuncLeaves Derived.Shelf.Abstract Derived.Shelf.RegionOpen Derived.WalkKit Derived.OwnWalkIn Derived.TacticsInMore Derived.LoopNIn Derived.LoopIn
/-- The terms that From takes. -/
def frac_From.ok (l0 : List Int) : Prop := ∀ i, i < l0.length → rd l0 (i : Int) ≤ 1152921504606846976 ∧ -1152921504606846976 ≤ rd l0 (i : Int) ∧ (0 < i → 1 ≤ rd l0 (i : Int))
instance (l0 : List Int) : Decidable (frac_From.ok l0) := by unfold frac_From.ok; infer_instance
/-- Indexes and elements, the last one first. -/
def frac_From.back (l : List Int) : Nat → List (Int × Int)
  | 0 => []
  | n + 1 => ((n : Int), rd l (n : Int)) :: frac_From.back l n
/-- Add answers always, whatever fuel that takes. -/
def frac_From.total : Prop := ∀ a b c d : Int, ∃ k r, frac_Add.f k a b c d = some r
open Classical in
/-- What Add answers. -/
noncomputable def frac_From.add (a b c d : Int) : Int × Int × Int := if h : ∃ k r, frac_Add.f k a b c d = some r then h.choose_spec.choose else (0, 0, 1)
/-- The terms from the last but one on downward. -/
noncomputable def frac_From.go : List (Int × Int) → Int × Int → Option (Int × Int)
  | [], s => some s
  | t :: r, s => if (frac_From.add t.2 1 s.2 s.1).2.2 = 0 then frac_From.go r ((frac_From.add t.2 1 s.2 s.1).1, (frac_From.add t.2 1 s.2 s.1).2.1) else none
open Classical in
noncomputable def frac_From.f (_k : Nat) (l0 : List Int) : Option (Int × Int × Int) :=
  if frac_From.total then (if 0 < l0.length then (if frac_From.ok l0 then (if 1 < l0.length ∧ rd l0 ((l0.length : Int) - 1) = 1 then none
    else (frac_From.go (frac_From.back l0 (l0.length - 1)) (rd l0 ((l0.length : Int) - 1), 1)).bind fun s => some (s.1, s.2, 0)) else none) else none) else none
theorem frac_From.mono : ∀ a0 k, LeO (frac_From.f k a0) (frac_From.f (k + 1) a0) := fun _ _ => LeO.refl _
theorem frac_From.add_eq {k : Nat} {a b c d : Int} {r : Int × Int × Int} (h : frac_Add.f k a b c d = some r) : frac_From.add a b c d = r := by
  have hx : ∃ k r, frac_Add.f k a b c d = some r := ⟨k, r, h⟩
  have up : ∀ (k n : Nat) (r : Int × Int × Int), frac_Add.f k a b c d = some r → frac_Add.f (k + n) a b c d = some r := fun k n r h => by
    induction n with
    | zero => exact h
    | succ n ih => exact frac_Add.mono a b c d (k + n) r ih
  unfold frac_From.add
  rw [dif_pos hx]
  have h1 := up _ k _ hx.choose_spec.choose_spec
  have h2 := up k hx.choose _ h
  rw [Nat.add_comm] at h2
  exact Option.some.inj (h1.symm.trans h2)
theorem frac_From.go_append : ∀ (a b : List (Int × Int)) (s : Int × Int), frac_From.go (a ++ b) s = (frac_From.go a s).bind (frac_From.go b)
  | [], b, s => rfl
  | t :: a, b, s => by
    rw [List.cons_append, frac_From.go, frac_From.go]
    split
    · exact frac_From.go_append a b _
    · rfl
namespace FFr
open Go.Proofs Go.RowKit Go.Shelf
attribute [local go_sem] Oper.semAt_some
def enc (x : Int × Int) : Array Value := #[.int .i64 x.1, .int .i64 x.2]
theorem back_len (l : List Int) : ∀ n, (frac_From.back l n).length = n
  | 0 => rfl
  | n + 1 => by rw [frac_From.back, List.length_cons, back_len l n]
theorem back_drop (l : List Int) : ∀ (n k : Nat), (frac_From.back l n).drop k = frac_From.back l (n - k)
  | n, 0 => rfl
  | 0, k + 1 => by simp [frac_From.back]
  | n + 1, k + 1 => by rw [frac_From.back, List.drop_succ_cons, back_drop l n k]; congr 1; omega
theorem back_take (l : List Int) (n k : Nat) (h : k < n) : (frac_From.back l n).take (k + 1) = (frac_From.back l n).take k ++ [(((n - k - 1 : Nat) : Int), rd l ((n - k - 1 : Nat) : Int))] := by
  have hk : k < (frac_From.back l n).length := by rw [back_len]; exact h
  rw [List.take_succ_eq_append_getElem hk]
  congr 2
  have e := List.drop_eq_getElem_cons hk
  rw [back_drop l n k] at e
  obtain ⟨m, hm⟩ : ∃ m, n - k = m + 1 := ⟨n - k - 1, by omega⟩
  rw [hm, frac_From.back] at e
  have := (List.cons.inj e).1
  rw [← this, show n - k - 1 = m by omega]
/-- What a round leaves: all of old, and the block of the row's header. -/
def Kb (n Bs : Nat) (W W' : World) : Prop := Below n W W' ∧ W'.heap[Bs]? = W.heap[Bs]?
theorem Kb.refl (n Bs : Nat) (W : World) : Kb n Bs W W := ⟨Below.refl _ _, rfl⟩
theorem Kb.trans {n Bs : Nat} {A B C : World} (h : Kb n Bs A B) (k : Kb n Bs B C) : Kb n Bs A C := ⟨h.1.trans k.1, k.2.trans h.2⟩
theorem Kb.cell {n Bs : Nat} {A B : World} (h : Kb n Bs A B) (v : Value) (hv : A.cell? ⟨Bs, 0, none⟩ = some v) : B.cell? ⟨Bs, 0, none⟩ = some v := by
  unfold World.cell? at *
  rw [h.2]; exact hv
set_option maxRecDepth 100000 in
set_option maxHeartbeats 4000000 in
theorem back1_in (F : Fence) (n : Nat) (hF : F.fn 33) (hro : F.round = none) (hn : 1 ≤ n) (l Bs n₀ : Nat) (A : Option Addr) (len cap : Nat) (zs : List Int) (hl : len ≤ zs.length) (hreach : zs.length ≤ 9223372036854775807) (J Jx : List (Int × Int) → World → Prop)
    (hJ : ∀ s W W', J s W → W.grownBy W' none → J s W')
    (hY : ∀ pre x W, J pre W → pre.length < len → YieldAt F (n - 1) Tryd.prog l (enc x) W fun e W' =>
      (e = .returned (.bool true) ∧ J (pre ++ [x]) W' ∧ Kb n₀ Bs W W') ∨ (e = .returned (.bool false) ∧ Jx (pre ++ [x]) W'))
    (W0 W : World) (hW0 : n₀ = W0.heap.size) (hW : Below n₀ W0 W) (hBs : W.cell? ⟨Bs, 0, none⟩ = some (.slice A len cap)) (hC : Kd.C (Kd.int .i64) W0 A zs.length zs) (h0 : J [] W) :
    CallsIn F n Tryd.prog 33 #[.func (.yield l) #[] #[], .pointer (some ⟨Bs, 0, none⟩)] W fun e W' => (∃ v, e = .returned v) ∧
      ((∃ ys, ys = frac_From.back zs len ∧ J ys W') ∨ (∃ pre, pre <+: frac_From.back zs len ∧ Jx pre W')) := by
  refine callsIn_of_wp Tryd.func33 rfl hF ?_ hro
  simp only [Tryd.ntmps33, List.size_toArray, List.length_cons, List.length_nil, Nat.reduceAdd, Nat.reduceSub, Array.replicate_succ, Array.replicate_zero, List.push_toArray, List.append_toArray, List.nil_append, List.cons_append]
  gi_wp2
  gi_loopw [3] (fun i wr => ∃ k : Nat, k ≤ len ∧ i = .int .i64 ((len : Int) - 1 - (k : Int)) ∧ J ((frac_From.back zs len).take k) wr ∧ Kb n₀ Bs W wr)
    (fun i _ => (intOf i + 1).toNat)
  case atStart => exact ⟨0, Nat.zero_le _, by simp, by simpa using h0, Kb.refl _ _ _⟩
  case round =>
    obtain ⟨k, hk, rfl, hJs, hnx⟩ := hrel
    have hnx' := hW.trans hnx.1
    have hBs' := hnx.cell _ hBs
    by_cases hlt : k < len
    · have e : (len : Int) - 1 - k = ((len - k - 1 : Nat) : Int) := by omega
      have hs := back_take zs len k hlt
      have hpl : (List.take k (frac_From.back zs len)).length < len := by rw [List.length_take, back_len]; omega
      rw [e]
      obtain ⟨ad, rfl, x0⟩ := Kd.at_int hC ((len - k - 1 : Nat) : Int) (by omega) (by omega)
      have hb : ad.block < n₀ := by have := World.block_lt_of_cell? _ _ x0; rw [add_block] at this; omega
      have y0 := (hnx'.cell (p := ad.add (((len - k - 1 : Nat) : Int)).toNat) (by rw [add_block]; exact hb)).trans x0
      have g0 : decide ((0 : Int) ≤ ((len - k - 1 : Nat) : Int)) = true := decide_eq_true (by omega)
      have g1 : decide (((len - k - 1 : Nat) : Int) < (len : Int)) = true := decide_eq_true (by omega)
      have g2 : ((len - k - 1 : Nat) : Int) < (len : Int) := by omega
      have hm : (len : Int) - 1 - ((k + 1 : Nat) : Int) = ((len - k - 1 : Nat) : Int) - 1 := by omega
      have hw2 : wrap64 (((len - k - 1 : Nat) : Int) - 1) = ((len - k - 1 : Nat) : Int) - 1 := by unfold wrap64; omega
      generalize hz : rd zs ((len - k - 1 : Nat) : Int) = z at *
      obtain ⟨fn, tmps, assign, body, hy, hR⟩ := hY _ (((len - k - 1 : Nat) : Int), z) wr hJs hpl
      dsimp only [enc] at hy
      have g3 : (0 : Int) ≤ ((len - k - 1 : Nat) : Int) := by omega
      generalize hix : ((len - k - 1 : Nat) : Int) = ix at *
      replace g3 := eq_true g3
      replace g2 := eq_true g2
      clear x0
      gi_wp2
      refine hR.mono ?_
      rintro e W3 (⟨rfl, hJ3, hk3⟩ | ⟨rfl, hJx3⟩)
      · gi_wp2
        go_roundw
        case rel => exact ⟨k + 1, by omega, by rw [hm], by rw [hs]; exact hJ3, hnx.trans hk3⟩
        case measure => simp [intOf, hw2]; have := of_eq_true g3; omega
      · gi_wp2
        refine bodyPost_ret (results_none rfl _ _ _) rfl ?_
        exact ⟨⟨_, rfl⟩, .inr ⟨_, (by rw [← hs]; exact List.take_prefix _ _), hJx3⟩⟩
    · obtain rfl : k = len := by omega
      have e : (k : Int) - 1 - k = -1 := by omega
      rw [e]
      gi_wp2
      go_end0
      exact ⟨⟨_, rfl⟩, .inl ⟨_, rfl, by rw [List.take_of_length_le (by rw [back_len]; omega)] at hJs; exact hJs⟩⟩
theorem loadVar_int {P : Program} {w : World} {ty : TypeId} {k : IntKind} {g : Nat} {v : Value} (hu : P.underlying ty = some (.int k)) (hc : w.cell? ⟨g, 0, none⟩ = some v) : (loadVar ty ⟨g, 0, none⟩).run P w = .ok v w := by
  simp [loadVar, isAgg, underlying, asAgg, go_sem, hu, hc]
theorem results_cc {P : Program} {fn : Func} {p q : Tmp} {ty tz : TypeId} (h : fn.results = #[.cell p ty, .cell q tz]) (tmps : Array Value) (w : World) (g g2 : Nat) (t : TypeId) (cs : Array Value) (fr : Nat × Nat) (d : TypeDesc) (v : Value)
    (hp : tmps.getD p undef = .pointer (some ⟨g, 0, none⟩)) (hq : tmps.getD q undef = .pointer (some ⟨g2, 0, none⟩)) (hg : w.heap[g]? = some (.cells cs t fr))
    (hu : P.underlying ty = some d) (hd : (match d with | .struct _ | .array _ _ => true | _ => false) = true) (hi : (P.info? ty).map (·.size) = some cs.size) (hv : (loadVar tz ⟨g2, 0, none⟩).run P w = .ok v w) :
    (results fn tmps).run P w = .ok (.tuple #[.agg cs, v]) w := by
  have hp' : tmps[p]?.getD undef = .pointer (some ⟨g, 0, none⟩) := by simpa using hp
  have hq' : tmps[q]?.getD undef = .pointer (some ⟨g2, 0, none⟩) := by simpa using hq
  simp [results, h, hp', hq', asAddr, run_loadVar_row w g t ty cs fr d hg hu hd hi, hv]
/-- A block of a fraction. -/
def Box2 (W : World) (B : Nat) (v : Int × Int) : Prop := W.heap[B]? = some (.cells #[.int .i64 v.1, .int .i64 v.2] 23 (0, 0))
theorem Box2.lt {W : World} {B : Nat} {v : Int × Int} (h : Box2 W B v) : B < W.heap.size := (Array.getElem?_eq_some_iff.1 h).1
theorem Box2.kept {W W' : World} {row : Option Nat} {B : Nat} {v : Int × Int} (h : Box2 W B v) (hg : W.grownBy W' row) (hne : some B ≠ row) : Box2 W' B v := (hg.block B h.lt hne).trans h
theorem Box2.alloc {W : World} {B : Nat} {v : Int × Int} (h : Box2 W B v) (o : Obj) : Box2 (W.alloc o) B v := h.kept (World.grownBy_alloc W o none) (by simp)
theorem Box2.below {W W' : World} {B : Nat} {v : Int × Int} (h : Box2 W B v) (hb : Below W.heap.size W W') : Box2 W' B v := (hb.block B h.lt).trans h
def Box1 (W : World) (B : Nat) (v : Int) : Prop := W.heap[B]? = some (.cells #[.int .i64 v] 24 (0, 0))
theorem Box1.lt {W : World} {B : Nat} {v : Int} (h : Box1 W B v) : B < W.heap.size := (Array.getElem?_eq_some_iff.1 h).1
theorem Box1.kept {W W' : World} {row : Option Nat} {B : Nat} {v : Int} (h : Box1 W B v) (hg : W.grownBy W' row) (hne : some B ≠ row) : Box1 W' B v := (hg.block B h.lt hne).trans h
theorem Box1.alloc {W : World} {B : Nat} {v : Int} (h : Box1 W B v) (o : Obj) : Box1 (W.alloc o) B v := h.kept (World.grownBy_alloc W o none) (by simp)
theorem Box1.below {W W' : World} {B : Nat} {v : Int} (h : Box1 W B v) (hb : Below W.heap.size W W') : Box1 W' B v := (hb.block B h.lt).trans h
/-- What holds between two rounds: the fraction so far, and the results' boxes as they were. -/
def Inv (w : World) (X : Nat) (s0 : Int × Int) (pre : List (Int × Int)) (W : World) : Prop :=
  ∃ s, frac_From.go pre s0 = some s ∧ Box2 W X s ∧ Box2 W w.heap.size (0, 0) ∧ Box1 W (w.heap.size + 1) 0 ∧ Below w.heap.size w W
theorem Inv.own (w : World) (X : Nat) (s0 : Int × Int) (B : Nat) (hB : w.heap.size ≤ B) : OwnFrom B (Inv w X s0) := fun s Y Z row hs hg hr => by
  obtain ⟨v, h1, h2, h3, h4, h5⟩ := hs
  have ne : ∀ (b : Nat) (cs : Array Value) (t : TypeId) (fr : Nat × Nat), Y.heap[b]? = some (.cells cs t fr) → some b ≠ row := fun b cs t fr hb e => by
    obtain ⟨_, o, ho, hc⟩ := hr b e.symm
    rw [hb] at ho; cases ho; cases hc
  exact ⟨v, h1, h2.kept hg (ne _ _ _ _ h2), h3.kept hg (ne _ _ _ _ h3), h4.kept hg (ne _ _ _ _ h4), ownFrom_below (β := Unit) (n₀ := w.heap.size) (w₀ := w) (Nat.le_refl _) hB () Y Z row h5 hg hr⟩
theorem Inv.below {w W W' : World} {X : Nat} {s0 : Int × Int} {pre : List (Int × Int)} (h : Inv w X s0 pre W) (hb : Below W.heap.size W W') : Inv w X s0 pre W' := by
  obtain ⟨v, h1, h2, h3, h4, h5⟩ := h
  exact ⟨v, h1, h2.below hb, h3.below hb, h4.below hb, h5.trans (hb.mono h5.size)⟩
theorem backward_calls (A : Option Addr) (len cap : Nat) (w : World) :
    Calls Tryd.prog 19 #[.slice A len cap] w fun e w' => e = .returned (.func (.func 33) #[] #[.pointer (some ⟨w.heap.size, 0, none⟩)]) ∧ w' = w.alloc (.cells #[.slice A len cap] 31) := by
  go_enter Tryd.func19, Tryd.ntmps19
  go_wp2
  go_ret
  exact ⟨rfl, rfl⟩
theorem back_stops (F : Fence) (n : Nat) (h : F.fn 33) (hro : F.round = none) (hn : 1 ≤ n) (Bs : Nat) (A : Option Addr) (len cap : Nat) (zs : List Int) (hl : len ≤ zs.length) (hreach : zs.length ≤ 9223372036854775807) (W0 w : World) (hW : Below W0.heap.size W0 w) (hlt : Bs < w.heap.size)
    (hBs : w.cell? ⟨Bs, 0, none⟩ = some (.slice A len cap)) (hC : Kd.C (Kd.int .i64) W0 A zs.length zs) :
    SeqStopsK F n Tryd.prog 33 #[.pointer (some ⟨Bs, 0, none⟩)] enc (Kb W0.heap.size Bs) (fun ys => ys = frac_From.back zs len) (fun pre => pre <+: frac_From.back zs len) len w := fun l J Jx W hw hJ _ hY h0 => by
  refine back1_in F n h hro hn l Bs W0.heap.size A len cap zs hl hreach J Jx (fun s X Y hs hg => hJ s X Y none hs hg (fun r e => by cases e)) hY W0 W rfl (hW.trans (hw.mono hW.size)) ((hw.cell (p := ⟨Bs, 0, none⟩) hlt).trans hBs) hC h0
theorem kb_b {n Bs : Nat} {w : World} (hn : n ≤ w.heap.size) (hB : Bs < w.heap.size) (W : World) (l : Nat) (o o' : Obj) (hl : w.heap.size ≤ l) (h : W.heap[l]? = some o) (h1 : o.isCells = false) (h2 : o.isWalk = false) : Kb n Bs W (W.putObj l o') :=
  ⟨belowK_b hn W l o o' hl h h1 h2, World.putObj_heap_other (by omega)⟩
set_option maxRecDepth 100000 in
set_option maxHeartbeats 4000000 in
theorem from_in (htot : frac_From.total) (A : Option Addr) (cap : Nat) (zs : List Int) (r1 r2 : Int) (w : World) (hC : Kd.C (Kd.int .i64) w A zs.length zs) (hcap : zs.length ≤ cap) (hreach : zs.length ≤ 9223372036854775807) (hpos : 0 < zs.length) (hok : frac_From.ok zs) (h1 : ¬ (1 < zs.length ∧ rd zs ((zs.length : Int) - 1) = 1))
    (hgo : frac_From.go (frac_From.back zs (zs.length - 1)) (rd zs ((zs.length : Int) - 1), 1) = some (r1, r2)) :
    CallsIn Fence.wide 3 Tryd.prog 9 #[.slice A zs.length cap] w fun e w' => e = .returned (.tuple #[.agg #[.int .i64 r1, .int .i64 r2], .int .i64 0]) ∧ Below w.heap.size w w' := by
  have hu23 := Tryd.underlying23
  have hu24 := Tryd.underlying24
  have z0 : ((zs.length : Int) == 0) = false := beq_eq_false_iff_ne.mpr (by omega)
  refine callsIn_of_wp_marks Tryd.func9 rfl trivial ?_ rfl
  simp only [Tryd.ntmps9, List.size_toArray, List.length_cons, List.length_nil, Nat.reduceAdd, Nat.reduceSub, Array.replicate_succ, Array.replicate_zero, List.push_toArray, List.append_toArray, List.nil_append, List.cons_append]
  gi_wp2
  have b2 : ((w.alloc (.cells #[.int .i64 0, .int .i64 0] 23)).alloc (.cells #[.int .i64 0] 24)).heap[w.heap.size]? = some (.cells #[.int .i64 0, .int .i64 0] 23 (0, 0)) := (Below.heap_alloc _ _ _ (by simp)).trans (World.alloc_heap_new w _)
  have b3 : ((w.alloc (.cells #[.int .i64 0, .int .i64 0] 23)).alloc (.cells #[.int .i64 0] 24)).heap[w.heap.size + 1]? = some (.cells #[.int .i64 0] 24 (0, 0)) := by
    have := World.alloc_heap_new (w.alloc (.cells #[.int .i64 0, .int .i64 0] 23)) (.cells #[.int .i64 0] 24)
    rwa [World.size_alloc] at this
  have hB0 : Below w.heap.size w ((w.alloc (.cells #[.int .i64 0, .int .i64 0] 23)).alloc (.cells #[.int .i64 0] 24)) := ((Below.refl _ w).alloc (Nat.le_refl _) _).alloc (by simp) _
  have hsz : ((w.alloc (.cells #[.int .i64 0, .int .i64 0] 23)).alloc (.cells #[.int .i64 0] 24)).heap.size = w.heap.size + 2 := by simp
  obtain ⟨W1, hW1⟩ : ∃ W1, (w.alloc (.cells #[.int .i64 0, .int .i64 0] 23)).alloc (.cells #[.int .i64 0] 24) = W1 := ⟨_, rfl⟩
  rw [hW1] at b2 b3 hB0 hsz ⊢
  clear hW1
  have hC1 := Kd.C_below hC hB0
  gi_loopw [18] (fun i wr => ∃ k : Nat, k ≤ zs.length ∧ i = .int .i64 (k : Int) ∧ Below W1.heap.size W1 wr)
    (fun i _ => zs.length - (intOf i).toNat)
  case atStart => exact ⟨0, Nat.zero_le _, rfl, Below.refl _ _⟩
  case round =>
    obtain ⟨q, hq, rfl, hnx⟩ := hrel
    by_cases hlt : q < zs.length
    · obtain ⟨ad, rfl, x0⟩ := Kd.at_int (Kd.C_below hC1 hnx) (q : Int) (by omega) (by omega)
      rw [Int.toNat_natCast] at x0
      obtain ⟨o1, o2, o3⟩ := hok q hlt
      generalize rd zs (q : Int) = z at *
      have g0 : ((q : Int) < (zs.length : Int)) = True := eq_true (by omega)
      have g1 : decide ((q : Int) < (zs.length : Int)) = true := decide_eq_true (by omega)
      have g2 : (0 ≤ (q : Int)) = True := eq_true (by omega)
      have g3 : decide (1152921504606846976 < z) = false := decide_eq_false (by omega)
      have g4 : decide (z < -1152921504606846976) = false := decide_eq_false (by omega)
      by_cases hq0 : 0 < q
      · have g5 : decide (0 < (q : Int)) = true := decide_eq_true (by omega)
        have g6 : decide (z < 1) = false := decide_eq_false (by have := o3 hq0; omega)
        gi_wp2
        go_roundw
        case rel => exact ⟨q + 1, by omega, by simp, hnx⟩
        case measure => simp [intOf]; omega
      · have g5 : decide (0 < (q : Int)) = false := decide_eq_false (by omega)
        gi_wp2
        go_roundw
        case rel => exact ⟨q + 1, by omega, by simp, hnx⟩
        case measure => simp [intOf]; omega
    · obtain rfl : q = zs.length := by omega
      have g1 : decide ((zs.length : Int) < (zs.length : Int)) = false := decide_eq_false (by omega)
      obtain ⟨ad, rfl, x0⟩ := Kd.at_int (Kd.C_below hC1 hnx) ((zs.length : Int) - 1) (by omega) (by omega)
      have hC2 := Kd.C_below hC1 hnx
      have e1 : ((zs.length : Int) - 1).toNat = zs.length - 1 := by omega
      rw [e1] at x0
      generalize rd zs ((zs.length : Int) - 1) = z at *
      have p1 : (0 ≤ (zs.length : Int) - 1) = True := eq_true (by omega)
      have p2 : (1 ≤ (zs.length : Int)) = True := eq_true (by omega)
      have p3 : (1 ≤ zs.length) = True := eq_true (by omega)
      have p4 : ((zs.length : Int) - 1 < (zs.length : Int)) = True := eq_true (by omega)
      have p5 : (0 < zs.length) = True := eq_true (by omega)
      have p6 : ((zs.length : Int) - 1 ≤ (cap : Int)) = True := eq_true (by omega)
      have hb2 := (hnx.block w.heap.size (by omega)).trans b2
      have hb3 := (hnx.block (w.heap.size + 1) (by omega)).trans b3
      have hBr : Below w.heap.size w wr := hB0.trans (hnx.mono hB0.size)
      have hrs : w.heap.size + 2 ≤ wr.heap.size := by have := hnx.size; omega
      have hsp : (decide (1 < (zs.length : Int)) = true ∧ (z == 1) = false) ∨ decide (1 < (zs.length : Int)) = false := by
        by_cases hl1 : 1 < zs.length
        · exact .inl ⟨decide_eq_true (by omega), beq_eq_false_iff_ne.mpr (fun h => h1 ⟨hl1, h⟩)⟩
        · exact .inr (decide_eq_false (by omega))
      clear hC1 hok h1 hcap b2 b3 hB0 hsz hnx hq hlt
      rcases hsp with ⟨g2, g3⟩ | g2
      all_goals
        gi_wp2
        refine ⟨trivial, (callsIn_wide.2 (backward_calls (some ad) (zs.length - 1) cap (wr.alloc (.cells #[.int .i64 z, .int .i64 1] 23)))).mono ?_⟩
        rintro e W2 ⟨rfl, rfl⟩
        gi_wp2
        generalize hn : zs.length - 1 = n at *
        have hnl : n ≤ zs.length := by omega
        have bX := World.alloc_heap_new wr (.cells #[.int .i64 z, .int .i64 1] 23)
        have bS := World.alloc_heap_new (wr.alloc (.cells #[.int .i64 z, .int .i64 1] 23)) (.cells #[.slice (some ad) n cap] 31)
        rw [World.size_alloc] at bS
        have bX3 : Box2 ((wr.alloc (.cells #[.int .i64 z, .int .i64 1] 23)).alloc (.cells #[.slice (some ad) n cap] 31)) wr.heap.size (z, 1) := Box2.alloc (v := (z, 1)) bX _
        have bR3 : Box2 ((wr.alloc (.cells #[.int .i64 z, .int .i64 1] 23)).alloc (.cells #[.slice (some ad) n cap] 31)) w.heap.size (0, 0) := (Box2.alloc (v := (0, 0)) hb2 _).alloc _
        have bE3 : Box1 ((wr.alloc (.cells #[.int .i64 z, .int .i64 1] 23)).alloc (.cells #[.slice (some ad) n cap] 31)) (w.heap.size + 1) 0 := (Box1.alloc (v := 0) hb3 _).alloc _
        have hB3 : Below w.heap.size w ((wr.alloc (.cells #[.int .i64 z, .int .i64 1] 23)).alloc (.cells #[.slice (some ad) n cap] 31)) := (hBr.alloc hBr.size _).alloc (by simp; omega) _
        have bS3 := (blk_cell bS 0).trans rfl
        have hs3 : ((wr.alloc (.cells #[.int .i64 z, .int .i64 1] 23)).alloc (.cells #[.slice (some ad) n cap] 31)).heap.size = wr.heap.size + 2 := by simp
        generalize (wr.alloc (.cells #[.int .i64 z, .int .i64 1] 23)).alloc (.cells #[.slice (some ad) n cap] 31) = W3 at *
        generalize hX : wr.heap.size = X at *
        generalize ha0 : Act.mk _ _ = a0
        refine wpIn_rangeFunc_ownH rfl (by decide) (gf := 33) (lb := #[.pointer (some ⟨X + 1, 0, none⟩)]) (by rw [← ha0]; rfl) trivial (enters_of Tryd.func33 (by kernel_rfl) rfl)
          (back_stops Fence.wide (3 - 1) trivial rfl (by decide) (X + 1) (some ad) n cap zs hnl hreach w W3 hB3 (by omega) bS3 hC) Kb.trans (kb_b hB3.size (by omega)) (Below.refl _ _) (fun _ => rfl)
          (Inv w X (z, 1))
          (fun c pre W => c = .ret ∧ frac_From.go pre (z, 1) = none)
          (Inv.own w X (z, 1) _ hB3.size) (fun c s Y Z row hs _ _ => hs)
          ⟨(z, 1), rfl, bX3, bR3, bE3, hB3⟩
          (fun x a' W => a' = ((a0.put (some 61) (.int .i64 x.1)).put (some 62) (.int .i64 x.2)).put (some 9) (.int .i64 x.2))
          (fun x a' s Y Z row hs _ _ => hs)
          ?assign ?body ?done ?stop
        case assign =>
          rintro l pre x W K hI hK
          subst ha0
          simp only [enc]
          gi_wp2
          exact hK _ _ ⟨Nat.le_refl _, fun _ _ _ h _ => h⟩ (Kb.refl _ _ W) hI rfl
        case body =>
          rintro l pre x a' W hl ⟨r, hr⟩ ⟨s, h1, bX', bR', bE', hB'⟩ rfl hlt
          subst ha0
          have fX0 := (blk_cell bX' 0).trans rfl
          have fX1 := (blk_cell bX' 1).trans rfl
          obtain ⟨kk, ⟨t0, t1, te⟩, ht⟩ := htot x.2 1 s.2 s.1
          have ea := frac_From.add_eq ht
          by_cases he : te = 0
          · subst he
            gi_wp2_with (refine ⟨trivial, ?_⟩; gi_at_call 11; refine (CallsIn.inRound l (callsIn_wide.2 (frac_Add.calls kk x.2 1 s.2 s.1 t0 t1 0 _ ht))).mono ?_; rintro e w' ⟨rfl, hb⟩; have dX := bX'.below hb; have dR := bR'.below hb; have dE := bE'.below hb; have dXa := dX.alloc (.cells #[.int .i64 t0, .int .i64 t1] 23); have dRa := dR.alloc (.cells #[.int .i64 t0, .int .i64 t1] 23); have dEa := dE.alloc (.cells #[.int .i64 t0, .int .i64 t1] 23); have k0 := (blk_cell dXa 0).trans rfl; have k1 := (blk_cell dXa 1).trans rfl; have k2 := (blk_cell dRa 0).trans rfl; have k3 := (blk_cell dRa 1).trans rfl; have k4 := (blk_cell dEa 0).trans rfl; have z0 := blk_frozen dXa 0; have z1 := blk_frozen dXa 1; have z2 := blk_frozen dRa 0; have z3 := blk_frozen dRa 1; have z4 := blk_frozen dEa 0)
            have hX1 : W3.heap.size ≤ W.heap.size := Nat.le_trans hl (Nat.le_of_lt (Array.getElem?_eq_some_iff.1 hr).1)
            have hbs := hb.size
            have ko : KeepsOthers W (w'.alloc (.cells #[.int .i64 t0, .int .i64 t1] 23)) := ⟨by simp; omega, fun k o h _ => (Below.heap_alloc _ _ _ (by have := (Array.getElem?_eq_some_iff.1 h).1; omega)).trans ((hb.block k (Array.getElem?_eq_some_iff.1 h).1).trans h)⟩
            have hBa : Below W.heap.size W (w'.alloc (.cells #[.int .i64 t0, .int .i64 t1] 23)) := hb.alloc hbs _
            refine ⟨((ko.trans (KeepsOthers.setCell _ _ _)).trans (KeepsOthers.setCell _ _ _)).from _, ⟨((hBa.mono hB'.size).setCell (p := ⟨X, 0, none⟩) (by simp; omega) _).setCell (p := ⟨X, 1, none⟩) (by simp; omega) _, ?_⟩, ⟨(t0, t1), ?_, ?_, ?_, ?_, ?_⟩⟩
            · exact (Below.heap_setCell _ _ _ _ (by simp)).trans ((Below.heap_setCell _ _ _ _ (by simp)).trans ((Below.heap_alloc _ _ _ (by omega)).trans (hb.block _ (by omega))))
            · rw [frac_From.go_append, h1]
              show frac_From.go [x] s = _
              rw [frac_From.go, ea, if_pos rfl]; rfl
            · exact blk_put (blk_put dXa 0 _ rfl) 1 _ rfl
            · exact blk_far (p := ⟨X, 1, none⟩) (blk_far (p := ⟨X, 0, none⟩) dRa (by simp; omega) _) (by simp; omega) _
            · exact blk_far (p := ⟨X, 1, none⟩) (blk_far (p := ⟨X, 0, none⟩) dEa (by simp; omega) _) (by simp; omega) _
            · exact ((hB'.trans (hBa.mono hB'.size)).setCell (p := ⟨X, 0, none⟩) (by simp; omega) _).setCell (p := ⟨X, 1, none⟩) (by simp; omega) _
          · have he' : (te != 0) = true := bne_iff_ne.mpr he
            gi_wp2_with (refine ⟨trivial, ?_⟩; gi_at_call 11; refine (CallsIn.inRound l (callsIn_wide.2 (frac_Add.calls kk x.2 1 s.2 s.1 t0 t1 te _ ht))).mono ?_; rintro e w' ⟨rfl, hb⟩; have dX := bX'.below hb; have dR := bR'.below hb; have dE := bE'.below hb; have dXa := dX.alloc (.cells #[.int .i64 t0, .int .i64 t1] 23); have dRa := dR.alloc (.cells #[.int .i64 t0, .int .i64 t1] 23); have dEa := dE.alloc (.cells #[.int .i64 t0, .int .i64 t1] 23); have k0 := (blk_cell dXa 0).trans rfl; have k1 := (blk_cell dXa 1).trans rfl; have k2 := (blk_cell dRa 0).trans rfl; have k3 := (blk_cell dRa 1).trans rfl; have k4 := (blk_cell dEa 0).trans rfl; have z0 := blk_frozen dXa 0; have z1 := blk_frozen dXa 1; have z2 := blk_frozen dRa 0; have z3 := blk_frozen dRa 1; have z4 := blk_frozen dEa 0)
            have hbs := hb.size
            have ko : KeepsOthers W (w'.alloc (.cells #[.int .i64 t0, .int .i64 t1] 23)) := ⟨by simp; omega, fun k o h _ => (Below.heap_alloc _ _ _ (by have := (Array.getElem?_eq_some_iff.1 h).1; omega)).trans ((hb.block k (Array.getElem?_eq_some_iff.1 h).1).trans h)⟩
            refine ⟨?_, rfl, ?_⟩
            · repeat (first | exact ko.from _ | refine KeepsFrom.trans ?_ ((KeepsOthers.setCell _ _ _).from _))
            · rw [frac_From.go_append, h1]
              show frac_From.go [x] s = _
              rw [frac_From.go, ea, if_neg he]
        case done =>
          rintro D ys W hD rfl ⟨s, h1, bX', bR', bE', hB'⟩ hK
          subst ha0
          obtain rfl := Option.some.inj (h1.symm.trans hgo)
          have k0 := (blk_cell bX' 0).trans rfl
          have k1 := (blk_cell bX' 1).trans rfl
          have k2 := (blk_cell bR' 0).trans rfl
          have k3 := (blk_cell bR' 1).trans rfl
          have k4 := (blk_cell bE' 0).trans rfl
          have f2 := blk_frozen bR' 0
          have f3 := blk_frozen bR' 1
          have f4 := blk_frozen bE' 0
          gi_wp2
          have hK2 := (((KeepsOthers.setCell W ⟨w.heap.size, 0, none⟩ (.int .i64 r1)).trans (KeepsOthers.setCell _ ⟨w.heap.size, 1, none⟩ (.int .i64 r2))).trans (KeepsOthers.setCell _ ⟨w.heap.size + 1, 0, none⟩ (.int .i64 0))).same D _ hK rfl
          have hb3 : Below w.heap.size w (((W.setCell ⟨w.heap.size, 0, none⟩ (.int .i64 r1)).setCell ⟨w.heap.size, 1, none⟩ (.int .i64 r2)).setCell ⟨w.heap.size + 1, 0, none⟩ (.int .i64 0)) := ((hB'.setCell (p := ⟨w.heap.size, 0, none⟩) (Nat.le_refl _) _).setCell (p := ⟨w.heap.size, 1, none⟩) (Nat.le_refl _) _).setCell (p := ⟨w.heap.size + 1, 0, none⟩) (by simp) _
          have d1 : Box2 (((W.setCell ⟨w.heap.size, 0, none⟩ (.int .i64 r1)).setCell ⟨w.heap.size, 1, none⟩ (.int .i64 r2)).setCell ⟨w.heap.size + 1, 0, none⟩ (.int .i64 0)) w.heap.size (r1, r2) := blk_far (p := ⟨w.heap.size + 1, 0, none⟩) (blk_put (blk_put bR' 0 _ rfl) 1 _ rfl) (by simp) _
          have d2 : Box1 (((W.setCell ⟨w.heap.size, 0, none⟩ (.int .i64 r1)).setCell ⟨w.heap.size, 1, none⟩ (.int .i64 r2)).setCell ⟨w.heap.size + 1, 0, none⟩ (.int .i64 0)) (w.heap.size + 1) 0 := blk_put (blk_far (p := ⟨w.heap.size, 1, none⟩) (blk_far (p := ⟨w.heap.size, 0, none⟩) bE' (by simp) _) (by simp) _) 0 _ rfl
          have hDs : w.heap.size + 2 ≤ D := by omega
          generalize ((W.setCell ⟨w.heap.size, 0, none⟩ (.int .i64 r1)).setCell ⟨w.heap.size, 1, none⟩ (.int .i64 r2)).setCell ⟨w.heap.size + 1, 0, none⟩ (.int .i64 0) = W5 at *
          have e1 : (W5.putObj D (.deferred none)).heap[w.heap.size]? = some (.cells #[.int .i64 r1, .int .i64 r2] 23 (0, 0)) := (World.putObj_heap_other (by omega)).trans d1
          have e2 : (W5.putObj D (.deferred none)).heap[w.heap.size + 1]? = some (.cells #[.int .i64 0] 24 (0, 0)) := (World.putObj_heap_other (by omega)).trans d2
          refine ⟨by simp, .inl ⟨_, _, rfl, run_takeDeferred hK2, ?_⟩⟩
          exact ⟨_, results_cc rfl _ _ w.heap.size (w.heap.size + 1) 23 #[.int .i64 r1, .int .i64 r2] (0, 0) _ (.int .i64 0) rfl rfl e1 Tryd.underlying23 rfl (by kernel_rfl) (loadVar_int Tryd.underlying24 (blk_cell e2 0)), rfl, hb3.trans (belowK_b (w := w) (Nat.le_refl _) _ D _ _ (by omega) hK2 rfl rfl)⟩
        case stop =>
          rintro D c pre W hD ⟨r, hr⟩ ⟨rfl, hnone⟩ hK
          exfalso
          rw [← hr, frac_From.go_append, hnone] at hgo
          cases hgo
end FFr
theorem frac_From.calls (k : Nat) (A0 : Option Addr) (c0 : Nat) (l0 : List Int) (r1 : Int) (r2 : Int) (r3 : Int) (w : World) (hr0 : Kd.C (Kd.int .i64) w A0 l0.length l0) (hc0 : l0.length ≤ c0) (h : frac_From.f k l0 = some (r1, r2, r3)) :
    Calls Tryd.prog 9 #[.slice A0 l0.length c0] w fun e w' => e = .returned (.tuple #[.agg #[.int .i64 r1, .int .i64 r2], .int .i64 r3]) ∧ Below w.heap.size w w' := by
  unfold frac_From.f at h
  split at h
  case isFalse => cases h
  split at h
  case isFalse => cases h
  split at h
  case isFalse => cases h
  split at h
  case isTrue => cases h
  rename_i ht hpos hok h1
  obtain ⟨s, hs, h⟩ := Option.bind_eq_some_iff.mp h
  simp only [Option.some.injEq, Prod.mk.injEq] at h
  obtain ⟨rfl, rfl, rfl⟩ := h
  have hlen : l0.length ≤ 9223372036854775807 := by
    have := hr0.2.1
    first | omega | (unfold maxLen at this; omega)
  exact callsIn_wide.1 (FFr.from_in ht A0 c0 l0 s.1 s.2 w hr0 hc0 hlen hpos hok h1 hs)

end Go.Proofs.YtoplbhohaaielaaDoor.Q
