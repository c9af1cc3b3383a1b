/- Contracts of Go functions of the seat, one by one: each call returns what the Lean function of the same name says, wherever that is 'some'; no other condition. Written by a program of this session. -/
import Derived.Test.YtpophefonhpnmaaKBoundIncludesQx0
import Derived.Test.YtpophefonhpnmaaKBoundIncludesQx21
import Derived.Test.YtpophefonhpnmaaKBoundIncludesQx22
import Derived.LoopIn
import Derived.LoopNIn
import Derived.OwnWalkIn
import Derived.RangeFuncBound
import Derived.RangeFuncCalls
import Derived.RangeFuncLeaves
import Derived.RangeFuncNested
import Derived.Shelf.Abstract
import Derived.Shelf.RegionOpen
import Derived.TacticsInMore
import Derived.WalkKit
namespace Go.Proofs.Ytpophefonhpnmaa.Q
open Go.RowKit Go.Proofs.YtpophefonhpnmaaW.PrintWords Go.Proofs.YtpophefonhpnmaaW.PrintLast Go.Proofs.YtpophefonhpnmaaW.PrintMore
attribute [local go_sem] max2_int min2_int max_two min_two max_three min_three max_four min_four   -- for this text's walks alone
set_option linter.unusedVariables false
set_option linter.unusedSimpArgs false

/-! ### bound_Sum_api_Fix: function 46 -/
-- IMPORTS: Derived.RangeFuncNested Derived.RangeFuncBound Derived.RangeFuncCalls Derived.RangeFuncLeaves Derived.Shelf.Abstract Derived.Shelf.RegionOpen Derived.WalkKit Derived.OwnWalkIn Derived.TacticsInMore Derived.LoopNIn Derived.LoopIn
namespace RFapi_Fix
open Go.Proofs Go.RowKit Go.Shelf Go.Proofs.Ytpophefonhpnmaa.Q Go.Proofs.YtpophefonhpnmaaW.PrintWords Go.Proofs.YtpophefonhpnmaaW.PrintLast Go.Proofs.YtpophefonhpnmaaW.PrintMore
attribute [local go_sem] Oper.semAt_some
theorem rf_tcheck (lo hi : Int) (u : Bool) : ∃ e, bound_Check_api_Fix.f (0 + 1 + 1 + 1) lo hi u = some e := by
  unfold bound_Check_api_Fix.f
  simp only [bound_Check_api_Fix.j0, bound_Check_api_Fix.j1]
  repeat' split
  all_goals exact ⟨_, rfl⟩
theorem rf_tnorm (lo hi : Int) (u : Bool) : ∃ e, bound_Norm_api_Fix.f (0 + 1 + 1 + 1) lo hi u = some e := by
  obtain ⟨e, he⟩ := rf_tcheck lo hi u
  unfold bound_Norm_api_Fix.f
  rw [he]
  simp only [Option.bind_some, bound_None_api_Fix.f]
  repeat' split
  all_goals exact ⟨_, rfl⟩
theorem rf_tvague (lo hi : Int) (u : Bool) (lo2 hi2 : Int) (u2 : Bool) : ∃ e, bound_vague_api_Fix.f (0 + 1 + 1 + 1) lo hi u lo2 hi2 u2 = some e := by
  obtain ⟨e, he⟩ := rf_tnorm lo hi u
  obtain ⟨e2, he2⟩ := rf_tnorm lo2 hi2 u2
  unfold bound_vague_api_Fix.f
  rw [he]
  simp only [Option.bind_some, he2]
  repeat' split
  all_goals exact ⟨_, rfl⟩
theorem rf_tadd (lo hi : Int) (u : Bool) (lo2 hi2 : Int) (u2 : Bool) : ∃ e, bound_Add_api_Fix.f (0 + 1 + 1 + 1) lo hi u lo2 hi2 u2 = some e := by
  obtain ⟨e, he⟩ := rf_tvague lo hi u lo2 hi2 u2
  unfold bound_Add_api_Fix.f bound_Of_api_Fix.f
  rw [he]
  simp only [Option.bind_some, bound_None_api_Fix.f]
  split
  · exact ⟨_, rfl⟩
  · obtain ⟨e3, he3⟩ := rf_tnorm (wrap64 (lo + lo2)) (wrap64 (hi + hi2)) false
    rw [he3]; exact ⟨_, rfl⟩
def rf_enc (x : S56) : Value := .agg #[.int .i64 x.f0, .int .i64 x.f1, .bool x.f2]
theorem rf_take_snoc (zs : List S56) (k : Nat) (h : k < zs.length) : zs.take (k + 1) = zs.take k ++ [rd_T56 zs (k : Int)] := by
  rw [List.take_succ_eq_append_getElem h]
  unfold rd_T56
  rw [Int.toNat_natCast, List.getD_eq_getElem?_getD, List.getElem?_eq_getElem h]; rfl
set_option maxRecDepth 100000 in
set_option maxHeartbeats 4000000 in
theorem rf_values1_in (F : Fence) (n : Nat) (hF : F.fn 150) (hro : F.round = none) (hn : 1 ≤ n) (l Bs n₀ : Nat) (A : Option Addr) (cap : Nat) (zs : List S56) (hreach : zs.length ≤ 9223372036854775807) (J Jx : List S56 → World → Prop)
    (hJ : ∀ s W W', J s W → W.grownBy W' none → J s W')
    (hY : ∀ pre x W, J pre W → pre.length < zs.length → YieldAt F (n - 1) Try.prog l #[rf_enc x] W fun e W' =>
      (e = .returned (.bool true) ∧ J (pre ++ [x]) W' ∧ Below n₀ W W') ∨ (e = .returned (.bool false) ∧ Jx (pre ++ [x]) W'))
    (W0 W : World) (hW0 : n₀ = W0.heap.size) (hW : Below n₀ W0 W) (hBs : W.cell? ⟨Bs, 0, none⟩ = some (.slice A zs.length cap)) (hC : Kd.C k56 W0 A zs.length zs) (h0 : J [] W) :
    CallsIn F n Try.prog 150 #[.func (.yield l) #[] #[], .pointer (some ⟨Bs, 0, none⟩)] W fun e W' => (∃ v, e = .returned v) ∧
      ((∃ ys, ys = zs ∧ J ys W') ∨ (∃ pre, pre <+: zs ∧ Jx pre W')) := by
  refine callsIn_of_wp Try.func150 rfl hF ?_ hro
  simp only [Try.ntmps150, List.size_toArray, List.length_cons, List.length_nil, Nat.reduceAdd, Nat.reduceSub, Array.replicate_succ, Array.replicate_zero, List.push_toArray, List.append_toArray, List.nil_append, List.cons_append]
  have hu56 := Try.underlying56
  gi_wp2
  gi_loopw [7] (fun i wr => ∃ k : Nat, k ≤ zs.length ∧ i = .int .i64 k ∧ J (zs.take k) wr ∧ Below n₀ W wr)
    (fun i _ => zs.length - (intOf i).toNat)
  case atStart => exact ⟨0, Nat.zero_le _, rfl, by simpa using h0, Below.refl _ _⟩
  case round =>
    obtain ⟨k, hk, rfl, hJs, hnx⟩ := hrel
    by_cases hlt : k < zs.length
    · obtain ⟨ad, rfl, x0, x1, x2⟩ := at_T56 hC (k : Int) (by omega) (by omega)
      have hb : ad.block < n₀ := by have := World.block_lt_of_cell? _ _ x0; rw [add_block] at this; omega
      have hnx' := hW.trans hnx
      rw [Int.toNat_natCast] at x0 x1 x2
      have y0 := (hnx'.cell (p := ad.add (k * 3)) (by rw [add_block]; exact hb)).trans x0
      have y1 := (hnx'.cell (p := ⟨(ad.add (k * 3)).block, (ad.add (k * 3)).off + 1, none⟩) (by rw [add_block]; exact hb)).trans x1
      have y2 := (hnx'.cell (p := ⟨(ad.add (k * 3)).block, (ad.add (k * 3)).off + 2, none⟩) (by rw [add_block]; exact hb)).trans x2
      have hs := rf_take_snoc zs k hlt
      generalize rd_T56 zs (k : Int) = z at *
      obtain ⟨fn, tmps, assign, body, hy, hR⟩ := hY _ z (wr.alloc (.cells #[.int .i64 z.f0, .int .i64 z.f1, .bool z.f2] 56)) (hJ _ _ _ hJs (World.grownBy_alloc _ _ none)) (by simp; omega)
      dsimp only [rf_enc] at hy
      gi_wp2
      refine hR.mono ?_
      rintro e W3 (⟨rfl, hJ3, hk3⟩ | ⟨rfl, hJx3⟩)
      · gi_wp2
        go_roundw
        case rel => exact ⟨k + 1, by omega, by simp, by rw [hs]; exact hJ3, (hnx.trans ((Below.refl n₀ wr).alloc (by have := hnx'.size; omega) _)).trans hk3⟩
        case measure => simp [intOf]; omega
      · gi_wp2
        refine bodyPost_ret (results_none rfl _ _ _) rfl ?_
        exact ⟨⟨_, rfl⟩, .inr ⟨_, (by rw [← hs]; exact List.take_prefix _ _), hJx3⟩⟩
    · obtain rfl : k = zs.length := by omega
      gi_wp2
      go_end0
      exact ⟨⟨_, rfl⟩, .inl ⟨_, rfl, by rw [List.take_length] at hJs; exact hJs⟩⟩

theorem rf_values_stops (F : Fence) (n : Nat) (h : F.fn 150) (hro : F.round = none) (hn : 1 ≤ n) (Bs : Nat) (A : Option Addr) (cap : Nat) (zs : List S56) (hreach : zs.length ≤ 9223372036854775807) (W0 w : World) (hW : Below W0.heap.size W0 w) (hlt : Bs < w.heap.size)
    (hBs : w.cell? ⟨Bs, 0, none⟩ = some (.slice A zs.length cap)) (hC : Kd.C k56 W0 A zs.length zs) :
    SeqStopsK F n Try.prog 150 #[.pointer (some ⟨Bs, 0, none⟩)] (fun x : S56 => #[rf_enc x]) (Below W0.heap.size) (fun ys => ys = zs) (fun pre => pre <+: zs) zs.length w := fun l J Jx W hw hJ _ hY h0 => by
  refine rf_values1_in F n h hro hn l Bs W0.heap.size A cap zs hreach J Jx (fun s X Y hs hg => hJ s X Y none hs hg (fun r e => by cases e)) hY W0 W rfl (hW.trans (hw.mono hW.size)) ((hw.cell (p := ⟨Bs, 0, none⟩) hlt).trans hBs) hC h0
theorem rf_values_calls (A : Option Addr) (len cap : Nat) (w : World) :
    Calls Try.prog 110 #[.slice A len cap] w fun e w' => e = .returned (.func (.func 150) #[] #[.pointer (some ⟨w.heap.size, 0, none⟩)]) ∧ w' = w.alloc (.cells #[.slice A len cap] 54) := by
  go_enter Try.func110, Try.ntmps110
  go_wp2
  go_ret
  exact ⟨rfl, rfl⟩
/-- One step of a sum. -/
def rf_addv (s : Int × Int × Bool) (b : S56) : Int × Int × Bool := (bound_Add_api_Fix.f (0 + 1 + 1 + 1) s.1 s.2.1 s.2.2 b.f0 b.f1 b.f2).getD (0, 0, true)
def rf_acc (l : List S56) : Int × Int × Bool := l.foldl rf_addv (0, 0, false)
/-- The sum, up to the first one that is unknown. -/
def rf_totv : List S56 → Int × Int × Bool → Int × Int × Bool
  | [], s => s
  | b :: r, s => if (rf_addv s b).2.2 = true then rf_addv s b else rf_totv r (rf_addv s b)
theorem rf_acc_snoc (l : List S56) (b : S56) : rf_acc (l ++ [b]) = rf_addv (rf_acc l) b := by simp [rf_acc]
/-- All beginnings are known. -/
def rf_okp (l : List S56) : Prop := ∀ p, p <+: l → (rf_acc p).2.2 = false
theorem rf_tot_pre (rest : List S56) : ∀ (pre done : List S56), (∀ p, p <+: done ++ pre → (rf_acc p).2.2 = false) → rf_totv (pre ++ rest) (rf_acc done) = rf_totv rest (rf_acc (done ++ pre)) := by
  intro pre
  induction pre with
  | nil => intro done _; simp
  | cons b pre ih =>
    intro done h
    have e := rf_acc_snoc done b
    have k : (rf_acc (done ++ [b])).2.2 = false := h _ ⟨pre, by simp⟩
    rw [List.cons_append, rf_totv, ← e, if_neg (by simp [k])]
    rw [ih (done ++ [b]) (by simpa using h)]
    simp
theorem rf_tot_all {zs : List S56} (h : rf_okp zs) : rf_totv zs (0, 0, false) = rf_acc zs := by
  have := rf_tot_pre [] zs [] (fun p hp => h p (by simpa using hp))
  simpa [rf_totv, rf_acc] using this
theorem rf_tot_stop {zs pre : List S56} {b : S56} (hp : pre ++ [b] <+: zs) (h : rf_okp pre) (hu : (rf_acc (pre ++ [b])).2.2 = true) : rf_totv zs (0, 0, false) = rf_acc (pre ++ [b]) := by
  obtain ⟨r, rfl⟩ := hp
  have := rf_tot_pre ([b] ++ r) pre [] (fun p hp => h p (by simpa using hp))
  rw [List.append_assoc]
  rw [show rf_totv (pre ++ ([b] ++ r)) (0, 0, false) = rf_totv (pre ++ ([b] ++ r)) (rf_acc []) from rfl, this, List.nil_append, List.singleton_append, rf_totv, ← rf_acc_snoc, if_pos hu]
/-- A block of a bound. -/
def rf_Box3 (W : World) (B : Nat) (v : Int × Int × Bool) : Prop := W.heap[B]? = some (.cells #[.int .i64 v.1, .int .i64 v.2.1, .bool v.2.2] 56 (0, 0))
theorem rf_Box3.lt {W : World} {B : Nat} {v : Int × Int × Bool} (h : rf_Box3 W B v) : B < W.heap.size := (Array.getElem?_eq_some_iff.1 h).1
theorem rf_Box3.kept {W W' : World} {row : Option Nat} {B : Nat} {v : Int × Int × Bool} (h : rf_Box3 W B v) (hg : W.grownBy W' row) (hne : some B ≠ row) : rf_Box3 W' B v := (hg.block B h.lt hne).trans h
theorem rf_Box3.alloc {W : World} {B : Nat} {v : Int × Int × Bool} (h : rf_Box3 W B v) (o : Obj) : rf_Box3 (W.alloc o) B v := h.kept (World.grownBy_alloc W o none) (by simp)
theorem rf_Box3.below {W W' : World} {B : Nat} {v : Int × Int × Bool} (h : rf_Box3 W B v) (hb : Below W.heap.size W W') : rf_Box3 W' B v := (hb.block B h.lt).trans h
theorem rf_box3_own {β : Type} (B : Nat) (f : β → Int × Int × Bool) : Own (fun s W => rf_Box3 W B (f s)) := fun s X Y row hs hg hrow =>
  hs.kept hg (fun e' => by obtain ⟨o, ho, hc⟩ := hrow B e'.symm; rw [show X.heap[B]? = _ from hs] at ho; cases ho; cases hc)

set_option maxRecDepth 100000 in
set_option maxHeartbeats 4000000 in
theorem rf_total_in (Bs : Nat) (A : Option Addr) (cap : Nat) (zs : List S56) (hreach : zs.length ≤ 9223372036854775807) (W0 w : World) (hW : Below W0.heap.size W0 w) (hlt : Bs < w.heap.size)
    (hBs : w.cell? ⟨Bs, 0, none⟩ = some (.slice A zs.length cap)) (hC : Kd.C k56 W0 A zs.length zs) :
    CallsIn Fence.wide 3 Try.prog 109 #[.func (.func 150) #[] #[.pointer (some ⟨Bs, 0, none⟩)]] w fun e w' => e = .returned (.agg #[.int .i64 (rf_totv zs (0, 0, false)).1, .int .i64 (rf_totv zs (0, 0, false)).2.1, .bool (rf_totv zs (0, 0, false)).2.2]) ∧ Below w.heap.size w w' := by
  have hu56 := Try.underlying56
  refine callsIn_of_wp_marks Try.func109 rfl trivial ?_ rfl
  simp only [Try.ntmps109, List.size_toArray, List.length_cons, List.length_nil, Nat.reduceAdd, Nat.reduceSub, Array.replicate_succ, Array.replicate_zero, List.push_toArray, List.append_toArray, List.nil_append, List.cons_append]
  gi_wp2
  have b2 : rf_Box3 ((w.alloc (.cells #[.int .i64 0, .int .i64 0, .bool false] 56)).alloc (.cells #[.int .i64 0, .int .i64 0, .bool false] 56)) w.heap.size (0, 0, false) := rf_Box3.alloc (v := (0, 0, false)) (World.alloc_heap_new w _) _
  have b3 : rf_Box3 ((w.alloc (.cells #[.int .i64 0, .int .i64 0, .bool false] 56)).alloc (.cells #[.int .i64 0, .int .i64 0, .bool false] 56)) (w.heap.size + 1) (0, 0, false) := by
    have := World.alloc_heap_new (w.alloc (.cells #[.int .i64 0, .int .i64 0, .bool false] 56)) (.cells #[.int .i64 0, .int .i64 0, .bool false] 56)
    rwa [World.size_alloc] at this
  have hB0 : Below w.heap.size w ((w.alloc (.cells #[.int .i64 0, .int .i64 0, .bool false] 56)).alloc (.cells #[.int .i64 0, .int .i64 0, .bool false] 56)) := ((Below.refl _ w).alloc (Nat.le_refl _) _).alloc (by simp) _
  have hsz : ((w.alloc (.cells #[.int .i64 0, .int .i64 0, .bool false] 56)).alloc (.cells #[.int .i64 0, .int .i64 0, .bool false] 56)).heap.size = w.heap.size + 2 := by simp
  obtain ⟨W1, hW1⟩ : ∃ W1, (w.alloc (.cells #[.int .i64 0, .int .i64 0, .bool false] 56)).alloc (.cells #[.int .i64 0, .int .i64 0, .bool false] 56) = W1 := ⟨_, rfl⟩
  rw [hW1] at b2 b3 hB0 hsz ⊢
  clear hW1
  have hws := hW.size
  have fini : ∀ (W : World) (D : Nat) (s : Int × Int × Bool), W1.heap.size ≤ D → rf_Box3 W w.heap.size (0, 0, false) → Below w.heap.size w W → (((W.setCell ⟨w.heap.size, 0, none⟩ (.int .i64 s.1)).setCell ⟨w.heap.size, 1, none⟩ (.int .i64 s.2.1)).setCell ⟨w.heap.size, 2, none⟩ (.bool s.2.2)).heap[D]? = some (.deferred (some [])) →
      ((((W.setCell ⟨w.heap.size, 0, none⟩ (.int .i64 s.1)).setCell ⟨w.heap.size, 1, none⟩ (.int .i64 s.2.1)).setCell ⟨w.heap.size, 2, none⟩ (.bool s.2.2)).putObj D (.deferred none)).heap[w.heap.size]? = some (.cells #[.int .i64 s.1, .int .i64 s.2.1, .bool s.2.2] 56 (0, 0)) ∧
      Below w.heap.size w ((((W.setCell ⟨w.heap.size, 0, none⟩ (.int .i64 s.1)).setCell ⟨w.heap.size, 1, none⟩ (.int .i64 s.2.1)).setCell ⟨w.heap.size, 2, none⟩ (.bool s.2.2)).putObj D (.deferred none)) := by
    intro W D s hD c2 hB1 hK2
    have hb3 : Below w.heap.size w (((W.setCell ⟨w.heap.size, 0, none⟩ (.int .i64 s.1)).setCell ⟨w.heap.size, 1, none⟩ (.int .i64 s.2.1)).setCell ⟨w.heap.size, 2, none⟩ (.bool s.2.2)) := ((hB1.setCell (p := ⟨w.heap.size, 0, none⟩) (Nat.le_refl _) _).setCell (p := ⟨w.heap.size, 1, none⟩) (Nat.le_refl _) _).setCell (p := ⟨w.heap.size, 2, none⟩) (Nat.le_refl _) _
    have hx : (((W.setCell ⟨w.heap.size, 0, none⟩ (.int .i64 s.1)).setCell ⟨w.heap.size, 1, none⟩ (.int .i64 s.2.1)).setCell ⟨w.heap.size, 2, none⟩ (.bool s.2.2)).heap[w.heap.size]? = some (.cells #[.int .i64 s.1, .int .i64 s.2.1, .bool s.2.2] 56 (0, 0)) := blk_put (blk_put (blk_put c2 0 _ rfl) 1 _ rfl) 2 _ rfl
    refine ⟨(World.putObj_heap_other (by omega)).trans hx, hb3.trans (belowK_b (w := w) (Nat.le_refl _) _ D _ _ (by omega) hK2 rfl rfl)⟩
  refine wpIn_rangeFunc_ownH rfl (by decide) (gf := 150) (lb := #[.pointer (some ⟨Bs, 0, none⟩)]) rfl trivial (enters_of Try.func150 (by kernel_rfl) rfl)
    (rf_values_stops Fence.wide (3 - 1) trivial rfl (by decide) Bs A cap zs hreach W0 W1 (hW.trans (hB0.mono hws)) (by omega) ((hB0.cell (p := ⟨Bs, 0, none⟩) hlt).trans hBs) hC) belowK_t (belowK_b (by omega)) (Below.refl _ _) (fun _ => rfl)
    (fun pre W => ((rf_Box3 W (w.heap.size + 1) (rf_acc pre) ∧ rf_Box3 W w.heap.size (0, 0, false)) ∧ Below w.heap.size w W) ∧ rf_okp pre)
    (fun c pre W => ((rf_Box3 W (w.heap.size + 1) (rf_acc pre) ∧ rf_Box3 W w.heap.size (0, 0, false)) ∧ Below w.heap.size w W) ∧ (c = .exit 0 ∧ ∃ q b, pre = q ++ [b] ∧ rf_okp q ∧ (rf_acc pre).2.2 = true))
    (OwnFrom.and (OwnFrom.and (OwnFrom.and (Own.from (rf_box3_own _ _) _) (Own.from (rf_box3_own _ _) _)) (ownFrom_below (Nat.le_refl _) (by omega))) (fun _ _ _ _ h _ _ => h))
    (fun c => OwnFrom.and (OwnFrom.and (OwnFrom.and (Own.from (rf_box3_own _ _) _) (Own.from (rf_box3_own _ _) _)) (ownFrom_below (Nat.le_refl _) (by omega))) (fun _ _ _ _ h _ _ => h))
    ⟨⟨⟨b3, b2⟩, hB0⟩, by intro p hp; rw [List.prefix_nil.mp hp]; rfl⟩
    (fun x a' W => ∃ Bx, w.heap.size + 1 < Bx ∧ rf_Box3 W Bx (x.f0, x.f1, x.f2) ∧ a' = { tmps := #[.func (.func 150) #[] #[.pointer (some ⟨Bs, 0, none⟩)], undef, .pointer (some ⟨w.heap.size, 0, none⟩), .pointer (some ⟨w.heap.size + 1, 0, none⟩), .pointer (some ⟨Bx, 0, none⟩), .func (.func 150) #[] #[.pointer (some ⟨Bs, 0, none⟩)], rf_enc x, undef, undef, undef, undef, undef, undef], defers := [] })
    (fun x a' _ X Y row hs hg hr => by obtain ⟨Bx, h1, h2, h3⟩ := hs; exact ⟨Bx, h1, rf_box3_own Bx (fun (_ : Unit) => (x.f0, x.f1, x.f2)) () X Y row h2 hg (fun r e => (hr r e).2), h3⟩)
    ?assign ?body ?done ?stop
  case assign =>
    rintro l pre x W K ⟨⟨⟨c3, c2⟩, hB1⟩, hk⟩ hK
    have hs1 := hB1.size
    simp only [rf_enc]
    gi_wp2
    exact hK _ _ ((KeepsOthers.alloc _ _).from _) ((Below.refl _ W).alloc (by omega) _) ⟨⟨⟨c3.alloc _, c2.alloc _⟩, hB1.alloc hs1 _⟩, hk⟩ ⟨W.heap.size, c3.lt, World.alloc_heap_new W _, rfl⟩
  case body =>
    rintro l pre x a' W hl ⟨r, hr⟩ ⟨⟨⟨c3, c2⟩, hB1⟩, hk⟩ ⟨Bx, hBx, bX, rfl⟩ hlt
    obtain ⟨t, ht⟩ := rf_tadd (rf_acc pre).1 (rf_acc pre).2.1 (rf_acc pre).2.2 x.f0 x.f1 x.f2
    have et : rf_acc (pre ++ [x]) = t := by rw [rf_acc_snoc]; unfold rf_addv; rw [ht]; rfl
    have hs1 := hB1.size
    have f30 := (blk_cell c3 0).trans rfl
    have f31 := (blk_cell c3 1).trans rfl
    have f32 := (blk_cell c3 2).trans rfl
    have fx0 := (blk_cell bX 0).trans rfl
    have fx1 := (blk_cell bX 1).trans rfl
    have fx2 := (blk_cell bX 2).trans rfl
    obtain ⟨t0, t1, t2⟩ := t
    have fin : ∀ W2 : World, Below W.heap.size W W2 → KeepsFrom W1.heap.size W (((W2.setCell ⟨w.heap.size + 1, 0, none⟩ (.int .i64 t0)).setCell ⟨w.heap.size + 1, 1, none⟩ (.int .i64 t1)).setCell ⟨w.heap.size + 1, 2, none⟩ (.bool t2)) ∧ Below W0.heap.size W (((W2.setCell ⟨w.heap.size + 1, 0, none⟩ (.int .i64 t0)).setCell ⟨w.heap.size + 1, 1, none⟩ (.int .i64 t1)).setCell ⟨w.heap.size + 1, 2, none⟩ (.bool t2)) ∧
        ((rf_Box3 (((W2.setCell ⟨w.heap.size + 1, 0, none⟩ (.int .i64 t0)).setCell ⟨w.heap.size + 1, 1, none⟩ (.int .i64 t1)).setCell ⟨w.heap.size + 1, 2, none⟩ (.bool t2)) (w.heap.size + 1) (rf_acc (pre ++ [x])) ∧ rf_Box3 (((W2.setCell ⟨w.heap.size + 1, 0, none⟩ (.int .i64 t0)).setCell ⟨w.heap.size + 1, 1, none⟩ (.int .i64 t1)).setCell ⟨w.heap.size + 1, 2, none⟩ (.bool t2)) w.heap.size (0, 0, false)) ∧ Below w.heap.size w (((W2.setCell ⟨w.heap.size + 1, 0, none⟩ (.int .i64 t0)).setCell ⟨w.heap.size + 1, 1, none⟩ (.int .i64 t1)).setCell ⟨w.heap.size + 1, 2, none⟩ (.bool t2))) := by
      intro W2 hb
      have d3 := c3.below hb
      have d2 := c2.below hb
      have ko : KeepsOthers W W2 := ⟨hb.size, fun k o h _ => (hb.block k (Array.getElem?_eq_some_iff.1 h).1).trans h⟩
      refine ⟨(((ko.trans (KeepsOthers.setCell _ _ _)).trans (KeepsOthers.setCell _ _ _)).trans (KeepsOthers.setCell _ _ _)).from _, (((hb.mono (by omega)).setCell (p := ⟨w.heap.size + 1, 0, none⟩) (by simp; omega) _).setCell (p := ⟨w.heap.size + 1, 1, none⟩) (by simp; omega) _).setCell (p := ⟨w.heap.size + 1, 2, none⟩) (by simp; omega) _, ⟨?_, ?_⟩, (((hB1.trans (hb.mono hs1)).setCell (p := ⟨w.heap.size + 1, 0, none⟩) (by simp) _).setCell (p := ⟨w.heap.size + 1, 1, none⟩) (by simp) _).setCell (p := ⟨w.heap.size + 1, 2, none⟩) (by simp) _⟩
      · rw [et]; exact blk_put (blk_put (blk_put d3 0 _ rfl) 1 _ rfl) 2 _ rfl
      · exact blk_far (p := ⟨w.heap.size + 1, 2, none⟩) (blk_far (p := ⟨w.heap.size + 1, 1, none⟩) (blk_far (p := ⟨w.heap.size + 1, 0, none⟩) d2 (by simp) _) (by simp) _) (by simp) _
    have two : t2 = true ∨ t2 = false := by cases t2 <;> simp
    rcases two with rfl | rfl
    · gi_wp2_with (refine ⟨trivial, ?_⟩; gi_at_call 34; refine (CallsIn.inRound l (callsIn_wide.2 (bound_Add_api_Fix.calls (0 + 1 + 1 + 1) (rf_acc pre).1 (rf_acc pre).2.1 (rf_acc pre).2.2 x.f0 x.f1 x.f2 t0 t1 true _ ht))).mono ?_; rintro e w' ⟨rfl, hb⟩; have d3 := c3.below hb; have d2 := c2.below hb; have dx := bX.below hb; have k30 := (blk_cell d3 0).trans rfl; have k31 := (blk_cell d3 1).trans rfl; have k32 := (blk_cell d3 2).trans rfl; have z30 := blk_frozen d3 0; have z31 := blk_frozen d3 1; have z32 := blk_frozen d3 2)
      obtain ⟨g1, g2, g3⟩ := fin _ hb
      exact ⟨g1, g3, rfl, pre, x, rfl, hk, by rw [et]⟩
    · gi_wp2_with (refine ⟨trivial, ?_⟩; gi_at_call 34; refine (CallsIn.inRound l (callsIn_wide.2 (bound_Add_api_Fix.calls (0 + 1 + 1 + 1) (rf_acc pre).1 (rf_acc pre).2.1 (rf_acc pre).2.2 x.f0 x.f1 x.f2 t0 t1 false _ ht))).mono ?_; rintro e w' ⟨rfl, hb⟩; have d3 := c3.below hb; have d2 := c2.below hb; have dx := bX.below hb; have k30 := (blk_cell d3 0).trans rfl; have k31 := (blk_cell d3 1).trans rfl; have k32 := (blk_cell d3 2).trans rfl; have z30 := blk_frozen d3 0; have z31 := blk_frozen d3 1; have z32 := blk_frozen d3 2)
      obtain ⟨g1, g2, g3⟩ := fin _ hb
      refine ⟨g1, g2, g3, ?_⟩
      intro p hp
      rcases List.prefix_concat_iff.mp hp with rfl | h
      · rw [et]
      · exact hk p h
  case done =>
    rintro D ys W hD rfl ⟨⟨⟨c3, c2⟩, hB1⟩, hk⟩ hK
    have f30 := (blk_cell c3 0).trans rfl
    have f31 := (blk_cell c3 1).trans rfl
    have f32 := (blk_cell c3 2).trans rfl
    have k20 := (blk_cell c2 0).trans rfl
    have k21 := (blk_cell c2 1).trans rfl
    have k22 := (blk_cell c2 2).trans rfl
    have z20 := blk_frozen c2 0
    have z21 := blk_frozen c2 1
    have z22 := blk_frozen c2 2
    gi_wp2
    have hK2 := ((((KeepsOthers.setCell W ⟨w.heap.size, 0, none⟩ (.int .i64 (rf_acc ys).1)).trans (KeepsOthers.setCell _ ⟨w.heap.size, 1, none⟩ (.int .i64 (rf_acc ys).2.1))).trans (KeepsOthers.setCell _ ⟨w.heap.size, 2, none⟩ (.bool (rf_acc ys).2.2)))).same D _ hK rfl
    refine ⟨by simp, .inl ⟨_, _, rfl, run_takeDeferred hK2, ?_⟩⟩
    obtain ⟨e1, e2⟩ := fini W D (rf_acc ys) hD c2 hB1 hK2
    rw [rf_tot_all hk]
    exact ⟨_, results_cell_row rfl _ _ w.heap.size 56 #[.int .i64 (rf_acc ys).1, .int .i64 (rf_acc ys).2.1, .bool (rf_acc ys).2.2] (0, 0) _ rfl e1 Try.underlying56 rfl (by kernel_rfl), rfl, e2⟩
  case stop =>
    rintro D c pre W hD hp ⟨⟨⟨c3, c2⟩, hB1⟩, rfl, q, b, rfl, hq, hu⟩ hK
    have f30 := (blk_cell c3 0).trans rfl
    have f31 := (blk_cell c3 1).trans rfl
    have f32 := (blk_cell c3 2).trans rfl
    have k20 := (blk_cell c2 0).trans rfl
    have k21 := (blk_cell c2 1).trans rfl
    have k22 := (blk_cell c2 2).trans rfl
    have z20 := blk_frozen c2 0
    have z21 := blk_frozen c2 1
    have z22 := blk_frozen c2 2
    have ts := rf_tot_stop hp hq hu
    have TS := Aside0.mk ts
    clear ts hu
    generalize rf_acc (q ++ [b]) = s at *
    gi_wp2
    rw [TS.out]
    have hK2 := ((((KeepsOthers.setCell W ⟨w.heap.size, 0, none⟩ (.int .i64 s.1)).trans (KeepsOthers.setCell _ ⟨w.heap.size, 1, none⟩ (.int .i64 s.2.1))).trans (KeepsOthers.setCell _ ⟨w.heap.size, 2, none⟩ (.bool s.2.2)))).same D _ hK rfl
    refine ⟨by simp, .inl ⟨_, _, rfl, run_takeDeferred hK2, ?_⟩⟩
    obtain ⟨e1, e2⟩ := fini W D s hD c2 hB1 hK2
    exact ⟨_, results_cell_row rfl _ _ w.heap.size 56 #[.int .i64 s.1, .int .i64 s.2.1, .bool s.2.2] (0, 0) _ rfl e1 Try.underlying56 rfl (by kernel_rfl), rfl, e2⟩
end RFapi_Fix
open Go.Proofs Go.RowKit Go.Shelf Go.Proofs.Ytpophefonhpnmaa.Q.RFapi_Fix Go.Proofs.YtpophefonhpnmaaW.PrintWords Go.Proofs.YtpophefonhpnmaaW.PrintLast Go.Proofs.YtpophefonhpnmaaW.PrintMore
def bound_Sum_api_Fix.f (l0 : List (S56)) : Option (Int × Int × Bool) := some (RFapi_Fix.rf_totv l0 (0, 0, false))
theorem bound_Sum_api_Fix.calls (A0 : Option Addr) (c0 : Nat) (l0 : List (S56)) (r1 : Int) (r2 : Int) (r3 : Bool) (w : World) (hr0 : Kd.C k56 w A0 l0.length l0) (hc0 : l0.length ≤ c0) (h : bound_Sum_api_Fix.f l0 = some (r1, r2, r3)) :
    Calls Try.prog 46 #[.slice A0 l0.length c0] w fun e w' => e = .returned (.agg #[.int .i64 r1, .int .i64 r2, .bool r3]) ∧ Below w.heap.size w w' := by
  have hu56 := Try.underlying56
  have hlen : l0.length ≤ 9223372036854775807 := by
    have := hr0.2.1
    first | omega | (unfold maxLen at this; omega)
  have er : RFapi_Fix.rf_totv l0 (0, 0, false) = (r1, r2, r3) := Option.some.inj h
  have hB : Below w.heap.size w ((w.alloc (.cells #[.int .i64 0, .int .i64 0, .bool false] 56)).alloc (.cells #[.slice A0 l0.length c0] 54)) := ((Below.refl _ w).alloc (Nat.le_refl _) _).alloc (by simp) _
  have hS : ((w.alloc (.cells #[.int .i64 0, .int .i64 0, .bool false] 56)).alloc (.cells #[.slice A0 l0.length c0] 54)).cell? ⟨w.heap.size + 1, 0, none⟩ = some (.slice A0 l0.length c0) := by
    have := blk_cell (World.alloc_heap_new (w.alloc (.cells #[.int .i64 0, .int .i64 0, .bool false] 56)) (.cells #[.slice A0 l0.length c0] 54)) 0
    rw [World.size_alloc] at this
    exact this.trans rfl
  have hR : (((w.alloc (.cells #[.int .i64 0, .int .i64 0, .bool false] 56)).alloc (.cells #[.slice A0 l0.length c0] 54))).heap[w.heap.size]? = some (.cells #[.int .i64 0, .int .i64 0, .bool false] 56 (0, 0)) := RFapi_Fix.rf_Box3.alloc (v := (0, 0, false)) (World.alloc_heap_new w _) _
  have T := RFapi_Fix.rf_total_in (w.heap.size + 1) A0 c0 l0 hlen w _ hB (by simp) hS hr0
  rw [er] at T
  have T' := callsIn_wide.1 T
  have HR := Aside0.mk hR
  have HB := Aside0.mk hB
  clear T hS hR hB er h hlen
  go_enter Try.func46, Try.ntmps46
  go_wp2_with (first | (go_at_call 110; (with_reducible refine (RFapi_Fix.rf_values_calls A0 l0.length c0 _).mono ?_); rintro e w1 ⟨rfl, rfl⟩) | (go_at_call 109; refine T'.mono ?_; rintro e w2 ⟨rfl, hb⟩; have d2 := (hb.block w.heap.size (Array.getElem?_eq_some_iff.1 HR.out).1).trans HR.out; have k20 := (blk_cell d2 0).trans rfl; have k21 := (blk_cell d2 1).trans rfl; have k22 := (blk_cell d2 2).trans rfl; have z20 := blk_frozen d2 0; have z21 := blk_frozen d2 1; have z22 := blk_frozen d2 2))
  refine bodyPost_ret (results_cell_row rfl _ _ w.heap.size 56 #[.int .i64 r1, .int .i64 r2, .bool r3] (0, 0) _ rfl (blk_put (blk_put (blk_put d2 0 _ rfl) 1 _ rfl) 2 _ rfl) Try.underlying56 rfl (by kernel_rfl)) rfl ?_
  exact ⟨rfl, (((HB.out.trans (hb.mono (by simp; omega))).setCell (p := ⟨w.heap.size, 0, none⟩) (Nat.le_refl _) _).setCell (p := ⟨w.heap.size, 1, none⟩) (Nat.le_refl _) _).setCell (p := ⟨w.heap.size, 2, none⟩) (Nat.le_refl _) _⟩

end Go.Proofs.Ytpophefonhpnmaa.Q
