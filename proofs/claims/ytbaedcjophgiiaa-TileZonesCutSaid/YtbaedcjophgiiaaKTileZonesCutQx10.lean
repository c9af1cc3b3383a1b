/- Contracts of Go functions of the seat, one by one: each call returns what the Lean function of the same name says, wherever that is 'some'; no other condition. Written by a program of this session. -/
import Derived.Test.YtbaedcjophgiiaaKTileZonesCutQx0
import Derived.Test.YtbaedcjophgiiaaKTileZonesCutQx4
import Derived.BigQuiet
import Derived.BigRegion
import Derived.Deep.QuietTactic
import Derived.Deep.RegionLaw
import Derived.LoopIn
import Derived.LoopNIn
import Derived.OwnWalkIn
import Derived.RangeFuncBound
import Derived.RangeFuncCalls
import Derived.RangeFuncLeaves
import Derived.RangeFuncNested
import Derived.RegionTactic
import Derived.Shelf.Abstract
import Derived.Shelf.RegionOpen
import Derived.TacticsInMore
import Derived.WalkKit
namespace Go.Proofs.Ytbaedcjophgiiaa.Q
open Go.RowKit Go.Proofs.YtbaedcjophgiiaaW.PrintWords Go.Proofs.YtbaedcjophgiiaaW.PrintLast Go.Proofs.YtbaedcjophgiiaaW.PrintMore
attribute [local go_sem] max2_int min2_int max_two min_two max_three min_three max_four min_four   -- for this text's walks alone
set_option linter.unusedVariables false
set_option linter.unusedSimpArgs false

/-! ### tile_sides: function 85 -/
-- IMPORTS: Derived.RangeFuncNested Derived.RangeFuncBound Derived.RangeFuncCalls Derived.RangeFuncLeaves Derived.Shelf.Abstract Derived.Shelf.RegionOpen Derived.WalkKit Derived.OwnWalkIn Derived.TacticsInMore Derived.LoopNIn Derived.LoopIn Derived.Deep.QuietTactic Derived.BigQuiet Derived.RegionTactic Derived.BigRegion Derived.Deep.RegionLaw
section
open Go.Proofs Go.RowKit Go.Shelf Go.Proofs.YtbaedcjophgiiaaW.PrintWords Go.Proofs.YtbaedcjophgiiaaW.PrintLast Go.Proofs.YtbaedcjophgiiaaW.PrintMore
set_option maxHeartbeats 4000000 in
set_option maxRecDepth 100000 in
theorem tile_sides.s0i (base : Nat) (lev at_ sg js : Int) (gl gk gf go_ : Nat) (v : Value) (xs : List S67) (W0 W : World) (hl : 0 ≤ lev) (hjs : shl .i64 sg lev = js)
    (nl : gl < W.heap.size) (nk : gk < W.heap.size) (nf : gf < W.heap.size) (no : go_ < W.heap.size) (no1 : gl ≠ go_) (no2 : gk ≠ go_) (no3 : gf ≠ go_)
    (bl : W.heap[gl]? = some (.cells #[.int .i64 lev] 3 (0, 0))) (bk : W.heap[gk]? = some (.cells #[.int .i64 0] 3 (0, 0))) (bf : W.heap[gf]? = some (.cells #[.int .i64 0] 3 (0, 0))) (bo : W.heap[go_]? = some (.cells #[v] 80 (0, 0)))
    (hR : Kd.R k67 67 W base (fun _ => True) v xs) (hB : Below base W0 W) (hb0 : base ≤ go_) (hlen : (xs.length + 1) * 24 ≤ 140737488355328) :
    Calls Try.prog 115 #[.int .i64 1, .int .i64 at_, .int .i64 sg, .pointer (some ⟨gl, 0, none⟩), .pointer (some ⟨gk, 0, none⟩), .pointer (some ⟨gf, 0, none⟩), .pointer (some ⟨go_, 0, none⟩)] W fun e W' =>
      ∃ v', e = .returned (.tuple #[]) ∧ W'.heap[gl]? = some (.cells #[.int .i64 lev] 3 (0, 0)) ∧ W'.heap[gk]? = some (.cells #[.int .i64 0] 3 (0, 0)) ∧ W'.heap[gf]? = some (.cells #[.int .i64 0] 3 (0, 0)) ∧ W'.heap[go_]? = some (.cells #[v'] 80 (0, 0)) ∧
        Kd.R k67 67 W' base (fun _ => True) v' (xs ++ [⟨(wrap64 (wrap64 (-sg) * at_)), js, 0⟩]) ∧ Below base W0 W' ∧ W.heap.size ≤ W'.heap.size := by
  have hu67 := Try.underlying67
  have hu124 := Try.underlying124
  have hji_ : (IntKind.i64.wrap (sg * 2 ^ min (lev).toNat 64)) = js := hjs
  have hjiy : (wrap64 (sg * 2 ^ min (lev).toNat 64)) = js := (i64_w _).symm.trans hji_
  have c4b0 := eq_true hl
  have c4b1 : decide (0 ≤ lev) = true := decide_eq_true hl
  obtain ⟨W1, hW1⟩ : ∃ W1, W.alloc (.cells #[.int .i64 0, .int .i64 0, .int .i64 0] 124) = W1 := ⟨_, rfl⟩
  have s1 : W1.heap.size = W.heap.size + 1 := by rw [← hW1]; simp
  have bn1 : W1.heap[W.heap.size]? = some (.cells #[.int .i64 0, .int .i64 0, .int .i64 0] 124 (0, 0)) := by rw [← hW1]; exact World.alloc_heap_new W _
  have ha : ∀ g o, g < W.heap.size → W.heap[g]? = some o → W1.heap[g]? = some o := fun g o h1 h2 => by rw [← hW1]; exact ((World.grownBy_alloc W _ none).block g h1 (by simp)).trans h2
  have bl1 := ha _ _ nl bl
  have bk1 := ha _ _ nk bk
  have bf1 := ha _ _ nf bf
  have bo1 := ha _ _ no bo
  have hR1 : Kd.R k67 67 W1 base (fun _ => True) v xs := by rw [← hW1]; exact Kd.R_alloc hR _
  have hB1 : Below base W0 W1 := by rw [← hW1]; exact hB.alloc (by omega) _
  clear ha
  have e1 : W.heap.size ≠ gl := by omega
  have e1' : gl ≠ W.heap.size := by omega
  have e2 : W.heap.size ≠ gk := by omega
  have e2' : gk ≠ W.heap.size := by omega
  have e3 : W.heap.size ≠ gf := by omega
  have e3' : gf ≠ W.heap.size := by omega
  have e4 : W.heap.size ≠ go_ := by omega
  have e4' : go_ ≠ W.heap.size := by omega
  have f0 := (blk_cell bn1 0).trans rfl
  have f1 := (blk_cell bn1 1).trans rfl
  have f2 := (blk_cell bn1 2).trans rfl
  have g0 := blk_frozen bn1 0
  have g1 := blk_frozen bn1 1
  have g2 := blk_frozen bn1 2
  have ql := (blk_cell bl1 0).trans rfl
  have qk := (blk_cell bk1 0).trans rfl
  go_enter Try.func115, Try.ntmps115
  go_wp2
  clear hW1
  go_region
  have bn2 : ((((W1.setCell ⟨W.heap.size, 1, none⟩ (.int .i64 js)).setCell ⟨W.heap.size, 0, none⟩ (.int .i64 (wrap64 (wrap64 (-sg) * at_))))).drew).heap[W.heap.size]? = some (.cells #[.int .i64 (wrap64 (wrap64 (-sg) * at_)), .int .i64 js, .int .i64 0] 124 (0, 0)) := blk_drew (blk_put (blk_put (bn1) 1 _ rfl) 0 _ rfl)
  have bl2 : ((((W1.setCell ⟨W.heap.size, 1, none⟩ (.int .i64 js)).setCell ⟨W.heap.size, 0, none⟩ (.int .i64 (wrap64 (wrap64 (-sg) * at_))))).drew).heap[gl]? = some (.cells #[.int .i64 lev] 3 (0, 0)) := blk_drew (blk_far (p := ⟨W.heap.size, 0, none⟩) (blk_far (p := ⟨W.heap.size, 1, none⟩) (bl1) (Ne.symm e1) _) (Ne.symm e1) _)
  have bk2 : ((((W1.setCell ⟨W.heap.size, 1, none⟩ (.int .i64 js)).setCell ⟨W.heap.size, 0, none⟩ (.int .i64 (wrap64 (wrap64 (-sg) * at_))))).drew).heap[gk]? = some (.cells #[.int .i64 0] 3 (0, 0)) := blk_drew (blk_far (p := ⟨W.heap.size, 0, none⟩) (blk_far (p := ⟨W.heap.size, 1, none⟩) (bk1) (Ne.symm e2) _) (Ne.symm e2) _)
  have bf2 : ((((W1.setCell ⟨W.heap.size, 1, none⟩ (.int .i64 js)).setCell ⟨W.heap.size, 0, none⟩ (.int .i64 (wrap64 (wrap64 (-sg) * at_))))).drew).heap[gf]? = some (.cells #[.int .i64 0] 3 (0, 0)) := blk_drew (blk_far (p := ⟨W.heap.size, 0, none⟩) (blk_far (p := ⟨W.heap.size, 1, none⟩) (bf1) (Ne.symm e3) _) (Ne.symm e3) _)
  have bo2 : ((((W1.setCell ⟨W.heap.size, 1, none⟩ (.int .i64 js)).setCell ⟨W.heap.size, 0, none⟩ (.int .i64 (wrap64 (wrap64 (-sg) * at_))))).drew).heap[go_]? = some (.cells #[v] 80 (0, 0)) := blk_drew (blk_far (p := ⟨W.heap.size, 0, none⟩) (blk_far (p := ⟨W.heap.size, 1, none⟩) (bo1) (Ne.symm e4) _) (Ne.symm e4) _)
  have hR2 : Kd.R k67 67 ((((W1.setCell ⟨W.heap.size, 1, none⟩ (.int .i64 js)).setCell ⟨W.heap.size, 0, none⟩ (.int .i64 (wrap64 (wrap64 (-sg) * at_))))).drew) base (fun _ => True) v xs := Kd.R_drew (Kd.R_set (Kd.R_set (hR1) (bn1) (by decide) 1 _) (blk_put (bn1) 1 _ rfl) (by decide) 0 _)
  have hB2 : Below base W0 ((((W1.setCell ⟨W.heap.size, 1, none⟩ (.int .i64 js)).setCell ⟨W.heap.size, 0, none⟩ (.int .i64 (wrap64 (wrap64 (-sg) * at_))))).drew) := below_drew1 (((hB1).setCell (p := ⟨W.heap.size, 1, none⟩) (by show base ≤ W.heap.size; omega) _).setCell (p := ⟨W.heap.size, 0, none⟩) (by show base ≤ W.heap.size; omega) _)
  have s2 : ((((W1.setCell ⟨W.heap.size, 1, none⟩ (.int .i64 js)).setCell ⟨W.heap.size, 0, none⟩ (.int .i64 (wrap64 (wrap64 (-sg) * at_))))).drew).heap.size = W.heap.size + 1 := by simpa using s1
  generalize (((W1.setCell ⟨W.heap.size, 1, none⟩ (.int .i64 js)).setCell ⟨W.heap.size, 0, none⟩ (.int .i64 (wrap64 (wrap64 (-sg) * at_))))).drew = W2 at *
  clear f0 f1 f2 g0 g1 g2 ql qk bn1 bl1 bk1 bf1 bo1 hR1 hB1 s1
  have f0 := (blk_cell bn2 0).trans rfl
  have f1 := (blk_cell bn2 1).trans rfl
  have f2 := (blk_cell bn2 2).trans rfl
  have g0 := blk_frozen bn2 0
  have g1 := blk_frozen bn2 1
  have g2 := blk_frozen bn2 2
  have ql := (blk_cell bf2 0).trans rfl
  have qk := (blk_cell bk2 0).trans rfl
  go_wp2
  clear ql qk
  have qo := (blk_cell bo2 0).trans rfl
  have go1 := blk_frozen bo2 0
  go_region_law ((first | (refine gq_ Try.func116 #[.agg #[.int .i64 (wrap64 (wrap64 (-sg) * at_)), .int .i64 js, .int .i64 0]] ?_; (with_reducible refine (tile_vec.calls (wrap64 (wrap64 (-sg) * at_)) js 0 (wrap64 (wrap64 (-sg) * at_)) js 0 _ rfl).mono ?_); rintro e w3 ⟨rfl, hb⟩; refine ⟨_, rfl, ?_⟩; have bl3 := (hb.block gl (by show gl < W2.heap.size; omega)).trans bl2; have bk3 := (hb.block gk (by show gk < W2.heap.size; omega)).trans bk2; have bf3 := (hb.block gf (by show gf < W2.heap.size; omega)).trans bf2; have bo3 := (hb.block go_ (by show go_ < W2.heap.size; omega)).trans bo2; have bn3 := (hb.block W.heap.size (by show W.heap.size < W2.heap.size; omega)).trans bn2; have hR3 := Kd.R_below (Kd.R_drew hR2) hb; have hB3 := (below_drew1 hB2).trans (hb.mono (by show base ≤ W2.heap.size; omega)); have s3 : W2.heap.size ≤ w3.heap.size := hb.size; clear hb; have q0 := (blk_cell bo3 0).trans rfl; have q1 := (blk_cell bn3 0).trans rfl; have q2 := (blk_cell bn3 1).trans rfl; have q3 := (blk_cell bn3 2).trans rfl; have q4 : (w3.alloc (.cells #[.int .i64 (wrap64 (wrap64 (-sg) * at_)), .int .i64 js, .int .i64 0] 67)).cell? ⟨go_, 0, none⟩ = some v := (blk_cell (((World.grownBy_alloc w3 _ none).block go_ (by omega) (by simp)).trans bo3) 0).trans rfl) | ((refine Kd.R_append_step k67 (w0 := W0) base (by rfl) (.tmp 31) (.tmp 34) 80 67 (.agg #[(.int .i64 0), (.int .i64 0), (.int .i64 0)]) 24 rfl Try.underlying80 info67 rfl (by decide) (by omega) v xs (⟨(wrap64 (wrap64 (-sg) * at_)), js, 0⟩ : S67) [.int .i64 (wrap64 (wrap64 (-sg) * at_)), .int .i64 js, .int .i64 0] (fun _ => True) (fun _ => False) (by rfl) (by rfl) (k67_mkM _ _ _ _) (fun _ hk => hk.elim) (fun _ _ => trivial) hR3 hB3 (by omega) hlen ?_); intro v1 w4 hR4 hB4 hg4 _; obtain ⟨A4, c4, rfl⟩ := Kd.R_slice hR4; simp only [List.length_append, List.length_cons, List.length_nil, Nat.zero_add] at hR4; have bl4 := (hg4.block gl (by omega) (Kd.R_ne hR3 bl3 (by decide))).trans bl3; have bk4 := (hg4.block gk (by omega) (Kd.R_ne hR3 bk3 (by decide))).trans bk3; have bf4 := (hg4.block gf (by omega) (Kd.R_ne hR3 bf3 (by decide))).trans bf3; have bo4 := (hg4.block go_ (by omega) (Kd.R_ne hR3 bo3 (by decide))).trans bo3; have bn4 := (hg4.block W.heap.size (by omega) (Kd.R_ne hR3 bn3 (by decide))).trans bn3; have q0 := (blk_cell bo4 0).trans rfl; have q1 := (blk_cell bn4 0).trans rfl; have q2 := (blk_cell bn4 1).trans rfl; have q3 := (blk_cell bn4 2).trans rfl; have go4 := blk_frozen bo4 0)))
  all_goals
    go_end0
    exact ⟨_, rfl, blk_far (p := ⟨go_, 0, none⟩) bl4 no1 _, blk_far (p := ⟨go_, 0, none⟩) bk4 no2 _, blk_far (p := ⟨go_, 0, none⟩) bf4 no3 _, blk_put bo4 0 _ rfl, Kd.R_set hR4 bo4 (by decide) 0 _, hB4.setCell (p := ⟨go_, 0, none⟩) hb0 _, by have := hg4.size; simp; omega⟩
set_option maxHeartbeats 4000000 in
set_option maxRecDepth 100000 in
theorem tile_sides.s0j (base : Nat) (lev at_ sg js : Int) (gl gk gf go_ : Nat) (v : Value) (xs : List S67) (W0 W : World) (hl : 0 ≤ lev) (hjs : shl .i64 sg lev = js)
    (nl : gl < W.heap.size) (nk : gk < W.heap.size) (nf : gf < W.heap.size) (no : go_ < W.heap.size) (no1 : gl ≠ go_) (no2 : gk ≠ go_) (no3 : gf ≠ go_)
    (bl : W.heap[gl]? = some (.cells #[.int .i64 lev] 3 (0, 0))) (bk : W.heap[gk]? = some (.cells #[.int .i64 0] 3 (0, 0))) (bf : W.heap[gf]? = some (.cells #[.int .i64 0] 3 (0, 0))) (bo : W.heap[go_]? = some (.cells #[v] 80 (0, 0)))
    (hR : Kd.R k67 67 W base (fun _ => True) v xs) (hB : Below base W0 W) (hb0 : base ≤ go_) (hlen : (xs.length + 1) * 24 ≤ 140737488355328) :
    Calls Try.prog 115 #[.int .i64 2, .int .i64 at_, .int .i64 sg, .pointer (some ⟨gl, 0, none⟩), .pointer (some ⟨gk, 0, none⟩), .pointer (some ⟨gf, 0, none⟩), .pointer (some ⟨go_, 0, none⟩)] W fun e W' =>
      ∃ v', e = .returned (.tuple #[]) ∧ W'.heap[gl]? = some (.cells #[.int .i64 lev] 3 (0, 0)) ∧ W'.heap[gk]? = some (.cells #[.int .i64 0] 3 (0, 0)) ∧ W'.heap[gf]? = some (.cells #[.int .i64 0] 3 (0, 0)) ∧ W'.heap[go_]? = some (.cells #[v'] 80 (0, 0)) ∧
        Kd.R k67 67 W' base (fun _ => True) v' (xs ++ [⟨(wrap64 (wrap64 (-sg) * at_)), 0, js⟩]) ∧ Below base W0 W' ∧ W.heap.size ≤ W'.heap.size := by
  have hu67 := Try.underlying67
  have hu124 := Try.underlying124
  have hji_ : (IntKind.i64.wrap (sg * 2 ^ min (lev).toNat 64)) = js := hjs
  have hjiy : (wrap64 (sg * 2 ^ min (lev).toNat 64)) = js := (i64_w _).symm.trans hji_
  have c4b0 := eq_true hl
  have c4b1 : decide (0 ≤ lev) = true := decide_eq_true hl
  obtain ⟨W1, hW1⟩ : ∃ W1, W.alloc (.cells #[.int .i64 0, .int .i64 0, .int .i64 0] 124) = W1 := ⟨_, rfl⟩
  have s1 : W1.heap.size = W.heap.size + 1 := by rw [← hW1]; simp
  have bn1 : W1.heap[W.heap.size]? = some (.cells #[.int .i64 0, .int .i64 0, .int .i64 0] 124 (0, 0)) := by rw [← hW1]; exact World.alloc_heap_new W _
  have ha : ∀ g o, g < W.heap.size → W.heap[g]? = some o → W1.heap[g]? = some o := fun g o h1 h2 => by rw [← hW1]; exact ((World.grownBy_alloc W _ none).block g h1 (by simp)).trans h2
  have bl1 := ha _ _ nl bl
  have bk1 := ha _ _ nk bk
  have bf1 := ha _ _ nf bf
  have bo1 := ha _ _ no bo
  have hR1 : Kd.R k67 67 W1 base (fun _ => True) v xs := by rw [← hW1]; exact Kd.R_alloc hR _
  have hB1 : Below base W0 W1 := by rw [← hW1]; exact hB.alloc (by omega) _
  clear ha
  have e1 : W.heap.size ≠ gl := by omega
  have e1' : gl ≠ W.heap.size := by omega
  have e2 : W.heap.size ≠ gk := by omega
  have e2' : gk ≠ W.heap.size := by omega
  have e3 : W.heap.size ≠ gf := by omega
  have e3' : gf ≠ W.heap.size := by omega
  have e4 : W.heap.size ≠ go_ := by omega
  have e4' : go_ ≠ W.heap.size := by omega
  have f0 := (blk_cell bn1 0).trans rfl
  have f1 := (blk_cell bn1 1).trans rfl
  have f2 := (blk_cell bn1 2).trans rfl
  have g0 := blk_frozen bn1 0
  have g1 := blk_frozen bn1 1
  have g2 := blk_frozen bn1 2
  have ql := (blk_cell bl1 0).trans rfl
  have qk := (blk_cell bk1 0).trans rfl
  go_enter Try.func115, Try.ntmps115
  go_wp2
  clear hW1
  go_region
  have bn2 : ((((W1.setCell ⟨W.heap.size, 2, none⟩ (.int .i64 js)).setCell ⟨W.heap.size, 0, none⟩ (.int .i64 (wrap64 (wrap64 (-sg) * at_))))).drew).heap[W.heap.size]? = some (.cells #[.int .i64 (wrap64 (wrap64 (-sg) * at_)), .int .i64 0, .int .i64 js] 124 (0, 0)) := blk_drew (blk_put (blk_put (bn1) 2 _ rfl) 0 _ rfl)
  have bl2 : ((((W1.setCell ⟨W.heap.size, 2, none⟩ (.int .i64 js)).setCell ⟨W.heap.size, 0, none⟩ (.int .i64 (wrap64 (wrap64 (-sg) * at_))))).drew).heap[gl]? = some (.cells #[.int .i64 lev] 3 (0, 0)) := blk_drew (blk_far (p := ⟨W.heap.size, 0, none⟩) (blk_far (p := ⟨W.heap.size, 2, none⟩) (bl1) (Ne.symm e1) _) (Ne.symm e1) _)
  have bk2 : ((((W1.setCell ⟨W.heap.size, 2, none⟩ (.int .i64 js)).setCell ⟨W.heap.size, 0, none⟩ (.int .i64 (wrap64 (wrap64 (-sg) * at_))))).drew).heap[gk]? = some (.cells #[.int .i64 0] 3 (0, 0)) := blk_drew (blk_far (p := ⟨W.heap.size, 0, none⟩) (blk_far (p := ⟨W.heap.size, 2, none⟩) (bk1) (Ne.symm e2) _) (Ne.symm e2) _)
  have bf2 : ((((W1.setCell ⟨W.heap.size, 2, none⟩ (.int .i64 js)).setCell ⟨W.heap.size, 0, none⟩ (.int .i64 (wrap64 (wrap64 (-sg) * at_))))).drew).heap[gf]? = some (.cells #[.int .i64 0] 3 (0, 0)) := blk_drew (blk_far (p := ⟨W.heap.size, 0, none⟩) (blk_far (p := ⟨W.heap.size, 2, none⟩) (bf1) (Ne.symm e3) _) (Ne.symm e3) _)
  have bo2 : ((((W1.setCell ⟨W.heap.size, 2, none⟩ (.int .i64 js)).setCell ⟨W.heap.size, 0, none⟩ (.int .i64 (wrap64 (wrap64 (-sg) * at_))))).drew).heap[go_]? = some (.cells #[v] 80 (0, 0)) := blk_drew (blk_far (p := ⟨W.heap.size, 0, none⟩) (blk_far (p := ⟨W.heap.size, 2, none⟩) (bo1) (Ne.symm e4) _) (Ne.symm e4) _)
  have hR2 : Kd.R k67 67 ((((W1.setCell ⟨W.heap.size, 2, none⟩ (.int .i64 js)).setCell ⟨W.heap.size, 0, none⟩ (.int .i64 (wrap64 (wrap64 (-sg) * at_))))).drew) base (fun _ => True) v xs := Kd.R_drew (Kd.R_set (Kd.R_set (hR1) (bn1) (by decide) 2 _) (blk_put (bn1) 2 _ rfl) (by decide) 0 _)
  have hB2 : Below base W0 ((((W1.setCell ⟨W.heap.size, 2, none⟩ (.int .i64 js)).setCell ⟨W.heap.size, 0, none⟩ (.int .i64 (wrap64 (wrap64 (-sg) * at_))))).drew) := below_drew1 (((hB1).setCell (p := ⟨W.heap.size, 2, none⟩) (by show base ≤ W.heap.size; omega) _).setCell (p := ⟨W.heap.size, 0, none⟩) (by show base ≤ W.heap.size; omega) _)
  have s2 : ((((W1.setCell ⟨W.heap.size, 2, none⟩ (.int .i64 js)).setCell ⟨W.heap.size, 0, none⟩ (.int .i64 (wrap64 (wrap64 (-sg) * at_))))).drew).heap.size = W.heap.size + 1 := by simpa using s1
  generalize (((W1.setCell ⟨W.heap.size, 2, none⟩ (.int .i64 js)).setCell ⟨W.heap.size, 0, none⟩ (.int .i64 (wrap64 (wrap64 (-sg) * at_))))).drew = W2 at *
  clear f0 f1 f2 g0 g1 g2 ql qk bn1 bl1 bk1 bf1 bo1 hR1 hB1 s1
  have f0 := (blk_cell bn2 0).trans rfl
  have f1 := (blk_cell bn2 1).trans rfl
  have f2 := (blk_cell bn2 2).trans rfl
  have g0 := blk_frozen bn2 0
  have g1 := blk_frozen bn2 1
  have g2 := blk_frozen bn2 2
  have ql := (blk_cell bf2 0).trans rfl
  have qk := (blk_cell bk2 0).trans rfl
  go_wp2
  clear ql qk
  have qo := (blk_cell bo2 0).trans rfl
  have go1 := blk_frozen bo2 0
  go_region_law ((first | (refine gq_ Try.func116 #[.agg #[.int .i64 (wrap64 (wrap64 (-sg) * at_)), .int .i64 0, .int .i64 js]] ?_; (with_reducible refine (tile_vec.calls (wrap64 (wrap64 (-sg) * at_)) 0 js (wrap64 (wrap64 (-sg) * at_)) 0 js _ rfl).mono ?_); rintro e w3 ⟨rfl, hb⟩; refine ⟨_, rfl, ?_⟩; have bl3 := (hb.block gl (by show gl < W2.heap.size; omega)).trans bl2; have bk3 := (hb.block gk (by show gk < W2.heap.size; omega)).trans bk2; have bf3 := (hb.block gf (by show gf < W2.heap.size; omega)).trans bf2; have bo3 := (hb.block go_ (by show go_ < W2.heap.size; omega)).trans bo2; have bn3 := (hb.block W.heap.size (by show W.heap.size < W2.heap.size; omega)).trans bn2; have hR3 := Kd.R_below (Kd.R_drew hR2) hb; have hB3 := (below_drew1 hB2).trans (hb.mono (by show base ≤ W2.heap.size; omega)); have s3 : W2.heap.size ≤ w3.heap.size := hb.size; clear hb; have q0 := (blk_cell bo3 0).trans rfl; have q1 := (blk_cell bn3 0).trans rfl; have q2 := (blk_cell bn3 1).trans rfl; have q3 := (blk_cell bn3 2).trans rfl; have q4 : (w3.alloc (.cells #[.int .i64 (wrap64 (wrap64 (-sg) * at_)), .int .i64 0, .int .i64 js] 67)).cell? ⟨go_, 0, none⟩ = some v := (blk_cell (((World.grownBy_alloc w3 _ none).block go_ (by omega) (by simp)).trans bo3) 0).trans rfl) | ((refine Kd.R_append_step k67 (w0 := W0) base (by rfl) (.tmp 31) (.tmp 34) 80 67 (.agg #[(.int .i64 0), (.int .i64 0), (.int .i64 0)]) 24 rfl Try.underlying80 info67 rfl (by decide) (by omega) v xs (⟨(wrap64 (wrap64 (-sg) * at_)), 0, js⟩ : S67) [.int .i64 (wrap64 (wrap64 (-sg) * at_)), .int .i64 0, .int .i64 js] (fun _ => True) (fun _ => False) (by rfl) (by rfl) (k67_mkM _ _ _ _) (fun _ hk => hk.elim) (fun _ _ => trivial) hR3 hB3 (by omega) hlen ?_); intro v1 w4 hR4 hB4 hg4 _; obtain ⟨A4, c4, rfl⟩ := Kd.R_slice hR4; simp only [List.length_append, List.length_cons, List.length_nil, Nat.zero_add] at hR4; have bl4 := (hg4.block gl (by omega) (Kd.R_ne hR3 bl3 (by decide))).trans bl3; have bk4 := (hg4.block gk (by omega) (Kd.R_ne hR3 bk3 (by decide))).trans bk3; have bf4 := (hg4.block gf (by omega) (Kd.R_ne hR3 bf3 (by decide))).trans bf3; have bo4 := (hg4.block go_ (by omega) (Kd.R_ne hR3 bo3 (by decide))).trans bo3; have bn4 := (hg4.block W.heap.size (by omega) (Kd.R_ne hR3 bn3 (by decide))).trans bn3; have q0 := (blk_cell bo4 0).trans rfl; have q1 := (blk_cell bn4 0).trans rfl; have q2 := (blk_cell bn4 1).trans rfl; have q3 := (blk_cell bn4 2).trans rfl; have go4 := blk_frozen bo4 0)))
  all_goals
    go_end0
    exact ⟨_, rfl, blk_far (p := ⟨go_, 0, none⟩) bl4 no1 _, blk_far (p := ⟨go_, 0, none⟩) bk4 no2 _, blk_far (p := ⟨go_, 0, none⟩) bf4 no3 _, blk_put bo4 0 _ rfl, Kd.R_set hR4 bo4 (by decide) 0 _, hB4.setCell (p := ⟨go_, 0, none⟩) hb0 _, by have := hg4.size; simp; omega⟩
set_option maxHeartbeats 4000000 in
set_option maxRecDepth 100000 in
theorem tile_sides.s1i (base : Nat) (lev at_ sg js : Int) (gl gk gf go_ : Nat) (v : Value) (xs : List S67) (W0 W : World) (hl : 0 ≤ lev) (hjs : shl .i64 sg lev = js)
    (nl : gl < W.heap.size) (nk : gk < W.heap.size) (nf : gf < W.heap.size) (no : go_ < W.heap.size) (no1 : gl ≠ go_) (no2 : gk ≠ go_) (no3 : gf ≠ go_)
    (bl : W.heap[gl]? = some (.cells #[.int .i64 lev] 3 (0, 0))) (bk : W.heap[gk]? = some (.cells #[.int .i64 0] 3 (0, 0))) (bf : W.heap[gf]? = some (.cells #[.int .i64 1] 3 (0, 0))) (bo : W.heap[go_]? = some (.cells #[v] 80 (0, 0)))
    (hR : Kd.R k67 67 W base (fun _ => True) v xs) (hB : Below base W0 W) (hb0 : base ≤ go_) (hlen : (xs.length + 1) * 24 ≤ 140737488355328) :
    Calls Try.prog 115 #[.int .i64 1, .int .i64 at_, .int .i64 sg, .pointer (some ⟨gl, 0, none⟩), .pointer (some ⟨gk, 0, none⟩), .pointer (some ⟨gf, 0, none⟩), .pointer (some ⟨go_, 0, none⟩)] W fun e W' =>
      ∃ v', e = .returned (.tuple #[]) ∧ W'.heap[gl]? = some (.cells #[.int .i64 lev] 3 (0, 0)) ∧ W'.heap[gk]? = some (.cells #[.int .i64 0] 3 (0, 0)) ∧ W'.heap[gf]? = some (.cells #[.int .i64 1] 3 (0, 0)) ∧ W'.heap[go_]? = some (.cells #[v'] 80 (0, 0)) ∧
        Kd.R k67 67 W' base (fun _ => True) v' (xs ++ [⟨(wrap64 (-(wrap64 (wrap64 (-sg) * at_)))), js, 0⟩]) ∧ Below base W0 W' ∧ W.heap.size ≤ W'.heap.size := by
  have hu67 := Try.underlying67
  have hu124 := Try.underlying124
  have hji_ : (IntKind.i64.wrap (sg * 2 ^ min (lev).toNat 64)) = js := hjs
  have hjiy : (wrap64 (sg * 2 ^ min (lev).toNat 64)) = js := (i64_w _).symm.trans hji_
  have c4b0 := eq_true hl
  have c4b1 : decide (0 ≤ lev) = true := decide_eq_true hl
  obtain ⟨W1, hW1⟩ : ∃ W1, W.alloc (.cells #[.int .i64 0, .int .i64 0, .int .i64 0] 124) = W1 := ⟨_, rfl⟩
  have s1 : W1.heap.size = W.heap.size + 1 := by rw [← hW1]; simp
  have bn1 : W1.heap[W.heap.size]? = some (.cells #[.int .i64 0, .int .i64 0, .int .i64 0] 124 (0, 0)) := by rw [← hW1]; exact World.alloc_heap_new W _
  have ha : ∀ g o, g < W.heap.size → W.heap[g]? = some o → W1.heap[g]? = some o := fun g o h1 h2 => by rw [← hW1]; exact ((World.grownBy_alloc W _ none).block g h1 (by simp)).trans h2
  have bl1 := ha _ _ nl bl
  have bk1 := ha _ _ nk bk
  have bf1 := ha _ _ nf bf
  have bo1 := ha _ _ no bo
  have hR1 : Kd.R k67 67 W1 base (fun _ => True) v xs := by rw [← hW1]; exact Kd.R_alloc hR _
  have hB1 : Below base W0 W1 := by rw [← hW1]; exact hB.alloc (by omega) _
  clear ha
  have e1 : W.heap.size ≠ gl := by omega
  have e1' : gl ≠ W.heap.size := by omega
  have e2 : W.heap.size ≠ gk := by omega
  have e2' : gk ≠ W.heap.size := by omega
  have e3 : W.heap.size ≠ gf := by omega
  have e3' : gf ≠ W.heap.size := by omega
  have e4 : W.heap.size ≠ go_ := by omega
  have e4' : go_ ≠ W.heap.size := by omega
  have f0 := (blk_cell bn1 0).trans rfl
  have f1 := (blk_cell bn1 1).trans rfl
  have f2 := (blk_cell bn1 2).trans rfl
  have g0 := blk_frozen bn1 0
  have g1 := blk_frozen bn1 1
  have g2 := blk_frozen bn1 2
  have ql := (blk_cell bl1 0).trans rfl
  have qk := (blk_cell bk1 0).trans rfl
  go_enter Try.func115, Try.ntmps115
  go_wp2
  clear hW1
  go_region
  have bn2 : ((((W1.setCell ⟨W.heap.size, 1, none⟩ (.int .i64 js)).setCell ⟨W.heap.size, 0, none⟩ (.int .i64 (wrap64 (wrap64 (-sg) * at_))))).drew).heap[W.heap.size]? = some (.cells #[.int .i64 (wrap64 (wrap64 (-sg) * at_)), .int .i64 js, .int .i64 0] 124 (0, 0)) := blk_drew (blk_put (blk_put (bn1) 1 _ rfl) 0 _ rfl)
  have bl2 : ((((W1.setCell ⟨W.heap.size, 1, none⟩ (.int .i64 js)).setCell ⟨W.heap.size, 0, none⟩ (.int .i64 (wrap64 (wrap64 (-sg) * at_))))).drew).heap[gl]? = some (.cells #[.int .i64 lev] 3 (0, 0)) := blk_drew (blk_far (p := ⟨W.heap.size, 0, none⟩) (blk_far (p := ⟨W.heap.size, 1, none⟩) (bl1) (Ne.symm e1) _) (Ne.symm e1) _)
  have bk2 : ((((W1.setCell ⟨W.heap.size, 1, none⟩ (.int .i64 js)).setCell ⟨W.heap.size, 0, none⟩ (.int .i64 (wrap64 (wrap64 (-sg) * at_))))).drew).heap[gk]? = some (.cells #[.int .i64 0] 3 (0, 0)) := blk_drew (blk_far (p := ⟨W.heap.size, 0, none⟩) (blk_far (p := ⟨W.heap.size, 1, none⟩) (bk1) (Ne.symm e2) _) (Ne.symm e2) _)
  have bf2 : ((((W1.setCell ⟨W.heap.size, 1, none⟩ (.int .i64 js)).setCell ⟨W.heap.size, 0, none⟩ (.int .i64 (wrap64 (wrap64 (-sg) * at_))))).drew).heap[gf]? = some (.cells #[.int .i64 1] 3 (0, 0)) := blk_drew (blk_far (p := ⟨W.heap.size, 0, none⟩) (blk_far (p := ⟨W.heap.size, 1, none⟩) (bf1) (Ne.symm e3) _) (Ne.symm e3) _)
  have bo2 : ((((W1.setCell ⟨W.heap.size, 1, none⟩ (.int .i64 js)).setCell ⟨W.heap.size, 0, none⟩ (.int .i64 (wrap64 (wrap64 (-sg) * at_))))).drew).heap[go_]? = some (.cells #[v] 80 (0, 0)) := blk_drew (blk_far (p := ⟨W.heap.size, 0, none⟩) (blk_far (p := ⟨W.heap.size, 1, none⟩) (bo1) (Ne.symm e4) _) (Ne.symm e4) _)
  have hR2 : Kd.R k67 67 ((((W1.setCell ⟨W.heap.size, 1, none⟩ (.int .i64 js)).setCell ⟨W.heap.size, 0, none⟩ (.int .i64 (wrap64 (wrap64 (-sg) * at_))))).drew) base (fun _ => True) v xs := Kd.R_drew (Kd.R_set (Kd.R_set (hR1) (bn1) (by decide) 1 _) (blk_put (bn1) 1 _ rfl) (by decide) 0 _)
  have hB2 : Below base W0 ((((W1.setCell ⟨W.heap.size, 1, none⟩ (.int .i64 js)).setCell ⟨W.heap.size, 0, none⟩ (.int .i64 (wrap64 (wrap64 (-sg) * at_))))).drew) := below_drew1 (((hB1).setCell (p := ⟨W.heap.size, 1, none⟩) (by show base ≤ W.heap.size; omega) _).setCell (p := ⟨W.heap.size, 0, none⟩) (by show base ≤ W.heap.size; omega) _)
  have s2 : ((((W1.setCell ⟨W.heap.size, 1, none⟩ (.int .i64 js)).setCell ⟨W.heap.size, 0, none⟩ (.int .i64 (wrap64 (wrap64 (-sg) * at_))))).drew).heap.size = W.heap.size + 1 := by simpa using s1
  generalize (((W1.setCell ⟨W.heap.size, 1, none⟩ (.int .i64 js)).setCell ⟨W.heap.size, 0, none⟩ (.int .i64 (wrap64 (wrap64 (-sg) * at_))))).drew = W2 at *
  clear f0 f1 f2 g0 g1 g2 ql qk bn1 bl1 bk1 bf1 bo1 hR1 hB1 s1
  have f0 := (blk_cell bn2 0).trans rfl
  have f1 := (blk_cell bn2 1).trans rfl
  have f2 := (blk_cell bn2 2).trans rfl
  have g0 := blk_frozen bn2 0
  have g1 := blk_frozen bn2 1
  have g2 := blk_frozen bn2 2
  have ql := (blk_cell bf2 0).trans rfl
  have qk := (blk_cell bk2 0).trans rfl
  go_wp2
  go_region
  have bn5 : (((W2.setCell ⟨W.heap.size, 0, none⟩ (.int .i64 (wrap64 (-(wrap64 (wrap64 (-sg) * at_))))))).drew).heap[W.heap.size]? = some (.cells #[.int .i64 (wrap64 (-(wrap64 (wrap64 (-sg) * at_)))), .int .i64 js, .int .i64 0] 124 (0, 0)) := blk_drew (blk_put (bn2) 0 _ rfl)
  have bl5 : (((W2.setCell ⟨W.heap.size, 0, none⟩ (.int .i64 (wrap64 (-(wrap64 (wrap64 (-sg) * at_))))))).drew).heap[gl]? = some (.cells #[.int .i64 lev] 3 (0, 0)) := blk_drew (blk_far (p := ⟨W.heap.size, 0, none⟩) (bl2) (Ne.symm e1) _)
  have bk5 : (((W2.setCell ⟨W.heap.size, 0, none⟩ (.int .i64 (wrap64 (-(wrap64 (wrap64 (-sg) * at_))))))).drew).heap[gk]? = some (.cells #[.int .i64 0] 3 (0, 0)) := blk_drew (blk_far (p := ⟨W.heap.size, 0, none⟩) (bk2) (Ne.symm e2) _)
  have bf5 : (((W2.setCell ⟨W.heap.size, 0, none⟩ (.int .i64 (wrap64 (-(wrap64 (wrap64 (-sg) * at_))))))).drew).heap[gf]? = some (.cells #[.int .i64 1] 3 (0, 0)) := blk_drew (blk_far (p := ⟨W.heap.size, 0, none⟩) (bf2) (Ne.symm e3) _)
  have bo5 : (((W2.setCell ⟨W.heap.size, 0, none⟩ (.int .i64 (wrap64 (-(wrap64 (wrap64 (-sg) * at_))))))).drew).heap[go_]? = some (.cells #[v] 80 (0, 0)) := blk_drew (blk_far (p := ⟨W.heap.size, 0, none⟩) (bo2) (Ne.symm e4) _)
  have hR5 : Kd.R k67 67 (((W2.setCell ⟨W.heap.size, 0, none⟩ (.int .i64 (wrap64 (-(wrap64 (wrap64 (-sg) * at_))))))).drew) base (fun _ => True) v xs := Kd.R_drew (Kd.R_set (hR2) (bn2) (by decide) 0 _)
  have hB5 : Below base W0 (((W2.setCell ⟨W.heap.size, 0, none⟩ (.int .i64 (wrap64 (-(wrap64 (wrap64 (-sg) * at_))))))).drew) := below_drew1 ((hB2).setCell (p := ⟨W.heap.size, 0, none⟩) (by show base ≤ W.heap.size; omega) _)
  have s5 : (((W2.setCell ⟨W.heap.size, 0, none⟩ (.int .i64 (wrap64 (-(wrap64 (wrap64 (-sg) * at_))))))).drew).heap.size = W.heap.size + 1 := by simpa using s2
  generalize ((W2.setCell ⟨W.heap.size, 0, none⟩ (.int .i64 (wrap64 (-(wrap64 (wrap64 (-sg) * at_))))))).drew = W5 at *
  clear f0 f1 f2 g0 g1 g2 ql qk bn2 bl2 bk2 bf2 bo2 hR2 hB2 s2
  have f0 := (blk_cell bn5 0).trans rfl
  have f1 := (blk_cell bn5 1).trans rfl
  have f2 := (blk_cell bn5 2).trans rfl
  have g0 := blk_frozen bn5 0
  have g1 := blk_frozen bn5 1
  have g2 := blk_frozen bn5 2
  have ql := (blk_cell bf5 0).trans rfl
  have qk := (blk_cell bk5 0).trans rfl
  go_wp2
  clear ql qk
  have qo := (blk_cell bo5 0).trans rfl
  have go1 := blk_frozen bo5 0
  go_region_law ((first | (refine gq_ Try.func116 #[.agg #[.int .i64 (wrap64 (-(wrap64 (wrap64 (-sg) * at_)))), .int .i64 js, .int .i64 0]] ?_; (with_reducible refine (tile_vec.calls (wrap64 (-(wrap64 (wrap64 (-sg) * at_)))) js 0 (wrap64 (-(wrap64 (wrap64 (-sg) * at_)))) js 0 _ rfl).mono ?_); rintro e w3 ⟨rfl, hb⟩; refine ⟨_, rfl, ?_⟩; have bl3 := (hb.block gl (by show gl < W5.heap.size; omega)).trans bl5; have bk3 := (hb.block gk (by show gk < W5.heap.size; omega)).trans bk5; have bf3 := (hb.block gf (by show gf < W5.heap.size; omega)).trans bf5; have bo3 := (hb.block go_ (by show go_ < W5.heap.size; omega)).trans bo5; have bn3 := (hb.block W.heap.size (by show W.heap.size < W5.heap.size; omega)).trans bn5; have hR3 := Kd.R_below (Kd.R_drew hR5) hb; have hB3 := (below_drew1 hB5).trans (hb.mono (by show base ≤ W5.heap.size; omega)); have s3 : W5.heap.size ≤ w3.heap.size := hb.size; clear hb; have q0 := (blk_cell bo3 0).trans rfl; have q1 := (blk_cell bn3 0).trans rfl; have q2 := (blk_cell bn3 1).trans rfl; have q3 := (blk_cell bn3 2).trans rfl; have q4 : (w3.alloc (.cells #[.int .i64 (wrap64 (-(wrap64 (wrap64 (-sg) * at_)))), .int .i64 js, .int .i64 0] 67)).cell? ⟨go_, 0, none⟩ = some v := (blk_cell (((World.grownBy_alloc w3 _ none).block go_ (by omega) (by simp)).trans bo3) 0).trans rfl) | ((refine Kd.R_append_step k67 (w0 := W0) base (by rfl) (.tmp 31) (.tmp 34) 80 67 (.agg #[(.int .i64 0), (.int .i64 0), (.int .i64 0)]) 24 rfl Try.underlying80 info67 rfl (by decide) (by omega) v xs (⟨(wrap64 (-(wrap64 (wrap64 (-sg) * at_)))), js, 0⟩ : S67) [.int .i64 (wrap64 (-(wrap64 (wrap64 (-sg) * at_)))), .int .i64 js, .int .i64 0] (fun _ => True) (fun _ => False) (by rfl) (by rfl) (k67_mkM _ _ _ _) (fun _ hk => hk.elim) (fun _ _ => trivial) hR3 hB3 (by omega) hlen ?_); intro v1 w4 hR4 hB4 hg4 _; obtain ⟨A4, c4, rfl⟩ := Kd.R_slice hR4; simp only [List.length_append, List.length_cons, List.length_nil, Nat.zero_add] at hR4; have bl4 := (hg4.block gl (by omega) (Kd.R_ne hR3 bl3 (by decide))).trans bl3; have bk4 := (hg4.block gk (by omega) (Kd.R_ne hR3 bk3 (by decide))).trans bk3; have bf4 := (hg4.block gf (by omega) (Kd.R_ne hR3 bf3 (by decide))).trans bf3; have bo4 := (hg4.block go_ (by omega) (Kd.R_ne hR3 bo3 (by decide))).trans bo3; have bn4 := (hg4.block W.heap.size (by omega) (Kd.R_ne hR3 bn3 (by decide))).trans bn3; have q0 := (blk_cell bo4 0).trans rfl; have q1 := (blk_cell bn4 0).trans rfl; have q2 := (blk_cell bn4 1).trans rfl; have q3 := (blk_cell bn4 2).trans rfl; have go4 := blk_frozen bo4 0)))
  all_goals
    go_end0
    exact ⟨_, rfl, blk_far (p := ⟨go_, 0, none⟩) bl4 no1 _, blk_far (p := ⟨go_, 0, none⟩) bk4 no2 _, blk_far (p := ⟨go_, 0, none⟩) bf4 no3 _, blk_put bo4 0 _ rfl, Kd.R_set hR4 bo4 (by decide) 0 _, hB4.setCell (p := ⟨go_, 0, none⟩) hb0 _, by have := hg4.size; simp; omega⟩
set_option maxHeartbeats 4000000 in
set_option maxRecDepth 100000 in
theorem tile_sides.s1j (base : Nat) (lev at_ sg js : Int) (gl gk gf go_ : Nat) (v : Value) (xs : List S67) (W0 W : World) (hl : 0 ≤ lev) (hjs : shl .i64 sg lev = js)
    (nl : gl < W.heap.size) (nk : gk < W.heap.size) (nf : gf < W.heap.size) (no : go_ < W.heap.size) (no1 : gl ≠ go_) (no2 : gk ≠ go_) (no3 : gf ≠ go_)
    (bl : W.heap[gl]? = some (.cells #[.int .i64 lev] 3 (0, 0))) (bk : W.heap[gk]? = some (.cells #[.int .i64 0] 3 (0, 0))) (bf : W.heap[gf]? = some (.cells #[.int .i64 1] 3 (0, 0))) (bo : W.heap[go_]? = some (.cells #[v] 80 (0, 0)))
    (hR : Kd.R k67 67 W base (fun _ => True) v xs) (hB : Below base W0 W) (hb0 : base ≤ go_) (hlen : (xs.length + 1) * 24 ≤ 140737488355328) :
    Calls Try.prog 115 #[.int .i64 2, .int .i64 at_, .int .i64 sg, .pointer (some ⟨gl, 0, none⟩), .pointer (some ⟨gk, 0, none⟩), .pointer (some ⟨gf, 0, none⟩), .pointer (some ⟨go_, 0, none⟩)] W fun e W' =>
      ∃ v', e = .returned (.tuple #[]) ∧ W'.heap[gl]? = some (.cells #[.int .i64 lev] 3 (0, 0)) ∧ W'.heap[gk]? = some (.cells #[.int .i64 0] 3 (0, 0)) ∧ W'.heap[gf]? = some (.cells #[.int .i64 1] 3 (0, 0)) ∧ W'.heap[go_]? = some (.cells #[v'] 80 (0, 0)) ∧
        Kd.R k67 67 W' base (fun _ => True) v' (xs ++ [⟨(wrap64 (-(wrap64 (wrap64 (-sg) * at_)))), 0, js⟩]) ∧ Below base W0 W' ∧ W.heap.size ≤ W'.heap.size := by
  have hu67 := Try.underlying67
  have hu124 := Try.underlying124
  have hji_ : (IntKind.i64.wrap (sg * 2 ^ min (lev).toNat 64)) = js := hjs
  have hjiy : (wrap64 (sg * 2 ^ min (lev).toNat 64)) = js := (i64_w _).symm.trans hji_
  have c4b0 := eq_true hl
  have c4b1 : decide (0 ≤ lev) = true := decide_eq_true hl
  obtain ⟨W1, hW1⟩ : ∃ W1, W.alloc (.cells #[.int .i64 0, .int .i64 0, .int .i64 0] 124) = W1 := ⟨_, rfl⟩
  have s1 : W1.heap.size = W.heap.size + 1 := by rw [← hW1]; simp
  have bn1 : W1.heap[W.heap.size]? = some (.cells #[.int .i64 0, .int .i64 0, .int .i64 0] 124 (0, 0)) := by rw [← hW1]; exact World.alloc_heap_new W _
  have ha : ∀ g o, g < W.heap.size → W.heap[g]? = some o → W1.heap[g]? = some o := fun g o h1 h2 => by rw [← hW1]; exact ((World.grownBy_alloc W _ none).block g h1 (by simp)).trans h2
  have bl1 := ha _ _ nl bl
  have bk1 := ha _ _ nk bk
  have bf1 := ha _ _ nf bf
  have bo1 := ha _ _ no bo
  have hR1 : Kd.R k67 67 W1 base (fun _ => True) v xs := by rw [← hW1]; exact Kd.R_alloc hR _
  have hB1 : Below base W0 W1 := by rw [← hW1]; exact hB.alloc (by omega) _
  clear ha
  have e1 : W.heap.size ≠ gl := by omega
  have e1' : gl ≠ W.heap.size := by omega
  have e2 : W.heap.size ≠ gk := by omega
  have e2' : gk ≠ W.heap.size := by omega
  have e3 : W.heap.size ≠ gf := by omega
  have e3' : gf ≠ W.heap.size := by omega
  have e4 : W.heap.size ≠ go_ := by omega
  have e4' : go_ ≠ W.heap.size := by omega
  have f0 := (blk_cell bn1 0).trans rfl
  have f1 := (blk_cell bn1 1).trans rfl
  have f2 := (blk_cell bn1 2).trans rfl
  have g0 := blk_frozen bn1 0
  have g1 := blk_frozen bn1 1
  have g2 := blk_frozen bn1 2
  have ql := (blk_cell bl1 0).trans rfl
  have qk := (blk_cell bk1 0).trans rfl
  go_enter Try.func115, Try.ntmps115
  go_wp2
  clear hW1
  go_region
  have bn2 : ((((W1.setCell ⟨W.heap.size, 2, none⟩ (.int .i64 js)).setCell ⟨W.heap.size, 0, none⟩ (.int .i64 (wrap64 (wrap64 (-sg) * at_))))).drew).heap[W.heap.size]? = some (.cells #[.int .i64 (wrap64 (wrap64 (-sg) * at_)), .int .i64 0, .int .i64 js] 124 (0, 0)) := blk_drew (blk_put (blk_put (bn1) 2 _ rfl) 0 _ rfl)
  have bl2 : ((((W1.setCell ⟨W.heap.size, 2, none⟩ (.int .i64 js)).setCell ⟨W.heap.size, 0, none⟩ (.int .i64 (wrap64 (wrap64 (-sg) * at_))))).drew).heap[gl]? = some (.cells #[.int .i64 lev] 3 (0, 0)) := blk_drew (blk_far (p := ⟨W.heap.size, 0, none⟩) (blk_far (p := ⟨W.heap.size, 2, none⟩) (bl1) (Ne.symm e1) _) (Ne.symm e1) _)
  have bk2 : ((((W1.setCell ⟨W.heap.size, 2, none⟩ (.int .i64 js)).setCell ⟨W.heap.size, 0, none⟩ (.int .i64 (wrap64 (wrap64 (-sg) * at_))))).drew).heap[gk]? = some (.cells #[.int .i64 0] 3 (0, 0)) := blk_drew (blk_far (p := ⟨W.heap.size, 0, none⟩) (blk_far (p := ⟨W.heap.size, 2, none⟩) (bk1) (Ne.symm e2) _) (Ne.symm e2) _)
  have bf2 : ((((W1.setCell ⟨W.heap.size, 2, none⟩ (.int .i64 js)).setCell ⟨W.heap.size, 0, none⟩ (.int .i64 (wrap64 (wrap64 (-sg) * at_))))).drew).heap[gf]? = some (.cells #[.int .i64 1] 3 (0, 0)) := blk_drew (blk_far (p := ⟨W.heap.size, 0, none⟩) (blk_far (p := ⟨W.heap.size, 2, none⟩) (bf1) (Ne.symm e3) _) (Ne.symm e3) _)
  have bo2 : ((((W1.setCell ⟨W.heap.size, 2, none⟩ (.int .i64 js)).setCell ⟨W.heap.size, 0, none⟩ (.int .i64 (wrap64 (wrap64 (-sg) * at_))))).drew).heap[go_]? = some (.cells #[v] 80 (0, 0)) := blk_drew (blk_far (p := ⟨W.heap.size, 0, none⟩) (blk_far (p := ⟨W.heap.size, 2, none⟩) (bo1) (Ne.symm e4) _) (Ne.symm e4) _)
  have hR2 : Kd.R k67 67 ((((W1.setCell ⟨W.heap.size, 2, none⟩ (.int .i64 js)).setCell ⟨W.heap.size, 0, none⟩ (.int .i64 (wrap64 (wrap64 (-sg) * at_))))).drew) base (fun _ => True) v xs := Kd.R_drew (Kd.R_set (Kd.R_set (hR1) (bn1) (by decide) 2 _) (blk_put (bn1) 2 _ rfl) (by decide) 0 _)
  have hB2 : Below base W0 ((((W1.setCell ⟨W.heap.size, 2, none⟩ (.int .i64 js)).setCell ⟨W.heap.size, 0, none⟩ (.int .i64 (wrap64 (wrap64 (-sg) * at_))))).drew) := below_drew1 (((hB1).setCell (p := ⟨W.heap.size, 2, none⟩) (by show base ≤ W.heap.size; omega) _).setCell (p := ⟨W.heap.size, 0, none⟩) (by show base ≤ W.heap.size; omega) _)
  have s2 : ((((W1.setCell ⟨W.heap.size, 2, none⟩ (.int .i64 js)).setCell ⟨W.heap.size, 0, none⟩ (.int .i64 (wrap64 (wrap64 (-sg) * at_))))).drew).heap.size = W.heap.size + 1 := by simpa using s1
  generalize (((W1.setCell ⟨W.heap.size, 2, none⟩ (.int .i64 js)).setCell ⟨W.heap.size, 0, none⟩ (.int .i64 (wrap64 (wrap64 (-sg) * at_))))).drew = W2 at *
  clear f0 f1 f2 g0 g1 g2 ql qk bn1 bl1 bk1 bf1 bo1 hR1 hB1 s1
  have f0 := (blk_cell bn2 0).trans rfl
  have f1 := (blk_cell bn2 1).trans rfl
  have f2 := (blk_cell bn2 2).trans rfl
  have g0 := blk_frozen bn2 0
  have g1 := blk_frozen bn2 1
  have g2 := blk_frozen bn2 2
  have ql := (blk_cell bf2 0).trans rfl
  have qk := (blk_cell bk2 0).trans rfl
  go_wp2
  go_region
  have bn5 : (((W2.setCell ⟨W.heap.size, 0, none⟩ (.int .i64 (wrap64 (-(wrap64 (wrap64 (-sg) * at_))))))).drew).heap[W.heap.size]? = some (.cells #[.int .i64 (wrap64 (-(wrap64 (wrap64 (-sg) * at_)))), .int .i64 0, .int .i64 js] 124 (0, 0)) := blk_drew (blk_put (bn2) 0 _ rfl)
  have bl5 : (((W2.setCell ⟨W.heap.size, 0, none⟩ (.int .i64 (wrap64 (-(wrap64 (wrap64 (-sg) * at_))))))).drew).heap[gl]? = some (.cells #[.int .i64 lev] 3 (0, 0)) := blk_drew (blk_far (p := ⟨W.heap.size, 0, none⟩) (bl2) (Ne.symm e1) _)
  have bk5 : (((W2.setCell ⟨W.heap.size, 0, none⟩ (.int .i64 (wrap64 (-(wrap64 (wrap64 (-sg) * at_))))))).drew).heap[gk]? = some (.cells #[.int .i64 0] 3 (0, 0)) := blk_drew (blk_far (p := ⟨W.heap.size, 0, none⟩) (bk2) (Ne.symm e2) _)
  have bf5 : (((W2.setCell ⟨W.heap.size, 0, none⟩ (.int .i64 (wrap64 (-(wrap64 (wrap64 (-sg) * at_))))))).drew).heap[gf]? = some (.cells #[.int .i64 1] 3 (0, 0)) := blk_drew (blk_far (p := ⟨W.heap.size, 0, none⟩) (bf2) (Ne.symm e3) _)
  have bo5 : (((W2.setCell ⟨W.heap.size, 0, none⟩ (.int .i64 (wrap64 (-(wrap64 (wrap64 (-sg) * at_))))))).drew).heap[go_]? = some (.cells #[v] 80 (0, 0)) := blk_drew (blk_far (p := ⟨W.heap.size, 0, none⟩) (bo2) (Ne.symm e4) _)
  have hR5 : Kd.R k67 67 (((W2.setCell ⟨W.heap.size, 0, none⟩ (.int .i64 (wrap64 (-(wrap64 (wrap64 (-sg) * at_))))))).drew) base (fun _ => True) v xs := Kd.R_drew (Kd.R_set (hR2) (bn2) (by decide) 0 _)
  have hB5 : Below base W0 (((W2.setCell ⟨W.heap.size, 0, none⟩ (.int .i64 (wrap64 (-(wrap64 (wrap64 (-sg) * at_))))))).drew) := below_drew1 ((hB2).setCell (p := ⟨W.heap.size, 0, none⟩) (by show base ≤ W.heap.size; omega) _)
  have s5 : (((W2.setCell ⟨W.heap.size, 0, none⟩ (.int .i64 (wrap64 (-(wrap64 (wrap64 (-sg) * at_))))))).drew).heap.size = W.heap.size + 1 := by simpa using s2
  generalize ((W2.setCell ⟨W.heap.size, 0, none⟩ (.int .i64 (wrap64 (-(wrap64 (wrap64 (-sg) * at_))))))).drew = W5 at *
  clear f0 f1 f2 g0 g1 g2 ql qk bn2 bl2 bk2 bf2 bo2 hR2 hB2 s2
  have f0 := (blk_cell bn5 0).trans rfl
  have f1 := (blk_cell bn5 1).trans rfl
  have f2 := (blk_cell bn5 2).trans rfl
  have g0 := blk_frozen bn5 0
  have g1 := blk_frozen bn5 1
  have g2 := blk_frozen bn5 2
  have ql := (blk_cell bf5 0).trans rfl
  have qk := (blk_cell bk5 0).trans rfl
  go_wp2
  clear ql qk
  have qo := (blk_cell bo5 0).trans rfl
  have go1 := blk_frozen bo5 0
  go_region_law ((first | (refine gq_ Try.func116 #[.agg #[.int .i64 (wrap64 (-(wrap64 (wrap64 (-sg) * at_)))), .int .i64 0, .int .i64 js]] ?_; (with_reducible refine (tile_vec.calls (wrap64 (-(wrap64 (wrap64 (-sg) * at_)))) 0 js (wrap64 (-(wrap64 (wrap64 (-sg) * at_)))) 0 js _ rfl).mono ?_); rintro e w3 ⟨rfl, hb⟩; refine ⟨_, rfl, ?_⟩; have bl3 := (hb.block gl (by show gl < W5.heap.size; omega)).trans bl5; have bk3 := (hb.block gk (by show gk < W5.heap.size; omega)).trans bk5; have bf3 := (hb.block gf (by show gf < W5.heap.size; omega)).trans bf5; have bo3 := (hb.block go_ (by show go_ < W5.heap.size; omega)).trans bo5; have bn3 := (hb.block W.heap.size (by show W.heap.size < W5.heap.size; omega)).trans bn5; have hR3 := Kd.R_below (Kd.R_drew hR5) hb; have hB3 := (below_drew1 hB5).trans (hb.mono (by show base ≤ W5.heap.size; omega)); have s3 : W5.heap.size ≤ w3.heap.size := hb.size; clear hb; have q0 := (blk_cell bo3 0).trans rfl; have q1 := (blk_cell bn3 0).trans rfl; have q2 := (blk_cell bn3 1).trans rfl; have q3 := (blk_cell bn3 2).trans rfl; have q4 : (w3.alloc (.cells #[.int .i64 (wrap64 (-(wrap64 (wrap64 (-sg) * at_)))), .int .i64 0, .int .i64 js] 67)).cell? ⟨go_, 0, none⟩ = some v := (blk_cell (((World.grownBy_alloc w3 _ none).block go_ (by omega) (by simp)).trans bo3) 0).trans rfl) | ((refine Kd.R_append_step k67 (w0 := W0) base (by rfl) (.tmp 31) (.tmp 34) 80 67 (.agg #[(.int .i64 0), (.int .i64 0), (.int .i64 0)]) 24 rfl Try.underlying80 info67 rfl (by decide) (by omega) v xs (⟨(wrap64 (-(wrap64 (wrap64 (-sg) * at_)))), 0, js⟩ : S67) [.int .i64 (wrap64 (-(wrap64 (wrap64 (-sg) * at_)))), .int .i64 0, .int .i64 js] (fun _ => True) (fun _ => False) (by rfl) (by rfl) (k67_mkM _ _ _ _) (fun _ hk => hk.elim) (fun _ _ => trivial) hR3 hB3 (by omega) hlen ?_); intro v1 w4 hR4 hB4 hg4 _; obtain ⟨A4, c4, rfl⟩ := Kd.R_slice hR4; simp only [List.length_append, List.length_cons, List.length_nil, Nat.zero_add] at hR4; have bl4 := (hg4.block gl (by omega) (Kd.R_ne hR3 bl3 (by decide))).trans bl3; have bk4 := (hg4.block gk (by omega) (Kd.R_ne hR3 bk3 (by decide))).trans bk3; have bf4 := (hg4.block gf (by omega) (Kd.R_ne hR3 bf3 (by decide))).trans bf3; have bo4 := (hg4.block go_ (by omega) (Kd.R_ne hR3 bo3 (by decide))).trans bo3; have bn4 := (hg4.block W.heap.size (by omega) (Kd.R_ne hR3 bn3 (by decide))).trans bn3; have q0 := (blk_cell bo4 0).trans rfl; have q1 := (blk_cell bn4 0).trans rfl; have q2 := (blk_cell bn4 1).trans rfl; have q3 := (blk_cell bn4 2).trans rfl; have go4 := blk_frozen bo4 0)))
  all_goals
    go_end0
    exact ⟨_, rfl, blk_far (p := ⟨go_, 0, none⟩) bl4 no1 _, blk_far (p := ⟨go_, 0, none⟩) bk4 no2 _, blk_far (p := ⟨go_, 0, none⟩) bf4 no3 _, blk_put bo4 0 _ rfl, Kd.R_set hR4 bo4 (by decide) 0 _, hB4.setCell (p := ⟨go_, 0, none⟩) hb0 _, by have := hg4.size; simp; omega⟩
set_option maxHeartbeats 4000000 in
set_option maxRecDepth 100000 in
theorem tile_sides.s2i (base : Nat) (lev at_ sg js : Int) (gl gk gf go_ : Nat) (v : Value) (xs : List S67) (W0 W : World) (hl : 0 ≤ lev) (hjs : shl .i64 sg lev = js)
    (nl : gl < W.heap.size) (nk : gk < W.heap.size) (nf : gf < W.heap.size) (no : go_ < W.heap.size) (no1 : gl ≠ go_) (no2 : gk ≠ go_) (no3 : gf ≠ go_)
    (bl : W.heap[gl]? = some (.cells #[.int .i64 lev] 3 (0, 0))) (bk : W.heap[gk]? = some (.cells #[.int .i64 1] 3 (0, 0))) (bf : W.heap[gf]? = some (.cells #[.int .i64 2] 3 (0, 0))) (bo : W.heap[go_]? = some (.cells #[v] 80 (0, 0)))
    (hR : Kd.R k67 67 W base (fun _ => True) v xs) (hB : Below base W0 W) (hb0 : base ≤ go_) (hlen : (xs.length + 1) * 24 ≤ 140737488355328) :
    Calls Try.prog 115 #[.int .i64 2, .int .i64 at_, .int .i64 sg, .pointer (some ⟨gl, 0, none⟩), .pointer (some ⟨gk, 0, none⟩), .pointer (some ⟨gf, 0, none⟩), .pointer (some ⟨go_, 0, none⟩)] W fun e W' =>
      ∃ v', e = .returned (.tuple #[]) ∧ W'.heap[gl]? = some (.cells #[.int .i64 lev] 3 (0, 0)) ∧ W'.heap[gk]? = some (.cells #[.int .i64 1] 3 (0, 0)) ∧ W'.heap[gf]? = some (.cells #[.int .i64 2] 3 (0, 0)) ∧ W'.heap[go_]? = some (.cells #[v'] 80 (0, 0)) ∧
        Kd.R k67 67 W' base (fun _ => True) v' (xs ++ [⟨0, (wrap64 (wrap64 (-sg) * at_)), js⟩]) ∧ Below base W0 W' ∧ W.heap.size ≤ W'.heap.size := by
  have hu67 := Try.underlying67
  have hu124 := Try.underlying124
  have hji_ : (IntKind.i64.wrap (sg * 2 ^ min (lev).toNat 64)) = js := hjs
  have hjiy : (wrap64 (sg * 2 ^ min (lev).toNat 64)) = js := (i64_w _).symm.trans hji_
  have c4b0 := eq_true hl
  have c4b1 : decide (0 ≤ lev) = true := decide_eq_true hl
  obtain ⟨W1, hW1⟩ : ∃ W1, W.alloc (.cells #[.int .i64 0, .int .i64 0, .int .i64 0] 124) = W1 := ⟨_, rfl⟩
  have s1 : W1.heap.size = W.heap.size + 1 := by rw [← hW1]; simp
  have bn1 : W1.heap[W.heap.size]? = some (.cells #[.int .i64 0, .int .i64 0, .int .i64 0] 124 (0, 0)) := by rw [← hW1]; exact World.alloc_heap_new W _
  have ha : ∀ g o, g < W.heap.size → W.heap[g]? = some o → W1.heap[g]? = some o := fun g o h1 h2 => by rw [← hW1]; exact ((World.grownBy_alloc W _ none).block g h1 (by simp)).trans h2
  have bl1 := ha _ _ nl bl
  have bk1 := ha _ _ nk bk
  have bf1 := ha _ _ nf bf
  have bo1 := ha _ _ no bo
  have hR1 : Kd.R k67 67 W1 base (fun _ => True) v xs := by rw [← hW1]; exact Kd.R_alloc hR _
  have hB1 : Below base W0 W1 := by rw [← hW1]; exact hB.alloc (by omega) _
  clear ha
  have e1 : W.heap.size ≠ gl := by omega
  have e1' : gl ≠ W.heap.size := by omega
  have e2 : W.heap.size ≠ gk := by omega
  have e2' : gk ≠ W.heap.size := by omega
  have e3 : W.heap.size ≠ gf := by omega
  have e3' : gf ≠ W.heap.size := by omega
  have e4 : W.heap.size ≠ go_ := by omega
  have e4' : go_ ≠ W.heap.size := by omega
  have f0 := (blk_cell bn1 0).trans rfl
  have f1 := (blk_cell bn1 1).trans rfl
  have f2 := (blk_cell bn1 2).trans rfl
  have g0 := blk_frozen bn1 0
  have g1 := blk_frozen bn1 1
  have g2 := blk_frozen bn1 2
  have ql := (blk_cell bl1 0).trans rfl
  have qk := (blk_cell bk1 0).trans rfl
  go_enter Try.func115, Try.ntmps115
  go_wp2
  clear hW1
  go_region
  have bn2 : ((((W1.setCell ⟨W.heap.size, 2, none⟩ (.int .i64 js)).setCell ⟨W.heap.size, 1, none⟩ (.int .i64 (wrap64 (wrap64 (-sg) * at_))))).drew).heap[W.heap.size]? = some (.cells #[.int .i64 0, .int .i64 (wrap64 (wrap64 (-sg) * at_)), .int .i64 js] 124 (0, 0)) := blk_drew (blk_put (blk_put (bn1) 2 _ rfl) 1 _ rfl)
  have bl2 : ((((W1.setCell ⟨W.heap.size, 2, none⟩ (.int .i64 js)).setCell ⟨W.heap.size, 1, none⟩ (.int .i64 (wrap64 (wrap64 (-sg) * at_))))).drew).heap[gl]? = some (.cells #[.int .i64 lev] 3 (0, 0)) := blk_drew (blk_far (p := ⟨W.heap.size, 1, none⟩) (blk_far (p := ⟨W.heap.size, 2, none⟩) (bl1) (Ne.symm e1) _) (Ne.symm e1) _)
  have bk2 : ((((W1.setCell ⟨W.heap.size, 2, none⟩ (.int .i64 js)).setCell ⟨W.heap.size, 1, none⟩ (.int .i64 (wrap64 (wrap64 (-sg) * at_))))).drew).heap[gk]? = some (.cells #[.int .i64 1] 3 (0, 0)) := blk_drew (blk_far (p := ⟨W.heap.size, 1, none⟩) (blk_far (p := ⟨W.heap.size, 2, none⟩) (bk1) (Ne.symm e2) _) (Ne.symm e2) _)
  have bf2 : ((((W1.setCell ⟨W.heap.size, 2, none⟩ (.int .i64 js)).setCell ⟨W.heap.size, 1, none⟩ (.int .i64 (wrap64 (wrap64 (-sg) * at_))))).drew).heap[gf]? = some (.cells #[.int .i64 2] 3 (0, 0)) := blk_drew (blk_far (p := ⟨W.heap.size, 1, none⟩) (blk_far (p := ⟨W.heap.size, 2, none⟩) (bf1) (Ne.symm e3) _) (Ne.symm e3) _)
  have bo2 : ((((W1.setCell ⟨W.heap.size, 2, none⟩ (.int .i64 js)).setCell ⟨W.heap.size, 1, none⟩ (.int .i64 (wrap64 (wrap64 (-sg) * at_))))).drew).heap[go_]? = some (.cells #[v] 80 (0, 0)) := blk_drew (blk_far (p := ⟨W.heap.size, 1, none⟩) (blk_far (p := ⟨W.heap.size, 2, none⟩) (bo1) (Ne.symm e4) _) (Ne.symm e4) _)
  have hR2 : Kd.R k67 67 ((((W1.setCell ⟨W.heap.size, 2, none⟩ (.int .i64 js)).setCell ⟨W.heap.size, 1, none⟩ (.int .i64 (wrap64 (wrap64 (-sg) * at_))))).drew) base (fun _ => True) v xs := Kd.R_drew (Kd.R_set (Kd.R_set (hR1) (bn1) (by decide) 2 _) (blk_put (bn1) 2 _ rfl) (by decide) 1 _)
  have hB2 : Below base W0 ((((W1.setCell ⟨W.heap.size, 2, none⟩ (.int .i64 js)).setCell ⟨W.heap.size, 1, none⟩ (.int .i64 (wrap64 (wrap64 (-sg) * at_))))).drew) := below_drew1 (((hB1).setCell (p := ⟨W.heap.size, 2, none⟩) (by show base ≤ W.heap.size; omega) _).setCell (p := ⟨W.heap.size, 1, none⟩) (by show base ≤ W.heap.size; omega) _)
  have s2 : ((((W1.setCell ⟨W.heap.size, 2, none⟩ (.int .i64 js)).setCell ⟨W.heap.size, 1, none⟩ (.int .i64 (wrap64 (wrap64 (-sg) * at_))))).drew).heap.size = W.heap.size + 1 := by simpa using s1
  generalize (((W1.setCell ⟨W.heap.size, 2, none⟩ (.int .i64 js)).setCell ⟨W.heap.size, 1, none⟩ (.int .i64 (wrap64 (wrap64 (-sg) * at_))))).drew = W2 at *
  clear f0 f1 f2 g0 g1 g2 ql qk bn1 bl1 bk1 bf1 bo1 hR1 hB1 s1
  have f0 := (blk_cell bn2 0).trans rfl
  have f1 := (blk_cell bn2 1).trans rfl
  have f2 := (blk_cell bn2 2).trans rfl
  have g0 := blk_frozen bn2 0
  have g1 := blk_frozen bn2 1
  have g2 := blk_frozen bn2 2
  have ql := (blk_cell bf2 0).trans rfl
  have qk := (blk_cell bk2 0).trans rfl
  go_wp2
  clear ql qk
  have qo := (blk_cell bo2 0).trans rfl
  have go1 := blk_frozen bo2 0
  go_region_law ((first | (refine gq_ Try.func116 #[.agg #[.int .i64 0, .int .i64 (wrap64 (wrap64 (-sg) * at_)), .int .i64 js]] ?_; (with_reducible refine (tile_vec.calls 0 (wrap64 (wrap64 (-sg) * at_)) js 0 (wrap64 (wrap64 (-sg) * at_)) js _ rfl).mono ?_); rintro e w3 ⟨rfl, hb⟩; refine ⟨_, rfl, ?_⟩; have bl3 := (hb.block gl (by show gl < W2.heap.size; omega)).trans bl2; have bk3 := (hb.block gk (by show gk < W2.heap.size; omega)).trans bk2; have bf3 := (hb.block gf (by show gf < W2.heap.size; omega)).trans bf2; have bo3 := (hb.block go_ (by show go_ < W2.heap.size; omega)).trans bo2; have bn3 := (hb.block W.heap.size (by show W.heap.size < W2.heap.size; omega)).trans bn2; have hR3 := Kd.R_below (Kd.R_drew hR2) hb; have hB3 := (below_drew1 hB2).trans (hb.mono (by show base ≤ W2.heap.size; omega)); have s3 : W2.heap.size ≤ w3.heap.size := hb.size; clear hb; have q0 := (blk_cell bo3 0).trans rfl; have q1 := (blk_cell bn3 0).trans rfl; have q2 := (blk_cell bn3 1).trans rfl; have q3 := (blk_cell bn3 2).trans rfl; have q4 : (w3.alloc (.cells #[.int .i64 0, .int .i64 (wrap64 (wrap64 (-sg) * at_)), .int .i64 js] 67)).cell? ⟨go_, 0, none⟩ = some v := (blk_cell (((World.grownBy_alloc w3 _ none).block go_ (by omega) (by simp)).trans bo3) 0).trans rfl) | ((refine Kd.R_append_step k67 (w0 := W0) base (by rfl) (.tmp 31) (.tmp 34) 80 67 (.agg #[(.int .i64 0), (.int .i64 0), (.int .i64 0)]) 24 rfl Try.underlying80 info67 rfl (by decide) (by omega) v xs (⟨0, (wrap64 (wrap64 (-sg) * at_)), js⟩ : S67) [.int .i64 0, .int .i64 (wrap64 (wrap64 (-sg) * at_)), .int .i64 js] (fun _ => True) (fun _ => False) (by rfl) (by rfl) (k67_mkM _ _ _ _) (fun _ hk => hk.elim) (fun _ _ => trivial) hR3 hB3 (by omega) hlen ?_); intro v1 w4 hR4 hB4 hg4 _; obtain ⟨A4, c4, rfl⟩ := Kd.R_slice hR4; simp only [List.length_append, List.length_cons, List.length_nil, Nat.zero_add] at hR4; have bl4 := (hg4.block gl (by omega) (Kd.R_ne hR3 bl3 (by decide))).trans bl3; have bk4 := (hg4.block gk (by omega) (Kd.R_ne hR3 bk3 (by decide))).trans bk3; have bf4 := (hg4.block gf (by omega) (Kd.R_ne hR3 bf3 (by decide))).trans bf3; have bo4 := (hg4.block go_ (by omega) (Kd.R_ne hR3 bo3 (by decide))).trans bo3; have bn4 := (hg4.block W.heap.size (by omega) (Kd.R_ne hR3 bn3 (by decide))).trans bn3; have q0 := (blk_cell bo4 0).trans rfl; have q1 := (blk_cell bn4 0).trans rfl; have q2 := (blk_cell bn4 1).trans rfl; have q3 := (blk_cell bn4 2).trans rfl; have go4 := blk_frozen bo4 0)))
  all_goals
    go_end0
    exact ⟨_, rfl, blk_far (p := ⟨go_, 0, none⟩) bl4 no1 _, blk_far (p := ⟨go_, 0, none⟩) bk4 no2 _, blk_far (p := ⟨go_, 0, none⟩) bf4 no3 _, blk_put bo4 0 _ rfl, Kd.R_set hR4 bo4 (by decide) 0 _, hB4.setCell (p := ⟨go_, 0, none⟩) hb0 _, by have := hg4.size; simp; omega⟩
set_option maxHeartbeats 4000000 in
set_option maxRecDepth 100000 in
theorem tile_sides.s2j (base : Nat) (lev at_ sg js : Int) (gl gk gf go_ : Nat) (v : Value) (xs : List S67) (W0 W : World) (hl : 0 ≤ lev) (hjs : shl .i64 sg lev = js)
    (nl : gl < W.heap.size) (nk : gk < W.heap.size) (nf : gf < W.heap.size) (no : go_ < W.heap.size) (no1 : gl ≠ go_) (no2 : gk ≠ go_) (no3 : gf ≠ go_)
    (bl : W.heap[gl]? = some (.cells #[.int .i64 lev] 3 (0, 0))) (bk : W.heap[gk]? = some (.cells #[.int .i64 1] 3 (0, 0))) (bf : W.heap[gf]? = some (.cells #[.int .i64 2] 3 (0, 0))) (bo : W.heap[go_]? = some (.cells #[v] 80 (0, 0)))
    (hR : Kd.R k67 67 W base (fun _ => True) v xs) (hB : Below base W0 W) (hb0 : base ≤ go_) (hlen : (xs.length + 1) * 24 ≤ 140737488355328) :
    Calls Try.prog 115 #[.int .i64 0, .int .i64 at_, .int .i64 sg, .pointer (some ⟨gl, 0, none⟩), .pointer (some ⟨gk, 0, none⟩), .pointer (some ⟨gf, 0, none⟩), .pointer (some ⟨go_, 0, none⟩)] W fun e W' =>
      ∃ v', e = .returned (.tuple #[]) ∧ W'.heap[gl]? = some (.cells #[.int .i64 lev] 3 (0, 0)) ∧ W'.heap[gk]? = some (.cells #[.int .i64 1] 3 (0, 0)) ∧ W'.heap[gf]? = some (.cells #[.int .i64 2] 3 (0, 0)) ∧ W'.heap[go_]? = some (.cells #[v'] 80 (0, 0)) ∧
        Kd.R k67 67 W' base (fun _ => True) v' (xs ++ [⟨js, (wrap64 (wrap64 (-sg) * at_)), 0⟩]) ∧ Below base W0 W' ∧ W.heap.size ≤ W'.heap.size := by
  have hu67 := Try.underlying67
  have hu124 := Try.underlying124
  have hji_ : (IntKind.i64.wrap (sg * 2 ^ min (lev).toNat 64)) = js := hjs
  have hjiy : (wrap64 (sg * 2 ^ min (lev).toNat 64)) = js := (i64_w _).symm.trans hji_
  have c4b0 := eq_true hl
  have c4b1 : decide (0 ≤ lev) = true := decide_eq_true hl
  obtain ⟨W1, hW1⟩ : ∃ W1, W.alloc (.cells #[.int .i64 0, .int .i64 0, .int .i64 0] 124) = W1 := ⟨_, rfl⟩
  have s1 : W1.heap.size = W.heap.size + 1 := by rw [← hW1]; simp
  have bn1 : W1.heap[W.heap.size]? = some (.cells #[.int .i64 0, .int .i64 0, .int .i64 0] 124 (0, 0)) := by rw [← hW1]; exact World.alloc_heap_new W _
  have ha : ∀ g o, g < W.heap.size → W.heap[g]? = some o → W1.heap[g]? = some o := fun g o h1 h2 => by rw [← hW1]; exact ((World.grownBy_alloc W _ none).block g h1 (by simp)).trans h2
  have bl1 := ha _ _ nl bl
  have bk1 := ha _ _ nk bk
  have bf1 := ha _ _ nf bf
  have bo1 := ha _ _ no bo
  have hR1 : Kd.R k67 67 W1 base (fun _ => True) v xs := by rw [← hW1]; exact Kd.R_alloc hR _
  have hB1 : Below base W0 W1 := by rw [← hW1]; exact hB.alloc (by omega) _
  clear ha
  have e1 : W.heap.size ≠ gl := by omega
  have e1' : gl ≠ W.heap.size := by omega
  have e2 : W.heap.size ≠ gk := by omega
  have e2' : gk ≠ W.heap.size := by omega
  have e3 : W.heap.size ≠ gf := by omega
  have e3' : gf ≠ W.heap.size := by omega
  have e4 : W.heap.size ≠ go_ := by omega
  have e4' : go_ ≠ W.heap.size := by omega
  have f0 := (blk_cell bn1 0).trans rfl
  have f1 := (blk_cell bn1 1).trans rfl
  have f2 := (blk_cell bn1 2).trans rfl
  have g0 := blk_frozen bn1 0
  have g1 := blk_frozen bn1 1
  have g2 := blk_frozen bn1 2
  have ql := (blk_cell bl1 0).trans rfl
  have qk := (blk_cell bk1 0).trans rfl
  go_enter Try.func115, Try.ntmps115
  go_wp2
  clear hW1
  go_region
  have bn2 : ((((W1.setCell ⟨W.heap.size, 0, none⟩ (.int .i64 js)).setCell ⟨W.heap.size, 1, none⟩ (.int .i64 (wrap64 (wrap64 (-sg) * at_))))).drew).heap[W.heap.size]? = some (.cells #[.int .i64 js, .int .i64 (wrap64 (wrap64 (-sg) * at_)), .int .i64 0] 124 (0, 0)) := blk_drew (blk_put (blk_put (bn1) 0 _ rfl) 1 _ rfl)
  have bl2 : ((((W1.setCell ⟨W.heap.size, 0, none⟩ (.int .i64 js)).setCell ⟨W.heap.size, 1, none⟩ (.int .i64 (wrap64 (wrap64 (-sg) * at_))))).drew).heap[gl]? = some (.cells #[.int .i64 lev] 3 (0, 0)) := blk_drew (blk_far (p := ⟨W.heap.size, 1, none⟩) (blk_far (p := ⟨W.heap.size, 0, none⟩) (bl1) (Ne.symm e1) _) (Ne.symm e1) _)
  have bk2 : ((((W1.setCell ⟨W.heap.size, 0, none⟩ (.int .i64 js)).setCell ⟨W.heap.size, 1, none⟩ (.int .i64 (wrap64 (wrap64 (-sg) * at_))))).drew).heap[gk]? = some (.cells #[.int .i64 1] 3 (0, 0)) := blk_drew (blk_far (p := ⟨W.heap.size, 1, none⟩) (blk_far (p := ⟨W.heap.size, 0, none⟩) (bk1) (Ne.symm e2) _) (Ne.symm e2) _)
  have bf2 : ((((W1.setCell ⟨W.heap.size, 0, none⟩ (.int .i64 js)).setCell ⟨W.heap.size, 1, none⟩ (.int .i64 (wrap64 (wrap64 (-sg) * at_))))).drew).heap[gf]? = some (.cells #[.int .i64 2] 3 (0, 0)) := blk_drew (blk_far (p := ⟨W.heap.size, 1, none⟩) (blk_far (p := ⟨W.heap.size, 0, none⟩) (bf1) (Ne.symm e3) _) (Ne.symm e3) _)
  have bo2 : ((((W1.setCell ⟨W.heap.size, 0, none⟩ (.int .i64 js)).setCell ⟨W.heap.size, 1, none⟩ (.int .i64 (wrap64 (wrap64 (-sg) * at_))))).drew).heap[go_]? = some (.cells #[v] 80 (0, 0)) := blk_drew (blk_far (p := ⟨W.heap.size, 1, none⟩) (blk_far (p := ⟨W.heap.size, 0, none⟩) (bo1) (Ne.symm e4) _) (Ne.symm e4) _)
  have hR2 : Kd.R k67 67 ((((W1.setCell ⟨W.heap.size, 0, none⟩ (.int .i64 js)).setCell ⟨W.heap.size, 1, none⟩ (.int .i64 (wrap64 (wrap64 (-sg) * at_))))).drew) base (fun _ => True) v xs := Kd.R_drew (Kd.R_set (Kd.R_set (hR1) (bn1) (by decide) 0 _) (blk_put (bn1) 0 _ rfl) (by decide) 1 _)
  have hB2 : Below base W0 ((((W1.setCell ⟨W.heap.size, 0, none⟩ (.int .i64 js)).setCell ⟨W.heap.size, 1, none⟩ (.int .i64 (wrap64 (wrap64 (-sg) * at_))))).drew) := below_drew1 (((hB1).setCell (p := ⟨W.heap.size, 0, none⟩) (by show base ≤ W.heap.size; omega) _).setCell (p := ⟨W.heap.size, 1, none⟩) (by show base ≤ W.heap.size; omega) _)
  have s2 : ((((W1.setCell ⟨W.heap.size, 0, none⟩ (.int .i64 js)).setCell ⟨W.heap.size, 1, none⟩ (.int .i64 (wrap64 (wrap64 (-sg) * at_))))).drew).heap.size = W.heap.size + 1 := by simpa using s1
  generalize (((W1.setCell ⟨W.heap.size, 0, none⟩ (.int .i64 js)).setCell ⟨W.heap.size, 1, none⟩ (.int .i64 (wrap64 (wrap64 (-sg) * at_))))).drew = W2 at *
  clear f0 f1 f2 g0 g1 g2 ql qk bn1 bl1 bk1 bf1 bo1 hR1 hB1 s1
  have f0 := (blk_cell bn2 0).trans rfl
  have f1 := (blk_cell bn2 1).trans rfl
  have f2 := (blk_cell bn2 2).trans rfl
  have g0 := blk_frozen bn2 0
  have g1 := blk_frozen bn2 1
  have g2 := blk_frozen bn2 2
  have ql := (blk_cell bf2 0).trans rfl
  have qk := (blk_cell bk2 0).trans rfl
  go_wp2
  clear ql qk
  have qo := (blk_cell bo2 0).trans rfl
  have go1 := blk_frozen bo2 0
  go_region_law ((first | (refine gq_ Try.func116 #[.agg #[.int .i64 js, .int .i64 (wrap64 (wrap64 (-sg) * at_)), .int .i64 0]] ?_; (with_reducible refine (tile_vec.calls js (wrap64 (wrap64 (-sg) * at_)) 0 js (wrap64 (wrap64 (-sg) * at_)) 0 _ rfl).mono ?_); rintro e w3 ⟨rfl, hb⟩; refine ⟨_, rfl, ?_⟩; have bl3 := (hb.block gl (by show gl < W2.heap.size; omega)).trans bl2; have bk3 := (hb.block gk (by show gk < W2.heap.size; omega)).trans bk2; have bf3 := (hb.block gf (by show gf < W2.heap.size; omega)).trans bf2; have bo3 := (hb.block go_ (by show go_ < W2.heap.size; omega)).trans bo2; have bn3 := (hb.block W.heap.size (by show W.heap.size < W2.heap.size; omega)).trans bn2; have hR3 := Kd.R_below (Kd.R_drew hR2) hb; have hB3 := (below_drew1 hB2).trans (hb.mono (by show base ≤ W2.heap.size; omega)); have s3 : W2.heap.size ≤ w3.heap.size := hb.size; clear hb; have q0 := (blk_cell bo3 0).trans rfl; have q1 := (blk_cell bn3 0).trans rfl; have q2 := (blk_cell bn3 1).trans rfl; have q3 := (blk_cell bn3 2).trans rfl; have q4 : (w3.alloc (.cells #[.int .i64 js, .int .i64 (wrap64 (wrap64 (-sg) * at_)), .int .i64 0] 67)).cell? ⟨go_, 0, none⟩ = some v := (blk_cell (((World.grownBy_alloc w3 _ none).block go_ (by omega) (by simp)).trans bo3) 0).trans rfl) | ((refine Kd.R_append_step k67 (w0 := W0) base (by rfl) (.tmp 31) (.tmp 34) 80 67 (.agg #[(.int .i64 0), (.int .i64 0), (.int .i64 0)]) 24 rfl Try.underlying80 info67 rfl (by decide) (by omega) v xs (⟨js, (wrap64 (wrap64 (-sg) * at_)), 0⟩ : S67) [.int .i64 js, .int .i64 (wrap64 (wrap64 (-sg) * at_)), .int .i64 0] (fun _ => True) (fun _ => False) (by rfl) (by rfl) (k67_mkM _ _ _ _) (fun _ hk => hk.elim) (fun _ _ => trivial) hR3 hB3 (by omega) hlen ?_); intro v1 w4 hR4 hB4 hg4 _; obtain ⟨A4, c4, rfl⟩ := Kd.R_slice hR4; simp only [List.length_append, List.length_cons, List.length_nil, Nat.zero_add] at hR4; have bl4 := (hg4.block gl (by omega) (Kd.R_ne hR3 bl3 (by decide))).trans bl3; have bk4 := (hg4.block gk (by omega) (Kd.R_ne hR3 bk3 (by decide))).trans bk3; have bf4 := (hg4.block gf (by omega) (Kd.R_ne hR3 bf3 (by decide))).trans bf3; have bo4 := (hg4.block go_ (by omega) (Kd.R_ne hR3 bo3 (by decide))).trans bo3; have bn4 := (hg4.block W.heap.size (by omega) (Kd.R_ne hR3 bn3 (by decide))).trans bn3; have q0 := (blk_cell bo4 0).trans rfl; have q1 := (blk_cell bn4 0).trans rfl; have q2 := (blk_cell bn4 1).trans rfl; have q3 := (blk_cell bn4 2).trans rfl; have go4 := blk_frozen bo4 0)))
  all_goals
    go_end0
    exact ⟨_, rfl, blk_far (p := ⟨go_, 0, none⟩) bl4 no1 _, blk_far (p := ⟨go_, 0, none⟩) bk4 no2 _, blk_far (p := ⟨go_, 0, none⟩) bf4 no3 _, blk_put bo4 0 _ rfl, Kd.R_set hR4 bo4 (by decide) 0 _, hB4.setCell (p := ⟨go_, 0, none⟩) hb0 _, by have := hg4.size; simp; omega⟩
set_option maxHeartbeats 4000000 in
set_option maxRecDepth 100000 in
theorem tile_sides.s3i (base : Nat) (lev at_ sg js : Int) (gl gk gf go_ : Nat) (v : Value) (xs : List S67) (W0 W : World) (hl : 0 ≤ lev) (hjs : shl .i64 sg lev = js)
    (nl : gl < W.heap.size) (nk : gk < W.heap.size) (nf : gf < W.heap.size) (no : go_ < W.heap.size) (no1 : gl ≠ go_) (no2 : gk ≠ go_) (no3 : gf ≠ go_)
    (bl : W.heap[gl]? = some (.cells #[.int .i64 lev] 3 (0, 0))) (bk : W.heap[gk]? = some (.cells #[.int .i64 1] 3 (0, 0))) (bf : W.heap[gf]? = some (.cells #[.int .i64 3] 3 (0, 0))) (bo : W.heap[go_]? = some (.cells #[v] 80 (0, 0)))
    (hR : Kd.R k67 67 W base (fun _ => True) v xs) (hB : Below base W0 W) (hb0 : base ≤ go_) (hlen : (xs.length + 1) * 24 ≤ 140737488355328) :
    Calls Try.prog 115 #[.int .i64 2, .int .i64 at_, .int .i64 sg, .pointer (some ⟨gl, 0, none⟩), .pointer (some ⟨gk, 0, none⟩), .pointer (some ⟨gf, 0, none⟩), .pointer (some ⟨go_, 0, none⟩)] W fun e W' =>
      ∃ v', e = .returned (.tuple #[]) ∧ W'.heap[gl]? = some (.cells #[.int .i64 lev] 3 (0, 0)) ∧ W'.heap[gk]? = some (.cells #[.int .i64 1] 3 (0, 0)) ∧ W'.heap[gf]? = some (.cells #[.int .i64 3] 3 (0, 0)) ∧ W'.heap[go_]? = some (.cells #[v'] 80 (0, 0)) ∧
        Kd.R k67 67 W' base (fun _ => True) v' (xs ++ [⟨0, (wrap64 (-(wrap64 (wrap64 (-sg) * at_)))), js⟩]) ∧ Below base W0 W' ∧ W.heap.size ≤ W'.heap.size := by
  have hu67 := Try.underlying67
  have hu124 := Try.underlying124
  have hji_ : (IntKind.i64.wrap (sg * 2 ^ min (lev).toNat 64)) = js := hjs
  have hjiy : (wrap64 (sg * 2 ^ min (lev).toNat 64)) = js := (i64_w _).symm.trans hji_
  have c4b0 := eq_true hl
  have c4b1 : decide (0 ≤ lev) = true := decide_eq_true hl
  obtain ⟨W1, hW1⟩ : ∃ W1, W.alloc (.cells #[.int .i64 0, .int .i64 0, .int .i64 0] 124) = W1 := ⟨_, rfl⟩
  have s1 : W1.heap.size = W.heap.size + 1 := by rw [← hW1]; simp
  have bn1 : W1.heap[W.heap.size]? = some (.cells #[.int .i64 0, .int .i64 0, .int .i64 0] 124 (0, 0)) := by rw [← hW1]; exact World.alloc_heap_new W _
  have ha : ∀ g o, g < W.heap.size → W.heap[g]? = some o → W1.heap[g]? = some o := fun g o h1 h2 => by rw [← hW1]; exact ((World.grownBy_alloc W _ none).block g h1 (by simp)).trans h2
  have bl1 := ha _ _ nl bl
  have bk1 := ha _ _ nk bk
  have bf1 := ha _ _ nf bf
  have bo1 := ha _ _ no bo
  have hR1 : Kd.R k67 67 W1 base (fun _ => True) v xs := by rw [← hW1]; exact Kd.R_alloc hR _
  have hB1 : Below base W0 W1 := by rw [← hW1]; exact hB.alloc (by omega) _
  clear ha
  have e1 : W.heap.size ≠ gl := by omega
  have e1' : gl ≠ W.heap.size := by omega
  have e2 : W.heap.size ≠ gk := by omega
  have e2' : gk ≠ W.heap.size := by omega
  have e3 : W.heap.size ≠ gf := by omega
  have e3' : gf ≠ W.heap.size := by omega
  have e4 : W.heap.size ≠ go_ := by omega
  have e4' : go_ ≠ W.heap.size := by omega
  have f0 := (blk_cell bn1 0).trans rfl
  have f1 := (blk_cell bn1 1).trans rfl
  have f2 := (blk_cell bn1 2).trans rfl
  have g0 := blk_frozen bn1 0
  have g1 := blk_frozen bn1 1
  have g2 := blk_frozen bn1 2
  have ql := (blk_cell bl1 0).trans rfl
  have qk := (blk_cell bk1 0).trans rfl
  go_enter Try.func115, Try.ntmps115
  go_wp2
  clear hW1
  go_region
  have bn2 : ((((W1.setCell ⟨W.heap.size, 2, none⟩ (.int .i64 js)).setCell ⟨W.heap.size, 1, none⟩ (.int .i64 (wrap64 (wrap64 (-sg) * at_))))).drew).heap[W.heap.size]? = some (.cells #[.int .i64 0, .int .i64 (wrap64 (wrap64 (-sg) * at_)), .int .i64 js] 124 (0, 0)) := blk_drew (blk_put (blk_put (bn1) 2 _ rfl) 1 _ rfl)
  have bl2 : ((((W1.setCell ⟨W.heap.size, 2, none⟩ (.int .i64 js)).setCell ⟨W.heap.size, 1, none⟩ (.int .i64 (wrap64 (wrap64 (-sg) * at_))))).drew).heap[gl]? = some (.cells #[.int .i64 lev] 3 (0, 0)) := blk_drew (blk_far (p := ⟨W.heap.size, 1, none⟩) (blk_far (p := ⟨W.heap.size, 2, none⟩) (bl1) (Ne.symm e1) _) (Ne.symm e1) _)
  have bk2 : ((((W1.setCell ⟨W.heap.size, 2, none⟩ (.int .i64 js)).setCell ⟨W.heap.size, 1, none⟩ (.int .i64 (wrap64 (wrap64 (-sg) * at_))))).drew).heap[gk]? = some (.cells #[.int .i64 1] 3 (0, 0)) := blk_drew (blk_far (p := ⟨W.heap.size, 1, none⟩) (blk_far (p := ⟨W.heap.size, 2, none⟩) (bk1) (Ne.symm e2) _) (Ne.symm e2) _)
  have bf2 : ((((W1.setCell ⟨W.heap.size, 2, none⟩ (.int .i64 js)).setCell ⟨W.heap.size, 1, none⟩ (.int .i64 (wrap64 (wrap64 (-sg) * at_))))).drew).heap[gf]? = some (.cells #[.int .i64 3] 3 (0, 0)) := blk_drew (blk_far (p := ⟨W.heap.size, 1, none⟩) (blk_far (p := ⟨W.heap.size, 2, none⟩) (bf1) (Ne.symm e3) _) (Ne.symm e3) _)
  have bo2 : ((((W1.setCell ⟨W.heap.size, 2, none⟩ (.int .i64 js)).setCell ⟨W.heap.size, 1, none⟩ (.int .i64 (wrap64 (wrap64 (-sg) * at_))))).drew).heap[go_]? = some (.cells #[v] 80 (0, 0)) := blk_drew (blk_far (p := ⟨W.heap.size, 1, none⟩) (blk_far (p := ⟨W.heap.size, 2, none⟩) (bo1) (Ne.symm e4) _) (Ne.symm e4) _)
  have hR2 : Kd.R k67 67 ((((W1.setCell ⟨W.heap.size, 2, none⟩ (.int .i64 js)).setCell ⟨W.heap.size, 1, none⟩ (.int .i64 (wrap64 (wrap64 (-sg) * at_))))).drew) base (fun _ => True) v xs := Kd.R_drew (Kd.R_set (Kd.R_set (hR1) (bn1) (by decide) 2 _) (blk_put (bn1) 2 _ rfl) (by decide) 1 _)
  have hB2 : Below base W0 ((((W1.setCell ⟨W.heap.size, 2, none⟩ (.int .i64 js)).setCell ⟨W.heap.size, 1, none⟩ (.int .i64 (wrap64 (wrap64 (-sg) * at_))))).drew) := below_drew1 (((hB1).setCell (p := ⟨W.heap.size, 2, none⟩) (by show base ≤ W.heap.size; omega) _).setCell (p := ⟨W.heap.size, 1, none⟩) (by show base ≤ W.heap.size; omega) _)
  have s2 : ((((W1.setCell ⟨W.heap.size, 2, none⟩ (.int .i64 js)).setCell ⟨W.heap.size, 1, none⟩ (.int .i64 (wrap64 (wrap64 (-sg) * at_))))).drew).heap.size = W.heap.size + 1 := by simpa using s1
  generalize (((W1.setCell ⟨W.heap.size, 2, none⟩ (.int .i64 js)).setCell ⟨W.heap.size, 1, none⟩ (.int .i64 (wrap64 (wrap64 (-sg) * at_))))).drew = W2 at *
  clear f0 f1 f2 g0 g1 g2 ql qk bn1 bl1 bk1 bf1 bo1 hR1 hB1 s1
  have f0 := (blk_cell bn2 0).trans rfl
  have f1 := (blk_cell bn2 1).trans rfl
  have f2 := (blk_cell bn2 2).trans rfl
  have g0 := blk_frozen bn2 0
  have g1 := blk_frozen bn2 1
  have g2 := blk_frozen bn2 2
  have ql := (blk_cell bf2 0).trans rfl
  have qk := (blk_cell bk2 0).trans rfl
  go_wp2
  go_region
  have bn5 : (((W2.setCell ⟨W.heap.size, 1, none⟩ (.int .i64 (wrap64 (-(wrap64 (wrap64 (-sg) * at_))))))).drew).heap[W.heap.size]? = some (.cells #[.int .i64 0, .int .i64 (wrap64 (-(wrap64 (wrap64 (-sg) * at_)))), .int .i64 js] 124 (0, 0)) := blk_drew (blk_put (bn2) 1 _ rfl)
  have bl5 : (((W2.setCell ⟨W.heap.size, 1, none⟩ (.int .i64 (wrap64 (-(wrap64 (wrap64 (-sg) * at_))))))).drew).heap[gl]? = some (.cells #[.int .i64 lev] 3 (0, 0)) := blk_drew (blk_far (p := ⟨W.heap.size, 1, none⟩) (bl2) (Ne.symm e1) _)
  have bk5 : (((W2.setCell ⟨W.heap.size, 1, none⟩ (.int .i64 (wrap64 (-(wrap64 (wrap64 (-sg) * at_))))))).drew).heap[gk]? = some (.cells #[.int .i64 1] 3 (0, 0)) := blk_drew (blk_far (p := ⟨W.heap.size, 1, none⟩) (bk2) (Ne.symm e2) _)
  have bf5 : (((W2.setCell ⟨W.heap.size, 1, none⟩ (.int .i64 (wrap64 (-(wrap64 (wrap64 (-sg) * at_))))))).drew).heap[gf]? = some (.cells #[.int .i64 3] 3 (0, 0)) := blk_drew (blk_far (p := ⟨W.heap.size, 1, none⟩) (bf2) (Ne.symm e3) _)
  have bo5 : (((W2.setCell ⟨W.heap.size, 1, none⟩ (.int .i64 (wrap64 (-(wrap64 (wrap64 (-sg) * at_))))))).drew).heap[go_]? = some (.cells #[v] 80 (0, 0)) := blk_drew (blk_far (p := ⟨W.heap.size, 1, none⟩) (bo2) (Ne.symm e4) _)
  have hR5 : Kd.R k67 67 (((W2.setCell ⟨W.heap.size, 1, none⟩ (.int .i64 (wrap64 (-(wrap64 (wrap64 (-sg) * at_))))))).drew) base (fun _ => True) v xs := Kd.R_drew (Kd.R_set (hR2) (bn2) (by decide) 1 _)
  have hB5 : Below base W0 (((W2.setCell ⟨W.heap.size, 1, none⟩ (.int .i64 (wrap64 (-(wrap64 (wrap64 (-sg) * at_))))))).drew) := below_drew1 ((hB2).setCell (p := ⟨W.heap.size, 1, none⟩) (by show base ≤ W.heap.size; omega) _)
  have s5 : (((W2.setCell ⟨W.heap.size, 1, none⟩ (.int .i64 (wrap64 (-(wrap64 (wrap64 (-sg) * at_))))))).drew).heap.size = W.heap.size + 1 := by simpa using s2
  generalize ((W2.setCell ⟨W.heap.size, 1, none⟩ (.int .i64 (wrap64 (-(wrap64 (wrap64 (-sg) * at_))))))).drew = W5 at *
  clear f0 f1 f2 g0 g1 g2 ql qk bn2 bl2 bk2 bf2 bo2 hR2 hB2 s2
  have f0 := (blk_cell bn5 0).trans rfl
  have f1 := (blk_cell bn5 1).trans rfl
  have f2 := (blk_cell bn5 2).trans rfl
  have g0 := blk_frozen bn5 0
  have g1 := blk_frozen bn5 1
  have g2 := blk_frozen bn5 2
  have ql := (blk_cell bf5 0).trans rfl
  have qk := (blk_cell bk5 0).trans rfl
  go_wp2
  clear ql qk
  have qo := (blk_cell bo5 0).trans rfl
  have go1 := blk_frozen bo5 0
  go_region_law ((first | (refine gq_ Try.func116 #[.agg #[.int .i64 0, .int .i64 (wrap64 (-(wrap64 (wrap64 (-sg) * at_)))), .int .i64 js]] ?_; (with_reducible refine (tile_vec.calls 0 (wrap64 (-(wrap64 (wrap64 (-sg) * at_)))) js 0 (wrap64 (-(wrap64 (wrap64 (-sg) * at_)))) js _ rfl).mono ?_); rintro e w3 ⟨rfl, hb⟩; refine ⟨_, rfl, ?_⟩; have bl3 := (hb.block gl (by show gl < W5.heap.size; omega)).trans bl5; have bk3 := (hb.block gk (by show gk < W5.heap.size; omega)).trans bk5; have bf3 := (hb.block gf (by show gf < W5.heap.size; omega)).trans bf5; have bo3 := (hb.block go_ (by show go_ < W5.heap.size; omega)).trans bo5; have bn3 := (hb.block W.heap.size (by show W.heap.size < W5.heap.size; omega)).trans bn5; have hR3 := Kd.R_below (Kd.R_drew hR5) hb; have hB3 := (below_drew1 hB5).trans (hb.mono (by show base ≤ W5.heap.size; omega)); have s3 : W5.heap.size ≤ w3.heap.size := hb.size; clear hb; have q0 := (blk_cell bo3 0).trans rfl; have q1 := (blk_cell bn3 0).trans rfl; have q2 := (blk_cell bn3 1).trans rfl; have q3 := (blk_cell bn3 2).trans rfl; have q4 : (w3.alloc (.cells #[.int .i64 0, .int .i64 (wrap64 (-(wrap64 (wrap64 (-sg) * at_)))), .int .i64 js] 67)).cell? ⟨go_, 0, none⟩ = some v := (blk_cell (((World.grownBy_alloc w3 _ none).block go_ (by omega) (by simp)).trans bo3) 0).trans rfl) | ((refine Kd.R_append_step k67 (w0 := W0) base (by rfl) (.tmp 31) (.tmp 34) 80 67 (.agg #[(.int .i64 0), (.int .i64 0), (.int .i64 0)]) 24 rfl Try.underlying80 info67 rfl (by decide) (by omega) v xs (⟨0, (wrap64 (-(wrap64 (wrap64 (-sg) * at_)))), js⟩ : S67) [.int .i64 0, .int .i64 (wrap64 (-(wrap64 (wrap64 (-sg) * at_)))), .int .i64 js] (fun _ => True) (fun _ => False) (by rfl) (by rfl) (k67_mkM _ _ _ _) (fun _ hk => hk.elim) (fun _ _ => trivial) hR3 hB3 (by omega) hlen ?_); intro v1 w4 hR4 hB4 hg4 _; obtain ⟨A4, c4, rfl⟩ := Kd.R_slice hR4; simp only [List.length_append, List.length_cons, List.length_nil, Nat.zero_add] at hR4; have bl4 := (hg4.block gl (by omega) (Kd.R_ne hR3 bl3 (by decide))).trans bl3; have bk4 := (hg4.block gk (by omega) (Kd.R_ne hR3 bk3 (by decide))).trans bk3; have bf4 := (hg4.block gf (by omega) (Kd.R_ne hR3 bf3 (by decide))).trans bf3; have bo4 := (hg4.block go_ (by omega) (Kd.R_ne hR3 bo3 (by decide))).trans bo3; have bn4 := (hg4.block W.heap.size (by omega) (Kd.R_ne hR3 bn3 (by decide))).trans bn3; have q0 := (blk_cell bo4 0).trans rfl; have q1 := (blk_cell bn4 0).trans rfl; have q2 := (blk_cell bn4 1).trans rfl; have q3 := (blk_cell bn4 2).trans rfl; have go4 := blk_frozen bo4 0)))
  all_goals
    go_end0
    exact ⟨_, rfl, blk_far (p := ⟨go_, 0, none⟩) bl4 no1 _, blk_far (p := ⟨go_, 0, none⟩) bk4 no2 _, blk_far (p := ⟨go_, 0, none⟩) bf4 no3 _, blk_put bo4 0 _ rfl, Kd.R_set hR4 bo4 (by decide) 0 _, hB4.setCell (p := ⟨go_, 0, none⟩) hb0 _, by have := hg4.size; simp; omega⟩
set_option maxHeartbeats 4000000 in
set_option maxRecDepth 100000 in
theorem tile_sides.s3j (base : Nat) (lev at_ sg js : Int) (gl gk gf go_ : Nat) (v : Value) (xs : List S67) (W0 W : World) (hl : 0 ≤ lev) (hjs : shl .i64 sg lev = js)
    (nl : gl < W.heap.size) (nk : gk < W.heap.size) (nf : gf < W.heap.size) (no : go_ < W.heap.size) (no1 : gl ≠ go_) (no2 : gk ≠ go_) (no3 : gf ≠ go_)
    (bl : W.heap[gl]? = some (.cells #[.int .i64 lev] 3 (0, 0))) (bk : W.heap[gk]? = some (.cells #[.int .i64 1] 3 (0, 0))) (bf : W.heap[gf]? = some (.cells #[.int .i64 3] 3 (0, 0))) (bo : W.heap[go_]? = some (.cells #[v] 80 (0, 0)))
    (hR : Kd.R k67 67 W base (fun _ => True) v xs) (hB : Below base W0 W) (hb0 : base ≤ go_) (hlen : (xs.length + 1) * 24 ≤ 140737488355328) :
    Calls Try.prog 115 #[.int .i64 0, .int .i64 at_, .int .i64 sg, .pointer (some ⟨gl, 0, none⟩), .pointer (some ⟨gk, 0, none⟩), .pointer (some ⟨gf, 0, none⟩), .pointer (some ⟨go_, 0, none⟩)] W fun e W' =>
      ∃ v', e = .returned (.tuple #[]) ∧ W'.heap[gl]? = some (.cells #[.int .i64 lev] 3 (0, 0)) ∧ W'.heap[gk]? = some (.cells #[.int .i64 1] 3 (0, 0)) ∧ W'.heap[gf]? = some (.cells #[.int .i64 3] 3 (0, 0)) ∧ W'.heap[go_]? = some (.cells #[v'] 80 (0, 0)) ∧
        Kd.R k67 67 W' base (fun _ => True) v' (xs ++ [⟨js, (wrap64 (-(wrap64 (wrap64 (-sg) * at_)))), 0⟩]) ∧ Below base W0 W' ∧ W.heap.size ≤ W'.heap.size := by
  have hu67 := Try.underlying67
  have hu124 := Try.underlying124
  have hji_ : (IntKind.i64.wrap (sg * 2 ^ min (lev).toNat 64)) = js := hjs
  have hjiy : (wrap64 (sg * 2 ^ min (lev).toNat 64)) = js := (i64_w _).symm.trans hji_
  have c4b0 := eq_true hl
  have c4b1 : decide (0 ≤ lev) = true := decide_eq_true hl
  obtain ⟨W1, hW1⟩ : ∃ W1, W.alloc (.cells #[.int .i64 0, .int .i64 0, .int .i64 0] 124) = W1 := ⟨_, rfl⟩
  have s1 : W1.heap.size = W.heap.size + 1 := by rw [← hW1]; simp
  have bn1 : W1.heap[W.heap.size]? = some (.cells #[.int .i64 0, .int .i64 0, .int .i64 0] 124 (0, 0)) := by rw [← hW1]; exact World.alloc_heap_new W _
  have ha : ∀ g o, g < W.heap.size → W.heap[g]? = some o → W1.heap[g]? = some o := fun g o h1 h2 => by rw [← hW1]; exact ((World.grownBy_alloc W _ none).block g h1 (by simp)).trans h2
  have bl1 := ha _ _ nl bl
  have bk1 := ha _ _ nk bk
  have bf1 := ha _ _ nf bf
  have bo1 := ha _ _ no bo
  have hR1 : Kd.R k67 67 W1 base (fun _ => True) v xs := by rw [← hW1]; exact Kd.R_alloc hR _
  have hB1 : Below base W0 W1 := by rw [← hW1]; exact hB.alloc (by omega) _
  clear ha
  have e1 : W.heap.size ≠ gl := by omega
  have e1' : gl ≠ W.heap.size := by omega
  have e2 : W.heap.size ≠ gk := by omega
  have e2' : gk ≠ W.heap.size := by omega
  have e3 : W.heap.size ≠ gf := by omega
  have e3' : gf ≠ W.heap.size := by omega
  have e4 : W.heap.size ≠ go_ := by omega
  have e4' : go_ ≠ W.heap.size := by omega
  have f0 := (blk_cell bn1 0).trans rfl
  have f1 := (blk_cell bn1 1).trans rfl
  have f2 := (blk_cell bn1 2).trans rfl
  have g0 := blk_frozen bn1 0
  have g1 := blk_frozen bn1 1
  have g2 := blk_frozen bn1 2
  have ql := (blk_cell bl1 0).trans rfl
  have qk := (blk_cell bk1 0).trans rfl
  go_enter Try.func115, Try.ntmps115
  go_wp2
  clear hW1
  go_region
  have bn2 : ((((W1.setCell ⟨W.heap.size, 0, none⟩ (.int .i64 js)).setCell ⟨W.heap.size, 1, none⟩ (.int .i64 (wrap64 (wrap64 (-sg) * at_))))).drew).heap[W.heap.size]? = some (.cells #[.int .i64 js, .int .i64 (wrap64 (wrap64 (-sg) * at_)), .int .i64 0] 124 (0, 0)) := blk_drew (blk_put (blk_put (bn1) 0 _ rfl) 1 _ rfl)
  have bl2 : ((((W1.setCell ⟨W.heap.size, 0, none⟩ (.int .i64 js)).setCell ⟨W.heap.size, 1, none⟩ (.int .i64 (wrap64 (wrap64 (-sg) * at_))))).drew).heap[gl]? = some (.cells #[.int .i64 lev] 3 (0, 0)) := blk_drew (blk_far (p := ⟨W.heap.size, 1, none⟩) (blk_far (p := ⟨W.heap.size, 0, none⟩) (bl1) (Ne.symm e1) _) (Ne.symm e1) _)
  have bk2 : ((((W1.setCell ⟨W.heap.size, 0, none⟩ (.int .i64 js)).setCell ⟨W.heap.size, 1, none⟩ (.int .i64 (wrap64 (wrap64 (-sg) * at_))))).drew).heap[gk]? = some (.cells #[.int .i64 1] 3 (0, 0)) := blk_drew (blk_far (p := ⟨W.heap.size, 1, none⟩) (blk_far (p := ⟨W.heap.size, 0, none⟩) (bk1) (Ne.symm e2) _) (Ne.symm e2) _)
  have bf2 : ((((W1.setCell ⟨W.heap.size, 0, none⟩ (.int .i64 js)).setCell ⟨W.heap.size, 1, none⟩ (.int .i64 (wrap64 (wrap64 (-sg) * at_))))).drew).heap[gf]? = some (.cells #[.int .i64 3] 3 (0, 0)) := blk_drew (blk_far (p := ⟨W.heap.size, 1, none⟩) (blk_far (p := ⟨W.heap.size, 0, none⟩) (bf1) (Ne.symm e3) _) (Ne.symm e3) _)
  have bo2 : ((((W1.setCell ⟨W.heap.size, 0, none⟩ (.int .i64 js)).setCell ⟨W.heap.size, 1, none⟩ (.int .i64 (wrap64 (wrap64 (-sg) * at_))))).drew).heap[go_]? = some (.cells #[v] 80 (0, 0)) := blk_drew (blk_far (p := ⟨W.heap.size, 1, none⟩) (blk_far (p := ⟨W.heap.size, 0, none⟩) (bo1) (Ne.symm e4) _) (Ne.symm e4) _)
  have hR2 : Kd.R k67 67 ((((W1.setCell ⟨W.heap.size, 0, none⟩ (.int .i64 js)).setCell ⟨W.heap.size, 1, none⟩ (.int .i64 (wrap64 (wrap64 (-sg) * at_))))).drew) base (fun _ => True) v xs := Kd.R_drew (Kd.R_set (Kd.R_set (hR1) (bn1) (by decide) 0 _) (blk_put (bn1) 0 _ rfl) (by decide) 1 _)
  have hB2 : Below base W0 ((((W1.setCell ⟨W.heap.size, 0, none⟩ (.int .i64 js)).setCell ⟨W.heap.size, 1, none⟩ (.int .i64 (wrap64 (wrap64 (-sg) * at_))))).drew) := below_drew1 (((hB1).setCell (p := ⟨W.heap.size, 0, none⟩) (by show base ≤ W.heap.size; omega) _).setCell (p := ⟨W.heap.size, 1, none⟩) (by show base ≤ W.heap.size; omega) _)
  have s2 : ((((W1.setCell ⟨W.heap.size, 0, none⟩ (.int .i64 js)).setCell ⟨W.heap.size, 1, none⟩ (.int .i64 (wrap64 (wrap64 (-sg) * at_))))).drew).heap.size = W.heap.size + 1 := by simpa using s1
  generalize (((W1.setCell ⟨W.heap.size, 0, none⟩ (.int .i64 js)).setCell ⟨W.heap.size, 1, none⟩ (.int .i64 (wrap64 (wrap64 (-sg) * at_))))).drew = W2 at *
  clear f0 f1 f2 g0 g1 g2 ql qk bn1 bl1 bk1 bf1 bo1 hR1 hB1 s1
  have f0 := (blk_cell bn2 0).trans rfl
  have f1 := (blk_cell bn2 1).trans rfl
  have f2 := (blk_cell bn2 2).trans rfl
  have g0 := blk_frozen bn2 0
  have g1 := blk_frozen bn2 1
  have g2 := blk_frozen bn2 2
  have ql := (blk_cell bf2 0).trans rfl
  have qk := (blk_cell bk2 0).trans rfl
  go_wp2
  go_region
  have bn5 : (((W2.setCell ⟨W.heap.size, 1, none⟩ (.int .i64 (wrap64 (-(wrap64 (wrap64 (-sg) * at_))))))).drew).heap[W.heap.size]? = some (.cells #[.int .i64 js, .int .i64 (wrap64 (-(wrap64 (wrap64 (-sg) * at_)))), .int .i64 0] 124 (0, 0)) := blk_drew (blk_put (bn2) 1 _ rfl)
  have bl5 : (((W2.setCell ⟨W.heap.size, 1, none⟩ (.int .i64 (wrap64 (-(wrap64 (wrap64 (-sg) * at_))))))).drew).heap[gl]? = some (.cells #[.int .i64 lev] 3 (0, 0)) := blk_drew (blk_far (p := ⟨W.heap.size, 1, none⟩) (bl2) (Ne.symm e1) _)
  have bk5 : (((W2.setCell ⟨W.heap.size, 1, none⟩ (.int .i64 (wrap64 (-(wrap64 (wrap64 (-sg) * at_))))))).drew).heap[gk]? = some (.cells #[.int .i64 1] 3 (0, 0)) := blk_drew (blk_far (p := ⟨W.heap.size, 1, none⟩) (bk2) (Ne.symm e2) _)
  have bf5 : (((W2.setCell ⟨W.heap.size, 1, none⟩ (.int .i64 (wrap64 (-(wrap64 (wrap64 (-sg) * at_))))))).drew).heap[gf]? = some (.cells #[.int .i64 3] 3 (0, 0)) := blk_drew (blk_far (p := ⟨W.heap.size, 1, none⟩) (bf2) (Ne.symm e3) _)
  have bo5 : (((W2.setCell ⟨W.heap.size, 1, none⟩ (.int .i64 (wrap64 (-(wrap64 (wrap64 (-sg) * at_))))))).drew).heap[go_]? = some (.cells #[v] 80 (0, 0)) := blk_drew (blk_far (p := ⟨W.heap.size, 1, none⟩) (bo2) (Ne.symm e4) _)
  have hR5 : Kd.R k67 67 (((W2.setCell ⟨W.heap.size, 1, none⟩ (.int .i64 (wrap64 (-(wrap64 (wrap64 (-sg) * at_))))))).drew) base (fun _ => True) v xs := Kd.R_drew (Kd.R_set (hR2) (bn2) (by decide) 1 _)
  have hB5 : Below base W0 (((W2.setCell ⟨W.heap.size, 1, none⟩ (.int .i64 (wrap64 (-(wrap64 (wrap64 (-sg) * at_))))))).drew) := below_drew1 ((hB2).setCell (p := ⟨W.heap.size, 1, none⟩) (by show base ≤ W.heap.size; omega) _)
  have s5 : (((W2.setCell ⟨W.heap.size, 1, none⟩ (.int .i64 (wrap64 (-(wrap64 (wrap64 (-sg) * at_))))))).drew).heap.size = W.heap.size + 1 := by simpa using s2
  generalize ((W2.setCell ⟨W.heap.size, 1, none⟩ (.int .i64 (wrap64 (-(wrap64 (wrap64 (-sg) * at_))))))).drew = W5 at *
  clear f0 f1 f2 g0 g1 g2 ql qk bn2 bl2 bk2 bf2 bo2 hR2 hB2 s2
  have f0 := (blk_cell bn5 0).trans rfl
  have f1 := (blk_cell bn5 1).trans rfl
  have f2 := (blk_cell bn5 2).trans rfl
  have g0 := blk_frozen bn5 0
  have g1 := blk_frozen bn5 1
  have g2 := blk_frozen bn5 2
  have ql := (blk_cell bf5 0).trans rfl
  have qk := (blk_cell bk5 0).trans rfl
  go_wp2
  clear ql qk
  have qo := (blk_cell bo5 0).trans rfl
  have go1 := blk_frozen bo5 0
  go_region_law ((first | (refine gq_ Try.func116 #[.agg #[.int .i64 js, .int .i64 (wrap64 (-(wrap64 (wrap64 (-sg) * at_)))), .int .i64 0]] ?_; (with_reducible refine (tile_vec.calls js (wrap64 (-(wrap64 (wrap64 (-sg) * at_)))) 0 js (wrap64 (-(wrap64 (wrap64 (-sg) * at_)))) 0 _ rfl).mono ?_); rintro e w3 ⟨rfl, hb⟩; refine ⟨_, rfl, ?_⟩; have bl3 := (hb.block gl (by show gl < W5.heap.size; omega)).trans bl5; have bk3 := (hb.block gk (by show gk < W5.heap.size; omega)).trans bk5; have bf3 := (hb.block gf (by show gf < W5.heap.size; omega)).trans bf5; have bo3 := (hb.block go_ (by show go_ < W5.heap.size; omega)).trans bo5; have bn3 := (hb.block W.heap.size (by show W.heap.size < W5.heap.size; omega)).trans bn5; have hR3 := Kd.R_below (Kd.R_drew hR5) hb; have hB3 := (below_drew1 hB5).trans (hb.mono (by show base ≤ W5.heap.size; omega)); have s3 : W5.heap.size ≤ w3.heap.size := hb.size; clear hb; have q0 := (blk_cell bo3 0).trans rfl; have q1 := (blk_cell bn3 0).trans rfl; have q2 := (blk_cell bn3 1).trans rfl; have q3 := (blk_cell bn3 2).trans rfl; have q4 : (w3.alloc (.cells #[.int .i64 js, .int .i64 (wrap64 (-(wrap64 (wrap64 (-sg) * at_)))), .int .i64 0] 67)).cell? ⟨go_, 0, none⟩ = some v := (blk_cell (((World.grownBy_alloc w3 _ none).block go_ (by omega) (by simp)).trans bo3) 0).trans rfl) | ((refine Kd.R_append_step k67 (w0 := W0) base (by rfl) (.tmp 31) (.tmp 34) 80 67 (.agg #[(.int .i64 0), (.int .i64 0), (.int .i64 0)]) 24 rfl Try.underlying80 info67 rfl (by decide) (by omega) v xs (⟨js, (wrap64 (-(wrap64 (wrap64 (-sg) * at_)))), 0⟩ : S67) [.int .i64 js, .int .i64 (wrap64 (-(wrap64 (wrap64 (-sg) * at_)))), .int .i64 0] (fun _ => True) (fun _ => False) (by rfl) (by rfl) (k67_mkM _ _ _ _) (fun _ hk => hk.elim) (fun _ _ => trivial) hR3 hB3 (by omega) hlen ?_); intro v1 w4 hR4 hB4 hg4 _; obtain ⟨A4, c4, rfl⟩ := Kd.R_slice hR4; simp only [List.length_append, List.length_cons, List.length_nil, Nat.zero_add] at hR4; have bl4 := (hg4.block gl (by omega) (Kd.R_ne hR3 bl3 (by decide))).trans bl3; have bk4 := (hg4.block gk (by omega) (Kd.R_ne hR3 bk3 (by decide))).trans bk3; have bf4 := (hg4.block gf (by omega) (Kd.R_ne hR3 bf3 (by decide))).trans bf3; have bo4 := (hg4.block go_ (by omega) (Kd.R_ne hR3 bo3 (by decide))).trans bo3; have bn4 := (hg4.block W.heap.size (by omega) (Kd.R_ne hR3 bn3 (by decide))).trans bn3; have q0 := (blk_cell bo4 0).trans rfl; have q1 := (blk_cell bn4 0).trans rfl; have q2 := (blk_cell bn4 1).trans rfl; have q3 := (blk_cell bn4 2).trans rfl; have go4 := blk_frozen bo4 0)))
  all_goals
    go_end0
    exact ⟨_, rfl, blk_far (p := ⟨go_, 0, none⟩) bl4 no1 _, blk_far (p := ⟨go_, 0, none⟩) bk4 no2 _, blk_far (p := ⟨go_, 0, none⟩) bf4 no3 _, blk_put bo4 0 _ rfl, Kd.R_set hR4 bo4 (by decide) 0 _, hB4.setCell (p := ⟨go_, 0, none⟩) hb0 _, by have := hg4.size; simp; omega⟩
set_option maxHeartbeats 4000000 in
set_option maxRecDepth 100000 in
theorem tile_sides.s4i (base : Nat) (lev at_ sg js : Int) (gl gk gf go_ : Nat) (v : Value) (xs : List S67) (W0 W : World) (hl : 0 ≤ lev) (hjs : shl .i64 sg lev = js)
    (nl : gl < W.heap.size) (nk : gk < W.heap.size) (nf : gf < W.heap.size) (no : go_ < W.heap.size) (no1 : gl ≠ go_) (no2 : gk ≠ go_) (no3 : gf ≠ go_)
    (bl : W.heap[gl]? = some (.cells #[.int .i64 lev] 3 (0, 0))) (bk : W.heap[gk]? = some (.cells #[.int .i64 2] 3 (0, 0))) (bf : W.heap[gf]? = some (.cells #[.int .i64 4] 3 (0, 0))) (bo : W.heap[go_]? = some (.cells #[v] 80 (0, 0)))
    (hR : Kd.R k67 67 W base (fun _ => True) v xs) (hB : Below base W0 W) (hb0 : base ≤ go_) (hlen : (xs.length + 1) * 24 ≤ 140737488355328) :
    Calls Try.prog 115 #[.int .i64 0, .int .i64 at_, .int .i64 sg, .pointer (some ⟨gl, 0, none⟩), .pointer (some ⟨gk, 0, none⟩), .pointer (some ⟨gf, 0, none⟩), .pointer (some ⟨go_, 0, none⟩)] W fun e W' =>
      ∃ v', e = .returned (.tuple #[]) ∧ W'.heap[gl]? = some (.cells #[.int .i64 lev] 3 (0, 0)) ∧ W'.heap[gk]? = some (.cells #[.int .i64 2] 3 (0, 0)) ∧ W'.heap[gf]? = some (.cells #[.int .i64 4] 3 (0, 0)) ∧ W'.heap[go_]? = some (.cells #[v'] 80 (0, 0)) ∧
        Kd.R k67 67 W' base (fun _ => True) v' (xs ++ [⟨js, 0, (wrap64 (wrap64 (-sg) * at_))⟩]) ∧ Below base W0 W' ∧ W.heap.size ≤ W'.heap.size := by
  have hu67 := Try.underlying67
  have hu124 := Try.underlying124
  have hji_ : (IntKind.i64.wrap (sg * 2 ^ min (lev).toNat 64)) = js := hjs
  have hjiy : (wrap64 (sg * 2 ^ min (lev).toNat 64)) = js := (i64_w _).symm.trans hji_
  have c4b0 := eq_true hl
  have c4b1 : decide (0 ≤ lev) = true := decide_eq_true hl
  obtain ⟨W1, hW1⟩ : ∃ W1, W.alloc (.cells #[.int .i64 0, .int .i64 0, .int .i64 0] 124) = W1 := ⟨_, rfl⟩
  have s1 : W1.heap.size = W.heap.size + 1 := by rw [← hW1]; simp
  have bn1 : W1.heap[W.heap.size]? = some (.cells #[.int .i64 0, .int .i64 0, .int .i64 0] 124 (0, 0)) := by rw [← hW1]; exact World.alloc_heap_new W _
  have ha : ∀ g o, g < W.heap.size → W.heap[g]? = some o → W1.heap[g]? = some o := fun g o h1 h2 => by rw [← hW1]; exact ((World.grownBy_alloc W _ none).block g h1 (by simp)).trans h2
  have bl1 := ha _ _ nl bl
  have bk1 := ha _ _ nk bk
  have bf1 := ha _ _ nf bf
  have bo1 := ha _ _ no bo
  have hR1 : Kd.R k67 67 W1 base (fun _ => True) v xs := by rw [← hW1]; exact Kd.R_alloc hR _
  have hB1 : Below base W0 W1 := by rw [← hW1]; exact hB.alloc (by omega) _
  clear ha
  have e1 : W.heap.size ≠ gl := by omega
  have e1' : gl ≠ W.heap.size := by omega
  have e2 : W.heap.size ≠ gk := by omega
  have e2' : gk ≠ W.heap.size := by omega
  have e3 : W.heap.size ≠ gf := by omega
  have e3' : gf ≠ W.heap.size := by omega
  have e4 : W.heap.size ≠ go_ := by omega
  have e4' : go_ ≠ W.heap.size := by omega
  have f0 := (blk_cell bn1 0).trans rfl
  have f1 := (blk_cell bn1 1).trans rfl
  have f2 := (blk_cell bn1 2).trans rfl
  have g0 := blk_frozen bn1 0
  have g1 := blk_frozen bn1 1
  have g2 := blk_frozen bn1 2
  have ql := (blk_cell bl1 0).trans rfl
  have qk := (blk_cell bk1 0).trans rfl
  go_enter Try.func115, Try.ntmps115
  go_wp2
  clear hW1
  go_region
  have bn2 : ((((W1.setCell ⟨W.heap.size, 0, none⟩ (.int .i64 js)).setCell ⟨W.heap.size, 2, none⟩ (.int .i64 (wrap64 (wrap64 (-sg) * at_))))).drew).heap[W.heap.size]? = some (.cells #[.int .i64 js, .int .i64 0, .int .i64 (wrap64 (wrap64 (-sg) * at_))] 124 (0, 0)) := blk_drew (blk_put (blk_put (bn1) 0 _ rfl) 2 _ rfl)
  have bl2 : ((((W1.setCell ⟨W.heap.size, 0, none⟩ (.int .i64 js)).setCell ⟨W.heap.size, 2, none⟩ (.int .i64 (wrap64 (wrap64 (-sg) * at_))))).drew).heap[gl]? = some (.cells #[.int .i64 lev] 3 (0, 0)) := blk_drew (blk_far (p := ⟨W.heap.size, 2, none⟩) (blk_far (p := ⟨W.heap.size, 0, none⟩) (bl1) (Ne.symm e1) _) (Ne.symm e1) _)
  have bk2 : ((((W1.setCell ⟨W.heap.size, 0, none⟩ (.int .i64 js)).setCell ⟨W.heap.size, 2, none⟩ (.int .i64 (wrap64 (wrap64 (-sg) * at_))))).drew).heap[gk]? = some (.cells #[.int .i64 2] 3 (0, 0)) := blk_drew (blk_far (p := ⟨W.heap.size, 2, none⟩) (blk_far (p := ⟨W.heap.size, 0, none⟩) (bk1) (Ne.symm e2) _) (Ne.symm e2) _)
  have bf2 : ((((W1.setCell ⟨W.heap.size, 0, none⟩ (.int .i64 js)).setCell ⟨W.heap.size, 2, none⟩ (.int .i64 (wrap64 (wrap64 (-sg) * at_))))).drew).heap[gf]? = some (.cells #[.int .i64 4] 3 (0, 0)) := blk_drew (blk_far (p := ⟨W.heap.size, 2, none⟩) (blk_far (p := ⟨W.heap.size, 0, none⟩) (bf1) (Ne.symm e3) _) (Ne.symm e3) _)
  have bo2 : ((((W1.setCell ⟨W.heap.size, 0, none⟩ (.int .i64 js)).setCell ⟨W.heap.size, 2, none⟩ (.int .i64 (wrap64 (wrap64 (-sg) * at_))))).drew).heap[go_]? = some (.cells #[v] 80 (0, 0)) := blk_drew (blk_far (p := ⟨W.heap.size, 2, none⟩) (blk_far (p := ⟨W.heap.size, 0, none⟩) (bo1) (Ne.symm e4) _) (Ne.symm e4) _)
  have hR2 : Kd.R k67 67 ((((W1.setCell ⟨W.heap.size, 0, none⟩ (.int .i64 js)).setCell ⟨W.heap.size, 2, none⟩ (.int .i64 (wrap64 (wrap64 (-sg) * at_))))).drew) base (fun _ => True) v xs := Kd.R_drew (Kd.R_set (Kd.R_set (hR1) (bn1) (by decide) 0 _) (blk_put (bn1) 0 _ rfl) (by decide) 2 _)
  have hB2 : Below base W0 ((((W1.setCell ⟨W.heap.size, 0, none⟩ (.int .i64 js)).setCell ⟨W.heap.size, 2, none⟩ (.int .i64 (wrap64 (wrap64 (-sg) * at_))))).drew) := below_drew1 (((hB1).setCell (p := ⟨W.heap.size, 0, none⟩) (by show base ≤ W.heap.size; omega) _).setCell (p := ⟨W.heap.size, 2, none⟩) (by show base ≤ W.heap.size; omega) _)
  have s2 : ((((W1.setCell ⟨W.heap.size, 0, none⟩ (.int .i64 js)).setCell ⟨W.heap.size, 2, none⟩ (.int .i64 (wrap64 (wrap64 (-sg) * at_))))).drew).heap.size = W.heap.size + 1 := by simpa using s1
  generalize (((W1.setCell ⟨W.heap.size, 0, none⟩ (.int .i64 js)).setCell ⟨W.heap.size, 2, none⟩ (.int .i64 (wrap64 (wrap64 (-sg) * at_))))).drew = W2 at *
  clear f0 f1 f2 g0 g1 g2 ql qk bn1 bl1 bk1 bf1 bo1 hR1 hB1 s1
  have f0 := (blk_cell bn2 0).trans rfl
  have f1 := (blk_cell bn2 1).trans rfl
  have f2 := (blk_cell bn2 2).trans rfl
  have g0 := blk_frozen bn2 0
  have g1 := blk_frozen bn2 1
  have g2 := blk_frozen bn2 2
  have ql := (blk_cell bf2 0).trans rfl
  have qk := (blk_cell bk2 0).trans rfl
  go_wp2
  clear ql qk
  have qo := (blk_cell bo2 0).trans rfl
  have go1 := blk_frozen bo2 0
  go_region_law ((first | (refine gq_ Try.func116 #[.agg #[.int .i64 js, .int .i64 0, .int .i64 (wrap64 (wrap64 (-sg) * at_))]] ?_; (with_reducible refine (tile_vec.calls js 0 (wrap64 (wrap64 (-sg) * at_)) js 0 (wrap64 (wrap64 (-sg) * at_)) _ rfl).mono ?_); rintro e w3 ⟨rfl, hb⟩; refine ⟨_, rfl, ?_⟩; have bl3 := (hb.block gl (by show gl < W2.heap.size; omega)).trans bl2; have bk3 := (hb.block gk (by show gk < W2.heap.size; omega)).trans bk2; have bf3 := (hb.block gf (by show gf < W2.heap.size; omega)).trans bf2; have bo3 := (hb.block go_ (by show go_ < W2.heap.size; omega)).trans bo2; have bn3 := (hb.block W.heap.size (by show W.heap.size < W2.heap.size; omega)).trans bn2; have hR3 := Kd.R_below (Kd.R_drew hR2) hb; have hB3 := (below_drew1 hB2).trans (hb.mono (by show base ≤ W2.heap.size; omega)); have s3 : W2.heap.size ≤ w3.heap.size := hb.size; clear hb; have q0 := (blk_cell bo3 0).trans rfl; have q1 := (blk_cell bn3 0).trans rfl; have q2 := (blk_cell bn3 1).trans rfl; have q3 := (blk_cell bn3 2).trans rfl; have q4 : (w3.alloc (.cells #[.int .i64 js, .int .i64 0, .int .i64 (wrap64 (wrap64 (-sg) * at_))] 67)).cell? ⟨go_, 0, none⟩ = some v := (blk_cell (((World.grownBy_alloc w3 _ none).block go_ (by omega) (by simp)).trans bo3) 0).trans rfl) | ((refine Kd.R_append_step k67 (w0 := W0) base (by rfl) (.tmp 31) (.tmp 34) 80 67 (.agg #[(.int .i64 0), (.int .i64 0), (.int .i64 0)]) 24 rfl Try.underlying80 info67 rfl (by decide) (by omega) v xs (⟨js, 0, (wrap64 (wrap64 (-sg) * at_))⟩ : S67) [.int .i64 js, .int .i64 0, .int .i64 (wrap64 (wrap64 (-sg) * at_))] (fun _ => True) (fun _ => False) (by rfl) (by rfl) (k67_mkM _ _ _ _) (fun _ hk => hk.elim) (fun _ _ => trivial) hR3 hB3 (by omega) hlen ?_); intro v1 w4 hR4 hB4 hg4 _; obtain ⟨A4, c4, rfl⟩ := Kd.R_slice hR4; simp only [List.length_append, List.length_cons, List.length_nil, Nat.zero_add] at hR4; have bl4 := (hg4.block gl (by omega) (Kd.R_ne hR3 bl3 (by decide))).trans bl3; have bk4 := (hg4.block gk (by omega) (Kd.R_ne hR3 bk3 (by decide))).trans bk3; have bf4 := (hg4.block gf (by omega) (Kd.R_ne hR3 bf3 (by decide))).trans bf3; have bo4 := (hg4.block go_ (by omega) (Kd.R_ne hR3 bo3 (by decide))).trans bo3; have bn4 := (hg4.block W.heap.size (by omega) (Kd.R_ne hR3 bn3 (by decide))).trans bn3; have q0 := (blk_cell bo4 0).trans rfl; have q1 := (blk_cell bn4 0).trans rfl; have q2 := (blk_cell bn4 1).trans rfl; have q3 := (blk_cell bn4 2).trans rfl; have go4 := blk_frozen bo4 0)))
  all_goals
    go_end0
    exact ⟨_, rfl, blk_far (p := ⟨go_, 0, none⟩) bl4 no1 _, blk_far (p := ⟨go_, 0, none⟩) bk4 no2 _, blk_far (p := ⟨go_, 0, none⟩) bf4 no3 _, blk_put bo4 0 _ rfl, Kd.R_set hR4 bo4 (by decide) 0 _, hB4.setCell (p := ⟨go_, 0, none⟩) hb0 _, by have := hg4.size; simp; omega⟩
set_option maxHeartbeats 4000000 in
set_option maxRecDepth 100000 in
theorem tile_sides.s4j (base : Nat) (lev at_ sg js : Int) (gl gk gf go_ : Nat) (v : Value) (xs : List S67) (W0 W : World) (hl : 0 ≤ lev) (hjs : shl .i64 sg lev = js)
    (nl : gl < W.heap.size) (nk : gk < W.heap.size) (nf : gf < W.heap.size) (no : go_ < W.heap.size) (no1 : gl ≠ go_) (no2 : gk ≠ go_) (no3 : gf ≠ go_)
    (bl : W.heap[gl]? = some (.cells #[.int .i64 lev] 3 (0, 0))) (bk : W.heap[gk]? = some (.cells #[.int .i64 2] 3 (0, 0))) (bf : W.heap[gf]? = some (.cells #[.int .i64 4] 3 (0, 0))) (bo : W.heap[go_]? = some (.cells #[v] 80 (0, 0)))
    (hR : Kd.R k67 67 W base (fun _ => True) v xs) (hB : Below base W0 W) (hb0 : base ≤ go_) (hlen : (xs.length + 1) * 24 ≤ 140737488355328) :
    Calls Try.prog 115 #[.int .i64 1, .int .i64 at_, .int .i64 sg, .pointer (some ⟨gl, 0, none⟩), .pointer (some ⟨gk, 0, none⟩), .pointer (some ⟨gf, 0, none⟩), .pointer (some ⟨go_, 0, none⟩)] W fun e W' =>
      ∃ v', e = .returned (.tuple #[]) ∧ W'.heap[gl]? = some (.cells #[.int .i64 lev] 3 (0, 0)) ∧ W'.heap[gk]? = some (.cells #[.int .i64 2] 3 (0, 0)) ∧ W'.heap[gf]? = some (.cells #[.int .i64 4] 3 (0, 0)) ∧ W'.heap[go_]? = some (.cells #[v'] 80 (0, 0)) ∧
        Kd.R k67 67 W' base (fun _ => True) v' (xs ++ [⟨0, js, (wrap64 (wrap64 (-sg) * at_))⟩]) ∧ Below base W0 W' ∧ W.heap.size ≤ W'.heap.size := by
  have hu67 := Try.underlying67
  have hu124 := Try.underlying124
  have hji_ : (IntKind.i64.wrap (sg * 2 ^ min (lev).toNat 64)) = js := hjs
  have hjiy : (wrap64 (sg * 2 ^ min (lev).toNat 64)) = js := (i64_w _).symm.trans hji_
  have c4b0 := eq_true hl
  have c4b1 : decide (0 ≤ lev) = true := decide_eq_true hl
  obtain ⟨W1, hW1⟩ : ∃ W1, W.alloc (.cells #[.int .i64 0, .int .i64 0, .int .i64 0] 124) = W1 := ⟨_, rfl⟩
  have s1 : W1.heap.size = W.heap.size + 1 := by rw [← hW1]; simp
  have bn1 : W1.heap[W.heap.size]? = some (.cells #[.int .i64 0, .int .i64 0, .int .i64 0] 124 (0, 0)) := by rw [← hW1]; exact World.alloc_heap_new W _
  have ha : ∀ g o, g < W.heap.size → W.heap[g]? = some o → W1.heap[g]? = some o := fun g o h1 h2 => by rw [← hW1]; exact ((World.grownBy_alloc W _ none).block g h1 (by simp)).trans h2
  have bl1 := ha _ _ nl bl
  have bk1 := ha _ _ nk bk
  have bf1 := ha _ _ nf bf
  have bo1 := ha _ _ no bo
  have hR1 : Kd.R k67 67 W1 base (fun _ => True) v xs := by rw [← hW1]; exact Kd.R_alloc hR _
  have hB1 : Below base W0 W1 := by rw [← hW1]; exact hB.alloc (by omega) _
  clear ha
  have e1 : W.heap.size ≠ gl := by omega
  have e1' : gl ≠ W.heap.size := by omega
  have e2 : W.heap.size ≠ gk := by omega
  have e2' : gk ≠ W.heap.size := by omega
  have e3 : W.heap.size ≠ gf := by omega
  have e3' : gf ≠ W.heap.size := by omega
  have e4 : W.heap.size ≠ go_ := by omega
  have e4' : go_ ≠ W.heap.size := by omega
  have f0 := (blk_cell bn1 0).trans rfl
  have f1 := (blk_cell bn1 1).trans rfl
  have f2 := (blk_cell bn1 2).trans rfl
  have g0 := blk_frozen bn1 0
  have g1 := blk_frozen bn1 1
  have g2 := blk_frozen bn1 2
  have ql := (blk_cell bl1 0).trans rfl
  have qk := (blk_cell bk1 0).trans rfl
  go_enter Try.func115, Try.ntmps115
  go_wp2
  clear hW1
  go_region
  have bn2 : ((((W1.setCell ⟨W.heap.size, 1, none⟩ (.int .i64 js)).setCell ⟨W.heap.size, 2, none⟩ (.int .i64 (wrap64 (wrap64 (-sg) * at_))))).drew).heap[W.heap.size]? = some (.cells #[.int .i64 0, .int .i64 js, .int .i64 (wrap64 (wrap64 (-sg) * at_))] 124 (0, 0)) := blk_drew (blk_put (blk_put (bn1) 1 _ rfl) 2 _ rfl)
  have bl2 : ((((W1.setCell ⟨W.heap.size, 1, none⟩ (.int .i64 js)).setCell ⟨W.heap.size, 2, none⟩ (.int .i64 (wrap64 (wrap64 (-sg) * at_))))).drew).heap[gl]? = some (.cells #[.int .i64 lev] 3 (0, 0)) := blk_drew (blk_far (p := ⟨W.heap.size, 2, none⟩) (blk_far (p := ⟨W.heap.size, 1, none⟩) (bl1) (Ne.symm e1) _) (Ne.symm e1) _)
  have bk2 : ((((W1.setCell ⟨W.heap.size, 1, none⟩ (.int .i64 js)).setCell ⟨W.heap.size, 2, none⟩ (.int .i64 (wrap64 (wrap64 (-sg) * at_))))).drew).heap[gk]? = some (.cells #[.int .i64 2] 3 (0, 0)) := blk_drew (blk_far (p := ⟨W.heap.size, 2, none⟩) (blk_far (p := ⟨W.heap.size, 1, none⟩) (bk1) (Ne.symm e2) _) (Ne.symm e2) _)
  have bf2 : ((((W1.setCell ⟨W.heap.size, 1, none⟩ (.int .i64 js)).setCell ⟨W.heap.size, 2, none⟩ (.int .i64 (wrap64 (wrap64 (-sg) * at_))))).drew).heap[gf]? = some (.cells #[.int .i64 4] 3 (0, 0)) := blk_drew (blk_far (p := ⟨W.heap.size, 2, none⟩) (blk_far (p := ⟨W.heap.size, 1, none⟩) (bf1) (Ne.symm e3) _) (Ne.symm e3) _)
  have bo2 : ((((W1.setCell ⟨W.heap.size, 1, none⟩ (.int .i64 js)).setCell ⟨W.heap.size, 2, none⟩ (.int .i64 (wrap64 (wrap64 (-sg) * at_))))).drew).heap[go_]? = some (.cells #[v] 80 (0, 0)) := blk_drew (blk_far (p := ⟨W.heap.size, 2, none⟩) (blk_far (p := ⟨W.heap.size, 1, none⟩) (bo1) (Ne.symm e4) _) (Ne.symm e4) _)
  have hR2 : Kd.R k67 67 ((((W1.setCell ⟨W.heap.size, 1, none⟩ (.int .i64 js)).setCell ⟨W.heap.size, 2, none⟩ (.int .i64 (wrap64 (wrap64 (-sg) * at_))))).drew) base (fun _ => True) v xs := Kd.R_drew (Kd.R_set (Kd.R_set (hR1) (bn1) (by decide) 1 _) (blk_put (bn1) 1 _ rfl) (by decide) 2 _)
  have hB2 : Below base W0 ((((W1.setCell ⟨W.heap.size, 1, none⟩ (.int .i64 js)).setCell ⟨W.heap.size, 2, none⟩ (.int .i64 (wrap64 (wrap64 (-sg) * at_))))).drew) := below_drew1 (((hB1).setCell (p := ⟨W.heap.size, 1, none⟩) (by show base ≤ W.heap.size; omega) _).setCell (p := ⟨W.heap.size, 2, none⟩) (by show base ≤ W.heap.size; omega) _)
  have s2 : ((((W1.setCell ⟨W.heap.size, 1, none⟩ (.int .i64 js)).setCell ⟨W.heap.size, 2, none⟩ (.int .i64 (wrap64 (wrap64 (-sg) * at_))))).drew).heap.size = W.heap.size + 1 := by simpa using s1
  generalize (((W1.setCell ⟨W.heap.size, 1, none⟩ (.int .i64 js)).setCell ⟨W.heap.size, 2, none⟩ (.int .i64 (wrap64 (wrap64 (-sg) * at_))))).drew = W2 at *
  clear f0 f1 f2 g0 g1 g2 ql qk bn1 bl1 bk1 bf1 bo1 hR1 hB1 s1
  have f0 := (blk_cell bn2 0).trans rfl
  have f1 := (blk_cell bn2 1).trans rfl
  have f2 := (blk_cell bn2 2).trans rfl
  have g0 := blk_frozen bn2 0
  have g1 := blk_frozen bn2 1
  have g2 := blk_frozen bn2 2
  have ql := (blk_cell bf2 0).trans rfl
  have qk := (blk_cell bk2 0).trans rfl
  go_wp2
  clear ql qk
  have qo := (blk_cell bo2 0).trans rfl
  have go1 := blk_frozen bo2 0
  go_region_law ((first | (refine gq_ Try.func116 #[.agg #[.int .i64 0, .int .i64 js, .int .i64 (wrap64 (wrap64 (-sg) * at_))]] ?_; (with_reducible refine (tile_vec.calls 0 js (wrap64 (wrap64 (-sg) * at_)) 0 js (wrap64 (wrap64 (-sg) * at_)) _ rfl).mono ?_); rintro e w3 ⟨rfl, hb⟩; refine ⟨_, rfl, ?_⟩; have bl3 := (hb.block gl (by show gl < W2.heap.size; omega)).trans bl2; have bk3 := (hb.block gk (by show gk < W2.heap.size; omega)).trans bk2; have bf3 := (hb.block gf (by show gf < W2.heap.size; omega)).trans bf2; have bo3 := (hb.block go_ (by show go_ < W2.heap.size; omega)).trans bo2; have bn3 := (hb.block W.heap.size (by show W.heap.size < W2.heap.size; omega)).trans bn2; have hR3 := Kd.R_below (Kd.R_drew hR2) hb; have hB3 := (below_drew1 hB2).trans (hb.mono (by show base ≤ W2.heap.size; omega)); have s3 : W2.heap.size ≤ w3.heap.size := hb.size; clear hb; have q0 := (blk_cell bo3 0).trans rfl; have q1 := (blk_cell bn3 0).trans rfl; have q2 := (blk_cell bn3 1).trans rfl; have q3 := (blk_cell bn3 2).trans rfl; have q4 : (w3.alloc (.cells #[.int .i64 0, .int .i64 js, .int .i64 (wrap64 (wrap64 (-sg) * at_))] 67)).cell? ⟨go_, 0, none⟩ = some v := (blk_cell (((World.grownBy_alloc w3 _ none).block go_ (by omega) (by simp)).trans bo3) 0).trans rfl) | ((refine Kd.R_append_step k67 (w0 := W0) base (by rfl) (.tmp 31) (.tmp 34) 80 67 (.agg #[(.int .i64 0), (.int .i64 0), (.int .i64 0)]) 24 rfl Try.underlying80 info67 rfl (by decide) (by omega) v xs (⟨0, js, (wrap64 (wrap64 (-sg) * at_))⟩ : S67) [.int .i64 0, .int .i64 js, .int .i64 (wrap64 (wrap64 (-sg) * at_))] (fun _ => True) (fun _ => False) (by rfl) (by rfl) (k67_mkM _ _ _ _) (fun _ hk => hk.elim) (fun _ _ => trivial) hR3 hB3 (by omega) hlen ?_); intro v1 w4 hR4 hB4 hg4 _; obtain ⟨A4, c4, rfl⟩ := Kd.R_slice hR4; simp only [List.length_append, List.length_cons, List.length_nil, Nat.zero_add] at hR4; have bl4 := (hg4.block gl (by omega) (Kd.R_ne hR3 bl3 (by decide))).trans bl3; have bk4 := (hg4.block gk (by omega) (Kd.R_ne hR3 bk3 (by decide))).trans bk3; have bf4 := (hg4.block gf (by omega) (Kd.R_ne hR3 bf3 (by decide))).trans bf3; have bo4 := (hg4.block go_ (by omega) (Kd.R_ne hR3 bo3 (by decide))).trans bo3; have bn4 := (hg4.block W.heap.size (by omega) (Kd.R_ne hR3 bn3 (by decide))).trans bn3; have q0 := (blk_cell bo4 0).trans rfl; have q1 := (blk_cell bn4 0).trans rfl; have q2 := (blk_cell bn4 1).trans rfl; have q3 := (blk_cell bn4 2).trans rfl; have go4 := blk_frozen bo4 0)))
  all_goals
    go_end0
    exact ⟨_, rfl, blk_far (p := ⟨go_, 0, none⟩) bl4 no1 _, blk_far (p := ⟨go_, 0, none⟩) bk4 no2 _, blk_far (p := ⟨go_, 0, none⟩) bf4 no3 _, blk_put bo4 0 _ rfl, Kd.R_set hR4 bo4 (by decide) 0 _, hB4.setCell (p := ⟨go_, 0, none⟩) hb0 _, by have := hg4.size; simp; omega⟩
set_option maxHeartbeats 4000000 in
set_option maxRecDepth 100000 in
theorem tile_sides.s5i (base : Nat) (lev at_ sg js : Int) (gl gk gf go_ : Nat) (v : Value) (xs : List S67) (W0 W : World) (hl : 0 ≤ lev) (hjs : shl .i64 sg lev = js)
    (nl : gl < W.heap.size) (nk : gk < W.heap.size) (nf : gf < W.heap.size) (no : go_ < W.heap.size) (no1 : gl ≠ go_) (no2 : gk ≠ go_) (no3 : gf ≠ go_)
    (bl : W.heap[gl]? = some (.cells #[.int .i64 lev] 3 (0, 0))) (bk : W.heap[gk]? = some (.cells #[.int .i64 2] 3 (0, 0))) (bf : W.heap[gf]? = some (.cells #[.int .i64 5] 3 (0, 0))) (bo : W.heap[go_]? = some (.cells #[v] 80 (0, 0)))
    (hR : Kd.R k67 67 W base (fun _ => True) v xs) (hB : Below base W0 W) (hb0 : base ≤ go_) (hlen : (xs.length + 1) * 24 ≤ 140737488355328) :
    Calls Try.prog 115 #[.int .i64 0, .int .i64 at_, .int .i64 sg, .pointer (some ⟨gl, 0, none⟩), .pointer (some ⟨gk, 0, none⟩), .pointer (some ⟨gf, 0, none⟩), .pointer (some ⟨go_, 0, none⟩)] W fun e W' =>
      ∃ v', e = .returned (.tuple #[]) ∧ W'.heap[gl]? = some (.cells #[.int .i64 lev] 3 (0, 0)) ∧ W'.heap[gk]? = some (.cells #[.int .i64 2] 3 (0, 0)) ∧ W'.heap[gf]? = some (.cells #[.int .i64 5] 3 (0, 0)) ∧ W'.heap[go_]? = some (.cells #[v'] 80 (0, 0)) ∧
        Kd.R k67 67 W' base (fun _ => True) v' (xs ++ [⟨js, 0, (wrap64 (-(wrap64 (wrap64 (-sg) * at_))))⟩]) ∧ Below base W0 W' ∧ W.heap.size ≤ W'.heap.size := by
  have hu67 := Try.underlying67
  have hu124 := Try.underlying124
  have hji_ : (IntKind.i64.wrap (sg * 2 ^ min (lev).toNat 64)) = js := hjs
  have hjiy : (wrap64 (sg * 2 ^ min (lev).toNat 64)) = js := (i64_w _).symm.trans hji_
  have c4b0 := eq_true hl
  have c4b1 : decide (0 ≤ lev) = true := decide_eq_true hl
  obtain ⟨W1, hW1⟩ : ∃ W1, W.alloc (.cells #[.int .i64 0, .int .i64 0, .int .i64 0] 124) = W1 := ⟨_, rfl⟩
  have s1 : W1.heap.size = W.heap.size + 1 := by rw [← hW1]; simp
  have bn1 : W1.heap[W.heap.size]? = some (.cells #[.int .i64 0, .int .i64 0, .int .i64 0] 124 (0, 0)) := by rw [← hW1]; exact World.alloc_heap_new W _
  have ha : ∀ g o, g < W.heap.size → W.heap[g]? = some o → W1.heap[g]? = some o := fun g o h1 h2 => by rw [← hW1]; exact ((World.grownBy_alloc W _ none).block g h1 (by simp)).trans h2
  have bl1 := ha _ _ nl bl
  have bk1 := ha _ _ nk bk
  have bf1 := ha _ _ nf bf
  have bo1 := ha _ _ no bo
  have hR1 : Kd.R k67 67 W1 base (fun _ => True) v xs := by rw [← hW1]; exact Kd.R_alloc hR _
  have hB1 : Below base W0 W1 := by rw [← hW1]; exact hB.alloc (by omega) _
  clear ha
  have e1 : W.heap.size ≠ gl := by omega
  have e1' : gl ≠ W.heap.size := by omega
  have e2 : W.heap.size ≠ gk := by omega
  have e2' : gk ≠ W.heap.size := by omega
  have e3 : W.heap.size ≠ gf := by omega
  have e3' : gf ≠ W.heap.size := by omega
  have e4 : W.heap.size ≠ go_ := by omega
  have e4' : go_ ≠ W.heap.size := by omega
  have f0 := (blk_cell bn1 0).trans rfl
  have f1 := (blk_cell bn1 1).trans rfl
  have f2 := (blk_cell bn1 2).trans rfl
  have g0 := blk_frozen bn1 0
  have g1 := blk_frozen bn1 1
  have g2 := blk_frozen bn1 2
  have ql := (blk_cell bl1 0).trans rfl
  have qk := (blk_cell bk1 0).trans rfl
  go_enter Try.func115, Try.ntmps115
  go_wp2
  clear hW1
  go_region
  have bn2 : ((((W1.setCell ⟨W.heap.size, 0, none⟩ (.int .i64 js)).setCell ⟨W.heap.size, 2, none⟩ (.int .i64 (wrap64 (wrap64 (-sg) * at_))))).drew).heap[W.heap.size]? = some (.cells #[.int .i64 js, .int .i64 0, .int .i64 (wrap64 (wrap64 (-sg) * at_))] 124 (0, 0)) := blk_drew (blk_put (blk_put (bn1) 0 _ rfl) 2 _ rfl)
  have bl2 : ((((W1.setCell ⟨W.heap.size, 0, none⟩ (.int .i64 js)).setCell ⟨W.heap.size, 2, none⟩ (.int .i64 (wrap64 (wrap64 (-sg) * at_))))).drew).heap[gl]? = some (.cells #[.int .i64 lev] 3 (0, 0)) := blk_drew (blk_far (p := ⟨W.heap.size, 2, none⟩) (blk_far (p := ⟨W.heap.size, 0, none⟩) (bl1) (Ne.symm e1) _) (Ne.symm e1) _)
  have bk2 : ((((W1.setCell ⟨W.heap.size, 0, none⟩ (.int .i64 js)).setCell ⟨W.heap.size, 2, none⟩ (.int .i64 (wrap64 (wrap64 (-sg) * at_))))).drew).heap[gk]? = some (.cells #[.int .i64 2] 3 (0, 0)) := blk_drew (blk_far (p := ⟨W.heap.size, 2, none⟩) (blk_far (p := ⟨W.heap.size, 0, none⟩) (bk1) (Ne.symm e2) _) (Ne.symm e2) _)
  have bf2 : ((((W1.setCell ⟨W.heap.size, 0, none⟩ (.int .i64 js)).setCell ⟨W.heap.size, 2, none⟩ (.int .i64 (wrap64 (wrap64 (-sg) * at_))))).drew).heap[gf]? = some (.cells #[.int .i64 5] 3 (0, 0)) := blk_drew (blk_far (p := ⟨W.heap.size, 2, none⟩) (blk_far (p := ⟨W.heap.size, 0, none⟩) (bf1) (Ne.symm e3) _) (Ne.symm e3) _)
  have bo2 : ((((W1.setCell ⟨W.heap.size, 0, none⟩ (.int .i64 js)).setCell ⟨W.heap.size, 2, none⟩ (.int .i64 (wrap64 (wrap64 (-sg) * at_))))).drew).heap[go_]? = some (.cells #[v] 80 (0, 0)) := blk_drew (blk_far (p := ⟨W.heap.size, 2, none⟩) (blk_far (p := ⟨W.heap.size, 0, none⟩) (bo1) (Ne.symm e4) _) (Ne.symm e4) _)
  have hR2 : Kd.R k67 67 ((((W1.setCell ⟨W.heap.size, 0, none⟩ (.int .i64 js)).setCell ⟨W.heap.size, 2, none⟩ (.int .i64 (wrap64 (wrap64 (-sg) * at_))))).drew) base (fun _ => True) v xs := Kd.R_drew (Kd.R_set (Kd.R_set (hR1) (bn1) (by decide) 0 _) (blk_put (bn1) 0 _ rfl) (by decide) 2 _)
  have hB2 : Below base W0 ((((W1.setCell ⟨W.heap.size, 0, none⟩ (.int .i64 js)).setCell ⟨W.heap.size, 2, none⟩ (.int .i64 (wrap64 (wrap64 (-sg) * at_))))).drew) := below_drew1 (((hB1).setCell (p := ⟨W.heap.size, 0, none⟩) (by show base ≤ W.heap.size; omega) _).setCell (p := ⟨W.heap.size, 2, none⟩) (by show base ≤ W.heap.size; omega) _)
  have s2 : ((((W1.setCell ⟨W.heap.size, 0, none⟩ (.int .i64 js)).setCell ⟨W.heap.size, 2, none⟩ (.int .i64 (wrap64 (wrap64 (-sg) * at_))))).drew).heap.size = W.heap.size + 1 := by simpa using s1
  generalize (((W1.setCell ⟨W.heap.size, 0, none⟩ (.int .i64 js)).setCell ⟨W.heap.size, 2, none⟩ (.int .i64 (wrap64 (wrap64 (-sg) * at_))))).drew = W2 at *
  clear f0 f1 f2 g0 g1 g2 ql qk bn1 bl1 bk1 bf1 bo1 hR1 hB1 s1
  have f0 := (blk_cell bn2 0).trans rfl
  have f1 := (blk_cell bn2 1).trans rfl
  have f2 := (blk_cell bn2 2).trans rfl
  have g0 := blk_frozen bn2 0
  have g1 := blk_frozen bn2 1
  have g2 := blk_frozen bn2 2
  have ql := (blk_cell bf2 0).trans rfl
  have qk := (blk_cell bk2 0).trans rfl
  go_wp2
  go_region
  have bn5 : (((W2.setCell ⟨W.heap.size, 2, none⟩ (.int .i64 (wrap64 (-(wrap64 (wrap64 (-sg) * at_))))))).drew).heap[W.heap.size]? = some (.cells #[.int .i64 js, .int .i64 0, .int .i64 (wrap64 (-(wrap64 (wrap64 (-sg) * at_))))] 124 (0, 0)) := blk_drew (blk_put (bn2) 2 _ rfl)
  have bl5 : (((W2.setCell ⟨W.heap.size, 2, none⟩ (.int .i64 (wrap64 (-(wrap64 (wrap64 (-sg) * at_))))))).drew).heap[gl]? = some (.cells #[.int .i64 lev] 3 (0, 0)) := blk_drew (blk_far (p := ⟨W.heap.size, 2, none⟩) (bl2) (Ne.symm e1) _)
  have bk5 : (((W2.setCell ⟨W.heap.size, 2, none⟩ (.int .i64 (wrap64 (-(wrap64 (wrap64 (-sg) * at_))))))).drew).heap[gk]? = some (.cells #[.int .i64 2] 3 (0, 0)) := blk_drew (blk_far (p := ⟨W.heap.size, 2, none⟩) (bk2) (Ne.symm e2) _)
  have bf5 : (((W2.setCell ⟨W.heap.size, 2, none⟩ (.int .i64 (wrap64 (-(wrap64 (wrap64 (-sg) * at_))))))).drew).heap[gf]? = some (.cells #[.int .i64 5] 3 (0, 0)) := blk_drew (blk_far (p := ⟨W.heap.size, 2, none⟩) (bf2) (Ne.symm e3) _)
  have bo5 : (((W2.setCell ⟨W.heap.size, 2, none⟩ (.int .i64 (wrap64 (-(wrap64 (wrap64 (-sg) * at_))))))).drew).heap[go_]? = some (.cells #[v] 80 (0, 0)) := blk_drew (blk_far (p := ⟨W.heap.size, 2, none⟩) (bo2) (Ne.symm e4) _)
  have hR5 : Kd.R k67 67 (((W2.setCell ⟨W.heap.size, 2, none⟩ (.int .i64 (wrap64 (-(wrap64 (wrap64 (-sg) * at_))))))).drew) base (fun _ => True) v xs := Kd.R_drew (Kd.R_set (hR2) (bn2) (by decide) 2 _)
  have hB5 : Below base W0 (((W2.setCell ⟨W.heap.size, 2, none⟩ (.int .i64 (wrap64 (-(wrap64 (wrap64 (-sg) * at_))))))).drew) := below_drew1 ((hB2).setCell (p := ⟨W.heap.size, 2, none⟩) (by show base ≤ W.heap.size; omega) _)
  have s5 : (((W2.setCell ⟨W.heap.size, 2, none⟩ (.int .i64 (wrap64 (-(wrap64 (wrap64 (-sg) * at_))))))).drew).heap.size = W.heap.size + 1 := by simpa using s2
  generalize ((W2.setCell ⟨W.heap.size, 2, none⟩ (.int .i64 (wrap64 (-(wrap64 (wrap64 (-sg) * at_))))))).drew = W5 at *
  clear f0 f1 f2 g0 g1 g2 ql qk bn2 bl2 bk2 bf2 bo2 hR2 hB2 s2
  have f0 := (blk_cell bn5 0).trans rfl
  have f1 := (blk_cell bn5 1).trans rfl
  have f2 := (blk_cell bn5 2).trans rfl
  have g0 := blk_frozen bn5 0
  have g1 := blk_frozen bn5 1
  have g2 := blk_frozen bn5 2
  have ql := (blk_cell bf5 0).trans rfl
  have qk := (blk_cell bk5 0).trans rfl
  go_wp2
  clear ql qk
  have qo := (blk_cell bo5 0).trans rfl
  have go1 := blk_frozen bo5 0
  go_region_law ((first | (refine gq_ Try.func116 #[.agg #[.int .i64 js, .int .i64 0, .int .i64 (wrap64 (-(wrap64 (wrap64 (-sg) * at_))))]] ?_; (with_reducible refine (tile_vec.calls js 0 (wrap64 (-(wrap64 (wrap64 (-sg) * at_)))) js 0 (wrap64 (-(wrap64 (wrap64 (-sg) * at_)))) _ rfl).mono ?_); rintro e w3 ⟨rfl, hb⟩; refine ⟨_, rfl, ?_⟩; have bl3 := (hb.block gl (by show gl < W5.heap.size; omega)).trans bl5; have bk3 := (hb.block gk (by show gk < W5.heap.size; omega)).trans bk5; have bf3 := (hb.block gf (by show gf < W5.heap.size; omega)).trans bf5; have bo3 := (hb.block go_ (by show go_ < W5.heap.size; omega)).trans bo5; have bn3 := (hb.block W.heap.size (by show W.heap.size < W5.heap.size; omega)).trans bn5; have hR3 := Kd.R_below (Kd.R_drew hR5) hb; have hB3 := (below_drew1 hB5).trans (hb.mono (by show base ≤ W5.heap.size; omega)); have s3 : W5.heap.size ≤ w3.heap.size := hb.size; clear hb; have q0 := (blk_cell bo3 0).trans rfl; have q1 := (blk_cell bn3 0).trans rfl; have q2 := (blk_cell bn3 1).trans rfl; have q3 := (blk_cell bn3 2).trans rfl; have q4 : (w3.alloc (.cells #[.int .i64 js, .int .i64 0, .int .i64 (wrap64 (-(wrap64 (wrap64 (-sg) * at_))))] 67)).cell? ⟨go_, 0, none⟩ = some v := (blk_cell (((World.grownBy_alloc w3 _ none).block go_ (by omega) (by simp)).trans bo3) 0).trans rfl) | ((refine Kd.R_append_step k67 (w0 := W0) base (by rfl) (.tmp 31) (.tmp 34) 80 67 (.agg #[(.int .i64 0), (.int .i64 0), (.int .i64 0)]) 24 rfl Try.underlying80 info67 rfl (by decide) (by omega) v xs (⟨js, 0, (wrap64 (-(wrap64 (wrap64 (-sg) * at_))))⟩ : S67) [.int .i64 js, .int .i64 0, .int .i64 (wrap64 (-(wrap64 (wrap64 (-sg) * at_))))] (fun _ => True) (fun _ => False) (by rfl) (by rfl) (k67_mkM _ _ _ _) (fun _ hk => hk.elim) (fun _ _ => trivial) hR3 hB3 (by omega) hlen ?_); intro v1 w4 hR4 hB4 hg4 _; obtain ⟨A4, c4, rfl⟩ := Kd.R_slice hR4; simp only [List.length_append, List.length_cons, List.length_nil, Nat.zero_add] at hR4; have bl4 := (hg4.block gl (by omega) (Kd.R_ne hR3 bl3 (by decide))).trans bl3; have bk4 := (hg4.block gk (by omega) (Kd.R_ne hR3 bk3 (by decide))).trans bk3; have bf4 := (hg4.block gf (by omega) (Kd.R_ne hR3 bf3 (by decide))).trans bf3; have bo4 := (hg4.block go_ (by omega) (Kd.R_ne hR3 bo3 (by decide))).trans bo3; have bn4 := (hg4.block W.heap.size (by omega) (Kd.R_ne hR3 bn3 (by decide))).trans bn3; have q0 := (blk_cell bo4 0).trans rfl; have q1 := (blk_cell bn4 0).trans rfl; have q2 := (blk_cell bn4 1).trans rfl; have q3 := (blk_cell bn4 2).trans rfl; have go4 := blk_frozen bo4 0)))
  all_goals
    go_end0
    exact ⟨_, rfl, blk_far (p := ⟨go_, 0, none⟩) bl4 no1 _, blk_far (p := ⟨go_, 0, none⟩) bk4 no2 _, blk_far (p := ⟨go_, 0, none⟩) bf4 no3 _, blk_put bo4 0 _ rfl, Kd.R_set hR4 bo4 (by decide) 0 _, hB4.setCell (p := ⟨go_, 0, none⟩) hb0 _, by have := hg4.size; simp; omega⟩
set_option maxHeartbeats 4000000 in
set_option maxRecDepth 100000 in
theorem tile_sides.s5j (base : Nat) (lev at_ sg js : Int) (gl gk gf go_ : Nat) (v : Value) (xs : List S67) (W0 W : World) (hl : 0 ≤ lev) (hjs : shl .i64 sg lev = js)
    (nl : gl < W.heap.size) (nk : gk < W.heap.size) (nf : gf < W.heap.size) (no : go_ < W.heap.size) (no1 : gl ≠ go_) (no2 : gk ≠ go_) (no3 : gf ≠ go_)
    (bl : W.heap[gl]? = some (.cells #[.int .i64 lev] 3 (0, 0))) (bk : W.heap[gk]? = some (.cells #[.int .i64 2] 3 (0, 0))) (bf : W.heap[gf]? = some (.cells #[.int .i64 5] 3 (0, 0))) (bo : W.heap[go_]? = some (.cells #[v] 80 (0, 0)))
    (hR : Kd.R k67 67 W base (fun _ => True) v xs) (hB : Below base W0 W) (hb0 : base ≤ go_) (hlen : (xs.length + 1) * 24 ≤ 140737488355328) :
    Calls Try.prog 115 #[.int .i64 1, .int .i64 at_, .int .i64 sg, .pointer (some ⟨gl, 0, none⟩), .pointer (some ⟨gk, 0, none⟩), .pointer (some ⟨gf, 0, none⟩), .pointer (some ⟨go_, 0, none⟩)] W fun e W' =>
      ∃ v', e = .returned (.tuple #[]) ∧ W'.heap[gl]? = some (.cells #[.int .i64 lev] 3 (0, 0)) ∧ W'.heap[gk]? = some (.cells #[.int .i64 2] 3 (0, 0)) ∧ W'.heap[gf]? = some (.cells #[.int .i64 5] 3 (0, 0)) ∧ W'.heap[go_]? = some (.cells #[v'] 80 (0, 0)) ∧
        Kd.R k67 67 W' base (fun _ => True) v' (xs ++ [⟨0, js, (wrap64 (-(wrap64 (wrap64 (-sg) * at_))))⟩]) ∧ Below base W0 W' ∧ W.heap.size ≤ W'.heap.size := by
  have hu67 := Try.underlying67
  have hu124 := Try.underlying124
  have hji_ : (IntKind.i64.wrap (sg * 2 ^ min (lev).toNat 64)) = js := hjs
  have hjiy : (wrap64 (sg * 2 ^ min (lev).toNat 64)) = js := (i64_w _).symm.trans hji_
  have c4b0 := eq_true hl
  have c4b1 : decide (0 ≤ lev) = true := decide_eq_true hl
  obtain ⟨W1, hW1⟩ : ∃ W1, W.alloc (.cells #[.int .i64 0, .int .i64 0, .int .i64 0] 124) = W1 := ⟨_, rfl⟩
  have s1 : W1.heap.size = W.heap.size + 1 := by rw [← hW1]; simp
  have bn1 : W1.heap[W.heap.size]? = some (.cells #[.int .i64 0, .int .i64 0, .int .i64 0] 124 (0, 0)) := by rw [← hW1]; exact World.alloc_heap_new W _
  have ha : ∀ g o, g < W.heap.size → W.heap[g]? = some o → W1.heap[g]? = some o := fun g o h1 h2 => by rw [← hW1]; exact ((World.grownBy_alloc W _ none).block g h1 (by simp)).trans h2
  have bl1 := ha _ _ nl bl
  have bk1 := ha _ _ nk bk
  have bf1 := ha _ _ nf bf
  have bo1 := ha _ _ no bo
  have hR1 : Kd.R k67 67 W1 base (fun _ => True) v xs := by rw [← hW1]; exact Kd.R_alloc hR _
  have hB1 : Below base W0 W1 := by rw [← hW1]; exact hB.alloc (by omega) _
  clear ha
  have e1 : W.heap.size ≠ gl := by omega
  have e1' : gl ≠ W.heap.size := by omega
  have e2 : W.heap.size ≠ gk := by omega
  have e2' : gk ≠ W.heap.size := by omega
  have e3 : W.heap.size ≠ gf := by omega
  have e3' : gf ≠ W.heap.size := by omega
  have e4 : W.heap.size ≠ go_ := by omega
  have e4' : go_ ≠ W.heap.size := by omega
  have f0 := (blk_cell bn1 0).trans rfl
  have f1 := (blk_cell bn1 1).trans rfl
  have f2 := (blk_cell bn1 2).trans rfl
  have g0 := blk_frozen bn1 0
  have g1 := blk_frozen bn1 1
  have g2 := blk_frozen bn1 2
  have ql := (blk_cell bl1 0).trans rfl
  have qk := (blk_cell bk1 0).trans rfl
  go_enter Try.func115, Try.ntmps115
  go_wp2
  clear hW1
  go_region
  have bn2 : ((((W1.setCell ⟨W.heap.size, 1, none⟩ (.int .i64 js)).setCell ⟨W.heap.size, 2, none⟩ (.int .i64 (wrap64 (wrap64 (-sg) * at_))))).drew).heap[W.heap.size]? = some (.cells #[.int .i64 0, .int .i64 js, .int .i64 (wrap64 (wrap64 (-sg) * at_))] 124 (0, 0)) := blk_drew (blk_put (blk_put (bn1) 1 _ rfl) 2 _ rfl)
  have bl2 : ((((W1.setCell ⟨W.heap.size, 1, none⟩ (.int .i64 js)).setCell ⟨W.heap.size, 2, none⟩ (.int .i64 (wrap64 (wrap64 (-sg) * at_))))).drew).heap[gl]? = some (.cells #[.int .i64 lev] 3 (0, 0)) := blk_drew (blk_far (p := ⟨W.heap.size, 2, none⟩) (blk_far (p := ⟨W.heap.size, 1, none⟩) (bl1) (Ne.symm e1) _) (Ne.symm e1) _)
  have bk2 : ((((W1.setCell ⟨W.heap.size, 1, none⟩ (.int .i64 js)).setCell ⟨W.heap.size, 2, none⟩ (.int .i64 (wrap64 (wrap64 (-sg) * at_))))).drew).heap[gk]? = some (.cells #[.int .i64 2] 3 (0, 0)) := blk_drew (blk_far (p := ⟨W.heap.size, 2, none⟩) (blk_far (p := ⟨W.heap.size, 1, none⟩) (bk1) (Ne.symm e2) _) (Ne.symm e2) _)
  have bf2 : ((((W1.setCell ⟨W.heap.size, 1, none⟩ (.int .i64 js)).setCell ⟨W.heap.size, 2, none⟩ (.int .i64 (wrap64 (wrap64 (-sg) * at_))))).drew).heap[gf]? = some (.cells #[.int .i64 5] 3 (0, 0)) := blk_drew (blk_far (p := ⟨W.heap.size, 2, none⟩) (blk_far (p := ⟨W.heap.size, 1, none⟩) (bf1) (Ne.symm e3) _) (Ne.symm e3) _)
  have bo2 : ((((W1.setCell ⟨W.heap.size, 1, none⟩ (.int .i64 js)).setCell ⟨W.heap.size, 2, none⟩ (.int .i64 (wrap64 (wrap64 (-sg) * at_))))).drew).heap[go_]? = some (.cells #[v] 80 (0, 0)) := blk_drew (blk_far (p := ⟨W.heap.size, 2, none⟩) (blk_far (p := ⟨W.heap.size, 1, none⟩) (bo1) (Ne.symm e4) _) (Ne.symm e4) _)
  have hR2 : Kd.R k67 67 ((((W1.setCell ⟨W.heap.size, 1, none⟩ (.int .i64 js)).setCell ⟨W.heap.size, 2, none⟩ (.int .i64 (wrap64 (wrap64 (-sg) * at_))))).drew) base (fun _ => True) v xs := Kd.R_drew (Kd.R_set (Kd.R_set (hR1) (bn1) (by decide) 1 _) (blk_put (bn1) 1 _ rfl) (by decide) 2 _)
  have hB2 : Below base W0 ((((W1.setCell ⟨W.heap.size, 1, none⟩ (.int .i64 js)).setCell ⟨W.heap.size, 2, none⟩ (.int .i64 (wrap64 (wrap64 (-sg) * at_))))).drew) := below_drew1 (((hB1).setCell (p := ⟨W.heap.size, 1, none⟩) (by show base ≤ W.heap.size; omega) _).setCell (p := ⟨W.heap.size, 2, none⟩) (by show base ≤ W.heap.size; omega) _)
  have s2 : ((((W1.setCell ⟨W.heap.size, 1, none⟩ (.int .i64 js)).setCell ⟨W.heap.size, 2, none⟩ (.int .i64 (wrap64 (wrap64 (-sg) * at_))))).drew).heap.size = W.heap.size + 1 := by simpa using s1
  generalize (((W1.setCell ⟨W.heap.size, 1, none⟩ (.int .i64 js)).setCell ⟨W.heap.size, 2, none⟩ (.int .i64 (wrap64 (wrap64 (-sg) * at_))))).drew = W2 at *
  clear f0 f1 f2 g0 g1 g2 ql qk bn1 bl1 bk1 bf1 bo1 hR1 hB1 s1
  have f0 := (blk_cell bn2 0).trans rfl
  have f1 := (blk_cell bn2 1).trans rfl
  have f2 := (blk_cell bn2 2).trans rfl
  have g0 := blk_frozen bn2 0
  have g1 := blk_frozen bn2 1
  have g2 := blk_frozen bn2 2
  have ql := (blk_cell bf2 0).trans rfl
  have qk := (blk_cell bk2 0).trans rfl
  go_wp2
  go_region
  have bn5 : (((W2.setCell ⟨W.heap.size, 2, none⟩ (.int .i64 (wrap64 (-(wrap64 (wrap64 (-sg) * at_))))))).drew).heap[W.heap.size]? = some (.cells #[.int .i64 0, .int .i64 js, .int .i64 (wrap64 (-(wrap64 (wrap64 (-sg) * at_))))] 124 (0, 0)) := blk_drew (blk_put (bn2) 2 _ rfl)
  have bl5 : (((W2.setCell ⟨W.heap.size, 2, none⟩ (.int .i64 (wrap64 (-(wrap64 (wrap64 (-sg) * at_))))))).drew).heap[gl]? = some (.cells #[.int .i64 lev] 3 (0, 0)) := blk_drew (blk_far (p := ⟨W.heap.size, 2, none⟩) (bl2) (Ne.symm e1) _)
  have bk5 : (((W2.setCell ⟨W.heap.size, 2, none⟩ (.int .i64 (wrap64 (-(wrap64 (wrap64 (-sg) * at_))))))).drew).heap[gk]? = some (.cells #[.int .i64 2] 3 (0, 0)) := blk_drew (blk_far (p := ⟨W.heap.size, 2, none⟩) (bk2) (Ne.symm e2) _)
  have bf5 : (((W2.setCell ⟨W.heap.size, 2, none⟩ (.int .i64 (wrap64 (-(wrap64 (wrap64 (-sg) * at_))))))).drew).heap[gf]? = some (.cells #[.int .i64 5] 3 (0, 0)) := blk_drew (blk_far (p := ⟨W.heap.size, 2, none⟩) (bf2) (Ne.symm e3) _)
  have bo5 : (((W2.setCell ⟨W.heap.size, 2, none⟩ (.int .i64 (wrap64 (-(wrap64 (wrap64 (-sg) * at_))))))).drew).heap[go_]? = some (.cells #[v] 80 (0, 0)) := blk_drew (blk_far (p := ⟨W.heap.size, 2, none⟩) (bo2) (Ne.symm e4) _)
  have hR5 : Kd.R k67 67 (((W2.setCell ⟨W.heap.size, 2, none⟩ (.int .i64 (wrap64 (-(wrap64 (wrap64 (-sg) * at_))))))).drew) base (fun _ => True) v xs := Kd.R_drew (Kd.R_set (hR2) (bn2) (by decide) 2 _)
  have hB5 : Below base W0 (((W2.setCell ⟨W.heap.size, 2, none⟩ (.int .i64 (wrap64 (-(wrap64 (wrap64 (-sg) * at_))))))).drew) := below_drew1 ((hB2).setCell (p := ⟨W.heap.size, 2, none⟩) (by show base ≤ W.heap.size; omega) _)
  have s5 : (((W2.setCell ⟨W.heap.size, 2, none⟩ (.int .i64 (wrap64 (-(wrap64 (wrap64 (-sg) * at_))))))).drew).heap.size = W.heap.size + 1 := by simpa using s2
  generalize ((W2.setCell ⟨W.heap.size, 2, none⟩ (.int .i64 (wrap64 (-(wrap64 (wrap64 (-sg) * at_))))))).drew = W5 at *
  clear f0 f1 f2 g0 g1 g2 ql qk bn2 bl2 bk2 bf2 bo2 hR2 hB2 s2
  have f0 := (blk_cell bn5 0).trans rfl
  have f1 := (blk_cell bn5 1).trans rfl
  have f2 := (blk_cell bn5 2).trans rfl
  have g0 := blk_frozen bn5 0
  have g1 := blk_frozen bn5 1
  have g2 := blk_frozen bn5 2
  have ql := (blk_cell bf5 0).trans rfl
  have qk := (blk_cell bk5 0).trans rfl
  go_wp2
  clear ql qk
  have qo := (blk_cell bo5 0).trans rfl
  have go1 := blk_frozen bo5 0
  go_region_law ((first | (refine gq_ Try.func116 #[.agg #[.int .i64 0, .int .i64 js, .int .i64 (wrap64 (-(wrap64 (wrap64 (-sg) * at_))))]] ?_; (with_reducible refine (tile_vec.calls 0 js (wrap64 (-(wrap64 (wrap64 (-sg) * at_)))) 0 js (wrap64 (-(wrap64 (wrap64 (-sg) * at_)))) _ rfl).mono ?_); rintro e w3 ⟨rfl, hb⟩; refine ⟨_, rfl, ?_⟩; have bl3 := (hb.block gl (by show gl < W5.heap.size; omega)).trans bl5; have bk3 := (hb.block gk (by show gk < W5.heap.size; omega)).trans bk5; have bf3 := (hb.block gf (by show gf < W5.heap.size; omega)).trans bf5; have bo3 := (hb.block go_ (by show go_ < W5.heap.size; omega)).trans bo5; have bn3 := (hb.block W.heap.size (by show W.heap.size < W5.heap.size; omega)).trans bn5; have hR3 := Kd.R_below (Kd.R_drew hR5) hb; have hB3 := (below_drew1 hB5).trans (hb.mono (by show base ≤ W5.heap.size; omega)); have s3 : W5.heap.size ≤ w3.heap.size := hb.size; clear hb; have q0 := (blk_cell bo3 0).trans rfl; have q1 := (blk_cell bn3 0).trans rfl; have q2 := (blk_cell bn3 1).trans rfl; have q3 := (blk_cell bn3 2).trans rfl; have q4 : (w3.alloc (.cells #[.int .i64 0, .int .i64 js, .int .i64 (wrap64 (-(wrap64 (wrap64 (-sg) * at_))))] 67)).cell? ⟨go_, 0, none⟩ = some v := (blk_cell (((World.grownBy_alloc w3 _ none).block go_ (by omega) (by simp)).trans bo3) 0).trans rfl) | ((refine Kd.R_append_step k67 (w0 := W0) base (by rfl) (.tmp 31) (.tmp 34) 80 67 (.agg #[(.int .i64 0), (.int .i64 0), (.int .i64 0)]) 24 rfl Try.underlying80 info67 rfl (by decide) (by omega) v xs (⟨0, js, (wrap64 (-(wrap64 (wrap64 (-sg) * at_))))⟩ : S67) [.int .i64 0, .int .i64 js, .int .i64 (wrap64 (-(wrap64 (wrap64 (-sg) * at_))))] (fun _ => True) (fun _ => False) (by rfl) (by rfl) (k67_mkM _ _ _ _) (fun _ hk => hk.elim) (fun _ _ => trivial) hR3 hB3 (by omega) hlen ?_); intro v1 w4 hR4 hB4 hg4 _; obtain ⟨A4, c4, rfl⟩ := Kd.R_slice hR4; simp only [List.length_append, List.length_cons, List.length_nil, Nat.zero_add] at hR4; have bl4 := (hg4.block gl (by omega) (Kd.R_ne hR3 bl3 (by decide))).trans bl3; have bk4 := (hg4.block gk (by omega) (Kd.R_ne hR3 bk3 (by decide))).trans bk3; have bf4 := (hg4.block gf (by omega) (Kd.R_ne hR3 bf3 (by decide))).trans bf3; have bo4 := (hg4.block go_ (by omega) (Kd.R_ne hR3 bo3 (by decide))).trans bo3; have bn4 := (hg4.block W.heap.size (by omega) (Kd.R_ne hR3 bn3 (by decide))).trans bn3; have q0 := (blk_cell bo4 0).trans rfl; have q1 := (blk_cell bn4 0).trans rfl; have q2 := (blk_cell bn4 1).trans rfl; have q3 := (blk_cell bn4 2).trans rfl; have go4 := blk_frozen bo4 0)))
  all_goals
    go_end0
    exact ⟨_, rfl, blk_far (p := ⟨go_, 0, none⟩) bl4 no1 _, blk_far (p := ⟨go_, 0, none⟩) bk4 no2 _, blk_far (p := ⟨go_, 0, none⟩) bf4 no3 _, blk_put bo4 0 _ rfl, Kd.R_set hR4 bo4 (by decide) 0 _, hB4.setCell (p := ⟨go_, 0, none⟩) hb0 _, by have := hg4.size; simp; omega⟩
theorem tile_sides.axes0 : tile_axes.f 0 = some (0, 1, 2) := by simp [tile_axes.f, wrap64]
theorem tile_sides.axes1 : tile_axes.f 1 = some (0, 1, 2) := by simp [tile_axes.f, wrap64]
theorem tile_sides.axes2 : tile_axes.f 2 = some (1, 2, 0) := by simp [tile_axes.f, wrap64]
theorem tile_sides.axes3 : tile_axes.f 3 = some (1, 2, 0) := by simp [tile_axes.f, wrap64]
theorem tile_sides.axes4 : tile_axes.f 4 = some (2, 0, 1) := by simp [tile_axes.f, wrap64]
theorem tile_sides.axes5 : tile_axes.f 5 = some (2, 0, 1) := by simp [tile_axes.f, wrap64]
set_option maxHeartbeats 4000000 in
set_option maxRecDepth 100000 in
theorem tile_sides.c0 (k : Nat) (t x y lev n nm : Int) (w : World) (hs : tile_spot.f k t = some (0, x, y, lev)) (hl : 0 ≤ lev) (hn : shl .i64 1 lev = n) (hm : shl .i64 (-1) lev = nm) :
    Calls Try.prog 85 #[.int .i64 t] w fun e w' => ∃ v0_ : Value, e = .returned v0_ ∧ Kd.R k67 67 w' w.heap.size (fun _ => True) v0_ [⟨(wrap64 (wrap64 (-1) * (wrap64 (wrap64 (2 * x) - n)))), n, 0⟩, ⟨(wrap64 (wrap64 (-(-1)) * (wrap64 (wrap64 (2 * wrap64 (x + 1)) - n)))), nm, 0⟩, ⟨(wrap64 (wrap64 (-1) * (wrap64 (wrap64 (2 * y) - n)))), 0, n⟩, ⟨(wrap64 (wrap64 (-(-1)) * (wrap64 (wrap64 (2 * wrap64 (y + 1)) - n)))), 0, nm⟩] ∧ Below w.heap.size w w' := by
  have hmf : ∀ (fn : Fn) (first cap : Array Value) (w : World), (Instr.makeFunc fn first cap).run Try.prog w = .ok (.func fn first cap) w := fun _ _ _ _ => rfl
  have hji_ : (IntKind.i64.wrap (1 * 2 ^ min (lev).toNat 64)) = n := hn
  have hjiy : (wrap64 (1 * 2 ^ min (lev).toNat 64)) = n := (i64_w _).symm.trans hji_
  have hji1 : wrap64 (2 ^ min (lev).toNat 64) = n := by simpa using hjiy
  have c4b0 := eq_true hl
  have c4b1 : decide (0 ≤ lev) = true := decide_eq_true hl
  go_enter Try.func85, Try.ntmps85
  have lt_ : ∀ {g : Nat} {o : Obj} {V : World}, V.heap[g]? = some o → g < V.heap.size := fun h => (Array.getElem?_eq_some_iff.1 h).1
  go_upto_region 5 with (first
   | (go_at_call 84; (with_reducible refine (tile_spot.calls k t 0 x y lev _ hs).mono ?_); rintro e w1 ⟨rfl, ⟨m1, rfl⟩⟩)
   | ((with_reducible refine gate_dst (N := 3) rfl ?_); refine bxq_ 3 #[.int .i64 0] 3 ?_; intro gf hgf w2 bf2 hb; have gef : w.heap.size ≤ gf := Nat.le_of_eq (show w.heap.size = gf from hgf.symm); clear hgf; have HB2 : Below w.heap.size w w2 := (pw_below_drewN (Below.refl _ _) m1).trans hb; have lf2 := lt_ bf2; clear hb)
   | ((with_reducible refine gate_dst (N := 6) rfl ?_); refine bxq_ 6 #[.int .i64 0] 3 ?_; intro gl hgl w3 bl3 hb; have bf3 := (hb.block gf lf2).trans bf2; have HB3 := HB2.trans (hb.mono HB2.size); have gel : w2.heap.size ≤ gl := Nat.le_of_eq hgl.symm; clear hgl; have ll3 := lt_ bl3; have lf3 := lt_ bf3; have ne1 : gf ≠ gl := Nat.ne_of_lt (Nat.lt_of_lt_of_le lf2 gel); have ne1' := Ne.symm ne1; clear hb; have cf3 := (blk_cell bf3 0).trans rfl; have cl3 := (blk_cell bl3 0).trans rfl; have zf3 := blk_frozen bf3 0; have zl3 := blk_frozen bl3 0)
   | (go_at_call 80; (with_reducible refine (tile_axes.calls 0 0 1 2 _ tile_sides.axes0).mono ?_); rintro e w1 ⟨rfl, ⟨m2, rfl⟩⟩; have bf4 := blk_drewN (blk_far (p := ⟨gl, 0, none⟩) (blk_put (cs' := #[.int .i64 0]) bf3 0 (.int .i64 0) rfl) ne1 (.int .i64 lev)) m2; have bl4 := blk_drewN (blk_put (cs' := #[.int .i64 lev]) (blk_far (p := ⟨gf, 0, none⟩) bl3 ne1' (.int .i64 0)) 0 (.int .i64 lev) rfl) m2; have HB4 := pw_below_drewN ((HB3.setCell (p := ⟨gf, 0, none⟩) gef (.int .i64 0)).setCell (p := ⟨gl, 0, none⟩) (Nat.le_trans HB2.size gel) (.int .i64 lev)) m2; have sz4 : (((w3.setCell ⟨gf, 0, none⟩ (.int .i64 0)).setCell ⟨gl, 0, none⟩ (.int .i64 lev)).drewN m2).heap.size = w3.heap.size := (by simp [World.drewN]))
   | ((with_reducible refine gate_dst (N := 7) rfl ?_); refine bxq_ 7 #[.int .i64 0] 3 ?_; intro gk hgk w5 bk5 hb; rw [sz4] at hgk; have gek : w3.heap.size ≤ gk := Nat.le_of_eq hgk.symm; clear hgk; have bf5 := (hb.block gf (by rw [sz4]; exact lf3)).trans bf4; have bl5 := (hb.block gl (by rw [sz4]; exact ll3)).trans bl4; have HB5 := HB4.trans (hb.mono HB4.size); have lk5 := lt_ bk5; have lf5 := lt_ bf5; have ll5 := lt_ bl5; clear hb; have ne2 : gk ≠ gf := Nat.ne_of_gt (Nat.lt_of_lt_of_le lf3 gek); have ne2' := Ne.symm ne2; have ne3 : gk ≠ gl := Nat.ne_of_gt (Nat.lt_of_lt_of_le ll3 gek); have ne3' := Ne.symm ne3; have ck5 := (blk_cell bk5 0).trans rfl; have zk5 := blk_frozen bk5 0)
   | ((with_reducible refine gate_dst (N := 10) rfl ?_); refine bxq_ 10 #[.slice none 0 0] 80 ?_; intro go_ hgo w7 bo7 hb; have sz6 : (w5.setCell ⟨gk, 0, none⟩ (.int .i64 0)).heap.size = w5.heap.size := (by simp); have geo : w5.heap.size ≤ go_ := Nat.le_of_eq (hgo.trans sz6).symm; clear hgo; have bf7 := (hb.block gf (Nat.lt_of_lt_of_eq lf5 sz6.symm)).trans (blk_far (p := ⟨gk, 0, none⟩) bf5 ne2' (.int .i64 0)); have bl7 := (hb.block gl (Nat.lt_of_lt_of_eq ll5 sz6.symm)).trans (blk_far (p := ⟨gk, 0, none⟩) bl5 ne3' (.int .i64 0)); have bk7 := (hb.block gk (Nat.lt_of_lt_of_eq lk5 sz6.symm)).trans (blk_put (cs' := #[.int .i64 0]) bk5 0 (.int .i64 0) rfl); have HB7 := (HB5.setCell (p := ⟨gk, 0, none⟩) (Nat.le_trans HB3.size gek) (.int .i64 0)).trans (hb.mono (Nat.le_trans HB5.size (Nat.le_of_eq sz6.symm))); have lo7 := lt_ bo7; have cl7 := (blk_cell bl7 0).trans rfl; clear hb))
  have lf7 := lt_ bf7
  have ll7 := lt_ bl7
  have lk7 := lt_ bk7
  have no1 : gl ≠ go_ := Nat.ne_of_lt (Nat.lt_of_lt_of_le ll5 geo)
  have no2 : gk ≠ go_ := Nat.ne_of_lt (Nat.lt_of_lt_of_le lk5 geo)
  have no3 : gf ≠ go_ := Nat.ne_of_lt (Nat.lt_of_lt_of_le lf5 geo)
  have hb0 : w.heap.size ≤ go_ := Nat.le_trans HB5.size geo
  clear ne1 ne1' ne2 ne2' ne3 ne3' cf3 cl3 zf3 zl3 bf2 bf3 bl3 bf4 bl4 bk5 bf5 bl5 HB2 HB3 HB4 HB5 ck5 zk5 sz4 sz6
  have hR7 := Kd.R_nil k67 67 w7 w.heap.size (fun _ => True)
  go_wp2_with (first
   | (go_at_call 115; (with_reducible refine (tile_sides.s0i w.heap.size lev (wrap64 (wrap64 (2 * x) - n)) 1 n gl gk gf go_ (.slice none 0 0) [] w w7 hl hn ?s1 ?s2 ?s3 ?s4 no1 no2 no3 bl7 bk7 bf7 bo7 hR7 HB7 hb0 (by simp)).mono ?_); (case s1 => omega); (case s2 => omega); (case s3 => omega); (case s4 => omega); rintro e w8 ⟨v1, rfl, bl8, bk8, bf8, bo8, hR8, hB8, sz8⟩; simp only [List.nil_append, List.cons_append] at hR8; have c8_ := (blk_cell bl8 0).trans rfl; have d8_ := (blk_cell bo8 0).trans rfl)
   | (go_at_call 115; (with_reducible refine (tile_sides.s0i w.heap.size lev (wrap64 (wrap64 (2 * wrap64 (x + 1)) - n)) (-1) nm gl gk gf go_ v1 [⟨(wrap64 (wrap64 (-1) * (wrap64 (wrap64 (2 * x) - n)))), n, 0⟩] w w8 hl hm ?s1 ?s2 ?s3 ?s4 no1 no2 no3 bl8 bk8 bf8 bo8 hR8 hB8 hb0 (by simp)).mono ?_); (case s1 => omega); (case s2 => omega); (case s3 => omega); (case s4 => omega); rintro e w9 ⟨v2, rfl, bl9, bk9, bf9, bo9, hR9, hB9, sz9⟩; simp only [List.nil_append, List.cons_append] at hR9; have c9_ := (blk_cell bl9 0).trans rfl; have d9_ := (blk_cell bo9 0).trans rfl)
   | (go_at_call 115; (with_reducible refine (tile_sides.s0j w.heap.size lev (wrap64 (wrap64 (2 * y) - n)) 1 n gl gk gf go_ v2 [⟨(wrap64 (wrap64 (-1) * (wrap64 (wrap64 (2 * x) - n)))), n, 0⟩, ⟨(wrap64 (wrap64 (-(-1)) * (wrap64 (wrap64 (2 * wrap64 (x + 1)) - n)))), nm, 0⟩] w w9 hl hn ?s1 ?s2 ?s3 ?s4 no1 no2 no3 bl9 bk9 bf9 bo9 hR9 hB9 hb0 (by simp)).mono ?_); (case s1 => omega); (case s2 => omega); (case s3 => omega); (case s4 => omega); rintro e w10 ⟨v3, rfl, bl10, bk10, bf10, bo10, hR10, hB10, sz10⟩; simp only [List.nil_append, List.cons_append] at hR10; have c10_ := (blk_cell bl10 0).trans rfl; have d10_ := (blk_cell bo10 0).trans rfl)
   | (go_at_call 115; (with_reducible refine (tile_sides.s0j w.heap.size lev (wrap64 (wrap64 (2 * wrap64 (y + 1)) - n)) (-1) nm gl gk gf go_ v3 [⟨(wrap64 (wrap64 (-1) * (wrap64 (wrap64 (2 * x) - n)))), n, 0⟩, ⟨(wrap64 (wrap64 (-(-1)) * (wrap64 (wrap64 (2 * wrap64 (x + 1)) - n)))), nm, 0⟩, ⟨(wrap64 (wrap64 (-1) * (wrap64 (wrap64 (2 * y) - n)))), 0, n⟩] w w10 hl hm ?s1 ?s2 ?s3 ?s4 no1 no2 no3 bl10 bk10 bf10 bo10 hR10 hB10 hb0 (by simp)).mono ?_); (case s1 => omega); (case s2 => omega); (case s3 => omega); (case s4 => omega); rintro e w11 ⟨v4, rfl, bl11, bk11, bf11, bo11, hR11, hB11, sz11⟩; simp only [List.nil_append, List.cons_append] at hR11; have c11_ := (blk_cell bl11 0).trans rfl; have d11_ := (blk_cell bo11 0).trans rfl))
  go_ret
  exact ⟨_, rfl, hR11, hB11⟩
set_option maxHeartbeats 4000000 in
set_option maxRecDepth 100000 in
theorem tile_sides.c1 (k : Nat) (t x y lev n nm : Int) (w : World) (hs : tile_spot.f k t = some (1, x, y, lev)) (hl : 0 ≤ lev) (hn : shl .i64 1 lev = n) (hm : shl .i64 (-1) lev = nm) :
    Calls Try.prog 85 #[.int .i64 t] w fun e w' => ∃ v0_ : Value, e = .returned v0_ ∧ Kd.R k67 67 w' w.heap.size (fun _ => True) v0_ [⟨(wrap64 (-(wrap64 (wrap64 (-1) * (wrap64 (wrap64 (2 * x) - n)))))), n, 0⟩, ⟨(wrap64 (-(wrap64 (wrap64 (-(-1)) * (wrap64 (wrap64 (2 * wrap64 (x + 1)) - n)))))), nm, 0⟩, ⟨(wrap64 (-(wrap64 (wrap64 (-1) * (wrap64 (wrap64 (2 * y) - n)))))), 0, n⟩, ⟨(wrap64 (-(wrap64 (wrap64 (-(-1)) * (wrap64 (wrap64 (2 * wrap64 (y + 1)) - n)))))), 0, nm⟩] ∧ Below w.heap.size w w' := by
  have hmf : ∀ (fn : Fn) (first cap : Array Value) (w : World), (Instr.makeFunc fn first cap).run Try.prog w = .ok (.func fn first cap) w := fun _ _ _ _ => rfl
  have hji_ : (IntKind.i64.wrap (1 * 2 ^ min (lev).toNat 64)) = n := hn
  have hjiy : (wrap64 (1 * 2 ^ min (lev).toNat 64)) = n := (i64_w _).symm.trans hji_
  have hji1 : wrap64 (2 ^ min (lev).toNat 64) = n := by simpa using hjiy
  have c4b0 := eq_true hl
  have c4b1 : decide (0 ≤ lev) = true := decide_eq_true hl
  go_enter Try.func85, Try.ntmps85
  have lt_ : ∀ {g : Nat} {o : Obj} {V : World}, V.heap[g]? = some o → g < V.heap.size := fun h => (Array.getElem?_eq_some_iff.1 h).1
  go_upto_region 5 with (first
   | (go_at_call 84; (with_reducible refine (tile_spot.calls k t 1 x y lev _ hs).mono ?_); rintro e w1 ⟨rfl, ⟨m1, rfl⟩⟩)
   | ((with_reducible refine gate_dst (N := 3) rfl ?_); refine bxq_ 3 #[.int .i64 0] 3 ?_; intro gf hgf w2 bf2 hb; have gef : w.heap.size ≤ gf := Nat.le_of_eq (show w.heap.size = gf from hgf.symm); clear hgf; have HB2 : Below w.heap.size w w2 := (pw_below_drewN (Below.refl _ _) m1).trans hb; have lf2 := lt_ bf2; clear hb)
   | ((with_reducible refine gate_dst (N := 6) rfl ?_); refine bxq_ 6 #[.int .i64 0] 3 ?_; intro gl hgl w3 bl3 hb; have bf3 := (hb.block gf lf2).trans bf2; have HB3 := HB2.trans (hb.mono HB2.size); have gel : w2.heap.size ≤ gl := Nat.le_of_eq hgl.symm; clear hgl; have ll3 := lt_ bl3; have lf3 := lt_ bf3; have ne1 : gf ≠ gl := Nat.ne_of_lt (Nat.lt_of_lt_of_le lf2 gel); have ne1' := Ne.symm ne1; clear hb; have cf3 := (blk_cell bf3 0).trans rfl; have cl3 := (blk_cell bl3 0).trans rfl; have zf3 := blk_frozen bf3 0; have zl3 := blk_frozen bl3 0)
   | (go_at_call 80; (with_reducible refine (tile_axes.calls 1 0 1 2 _ tile_sides.axes1).mono ?_); rintro e w1 ⟨rfl, ⟨m2, rfl⟩⟩; have bf4 := blk_drewN (blk_far (p := ⟨gl, 0, none⟩) (blk_put (cs' := #[.int .i64 1]) bf3 0 (.int .i64 1) rfl) ne1 (.int .i64 lev)) m2; have bl4 := blk_drewN (blk_put (cs' := #[.int .i64 lev]) (blk_far (p := ⟨gf, 0, none⟩) bl3 ne1' (.int .i64 1)) 0 (.int .i64 lev) rfl) m2; have HB4 := pw_below_drewN ((HB3.setCell (p := ⟨gf, 0, none⟩) gef (.int .i64 1)).setCell (p := ⟨gl, 0, none⟩) (Nat.le_trans HB2.size gel) (.int .i64 lev)) m2; have sz4 : (((w3.setCell ⟨gf, 0, none⟩ (.int .i64 1)).setCell ⟨gl, 0, none⟩ (.int .i64 lev)).drewN m2).heap.size = w3.heap.size := (by simp [World.drewN]))
   | ((with_reducible refine gate_dst (N := 7) rfl ?_); refine bxq_ 7 #[.int .i64 0] 3 ?_; intro gk hgk w5 bk5 hb; rw [sz4] at hgk; have gek : w3.heap.size ≤ gk := Nat.le_of_eq hgk.symm; clear hgk; have bf5 := (hb.block gf (by rw [sz4]; exact lf3)).trans bf4; have bl5 := (hb.block gl (by rw [sz4]; exact ll3)).trans bl4; have HB5 := HB4.trans (hb.mono HB4.size); have lk5 := lt_ bk5; have lf5 := lt_ bf5; have ll5 := lt_ bl5; clear hb; have ne2 : gk ≠ gf := Nat.ne_of_gt (Nat.lt_of_lt_of_le lf3 gek); have ne2' := Ne.symm ne2; have ne3 : gk ≠ gl := Nat.ne_of_gt (Nat.lt_of_lt_of_le ll3 gek); have ne3' := Ne.symm ne3; have ck5 := (blk_cell bk5 0).trans rfl; have zk5 := blk_frozen bk5 0)
   | ((with_reducible refine gate_dst (N := 10) rfl ?_); refine bxq_ 10 #[.slice none 0 0] 80 ?_; intro go_ hgo w7 bo7 hb; have sz6 : (w5.setCell ⟨gk, 0, none⟩ (.int .i64 0)).heap.size = w5.heap.size := (by simp); have geo : w5.heap.size ≤ go_ := Nat.le_of_eq (hgo.trans sz6).symm; clear hgo; have bf7 := (hb.block gf (Nat.lt_of_lt_of_eq lf5 sz6.symm)).trans (blk_far (p := ⟨gk, 0, none⟩) bf5 ne2' (.int .i64 0)); have bl7 := (hb.block gl (Nat.lt_of_lt_of_eq ll5 sz6.symm)).trans (blk_far (p := ⟨gk, 0, none⟩) bl5 ne3' (.int .i64 0)); have bk7 := (hb.block gk (Nat.lt_of_lt_of_eq lk5 sz6.symm)).trans (blk_put (cs' := #[.int .i64 0]) bk5 0 (.int .i64 0) rfl); have HB7 := (HB5.setCell (p := ⟨gk, 0, none⟩) (Nat.le_trans HB3.size gek) (.int .i64 0)).trans (hb.mono (Nat.le_trans HB5.size (Nat.le_of_eq sz6.symm))); have lo7 := lt_ bo7; have cl7 := (blk_cell bl7 0).trans rfl; clear hb))
  have lf7 := lt_ bf7
  have ll7 := lt_ bl7
  have lk7 := lt_ bk7
  have no1 : gl ≠ go_ := Nat.ne_of_lt (Nat.lt_of_lt_of_le ll5 geo)
  have no2 : gk ≠ go_ := Nat.ne_of_lt (Nat.lt_of_lt_of_le lk5 geo)
  have no3 : gf ≠ go_ := Nat.ne_of_lt (Nat.lt_of_lt_of_le lf5 geo)
  have hb0 : w.heap.size ≤ go_ := Nat.le_trans HB5.size geo
  clear ne1 ne1' ne2 ne2' ne3 ne3' cf3 cl3 zf3 zl3 bf2 bf3 bl3 bf4 bl4 bk5 bf5 bl5 HB2 HB3 HB4 HB5 ck5 zk5 sz4 sz6
  have hR7 := Kd.R_nil k67 67 w7 w.heap.size (fun _ => True)
  go_wp2_with (first
   | (go_at_call 115; (with_reducible refine (tile_sides.s1i w.heap.size lev (wrap64 (wrap64 (2 * x) - n)) 1 n gl gk gf go_ (.slice none 0 0) [] w w7 hl hn ?s1 ?s2 ?s3 ?s4 no1 no2 no3 bl7 bk7 bf7 bo7 hR7 HB7 hb0 (by simp)).mono ?_); (case s1 => omega); (case s2 => omega); (case s3 => omega); (case s4 => omega); rintro e w8 ⟨v1, rfl, bl8, bk8, bf8, bo8, hR8, hB8, sz8⟩; simp only [List.nil_append, List.cons_append] at hR8; have c8_ := (blk_cell bl8 0).trans rfl; have d8_ := (blk_cell bo8 0).trans rfl)
   | (go_at_call 115; (with_reducible refine (tile_sides.s1i w.heap.size lev (wrap64 (wrap64 (2 * wrap64 (x + 1)) - n)) (-1) nm gl gk gf go_ v1 [⟨(wrap64 (-(wrap64 (wrap64 (-1) * (wrap64 (wrap64 (2 * x) - n)))))), n, 0⟩] w w8 hl hm ?s1 ?s2 ?s3 ?s4 no1 no2 no3 bl8 bk8 bf8 bo8 hR8 hB8 hb0 (by simp)).mono ?_); (case s1 => omega); (case s2 => omega); (case s3 => omega); (case s4 => omega); rintro e w9 ⟨v2, rfl, bl9, bk9, bf9, bo9, hR9, hB9, sz9⟩; simp only [List.nil_append, List.cons_append] at hR9; have c9_ := (blk_cell bl9 0).trans rfl; have d9_ := (blk_cell bo9 0).trans rfl)
   | (go_at_call 115; (with_reducible refine (tile_sides.s1j w.heap.size lev (wrap64 (wrap64 (2 * y) - n)) 1 n gl gk gf go_ v2 [⟨(wrap64 (-(wrap64 (wrap64 (-1) * (wrap64 (wrap64 (2 * x) - n)))))), n, 0⟩, ⟨(wrap64 (-(wrap64 (wrap64 (-(-1)) * (wrap64 (wrap64 (2 * wrap64 (x + 1)) - n)))))), nm, 0⟩] w w9 hl hn ?s1 ?s2 ?s3 ?s4 no1 no2 no3 bl9 bk9 bf9 bo9 hR9 hB9 hb0 (by simp)).mono ?_); (case s1 => omega); (case s2 => omega); (case s3 => omega); (case s4 => omega); rintro e w10 ⟨v3, rfl, bl10, bk10, bf10, bo10, hR10, hB10, sz10⟩; simp only [List.nil_append, List.cons_append] at hR10; have c10_ := (blk_cell bl10 0).trans rfl; have d10_ := (blk_cell bo10 0).trans rfl)
   | (go_at_call 115; (with_reducible refine (tile_sides.s1j w.heap.size lev (wrap64 (wrap64 (2 * wrap64 (y + 1)) - n)) (-1) nm gl gk gf go_ v3 [⟨(wrap64 (-(wrap64 (wrap64 (-1) * (wrap64 (wrap64 (2 * x) - n)))))), n, 0⟩, ⟨(wrap64 (-(wrap64 (wrap64 (-(-1)) * (wrap64 (wrap64 (2 * wrap64 (x + 1)) - n)))))), nm, 0⟩, ⟨(wrap64 (-(wrap64 (wrap64 (-1) * (wrap64 (wrap64 (2 * y) - n)))))), 0, n⟩] w w10 hl hm ?s1 ?s2 ?s3 ?s4 no1 no2 no3 bl10 bk10 bf10 bo10 hR10 hB10 hb0 (by simp)).mono ?_); (case s1 => omega); (case s2 => omega); (case s3 => omega); (case s4 => omega); rintro e w11 ⟨v4, rfl, bl11, bk11, bf11, bo11, hR11, hB11, sz11⟩; simp only [List.nil_append, List.cons_append] at hR11; have c11_ := (blk_cell bl11 0).trans rfl; have d11_ := (blk_cell bo11 0).trans rfl))
  go_ret
  exact ⟨_, rfl, hR11, hB11⟩
set_option maxHeartbeats 4000000 in
set_option maxRecDepth 100000 in
theorem tile_sides.c2 (k : Nat) (t x y lev n nm : Int) (w : World) (hs : tile_spot.f k t = some (2, x, y, lev)) (hl : 0 ≤ lev) (hn : shl .i64 1 lev = n) (hm : shl .i64 (-1) lev = nm) :
    Calls Try.prog 85 #[.int .i64 t] w fun e w' => ∃ v0_ : Value, e = .returned v0_ ∧ Kd.R k67 67 w' w.heap.size (fun _ => True) v0_ [⟨0, (wrap64 (wrap64 (-1) * (wrap64 (wrap64 (2 * x) - n)))), n⟩, ⟨0, (wrap64 (wrap64 (-(-1)) * (wrap64 (wrap64 (2 * wrap64 (x + 1)) - n)))), nm⟩, ⟨n, (wrap64 (wrap64 (-1) * (wrap64 (wrap64 (2 * y) - n)))), 0⟩, ⟨nm, (wrap64 (wrap64 (-(-1)) * (wrap64 (wrap64 (2 * wrap64 (y + 1)) - n)))), 0⟩] ∧ Below w.heap.size w w' := by
  have hmf : ∀ (fn : Fn) (first cap : Array Value) (w : World), (Instr.makeFunc fn first cap).run Try.prog w = .ok (.func fn first cap) w := fun _ _ _ _ => rfl
  have hji_ : (IntKind.i64.wrap (1 * 2 ^ min (lev).toNat 64)) = n := hn
  have hjiy : (wrap64 (1 * 2 ^ min (lev).toNat 64)) = n := (i64_w _).symm.trans hji_
  have hji1 : wrap64 (2 ^ min (lev).toNat 64) = n := by simpa using hjiy
  have c4b0 := eq_true hl
  have c4b1 : decide (0 ≤ lev) = true := decide_eq_true hl
  go_enter Try.func85, Try.ntmps85
  have lt_ : ∀ {g : Nat} {o : Obj} {V : World}, V.heap[g]? = some o → g < V.heap.size := fun h => (Array.getElem?_eq_some_iff.1 h).1
  go_upto_region 5 with (first
   | (go_at_call 84; (with_reducible refine (tile_spot.calls k t 2 x y lev _ hs).mono ?_); rintro e w1 ⟨rfl, ⟨m1, rfl⟩⟩)
   | ((with_reducible refine gate_dst (N := 3) rfl ?_); refine bxq_ 3 #[.int .i64 0] 3 ?_; intro gf hgf w2 bf2 hb; have gef : w.heap.size ≤ gf := Nat.le_of_eq (show w.heap.size = gf from hgf.symm); clear hgf; have HB2 : Below w.heap.size w w2 := (pw_below_drewN (Below.refl _ _) m1).trans hb; have lf2 := lt_ bf2; clear hb)
   | ((with_reducible refine gate_dst (N := 6) rfl ?_); refine bxq_ 6 #[.int .i64 0] 3 ?_; intro gl hgl w3 bl3 hb; have bf3 := (hb.block gf lf2).trans bf2; have HB3 := HB2.trans (hb.mono HB2.size); have gel : w2.heap.size ≤ gl := Nat.le_of_eq hgl.symm; clear hgl; have ll3 := lt_ bl3; have lf3 := lt_ bf3; have ne1 : gf ≠ gl := Nat.ne_of_lt (Nat.lt_of_lt_of_le lf2 gel); have ne1' := Ne.symm ne1; clear hb; have cf3 := (blk_cell bf3 0).trans rfl; have cl3 := (blk_cell bl3 0).trans rfl; have zf3 := blk_frozen bf3 0; have zl3 := blk_frozen bl3 0)
   | (go_at_call 80; (with_reducible refine (tile_axes.calls 2 1 2 0 _ tile_sides.axes2).mono ?_); rintro e w1 ⟨rfl, ⟨m2, rfl⟩⟩; have bf4 := blk_drewN (blk_far (p := ⟨gl, 0, none⟩) (blk_put (cs' := #[.int .i64 2]) bf3 0 (.int .i64 2) rfl) ne1 (.int .i64 lev)) m2; have bl4 := blk_drewN (blk_put (cs' := #[.int .i64 lev]) (blk_far (p := ⟨gf, 0, none⟩) bl3 ne1' (.int .i64 2)) 0 (.int .i64 lev) rfl) m2; have HB4 := pw_below_drewN ((HB3.setCell (p := ⟨gf, 0, none⟩) gef (.int .i64 2)).setCell (p := ⟨gl, 0, none⟩) (Nat.le_trans HB2.size gel) (.int .i64 lev)) m2; have sz4 : (((w3.setCell ⟨gf, 0, none⟩ (.int .i64 2)).setCell ⟨gl, 0, none⟩ (.int .i64 lev)).drewN m2).heap.size = w3.heap.size := (by simp [World.drewN]))
   | ((with_reducible refine gate_dst (N := 7) rfl ?_); refine bxq_ 7 #[.int .i64 0] 3 ?_; intro gk hgk w5 bk5 hb; rw [sz4] at hgk; have gek : w3.heap.size ≤ gk := Nat.le_of_eq hgk.symm; clear hgk; have bf5 := (hb.block gf (by rw [sz4]; exact lf3)).trans bf4; have bl5 := (hb.block gl (by rw [sz4]; exact ll3)).trans bl4; have HB5 := HB4.trans (hb.mono HB4.size); have lk5 := lt_ bk5; have lf5 := lt_ bf5; have ll5 := lt_ bl5; clear hb; have ne2 : gk ≠ gf := Nat.ne_of_gt (Nat.lt_of_lt_of_le lf3 gek); have ne2' := Ne.symm ne2; have ne3 : gk ≠ gl := Nat.ne_of_gt (Nat.lt_of_lt_of_le ll3 gek); have ne3' := Ne.symm ne3; have ck5 := (blk_cell bk5 0).trans rfl; have zk5 := blk_frozen bk5 0)
   | ((with_reducible refine gate_dst (N := 10) rfl ?_); refine bxq_ 10 #[.slice none 0 0] 80 ?_; intro go_ hgo w7 bo7 hb; have sz6 : (w5.setCell ⟨gk, 0, none⟩ (.int .i64 1)).heap.size = w5.heap.size := (by simp); have geo : w5.heap.size ≤ go_ := Nat.le_of_eq (hgo.trans sz6).symm; clear hgo; have bf7 := (hb.block gf (Nat.lt_of_lt_of_eq lf5 sz6.symm)).trans (blk_far (p := ⟨gk, 0, none⟩) bf5 ne2' (.int .i64 1)); have bl7 := (hb.block gl (Nat.lt_of_lt_of_eq ll5 sz6.symm)).trans (blk_far (p := ⟨gk, 0, none⟩) bl5 ne3' (.int .i64 1)); have bk7 := (hb.block gk (Nat.lt_of_lt_of_eq lk5 sz6.symm)).trans (blk_put (cs' := #[.int .i64 1]) bk5 0 (.int .i64 1) rfl); have HB7 := (HB5.setCell (p := ⟨gk, 0, none⟩) (Nat.le_trans HB3.size gek) (.int .i64 1)).trans (hb.mono (Nat.le_trans HB5.size (Nat.le_of_eq sz6.symm))); have lo7 := lt_ bo7; have cl7 := (blk_cell bl7 0).trans rfl; clear hb))
  have lf7 := lt_ bf7
  have ll7 := lt_ bl7
  have lk7 := lt_ bk7
  have no1 : gl ≠ go_ := Nat.ne_of_lt (Nat.lt_of_lt_of_le ll5 geo)
  have no2 : gk ≠ go_ := Nat.ne_of_lt (Nat.lt_of_lt_of_le lk5 geo)
  have no3 : gf ≠ go_ := Nat.ne_of_lt (Nat.lt_of_lt_of_le lf5 geo)
  have hb0 : w.heap.size ≤ go_ := Nat.le_trans HB5.size geo
  clear ne1 ne1' ne2 ne2' ne3 ne3' cf3 cl3 zf3 zl3 bf2 bf3 bl3 bf4 bl4 bk5 bf5 bl5 HB2 HB3 HB4 HB5 ck5 zk5 sz4 sz6
  have hR7 := Kd.R_nil k67 67 w7 w.heap.size (fun _ => True)
  go_wp2_with (first
   | (go_at_call 115; (with_reducible refine (tile_sides.s2i w.heap.size lev (wrap64 (wrap64 (2 * x) - n)) 1 n gl gk gf go_ (.slice none 0 0) [] w w7 hl hn ?s1 ?s2 ?s3 ?s4 no1 no2 no3 bl7 bk7 bf7 bo7 hR7 HB7 hb0 (by simp)).mono ?_); (case s1 => omega); (case s2 => omega); (case s3 => omega); (case s4 => omega); rintro e w8 ⟨v1, rfl, bl8, bk8, bf8, bo8, hR8, hB8, sz8⟩; simp only [List.nil_append, List.cons_append] at hR8; have c8_ := (blk_cell bl8 0).trans rfl; have d8_ := (blk_cell bo8 0).trans rfl)
   | (go_at_call 115; (with_reducible refine (tile_sides.s2i w.heap.size lev (wrap64 (wrap64 (2 * wrap64 (x + 1)) - n)) (-1) nm gl gk gf go_ v1 [⟨0, (wrap64 (wrap64 (-1) * (wrap64 (wrap64 (2 * x) - n)))), n⟩] w w8 hl hm ?s1 ?s2 ?s3 ?s4 no1 no2 no3 bl8 bk8 bf8 bo8 hR8 hB8 hb0 (by simp)).mono ?_); (case s1 => omega); (case s2 => omega); (case s3 => omega); (case s4 => omega); rintro e w9 ⟨v2, rfl, bl9, bk9, bf9, bo9, hR9, hB9, sz9⟩; simp only [List.nil_append, List.cons_append] at hR9; have c9_ := (blk_cell bl9 0).trans rfl; have d9_ := (blk_cell bo9 0).trans rfl)
   | (go_at_call 115; (with_reducible refine (tile_sides.s2j w.heap.size lev (wrap64 (wrap64 (2 * y) - n)) 1 n gl gk gf go_ v2 [⟨0, (wrap64 (wrap64 (-1) * (wrap64 (wrap64 (2 * x) - n)))), n⟩, ⟨0, (wrap64 (wrap64 (-(-1)) * (wrap64 (wrap64 (2 * wrap64 (x + 1)) - n)))), nm⟩] w w9 hl hn ?s1 ?s2 ?s3 ?s4 no1 no2 no3 bl9 bk9 bf9 bo9 hR9 hB9 hb0 (by simp)).mono ?_); (case s1 => omega); (case s2 => omega); (case s3 => omega); (case s4 => omega); rintro e w10 ⟨v3, rfl, bl10, bk10, bf10, bo10, hR10, hB10, sz10⟩; simp only [List.nil_append, List.cons_append] at hR10; have c10_ := (blk_cell bl10 0).trans rfl; have d10_ := (blk_cell bo10 0).trans rfl)
   | (go_at_call 115; (with_reducible refine (tile_sides.s2j w.heap.size lev (wrap64 (wrap64 (2 * wrap64 (y + 1)) - n)) (-1) nm gl gk gf go_ v3 [⟨0, (wrap64 (wrap64 (-1) * (wrap64 (wrap64 (2 * x) - n)))), n⟩, ⟨0, (wrap64 (wrap64 (-(-1)) * (wrap64 (wrap64 (2 * wrap64 (x + 1)) - n)))), nm⟩, ⟨n, (wrap64 (wrap64 (-1) * (wrap64 (wrap64 (2 * y) - n)))), 0⟩] w w10 hl hm ?s1 ?s2 ?s3 ?s4 no1 no2 no3 bl10 bk10 bf10 bo10 hR10 hB10 hb0 (by simp)).mono ?_); (case s1 => omega); (case s2 => omega); (case s3 => omega); (case s4 => omega); rintro e w11 ⟨v4, rfl, bl11, bk11, bf11, bo11, hR11, hB11, sz11⟩; simp only [List.nil_append, List.cons_append] at hR11; have c11_ := (blk_cell bl11 0).trans rfl; have d11_ := (blk_cell bo11 0).trans rfl))
  go_ret
  exact ⟨_, rfl, hR11, hB11⟩
set_option maxHeartbeats 4000000 in
set_option maxRecDepth 100000 in
theorem tile_sides.c3 (k : Nat) (t x y lev n nm : Int) (w : World) (hs : tile_spot.f k t = some (3, x, y, lev)) (hl : 0 ≤ lev) (hn : shl .i64 1 lev = n) (hm : shl .i64 (-1) lev = nm) :
    Calls Try.prog 85 #[.int .i64 t] w fun e w' => ∃ v0_ : Value, e = .returned v0_ ∧ Kd.R k67 67 w' w.heap.size (fun _ => True) v0_ [⟨0, (wrap64 (-(wrap64 (wrap64 (-1) * (wrap64 (wrap64 (2 * x) - n)))))), n⟩, ⟨0, (wrap64 (-(wrap64 (wrap64 (-(-1)) * (wrap64 (wrap64 (2 * wrap64 (x + 1)) - n)))))), nm⟩, ⟨n, (wrap64 (-(wrap64 (wrap64 (-1) * (wrap64 (wrap64 (2 * y) - n)))))), 0⟩, ⟨nm, (wrap64 (-(wrap64 (wrap64 (-(-1)) * (wrap64 (wrap64 (2 * wrap64 (y + 1)) - n)))))), 0⟩] ∧ Below w.heap.size w w' := by
  have hmf : ∀ (fn : Fn) (first cap : Array Value) (w : World), (Instr.makeFunc fn first cap).run Try.prog w = .ok (.func fn first cap) w := fun _ _ _ _ => rfl
  have hji_ : (IntKind.i64.wrap (1 * 2 ^ min (lev).toNat 64)) = n := hn
  have hjiy : (wrap64 (1 * 2 ^ min (lev).toNat 64)) = n := (i64_w _).symm.trans hji_
  have hji1 : wrap64 (2 ^ min (lev).toNat 64) = n := by simpa using hjiy
  have c4b0 := eq_true hl
  have c4b1 : decide (0 ≤ lev) = true := decide_eq_true hl
  go_enter Try.func85, Try.ntmps85
  have lt_ : ∀ {g : Nat} {o : Obj} {V : World}, V.heap[g]? = some o → g < V.heap.size := fun h => (Array.getElem?_eq_some_iff.1 h).1
  go_upto_region 5 with (first
   | (go_at_call 84; (with_reducible refine (tile_spot.calls k t 3 x y lev _ hs).mono ?_); rintro e w1 ⟨rfl, ⟨m1, rfl⟩⟩)
   | ((with_reducible refine gate_dst (N := 3) rfl ?_); refine bxq_ 3 #[.int .i64 0] 3 ?_; intro gf hgf w2 bf2 hb; have gef : w.heap.size ≤ gf := Nat.le_of_eq (show w.heap.size = gf from hgf.symm); clear hgf; have HB2 : Below w.heap.size w w2 := (pw_below_drewN (Below.refl _ _) m1).trans hb; have lf2 := lt_ bf2; clear hb)
   | ((with_reducible refine gate_dst (N := 6) rfl ?_); refine bxq_ 6 #[.int .i64 0] 3 ?_; intro gl hgl w3 bl3 hb; have bf3 := (hb.block gf lf2).trans bf2; have HB3 := HB2.trans (hb.mono HB2.size); have gel : w2.heap.size ≤ gl := Nat.le_of_eq hgl.symm; clear hgl; have ll3 := lt_ bl3; have lf3 := lt_ bf3; have ne1 : gf ≠ gl := Nat.ne_of_lt (Nat.lt_of_lt_of_le lf2 gel); have ne1' := Ne.symm ne1; clear hb; have cf3 := (blk_cell bf3 0).trans rfl; have cl3 := (blk_cell bl3 0).trans rfl; have zf3 := blk_frozen bf3 0; have zl3 := blk_frozen bl3 0)
   | (go_at_call 80; (with_reducible refine (tile_axes.calls 3 1 2 0 _ tile_sides.axes3).mono ?_); rintro e w1 ⟨rfl, ⟨m2, rfl⟩⟩; have bf4 := blk_drewN (blk_far (p := ⟨gl, 0, none⟩) (blk_put (cs' := #[.int .i64 3]) bf3 0 (.int .i64 3) rfl) ne1 (.int .i64 lev)) m2; have bl4 := blk_drewN (blk_put (cs' := #[.int .i64 lev]) (blk_far (p := ⟨gf, 0, none⟩) bl3 ne1' (.int .i64 3)) 0 (.int .i64 lev) rfl) m2; have HB4 := pw_below_drewN ((HB3.setCell (p := ⟨gf, 0, none⟩) gef (.int .i64 3)).setCell (p := ⟨gl, 0, none⟩) (Nat.le_trans HB2.size gel) (.int .i64 lev)) m2; have sz4 : (((w3.setCell ⟨gf, 0, none⟩ (.int .i64 3)).setCell ⟨gl, 0, none⟩ (.int .i64 lev)).drewN m2).heap.size = w3.heap.size := (by simp [World.drewN]))
   | ((with_reducible refine gate_dst (N := 7) rfl ?_); refine bxq_ 7 #[.int .i64 0] 3 ?_; intro gk hgk w5 bk5 hb; rw [sz4] at hgk; have gek : w3.heap.size ≤ gk := Nat.le_of_eq hgk.symm; clear hgk; have bf5 := (hb.block gf (by rw [sz4]; exact lf3)).trans bf4; have bl5 := (hb.block gl (by rw [sz4]; exact ll3)).trans bl4; have HB5 := HB4.trans (hb.mono HB4.size); have lk5 := lt_ bk5; have lf5 := lt_ bf5; have ll5 := lt_ bl5; clear hb; have ne2 : gk ≠ gf := Nat.ne_of_gt (Nat.lt_of_lt_of_le lf3 gek); have ne2' := Ne.symm ne2; have ne3 : gk ≠ gl := Nat.ne_of_gt (Nat.lt_of_lt_of_le ll3 gek); have ne3' := Ne.symm ne3; have ck5 := (blk_cell bk5 0).trans rfl; have zk5 := blk_frozen bk5 0)
   | ((with_reducible refine gate_dst (N := 10) rfl ?_); refine bxq_ 10 #[.slice none 0 0] 80 ?_; intro go_ hgo w7 bo7 hb; have sz6 : (w5.setCell ⟨gk, 0, none⟩ (.int .i64 1)).heap.size = w5.heap.size := (by simp); have geo : w5.heap.size ≤ go_ := Nat.le_of_eq (hgo.trans sz6).symm; clear hgo; have bf7 := (hb.block gf (Nat.lt_of_lt_of_eq lf5 sz6.symm)).trans (blk_far (p := ⟨gk, 0, none⟩) bf5 ne2' (.int .i64 1)); have bl7 := (hb.block gl (Nat.lt_of_lt_of_eq ll5 sz6.symm)).trans (blk_far (p := ⟨gk, 0, none⟩) bl5 ne3' (.int .i64 1)); have bk7 := (hb.block gk (Nat.lt_of_lt_of_eq lk5 sz6.symm)).trans (blk_put (cs' := #[.int .i64 1]) bk5 0 (.int .i64 1) rfl); have HB7 := (HB5.setCell (p := ⟨gk, 0, none⟩) (Nat.le_trans HB3.size gek) (.int .i64 1)).trans (hb.mono (Nat.le_trans HB5.size (Nat.le_of_eq sz6.symm))); have lo7 := lt_ bo7; have cl7 := (blk_cell bl7 0).trans rfl; clear hb))
  have lf7 := lt_ bf7
  have ll7 := lt_ bl7
  have lk7 := lt_ bk7
  have no1 : gl ≠ go_ := Nat.ne_of_lt (Nat.lt_of_lt_of_le ll5 geo)
  have no2 : gk ≠ go_ := Nat.ne_of_lt (Nat.lt_of_lt_of_le lk5 geo)
  have no3 : gf ≠ go_ := Nat.ne_of_lt (Nat.lt_of_lt_of_le lf5 geo)
  have hb0 : w.heap.size ≤ go_ := Nat.le_trans HB5.size geo
  clear ne1 ne1' ne2 ne2' ne3 ne3' cf3 cl3 zf3 zl3 bf2 bf3 bl3 bf4 bl4 bk5 bf5 bl5 HB2 HB3 HB4 HB5 ck5 zk5 sz4 sz6
  have hR7 := Kd.R_nil k67 67 w7 w.heap.size (fun _ => True)
  go_wp2_with (first
   | (go_at_call 115; (with_reducible refine (tile_sides.s3i w.heap.size lev (wrap64 (wrap64 (2 * x) - n)) 1 n gl gk gf go_ (.slice none 0 0) [] w w7 hl hn ?s1 ?s2 ?s3 ?s4 no1 no2 no3 bl7 bk7 bf7 bo7 hR7 HB7 hb0 (by simp)).mono ?_); (case s1 => omega); (case s2 => omega); (case s3 => omega); (case s4 => omega); rintro e w8 ⟨v1, rfl, bl8, bk8, bf8, bo8, hR8, hB8, sz8⟩; simp only [List.nil_append, List.cons_append] at hR8; have c8_ := (blk_cell bl8 0).trans rfl; have d8_ := (blk_cell bo8 0).trans rfl)
   | (go_at_call 115; (with_reducible refine (tile_sides.s3i w.heap.size lev (wrap64 (wrap64 (2 * wrap64 (x + 1)) - n)) (-1) nm gl gk gf go_ v1 [⟨0, (wrap64 (-(wrap64 (wrap64 (-1) * (wrap64 (wrap64 (2 * x) - n)))))), n⟩] w w8 hl hm ?s1 ?s2 ?s3 ?s4 no1 no2 no3 bl8 bk8 bf8 bo8 hR8 hB8 hb0 (by simp)).mono ?_); (case s1 => omega); (case s2 => omega); (case s3 => omega); (case s4 => omega); rintro e w9 ⟨v2, rfl, bl9, bk9, bf9, bo9, hR9, hB9, sz9⟩; simp only [List.nil_append, List.cons_append] at hR9; have c9_ := (blk_cell bl9 0).trans rfl; have d9_ := (blk_cell bo9 0).trans rfl)
   | (go_at_call 115; (with_reducible refine (tile_sides.s3j w.heap.size lev (wrap64 (wrap64 (2 * y) - n)) 1 n gl gk gf go_ v2 [⟨0, (wrap64 (-(wrap64 (wrap64 (-1) * (wrap64 (wrap64 (2 * x) - n)))))), n⟩, ⟨0, (wrap64 (-(wrap64 (wrap64 (-(-1)) * (wrap64 (wrap64 (2 * wrap64 (x + 1)) - n)))))), nm⟩] w w9 hl hn ?s1 ?s2 ?s3 ?s4 no1 no2 no3 bl9 bk9 bf9 bo9 hR9 hB9 hb0 (by simp)).mono ?_); (case s1 => omega); (case s2 => omega); (case s3 => omega); (case s4 => omega); rintro e w10 ⟨v3, rfl, bl10, bk10, bf10, bo10, hR10, hB10, sz10⟩; simp only [List.nil_append, List.cons_append] at hR10; have c10_ := (blk_cell bl10 0).trans rfl; have d10_ := (blk_cell bo10 0).trans rfl)
   | (go_at_call 115; (with_reducible refine (tile_sides.s3j w.heap.size lev (wrap64 (wrap64 (2 * wrap64 (y + 1)) - n)) (-1) nm gl gk gf go_ v3 [⟨0, (wrap64 (-(wrap64 (wrap64 (-1) * (wrap64 (wrap64 (2 * x) - n)))))), n⟩, ⟨0, (wrap64 (-(wrap64 (wrap64 (-(-1)) * (wrap64 (wrap64 (2 * wrap64 (x + 1)) - n)))))), nm⟩, ⟨n, (wrap64 (-(wrap64 (wrap64 (-1) * (wrap64 (wrap64 (2 * y) - n)))))), 0⟩] w w10 hl hm ?s1 ?s2 ?s3 ?s4 no1 no2 no3 bl10 bk10 bf10 bo10 hR10 hB10 hb0 (by simp)).mono ?_); (case s1 => omega); (case s2 => omega); (case s3 => omega); (case s4 => omega); rintro e w11 ⟨v4, rfl, bl11, bk11, bf11, bo11, hR11, hB11, sz11⟩; simp only [List.nil_append, List.cons_append] at hR11; have c11_ := (blk_cell bl11 0).trans rfl; have d11_ := (blk_cell bo11 0).trans rfl))
  go_ret
  exact ⟨_, rfl, hR11, hB11⟩
set_option maxHeartbeats 4000000 in
set_option maxRecDepth 100000 in
theorem tile_sides.c4 (k : Nat) (t x y lev n nm : Int) (w : World) (hs : tile_spot.f k t = some (4, x, y, lev)) (hl : 0 ≤ lev) (hn : shl .i64 1 lev = n) (hm : shl .i64 (-1) lev = nm) :
    Calls Try.prog 85 #[.int .i64 t] w fun e w' => ∃ v0_ : Value, e = .returned v0_ ∧ Kd.R k67 67 w' w.heap.size (fun _ => True) v0_ [⟨n, 0, (wrap64 (wrap64 (-1) * (wrap64 (wrap64 (2 * x) - n))))⟩, ⟨nm, 0, (wrap64 (wrap64 (-(-1)) * (wrap64 (wrap64 (2 * wrap64 (x + 1)) - n))))⟩, ⟨0, n, (wrap64 (wrap64 (-1) * (wrap64 (wrap64 (2 * y) - n))))⟩, ⟨0, nm, (wrap64 (wrap64 (-(-1)) * (wrap64 (wrap64 (2 * wrap64 (y + 1)) - n))))⟩] ∧ Below w.heap.size w w' := by
  have hmf : ∀ (fn : Fn) (first cap : Array Value) (w : World), (Instr.makeFunc fn first cap).run Try.prog w = .ok (.func fn first cap) w := fun _ _ _ _ => rfl
  have hji_ : (IntKind.i64.wrap (1 * 2 ^ min (lev).toNat 64)) = n := hn
  have hjiy : (wrap64 (1 * 2 ^ min (lev).toNat 64)) = n := (i64_w _).symm.trans hji_
  have hji1 : wrap64 (2 ^ min (lev).toNat 64) = n := by simpa using hjiy
  have c4b0 := eq_true hl
  have c4b1 : decide (0 ≤ lev) = true := decide_eq_true hl
  go_enter Try.func85, Try.ntmps85
  have lt_ : ∀ {g : Nat} {o : Obj} {V : World}, V.heap[g]? = some o → g < V.heap.size := fun h => (Array.getElem?_eq_some_iff.1 h).1
  go_upto_region 5 with (first
   | (go_at_call 84; (with_reducible refine (tile_spot.calls k t 4 x y lev _ hs).mono ?_); rintro e w1 ⟨rfl, ⟨m1, rfl⟩⟩)
   | ((with_reducible refine gate_dst (N := 3) rfl ?_); refine bxq_ 3 #[.int .i64 0] 3 ?_; intro gf hgf w2 bf2 hb; have gef : w.heap.size ≤ gf := Nat.le_of_eq (show w.heap.size = gf from hgf.symm); clear hgf; have HB2 : Below w.heap.size w w2 := (pw_below_drewN (Below.refl _ _) m1).trans hb; have lf2 := lt_ bf2; clear hb)
   | ((with_reducible refine gate_dst (N := 6) rfl ?_); refine bxq_ 6 #[.int .i64 0] 3 ?_; intro gl hgl w3 bl3 hb; have bf3 := (hb.block gf lf2).trans bf2; have HB3 := HB2.trans (hb.mono HB2.size); have gel : w2.heap.size ≤ gl := Nat.le_of_eq hgl.symm; clear hgl; have ll3 := lt_ bl3; have lf3 := lt_ bf3; have ne1 : gf ≠ gl := Nat.ne_of_lt (Nat.lt_of_lt_of_le lf2 gel); have ne1' := Ne.symm ne1; clear hb; have cf3 := (blk_cell bf3 0).trans rfl; have cl3 := (blk_cell bl3 0).trans rfl; have zf3 := blk_frozen bf3 0; have zl3 := blk_frozen bl3 0)
   | (go_at_call 80; (with_reducible refine (tile_axes.calls 4 2 0 1 _ tile_sides.axes4).mono ?_); rintro e w1 ⟨rfl, ⟨m2, rfl⟩⟩; have bf4 := blk_drewN (blk_far (p := ⟨gl, 0, none⟩) (blk_put (cs' := #[.int .i64 4]) bf3 0 (.int .i64 4) rfl) ne1 (.int .i64 lev)) m2; have bl4 := blk_drewN (blk_put (cs' := #[.int .i64 lev]) (blk_far (p := ⟨gf, 0, none⟩) bl3 ne1' (.int .i64 4)) 0 (.int .i64 lev) rfl) m2; have HB4 := pw_below_drewN ((HB3.setCell (p := ⟨gf, 0, none⟩) gef (.int .i64 4)).setCell (p := ⟨gl, 0, none⟩) (Nat.le_trans HB2.size gel) (.int .i64 lev)) m2; have sz4 : (((w3.setCell ⟨gf, 0, none⟩ (.int .i64 4)).setCell ⟨gl, 0, none⟩ (.int .i64 lev)).drewN m2).heap.size = w3.heap.size := (by simp [World.drewN]))
   | ((with_reducible refine gate_dst (N := 7) rfl ?_); refine bxq_ 7 #[.int .i64 0] 3 ?_; intro gk hgk w5 bk5 hb; rw [sz4] at hgk; have gek : w3.heap.size ≤ gk := Nat.le_of_eq hgk.symm; clear hgk; have bf5 := (hb.block gf (by rw [sz4]; exact lf3)).trans bf4; have bl5 := (hb.block gl (by rw [sz4]; exact ll3)).trans bl4; have HB5 := HB4.trans (hb.mono HB4.size); have lk5 := lt_ bk5; have lf5 := lt_ bf5; have ll5 := lt_ bl5; clear hb; have ne2 : gk ≠ gf := Nat.ne_of_gt (Nat.lt_of_lt_of_le lf3 gek); have ne2' := Ne.symm ne2; have ne3 : gk ≠ gl := Nat.ne_of_gt (Nat.lt_of_lt_of_le ll3 gek); have ne3' := Ne.symm ne3; have ck5 := (blk_cell bk5 0).trans rfl; have zk5 := blk_frozen bk5 0)
   | ((with_reducible refine gate_dst (N := 10) rfl ?_); refine bxq_ 10 #[.slice none 0 0] 80 ?_; intro go_ hgo w7 bo7 hb; have sz6 : (w5.setCell ⟨gk, 0, none⟩ (.int .i64 2)).heap.size = w5.heap.size := (by simp); have geo : w5.heap.size ≤ go_ := Nat.le_of_eq (hgo.trans sz6).symm; clear hgo; have bf7 := (hb.block gf (Nat.lt_of_lt_of_eq lf5 sz6.symm)).trans (blk_far (p := ⟨gk, 0, none⟩) bf5 ne2' (.int .i64 2)); have bl7 := (hb.block gl (Nat.lt_of_lt_of_eq ll5 sz6.symm)).trans (blk_far (p := ⟨gk, 0, none⟩) bl5 ne3' (.int .i64 2)); have bk7 := (hb.block gk (Nat.lt_of_lt_of_eq lk5 sz6.symm)).trans (blk_put (cs' := #[.int .i64 2]) bk5 0 (.int .i64 2) rfl); have HB7 := (HB5.setCell (p := ⟨gk, 0, none⟩) (Nat.le_trans HB3.size gek) (.int .i64 2)).trans (hb.mono (Nat.le_trans HB5.size (Nat.le_of_eq sz6.symm))); have lo7 := lt_ bo7; have cl7 := (blk_cell bl7 0).trans rfl; clear hb))
  have lf7 := lt_ bf7
  have ll7 := lt_ bl7
  have lk7 := lt_ bk7
  have no1 : gl ≠ go_ := Nat.ne_of_lt (Nat.lt_of_lt_of_le ll5 geo)
  have no2 : gk ≠ go_ := Nat.ne_of_lt (Nat.lt_of_lt_of_le lk5 geo)
  have no3 : gf ≠ go_ := Nat.ne_of_lt (Nat.lt_of_lt_of_le lf5 geo)
  have hb0 : w.heap.size ≤ go_ := Nat.le_trans HB5.size geo
  clear ne1 ne1' ne2 ne2' ne3 ne3' cf3 cl3 zf3 zl3 bf2 bf3 bl3 bf4 bl4 bk5 bf5 bl5 HB2 HB3 HB4 HB5 ck5 zk5 sz4 sz6
  have hR7 := Kd.R_nil k67 67 w7 w.heap.size (fun _ => True)
  go_wp2_with (first
   | (go_at_call 115; (with_reducible refine (tile_sides.s4i w.heap.size lev (wrap64 (wrap64 (2 * x) - n)) 1 n gl gk gf go_ (.slice none 0 0) [] w w7 hl hn ?s1 ?s2 ?s3 ?s4 no1 no2 no3 bl7 bk7 bf7 bo7 hR7 HB7 hb0 (by simp)).mono ?_); (case s1 => omega); (case s2 => omega); (case s3 => omega); (case s4 => omega); rintro e w8 ⟨v1, rfl, bl8, bk8, bf8, bo8, hR8, hB8, sz8⟩; simp only [List.nil_append, List.cons_append] at hR8; have c8_ := (blk_cell bl8 0).trans rfl; have d8_ := (blk_cell bo8 0).trans rfl)
   | (go_at_call 115; (with_reducible refine (tile_sides.s4i w.heap.size lev (wrap64 (wrap64 (2 * wrap64 (x + 1)) - n)) (-1) nm gl gk gf go_ v1 [⟨n, 0, (wrap64 (wrap64 (-1) * (wrap64 (wrap64 (2 * x) - n))))⟩] w w8 hl hm ?s1 ?s2 ?s3 ?s4 no1 no2 no3 bl8 bk8 bf8 bo8 hR8 hB8 hb0 (by simp)).mono ?_); (case s1 => omega); (case s2 => omega); (case s3 => omega); (case s4 => omega); rintro e w9 ⟨v2, rfl, bl9, bk9, bf9, bo9, hR9, hB9, sz9⟩; simp only [List.nil_append, List.cons_append] at hR9; have c9_ := (blk_cell bl9 0).trans rfl; have d9_ := (blk_cell bo9 0).trans rfl)
   | (go_at_call 115; (with_reducible refine (tile_sides.s4j w.heap.size lev (wrap64 (wrap64 (2 * y) - n)) 1 n gl gk gf go_ v2 [⟨n, 0, (wrap64 (wrap64 (-1) * (wrap64 (wrap64 (2 * x) - n))))⟩, ⟨nm, 0, (wrap64 (wrap64 (-(-1)) * (wrap64 (wrap64 (2 * wrap64 (x + 1)) - n))))⟩] w w9 hl hn ?s1 ?s2 ?s3 ?s4 no1 no2 no3 bl9 bk9 bf9 bo9 hR9 hB9 hb0 (by simp)).mono ?_); (case s1 => omega); (case s2 => omega); (case s3 => omega); (case s4 => omega); rintro e w10 ⟨v3, rfl, bl10, bk10, bf10, bo10, hR10, hB10, sz10⟩; simp only [List.nil_append, List.cons_append] at hR10; have c10_ := (blk_cell bl10 0).trans rfl; have d10_ := (blk_cell bo10 0).trans rfl)
   | (go_at_call 115; (with_reducible refine (tile_sides.s4j w.heap.size lev (wrap64 (wrap64 (2 * wrap64 (y + 1)) - n)) (-1) nm gl gk gf go_ v3 [⟨n, 0, (wrap64 (wrap64 (-1) * (wrap64 (wrap64 (2 * x) - n))))⟩, ⟨nm, 0, (wrap64 (wrap64 (-(-1)) * (wrap64 (wrap64 (2 * wrap64 (x + 1)) - n))))⟩, ⟨0, n, (wrap64 (wrap64 (-1) * (wrap64 (wrap64 (2 * y) - n))))⟩] w w10 hl hm ?s1 ?s2 ?s3 ?s4 no1 no2 no3 bl10 bk10 bf10 bo10 hR10 hB10 hb0 (by simp)).mono ?_); (case s1 => omega); (case s2 => omega); (case s3 => omega); (case s4 => omega); rintro e w11 ⟨v4, rfl, bl11, bk11, bf11, bo11, hR11, hB11, sz11⟩; simp only [List.nil_append, List.cons_append] at hR11; have c11_ := (blk_cell bl11 0).trans rfl; have d11_ := (blk_cell bo11 0).trans rfl))
  go_ret
  exact ⟨_, rfl, hR11, hB11⟩
set_option maxHeartbeats 4000000 in
set_option maxRecDepth 100000 in
theorem tile_sides.c5 (k : Nat) (t x y lev n nm : Int) (w : World) (hs : tile_spot.f k t = some (5, x, y, lev)) (hl : 0 ≤ lev) (hn : shl .i64 1 lev = n) (hm : shl .i64 (-1) lev = nm) :
    Calls Try.prog 85 #[.int .i64 t] w fun e w' => ∃ v0_ : Value, e = .returned v0_ ∧ Kd.R k67 67 w' w.heap.size (fun _ => True) v0_ [⟨n, 0, (wrap64 (-(wrap64 (wrap64 (-1) * (wrap64 (wrap64 (2 * x) - n))))))⟩, ⟨nm, 0, (wrap64 (-(wrap64 (wrap64 (-(-1)) * (wrap64 (wrap64 (2 * wrap64 (x + 1)) - n))))))⟩, ⟨0, n, (wrap64 (-(wrap64 (wrap64 (-1) * (wrap64 (wrap64 (2 * y) - n))))))⟩, ⟨0, nm, (wrap64 (-(wrap64 (wrap64 (-(-1)) * (wrap64 (wrap64 (2 * wrap64 (y + 1)) - n))))))⟩] ∧ Below w.heap.size w w' := by
  have hmf : ∀ (fn : Fn) (first cap : Array Value) (w : World), (Instr.makeFunc fn first cap).run Try.prog w = .ok (.func fn first cap) w := fun _ _ _ _ => rfl
  have hji_ : (IntKind.i64.wrap (1 * 2 ^ min (lev).toNat 64)) = n := hn
  have hjiy : (wrap64 (1 * 2 ^ min (lev).toNat 64)) = n := (i64_w _).symm.trans hji_
  have hji1 : wrap64 (2 ^ min (lev).toNat 64) = n := by simpa using hjiy
  have c4b0 := eq_true hl
  have c4b1 : decide (0 ≤ lev) = true := decide_eq_true hl
  go_enter Try.func85, Try.ntmps85
  have lt_ : ∀ {g : Nat} {o : Obj} {V : World}, V.heap[g]? = some o → g < V.heap.size := fun h => (Array.getElem?_eq_some_iff.1 h).1
  go_upto_region 5 with (first
   | (go_at_call 84; (with_reducible refine (tile_spot.calls k t 5 x y lev _ hs).mono ?_); rintro e w1 ⟨rfl, ⟨m1, rfl⟩⟩)
   | ((with_reducible refine gate_dst (N := 3) rfl ?_); refine bxq_ 3 #[.int .i64 0] 3 ?_; intro gf hgf w2 bf2 hb; have gef : w.heap.size ≤ gf := Nat.le_of_eq (show w.heap.size = gf from hgf.symm); clear hgf; have HB2 : Below w.heap.size w w2 := (pw_below_drewN (Below.refl _ _) m1).trans hb; have lf2 := lt_ bf2; clear hb)
   | ((with_reducible refine gate_dst (N := 6) rfl ?_); refine bxq_ 6 #[.int .i64 0] 3 ?_; intro gl hgl w3 bl3 hb; have bf3 := (hb.block gf lf2).trans bf2; have HB3 := HB2.trans (hb.mono HB2.size); have gel : w2.heap.size ≤ gl := Nat.le_of_eq hgl.symm; clear hgl; have ll3 := lt_ bl3; have lf3 := lt_ bf3; have ne1 : gf ≠ gl := Nat.ne_of_lt (Nat.lt_of_lt_of_le lf2 gel); have ne1' := Ne.symm ne1; clear hb; have cf3 := (blk_cell bf3 0).trans rfl; have cl3 := (blk_cell bl3 0).trans rfl; have zf3 := blk_frozen bf3 0; have zl3 := blk_frozen bl3 0)
   | (go_at_call 80; (with_reducible refine (tile_axes.calls 5 2 0 1 _ tile_sides.axes5).mono ?_); rintro e w1 ⟨rfl, ⟨m2, rfl⟩⟩; have bf4 := blk_drewN (blk_far (p := ⟨gl, 0, none⟩) (blk_put (cs' := #[.int .i64 5]) bf3 0 (.int .i64 5) rfl) ne1 (.int .i64 lev)) m2; have bl4 := blk_drewN (blk_put (cs' := #[.int .i64 lev]) (blk_far (p := ⟨gf, 0, none⟩) bl3 ne1' (.int .i64 5)) 0 (.int .i64 lev) rfl) m2; have HB4 := pw_below_drewN ((HB3.setCell (p := ⟨gf, 0, none⟩) gef (.int .i64 5)).setCell (p := ⟨gl, 0, none⟩) (Nat.le_trans HB2.size gel) (.int .i64 lev)) m2; have sz4 : (((w3.setCell ⟨gf, 0, none⟩ (.int .i64 5)).setCell ⟨gl, 0, none⟩ (.int .i64 lev)).drewN m2).heap.size = w3.heap.size := (by simp [World.drewN]))
   | ((with_reducible refine gate_dst (N := 7) rfl ?_); refine bxq_ 7 #[.int .i64 0] 3 ?_; intro gk hgk w5 bk5 hb; rw [sz4] at hgk; have gek : w3.heap.size ≤ gk := Nat.le_of_eq hgk.symm; clear hgk; have bf5 := (hb.block gf (by rw [sz4]; exact lf3)).trans bf4; have bl5 := (hb.block gl (by rw [sz4]; exact ll3)).trans bl4; have HB5 := HB4.trans (hb.mono HB4.size); have lk5 := lt_ bk5; have lf5 := lt_ bf5; have ll5 := lt_ bl5; clear hb; have ne2 : gk ≠ gf := Nat.ne_of_gt (Nat.lt_of_lt_of_le lf3 gek); have ne2' := Ne.symm ne2; have ne3 : gk ≠ gl := Nat.ne_of_gt (Nat.lt_of_lt_of_le ll3 gek); have ne3' := Ne.symm ne3; have ck5 := (blk_cell bk5 0).trans rfl; have zk5 := blk_frozen bk5 0)
   | ((with_reducible refine gate_dst (N := 10) rfl ?_); refine bxq_ 10 #[.slice none 0 0] 80 ?_; intro go_ hgo w7 bo7 hb; have sz6 : (w5.setCell ⟨gk, 0, none⟩ (.int .i64 2)).heap.size = w5.heap.size := (by simp); have geo : w5.heap.size ≤ go_ := Nat.le_of_eq (hgo.trans sz6).symm; clear hgo; have bf7 := (hb.block gf (Nat.lt_of_lt_of_eq lf5 sz6.symm)).trans (blk_far (p := ⟨gk, 0, none⟩) bf5 ne2' (.int .i64 2)); have bl7 := (hb.block gl (Nat.lt_of_lt_of_eq ll5 sz6.symm)).trans (blk_far (p := ⟨gk, 0, none⟩) bl5 ne3' (.int .i64 2)); have bk7 := (hb.block gk (Nat.lt_of_lt_of_eq lk5 sz6.symm)).trans (blk_put (cs' := #[.int .i64 2]) bk5 0 (.int .i64 2) rfl); have HB7 := (HB5.setCell (p := ⟨gk, 0, none⟩) (Nat.le_trans HB3.size gek) (.int .i64 2)).trans (hb.mono (Nat.le_trans HB5.size (Nat.le_of_eq sz6.symm))); have lo7 := lt_ bo7; have cl7 := (blk_cell bl7 0).trans rfl; clear hb))
  have lf7 := lt_ bf7
  have ll7 := lt_ bl7
  have lk7 := lt_ bk7
  have no1 : gl ≠ go_ := Nat.ne_of_lt (Nat.lt_of_lt_of_le ll5 geo)
  have no2 : gk ≠ go_ := Nat.ne_of_lt (Nat.lt_of_lt_of_le lk5 geo)
  have no3 : gf ≠ go_ := Nat.ne_of_lt (Nat.lt_of_lt_of_le lf5 geo)
  have hb0 : w.heap.size ≤ go_ := Nat.le_trans HB5.size geo
  clear ne1 ne1' ne2 ne2' ne3 ne3' cf3 cl3 zf3 zl3 bf2 bf3 bl3 bf4 bl4 bk5 bf5 bl5 HB2 HB3 HB4 HB5 ck5 zk5 sz4 sz6
  have hR7 := Kd.R_nil k67 67 w7 w.heap.size (fun _ => True)
  go_wp2_with (first
   | (go_at_call 115; (with_reducible refine (tile_sides.s5i w.heap.size lev (wrap64 (wrap64 (2 * x) - n)) 1 n gl gk gf go_ (.slice none 0 0) [] w w7 hl hn ?s1 ?s2 ?s3 ?s4 no1 no2 no3 bl7 bk7 bf7 bo7 hR7 HB7 hb0 (by simp)).mono ?_); (case s1 => omega); (case s2 => omega); (case s3 => omega); (case s4 => omega); rintro e w8 ⟨v1, rfl, bl8, bk8, bf8, bo8, hR8, hB8, sz8⟩; simp only [List.nil_append, List.cons_append] at hR8; have c8_ := (blk_cell bl8 0).trans rfl; have d8_ := (blk_cell bo8 0).trans rfl)
   | (go_at_call 115; (with_reducible refine (tile_sides.s5i w.heap.size lev (wrap64 (wrap64 (2 * wrap64 (x + 1)) - n)) (-1) nm gl gk gf go_ v1 [⟨n, 0, (wrap64 (-(wrap64 (wrap64 (-1) * (wrap64 (wrap64 (2 * x) - n))))))⟩] w w8 hl hm ?s1 ?s2 ?s3 ?s4 no1 no2 no3 bl8 bk8 bf8 bo8 hR8 hB8 hb0 (by simp)).mono ?_); (case s1 => omega); (case s2 => omega); (case s3 => omega); (case s4 => omega); rintro e w9 ⟨v2, rfl, bl9, bk9, bf9, bo9, hR9, hB9, sz9⟩; simp only [List.nil_append, List.cons_append] at hR9; have c9_ := (blk_cell bl9 0).trans rfl; have d9_ := (blk_cell bo9 0).trans rfl)
   | (go_at_call 115; (with_reducible refine (tile_sides.s5j w.heap.size lev (wrap64 (wrap64 (2 * y) - n)) 1 n gl gk gf go_ v2 [⟨n, 0, (wrap64 (-(wrap64 (wrap64 (-1) * (wrap64 (wrap64 (2 * x) - n))))))⟩, ⟨nm, 0, (wrap64 (-(wrap64 (wrap64 (-(-1)) * (wrap64 (wrap64 (2 * wrap64 (x + 1)) - n))))))⟩] w w9 hl hn ?s1 ?s2 ?s3 ?s4 no1 no2 no3 bl9 bk9 bf9 bo9 hR9 hB9 hb0 (by simp)).mono ?_); (case s1 => omega); (case s2 => omega); (case s3 => omega); (case s4 => omega); rintro e w10 ⟨v3, rfl, bl10, bk10, bf10, bo10, hR10, hB10, sz10⟩; simp only [List.nil_append, List.cons_append] at hR10; have c10_ := (blk_cell bl10 0).trans rfl; have d10_ := (blk_cell bo10 0).trans rfl)
   | (go_at_call 115; (with_reducible refine (tile_sides.s5j w.heap.size lev (wrap64 (wrap64 (2 * wrap64 (y + 1)) - n)) (-1) nm gl gk gf go_ v3 [⟨n, 0, (wrap64 (-(wrap64 (wrap64 (-1) * (wrap64 (wrap64 (2 * x) - n))))))⟩, ⟨nm, 0, (wrap64 (-(wrap64 (wrap64 (-(-1)) * (wrap64 (wrap64 (2 * wrap64 (x + 1)) - n))))))⟩, ⟨0, n, (wrap64 (-(wrap64 (wrap64 (-1) * (wrap64 (wrap64 (2 * y) - n))))))⟩] w w10 hl hm ?s1 ?s2 ?s3 ?s4 no1 no2 no3 bl10 bk10 bf10 bo10 hR10 hB10 hb0 (by simp)).mono ?_); (case s1 => omega); (case s2 => omega); (case s3 => omega); (case s4 => omega); rintro e w11 ⟨v4, rfl, bl11, bk11, bf11, bo11, hR11, hB11, sz11⟩; simp only [List.nil_append, List.cons_append] at hR11; have c11_ := (blk_cell bl11 0).trans rfl; have d11_ := (blk_cell bo11 0).trans rfl))
  go_ret
  exact ⟨_, rfl, hR11, hB11⟩
def tile_sides.g (x y lev fc : Int) : Option (List S67) := if 0 ≤ lev then (if fc = 0 then some [⟨(wrap64 (wrap64 (-1) * (wrap64 (wrap64 (2 * x) - (shl .i64 1 lev))))), (shl .i64 1 lev), 0⟩, ⟨(wrap64 (wrap64 (-(-1)) * (wrap64 (wrap64 (2 * wrap64 (x + 1)) - (shl .i64 1 lev))))), (shl .i64 (-1) lev), 0⟩, ⟨(wrap64 (wrap64 (-1) * (wrap64 (wrap64 (2 * y) - (shl .i64 1 lev))))), 0, (shl .i64 1 lev)⟩, ⟨(wrap64 (wrap64 (-(-1)) * (wrap64 (wrap64 (2 * wrap64 (y + 1)) - (shl .i64 1 lev))))), 0, (shl .i64 (-1) lev)⟩] else if fc = 1 then some [⟨(wrap64 (-(wrap64 (wrap64 (-1) * (wrap64 (wrap64 (2 * x) - (shl .i64 1 lev))))))), (shl .i64 1 lev), 0⟩, ⟨(wrap64 (-(wrap64 (wrap64 (-(-1)) * (wrap64 (wrap64 (2 * wrap64 (x + 1)) - (shl .i64 1 lev))))))), (shl .i64 (-1) lev), 0⟩, ⟨(wrap64 (-(wrap64 (wrap64 (-1) * (wrap64 (wrap64 (2 * y) - (shl .i64 1 lev))))))), 0, (shl .i64 1 lev)⟩, ⟨(wrap64 (-(wrap64 (wrap64 (-(-1)) * (wrap64 (wrap64 (2 * wrap64 (y + 1)) - (shl .i64 1 lev))))))), 0, (shl .i64 (-1) lev)⟩] else if fc = 2 then some [⟨0, (wrap64 (wrap64 (-1) * (wrap64 (wrap64 (2 * x) - (shl .i64 1 lev))))), (shl .i64 1 lev)⟩, ⟨0, (wrap64 (wrap64 (-(-1)) * (wrap64 (wrap64 (2 * wrap64 (x + 1)) - (shl .i64 1 lev))))), (shl .i64 (-1) lev)⟩, ⟨(shl .i64 1 lev), (wrap64 (wrap64 (-1) * (wrap64 (wrap64 (2 * y) - (shl .i64 1 lev))))), 0⟩, ⟨(shl .i64 (-1) lev), (wrap64 (wrap64 (-(-1)) * (wrap64 (wrap64 (2 * wrap64 (y + 1)) - (shl .i64 1 lev))))), 0⟩] else if fc = 3 then some [⟨0, (wrap64 (-(wrap64 (wrap64 (-1) * (wrap64 (wrap64 (2 * x) - (shl .i64 1 lev))))))), (shl .i64 1 lev)⟩, ⟨0, (wrap64 (-(wrap64 (wrap64 (-(-1)) * (wrap64 (wrap64 (2 * wrap64 (x + 1)) - (shl .i64 1 lev))))))), (shl .i64 (-1) lev)⟩, ⟨(shl .i64 1 lev), (wrap64 (-(wrap64 (wrap64 (-1) * (wrap64 (wrap64 (2 * y) - (shl .i64 1 lev))))))), 0⟩, ⟨(shl .i64 (-1) lev), (wrap64 (-(wrap64 (wrap64 (-(-1)) * (wrap64 (wrap64 (2 * wrap64 (y + 1)) - (shl .i64 1 lev))))))), 0⟩] else if fc = 4 then some [⟨(shl .i64 1 lev), 0, (wrap64 (wrap64 (-1) * (wrap64 (wrap64 (2 * x) - (shl .i64 1 lev)))))⟩, ⟨(shl .i64 (-1) lev), 0, (wrap64 (wrap64 (-(-1)) * (wrap64 (wrap64 (2 * wrap64 (x + 1)) - (shl .i64 1 lev)))))⟩, ⟨0, (shl .i64 1 lev), (wrap64 (wrap64 (-1) * (wrap64 (wrap64 (2 * y) - (shl .i64 1 lev)))))⟩, ⟨0, (shl .i64 (-1) lev), (wrap64 (wrap64 (-(-1)) * (wrap64 (wrap64 (2 * wrap64 (y + 1)) - (shl .i64 1 lev)))))⟩] else if fc = 5 then some [⟨(shl .i64 1 lev), 0, (wrap64 (-(wrap64 (wrap64 (-1) * (wrap64 (wrap64 (2 * x) - (shl .i64 1 lev)))))))⟩, ⟨(shl .i64 (-1) lev), 0, (wrap64 (-(wrap64 (wrap64 (-(-1)) * (wrap64 (wrap64 (2 * wrap64 (x + 1)) - (shl .i64 1 lev)))))))⟩, ⟨0, (shl .i64 1 lev), (wrap64 (-(wrap64 (wrap64 (-1) * (wrap64 (wrap64 (2 * y) - (shl .i64 1 lev)))))))⟩, ⟨0, (shl .i64 (-1) lev), (wrap64 (-(wrap64 (wrap64 (-(-1)) * (wrap64 (wrap64 (2 * wrap64 (y + 1)) - (shl .i64 1 lev)))))))⟩] else none) else none
def tile_sides.f (k : Nat) (t : Int) : Option (List S67) := (tile_spot.f k t).bind fun s => tile_sides.g s.2.1 s.2.2.1 s.2.2.2 s.1
theorem tile_sides.mono : ∀ a0 k, LeO (tile_sides.f k a0) (tile_sides.f (k + 1) a0) := by
  intro a0 k
  unfold tile_sides.f
  exact LeO.bind (tile_spot.mono _ _) (fun _ => LeO.refl _)
theorem tile_sides.calls (k : Nat) (a0 : Int) (r : List S67) (w : World) (h : tile_sides.f k a0 = some r) :
    Calls Try.prog 85 #[.int .i64 a0] w fun e w' => ∃ v0_ : Value, e = .returned (v0_) ∧ Kd.R k67 67 w' w.heap.size (fun _ => True) v0_ r ∧ Below w.heap.size w w' := by
  unfold tile_sides.f at h
  obtain ⟨⟨fc, x, y, lev⟩, hs, h⟩ := Option.bind_eq_some_iff.mp h
  simp only [tile_sides.g] at h
  by_cases hl : 0 ≤ lev
  · rw [if_pos hl] at h
    by_cases c0 : fc = 0
    · subst c0
      rw [if_pos rfl] at h
      cases h
      exact tile_sides.c0 k a0 x y lev _ _ w hs hl rfl rfl
    by_cases c1 : fc = 1
    · subst c1
      rw [if_neg (by decide), if_pos rfl] at h
      cases h
      exact tile_sides.c1 k a0 x y lev _ _ w hs hl rfl rfl
    by_cases c2 : fc = 2
    · subst c2
      rw [if_neg (by decide), if_neg (by decide), if_pos rfl] at h
      cases h
      exact tile_sides.c2 k a0 x y lev _ _ w hs hl rfl rfl
    by_cases c3 : fc = 3
    · subst c3
      rw [if_neg (by decide), if_neg (by decide), if_neg (by decide), if_pos rfl] at h
      cases h
      exact tile_sides.c3 k a0 x y lev _ _ w hs hl rfl rfl
    by_cases c4 : fc = 4
    · subst c4
      rw [if_neg (by decide), if_neg (by decide), if_neg (by decide), if_neg (by decide), if_pos rfl] at h
      cases h
      exact tile_sides.c4 k a0 x y lev _ _ w hs hl rfl rfl
    by_cases c5 : fc = 5
    · subst c5
      rw [if_neg (by decide), if_neg (by decide), if_neg (by decide), if_neg (by decide), if_neg (by decide), if_pos rfl] at h
      cases h
      exact tile_sides.c5 k a0 x y lev _ _ w hs hl rfl rfl
    simp_all
  · rw [if_neg hl] at h; cases h
end

end Go.Proofs.Ytbaedcjophgiiaa.Q
