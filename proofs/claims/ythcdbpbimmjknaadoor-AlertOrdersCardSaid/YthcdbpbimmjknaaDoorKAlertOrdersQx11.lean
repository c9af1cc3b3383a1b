/- Contracts of Go functions of the seat, one by one: each call returns what the Lean function of the same name says, wherever that is 'some'; no other condition. Written by a program of this session. -/
import Derived.Test.YthcdbpbimmjknaaDoorKAlertOrdersQx0
import Derived.Test.YthcdbpbimmjknaaDoorKAlertOrdersQx9
import Derived.Test.YthcdbpbimmjknaaDoorKAlertOrdersQx10
import Derived.Test.YthcdbpbimmjknaaDoorKAlertOrdersQx17
import Derived.Test.YthcdbpbimmjknaaDoorKAlertOrdersQx19
namespace Go.Proofs.YthcdbpbimmjknaaDoor.Q
open Go.RowKit Go.Proofs.YthcdbpbimmjknaaDoorW.PrintWords Go.Proofs.YthcdbpbimmjknaaDoorW.PrintLast Go.Proofs.YthcdbpbimmjknaaDoorW.PrintMore
attribute [local go_sem] max2_int min2_int max_two min_two max_three min_three max_four min_four   -- for this text's walks alone
set_option linter.unusedVariables false
set_option linter.unusedSimpArgs false

theorem late_ {P : Program} {ops : Array Oper} {Q : Exit → Act → World → Prop} {md : Region.Mode} {S : World → Prop} (S' : World → Prop) (hSS : ∀ w, S' w → S w) :
    ∀ (fuel : Nat) (l : Array Bool) (a : Act) (w : World), S' w → wpAnyLast P md ops Q S' [] fuel l a w → wpAnyLast P md ops Q S [] fuel l a w
  | 0, _, _, _, _, h => h
  | fuel + 1, _, _, _, hS, h => ⟨h.1, fun i hi => wpOp_mono (fun a' w' h' => ⟨fun _ _ => hSS _ (h'.1 (by simp) hS), late_ S' hSS fuel _ a' w' (h'.1 (by simp) hS) h'.2⟩) (h.2 i hi)⟩
theorem later_ {P : Program} {ops : Array Oper} {Q : Exit → Act → World → Prop} {md : Region.Mode} {S : World → Prop} (S' : World → Prop) (hSS : ∀ w, S' w → S w) {fuel : Nat} {l : Array Bool} {a : Act} {w : World} (hS : S' w) (h : S' w → wpAnyLast P md ops Q S' [] fuel l a w) : wpAnyLast P md ops Q S [] fuel l a w := late_ S' hSS fuel l a w hS (h hS)
/-! ### alert_Text: function 24 -/
def alert_Text.f (k : Nat) (a0_0 : Int) (a0_1 : Int) (a0_2 : Int) (a0_3 : Int) (a0_4 : Int) (a0_5 : Bool) (a0_6 : Int) (a0_7 : Int) (a0_8 : Bool) (a0_9 : Int) (a0_10 : Int) (a0_11 : Bool) (a0_12 : Int) (a0_13 : Int) (a0_14 : Bool) (a0_15 : Int) : Option (ByteArray × Int) := (alert_Check.f k a0_0 a0_1 a0_2 a0_3 a0_4 a0_5 a0_6 a0_7 a0_8 a0_9 a0_10 a0_11 a0_12 a0_13 a0_14 a0_15).bind fun t102 => (if t102 = 0 then ((strconv_Itoa_40.f a0_0).bind fun t103 => ((alert_Names.f).bind fun t104 => (if 0 ≤ (wrap64 (a0_1 - 1)) then (if (wrap64 (a0_1 - 1)) < (t104.length : Int) then ((alert_text_api_Tick.f a0_3 a0_4 a0_5).bind fun t108 => ((some (([(⟨#[97, 108, 101, 114, 116]⟩ : ByteArray), t103, rdOf ByteArray.empty t104 (wrap64 (a0_1 - 1)), (⟨#[97, 116]⟩ : ByteArray), t108] : List ByteArray) : List ByteArray)).bind fun y109 => (if a0_1 = 6 then ((strconv_Itoa_40.f a0_15).bind fun t112 => ((some (([(⟨#[111, 102]⟩ : ByteArray), t112] : List ByteArray) : List ByteArray)).bind fun y113 => (if y109.length + y113.length < 8796093022208 then ((strings_Join.f (y109 ++ y113) (⟨#[32]⟩ : ByteArray)).bind fun t119 => (some (t119, 0))) else (none)))) else ((strconv_Itoa_40.f a0_2).bind fun t120 => ((alert_text_api_Arc.f a0_6 a0_7 a0_8).bind fun t121 => ((alert_text_api_Arc.f a0_9 a0_10 a0_11).bind fun t122 => ((alert_text_api_Quanta.f a0_12 a0_13 a0_14).bind fun t123 => ((some (([(⟨#[111, 98, 106, 101, 99, 116]⟩ : ByteArray), t120, (⟨#[114, 97]⟩ : ByteArray), t121, (⟨#[100, 101, 99]⟩ : ByteArray), t122, (⟨#[102, 108, 117, 120]⟩ : ByteArray), t123] : List ByteArray) : List ByteArray)).bind fun y124 => (if y109.length + y124.length < 8796093022208 then ((strings_Join.f (y109 ++ y124) (⟨#[32]⟩ : ByteArray)).bind fun t130 => (some (t130, 0))) else (none)))))))))) else (none)) else (none)))) else (some ((⟨#[]⟩ : ByteArray), t102)))
theorem alert_Text.mono : ∀ a0 a1 a2 a3 a4 a5 a6 a7 a8 a9 a10 a11 a12 a13 a14 a15 k, LeO (alert_Text.f k a0 a1 a2 a3 a4 a5 a6 a7 a8 a9 a10 a11 a12 a13 a14 a15) (alert_Text.f (k + 1) a0 a1 a2 a3 a4 a5 a6 a7 a8 a9 a10 a11 a12 a13 a14 a15) := by
 intro a0 a1 a2 a3 a4 a5 a6 a7 a8 a9 a10 a11 a12 a13 a14 a15 k
 unfold alert_Text.f
 repeat' first
  | (with_reducible exact alert_Check.mono _ _ _ _ _ _ _ _ _ _ _ _ _ _ _ _ _)
  | (with_reducible exact LeO.refl _)
  | (with_reducible exact LeO.none _)
  | (with_reducible refine LeO.ite ?_ ?_)
  | (with_reducible refine LeO.bind ?_ (fun _ => ?_))
  | exact alert_Check.mono _ _ _ _ _ _ _ _ _ _ _ _ _ _ _ _ _
  | exact LeO.none _
  | refine LeO.ite ?_ ?_
  | refine LeO.bind ?_ (fun _ => ?_)
def alert_Text.T4 : Bool × List (List Nat × List Nat) := (true, [([], []), ([0], [0]), ([1], [1]), ([2], []), ([], []), ([4], [4]), ([5], [5]), ([3, 6], [3, 6]), ([7], [7]), ([], []), ([9], [9]), ([10, 3], [10]), ([2, 8, 11], [2, 8, 11]), ([12, 11, 0, 1, 2, 3, 4, 5, 6, 7, 8, 9, 10, 11, 12], [12])])
def alert_Text.B4 : List Nat := [0, 1, 3, 7, 0, 16, 48, 127, 255, 0, 512, 1551, 4095, 8191]
theorem alert_Text.tab4 : rtab .any (opsOf Tryd.f24 4) = alert_Text.T4 := by kernel_rfl
theorem alert_Text.bits4 : waitsOk alert_Text.T4.2 alert_Text.B4 = true := by kernel_rfl
def alert_Text.T7 : Bool × List (List Nat × List Nat) := (true, [([], []), ([], []), ([1], [1]), ([2], [2]), ([], []), ([4], [4]), ([5, 3], [5]), ([], []), ([7], [7]), ([8, 6], [8]), ([], []), ([10], [10]), ([11, 9], [11]), ([3, 6, 9, 12], [3, 6, 9, 12]), ([0, 13, 12], [0, 13]), ([14, 14, 0, 1, 2, 3, 4, 5, 6, 7, 8, 9, 10, 11, 12, 13, 14], [0, 14])])
def alert_Text.B7 : List Nat := [0, 0, 2, 6, 0, 16, 62, 0, 128, 510, 0, 1024, 4094, 8190, 16383, 32767]
theorem alert_Text.tab7 : rtab .any (opsOf Tryd.f24 7) = alert_Text.T7 := by kernel_rfl
theorem alert_Text.bits7 : waitsOk alert_Text.T7.2 alert_Text.B7 = true := by kernel_rfl
set_option maxHeartbeats 8000000 in
set_option maxRecDepth 100000 in
theorem alert_Text.calls (k : Nat) (a0_0 : Int) (a0_1 : Int) (a0_2 : Int) (a0_3 : Int) (a0_4 : Int) (a0_5 : Bool) (a0_6 : Int) (a0_7 : Int) (a0_8 : Bool) (a0_9 : Int) (a0_10 : Int) (a0_11 : Bool) (a0_12 : Int) (a0_13 : Int) (a0_14 : Bool) (a0_15 : Int) (r1 : ByteArray) (r2 : Int) (w : World) (h : alert_Text.f k a0_0 a0_1 a0_2 a0_3 a0_4 a0_5 a0_6 a0_7 a0_8 a0_9 a0_10 a0_11 a0_12 a0_13 a0_14 a0_15 = some (r1, r2)) :
 Calls Tryd.prog 24 #[.agg #[.int .i64 a0_0, .int .i64 a0_1, .int .i64 a0_2, .int .i64 a0_3, .int .i64 a0_4, .bool a0_5, .int .i64 a0_6, .int .i64 a0_7, .bool a0_8, .int .i64 a0_9, .int .i64 a0_10, .bool a0_11, .int .i64 a0_12, .int .i64 a0_13, .bool a0_14, .int .i64 a0_15]] w fun e w' => e = .returned (.tuple #[.string r1, .int .i64 r2]) ∧ Below w.heap.size w w' := by
  have hu36 := Tryd.underlying36
  have hu28 := Tryd.underlying28
  have hu31 := Tryd.underlying31
  have hu34 := Tryd.underlying34
  have HB := Aside0.mk (Below.refl w.heap.size w)
  have H : ((alert_Check.f k a0_0 a0_1 a0_2 a0_3 a0_4 a0_5 a0_6 a0_7 a0_8 a0_9 a0_10 a0_11 a0_12 a0_13 a0_14 a0_15).bind fun t102 => (if t102 = 0 then ((strconv_Itoa_40.f a0_0).bind fun t103 => ((alert_Names.f).bind fun t104 => (if 0 ≤ (wrap64 (a0_1 - 1)) then (if (wrap64 (a0_1 - 1)) < (t104.length : Int) then ((alert_text_api_Tick.f a0_3 a0_4 a0_5).bind fun t108 => ((some (([(⟨#[97, 108, 101, 114, 116]⟩ : ByteArray), t103, rdOf ByteArray.empty t104 (wrap64 (a0_1 - 1)), (⟨#[97, 116]⟩ : ByteArray), t108] : List ByteArray) : List ByteArray)).bind fun y109 => (if a0_1 = 6 then ((strconv_Itoa_40.f a0_15).bind fun t112 => ((some (([(⟨#[111, 102]⟩ : ByteArray), t112] : List ByteArray) : List ByteArray)).bind fun y113 => (if y109.length + y113.length < 8796093022208 then ((strings_Join.f (y109 ++ y113) (⟨#[32]⟩ : ByteArray)).bind fun t119 => (some (t119, 0))) else (none)))) else ((strconv_Itoa_40.f a0_2).bind fun t120 => ((alert_text_api_Arc.f a0_6 a0_7 a0_8).bind fun t121 => ((alert_text_api_Arc.f a0_9 a0_10 a0_11).bind fun t122 => ((alert_text_api_Quanta.f a0_12 a0_13 a0_14).bind fun t123 => ((some (([(⟨#[111, 98, 106, 101, 99, 116]⟩ : ByteArray), t120, (⟨#[114, 97]⟩ : ByteArray), t121, (⟨#[100, 101, 99]⟩ : ByteArray), t122, (⟨#[102, 108, 117, 120]⟩ : ByteArray), t123] : List ByteArray) : List ByteArray)).bind fun y124 => (if y109.length + y124.length < 8796093022208 then ((strings_Join.f (y109 ++ y124) (⟨#[32]⟩ : ByteArray)).bind fun t130 => (some (t130, 0))) else (none)))))))))) else (none)) else (none)))) else (some ((⟨#[]⟩ : ByteArray), t102)))) = some (r1, r2) := h
  clear h
  replace H := Option.bind_eq_some_iff.mp H
  obtain ⟨t102, A20, H⟩ := H
  try dsimp -simprocs only at H
  have A2 := Aside0.mk A20
  clear A20
  by_cases c3 : t102 = 0
  rotate_left
  · rw [if_neg c3] at H
    have c3b0 : (t102 == 0) = false := beq_eq_false_iff_ne.mpr c3
    have c3b1 : (t102 != 0) = true := bne_iff_ne.mpr c3
    simp only [Option.some.injEq, Prod.mk.injEq] at H
    obtain ⟨rfl, rfl⟩ := H
    go_enter Tryd.func24, Tryd.ntmps24
    go_wp2_with (first | ((with_reducible refine gate_dst (N := 1) rfl ?_); refine bxq_ 1 #[.int .i64 a0_0, .int .i64 a0_1, .int .i64 a0_2, .int .i64 a0_3, .int .i64 a0_4, .bool a0_5, .int .i64 a0_6, .int .i64 a0_7, .bool a0_8, .int .i64 a0_9, .int .i64 a0_10, .bool a0_11, .int .i64 a0_12, .int .i64 a0_13, .bool a0_14, .int .i64 a0_15] 36 ?_; intro gb101 hg w56 hbox hb; have BK101 := Aside0.mk (hbox); have GW101 := gwq_ HB hg rfl; have GE101 := GW101; replace HB := hbs_ HB hb rfl rfl rfl rfl; clear hb hbox hg; have hcz57_0 := bc_ BK101 0 rfl; have hcz57_1 := bc_ BK101 1 rfl; have hcz57_2 := bc_ BK101 2 rfl; have hcz57_3 := bc_ BK101 3 rfl; have hcz57_4 := bc_ BK101 4 rfl; have hcz57_5 := bc_ BK101 5 rfl; have hcz57_6 := bc_ BK101 6 rfl; have hcz57_7 := bc_ BK101 7 rfl; have hcz57_8 := bc_ BK101 8 rfl; have hcz57_9 := bc_ BK101 9 rfl; have hcz57_10 := bc_ BK101 10 rfl; have hcz57_11 := bc_ BK101 11 rfl; have hcz57_12 := bc_ BK101 12 rfl; have hcz57_13 := bc_ BK101 13 rfl; have hcz57_14 := bc_ BK101 14 rfl; have hcz57_15 := bc_ BK101 15 rfl; have hfz57_0 := blk_frozen BK101.out 0; have hfz57_1 := blk_frozen BK101.out 1; have hfz57_2 := blk_frozen BK101.out 2; have hfz57_3 := blk_frozen BK101.out 3; have hfz57_4 := blk_frozen BK101.out 4; have hfz57_5 := blk_frozen BK101.out 5; have hfz57_6 := blk_frozen BK101.out 6; have hfz57_7 := blk_frozen BK101.out 7; have hfz57_8 := blk_frozen BK101.out 8; have hfz57_9 := blk_frozen BK101.out 9; have hfz57_10 := blk_frozen BK101.out 10; have hfz57_11 := blk_frozen BK101.out 11; have hfz57_12 := blk_frozen BK101.out 12; have hfz57_13 := blk_frozen BK101.out 13; have hfz57_14 := blk_frozen BK101.out 14; have hfz57_15 := blk_frozen BK101.out 15) | ((with_reducible refine gate_callee (f := 9) rfl ?_); refine glq_ (some 7) Tryd.func9 #[.agg #[.int .i64 a0_0, .int .i64 a0_1, .int .i64 a0_2, .int .i64 a0_3, .int .i64 a0_4, .bool a0_5, .int .i64 a0_6, .int .i64 a0_7, .bool a0_8, .int .i64 a0_9, .int .i64 a0_10, .bool a0_11, .int .i64 a0_12, .int .i64 a0_13, .bool a0_14, .int .i64 a0_15]] ?_; (with_reducible refine (alert_Check.calls k a0_0 a0_1 a0_2 a0_3 a0_4 a0_5 a0_6 a0_7 a0_8 a0_9 a0_10 a0_11 a0_12 a0_13 a0_14 a0_15 t102 _ A2.out).mono ?_); rintro e w58 ⟨rfl, hb⟩; refine ⟨_, rfl, ?_⟩; replace BK101 := bkb_ BK101 hb rfl; replace HB := hbs_ HB hb rfl rfl rfl rfl; (try clear hb)))
    go_ret2
    exact ⟨by first | rfl | (simp [errW_none, errW_some] <;> rfl) | (simp [*, errW_none, errW_some] <;> rfl), by repeat (first | (with_reducible first | exact HB.out | apply below_alloc | apply pw_below_drewN | apply below_drew1 | refine below_set ?_ GE101.out) | exact HB.out)⟩
  rw [if_pos c3] at H
  have c3b0 : (t102 == 0) = true := beq_iff_eq.mpr c3
  have c3b1 : (t102 != 0) = false := bne_eq_false_iff_eq.mpr c3
  clear c3
  replace H := Option.bind_eq_some_iff.mp H
  obtain ⟨t103, A40, H⟩ := H
  try dsimp -simprocs only at H
  have A4 := Aside0.mk A40
  clear A40
  replace H := Option.bind_eq_some_iff.mp H
  obtain ⟨t104, A50, H⟩ := H
  try dsimp -simprocs only at H
  have A5 := Aside0.mk A50
  clear A50
  obtain ⟨ji6, hji6⟩ : ∃ j_ : Int, (wrap64 (a0_1 - 1)) = j_ := ⟨_, rfl⟩
  replace H : (if 0 ≤ (ji6) then (if (ji6) < (t104.length : Int) then ((alert_text_api_Tick.f a0_3 a0_4 a0_5).bind fun t108 => ((some (([(⟨#[97, 108, 101, 114, 116]⟩ : ByteArray), t103, rdOf ByteArray.empty t104 (ji6), (⟨#[97, 116]⟩ : ByteArray), t108] : List ByteArray) : List ByteArray)).bind fun y109 => (if a0_1 = 6 then ((strconv_Itoa_40.f a0_15).bind fun t112 => ((some (([(⟨#[111, 102]⟩ : ByteArray), t112] : List ByteArray) : List ByteArray)).bind fun y113 => (if y109.length + y113.length < 8796093022208 then ((strings_Join.f (y109 ++ y113) (⟨#[32]⟩ : ByteArray)).bind fun t119 => (some (t119, 0))) else (none)))) else ((strconv_Itoa_40.f a0_2).bind fun t120 => ((alert_text_api_Arc.f a0_6 a0_7 a0_8).bind fun t121 => ((alert_text_api_Arc.f a0_9 a0_10 a0_11).bind fun t122 => ((alert_text_api_Quanta.f a0_12 a0_13 a0_14).bind fun t123 => ((some (([(⟨#[111, 98, 106, 101, 99, 116]⟩ : ByteArray), t120, (⟨#[114, 97]⟩ : ByteArray), t121, (⟨#[100, 101, 99]⟩ : ByteArray), t122, (⟨#[102, 108, 117, 120]⟩ : ByteArray), t123] : List ByteArray) : List ByteArray)).bind fun y124 => (if y109.length + y124.length < 8796093022208 then ((strings_Join.f (y109 ++ y124) (⟨#[32]⟩ : ByteArray)).bind fun t130 => (some (t130, 0))) else (none)))))))))) else (none)) else (none)) = some (r1, r2) := by first | (rw [hji6] at H; exact H) | (simp only [hji6] at H ⊢; exact H)
  (try rw [hji6] at A2)
  (try rw [hji6] at A4)
  (try rw [hji6] at A5)
  have hji6w : (IntKind.i64.wrap (a0_1 - 1)) = ji6 := (i64_w _).trans hji6
  by_cases c7 : 0 ≤ (ji6)
  rotate_left
  · rw [if_neg c7] at H
    exact absurd H (by simp)
  rw [if_pos c7] at H
  have c7b0 : decide (0 ≤ (ji6)) = true := decide_eq_true c7
  clear c7
  by_cases c8 : (ji6) < (t104.length : Int)
  rotate_left
  · rw [if_neg c8] at H
    exact absurd H (by simp)
  rw [if_pos c8] at H
  have c8b0 : decide ((ji6) < (t104.length : Int)) = true := decide_eq_true c8
  clear c8
  replace H := Option.bind_eq_some_iff.mp H
  obtain ⟨t108, A90, H⟩ := H
  try dsimp -simprocs only at H
  have A9 := Aside0.mk A90
  clear A90
  obtain ⟨y109, hy109⟩ : ∃ y_ : List ByteArray, y_ = (([(⟨#[97, 108, 101, 114, 116]⟩ : ByteArray), t103, rdOf ByteArray.empty t104 (ji6), (⟨#[97, 116]⟩ : ByteArray), t108] : List ByteArray)) := ⟨_, rfl⟩
  replace H : (if a0_1 = 6 then ((strconv_Itoa_40.f a0_15).bind fun t112 => ((some (([(⟨#[111, 102]⟩ : ByteArray), t112] : List ByteArray) : List ByteArray)).bind fun y113 => (if y109.length + y113.length < 8796093022208 then ((strings_Join.f (y109 ++ y113) (⟨#[32]⟩ : ByteArray)).bind fun t119 => (some (t119, 0))) else (none)))) else ((strconv_Itoa_40.f a0_2).bind fun t120 => ((alert_text_api_Arc.f a0_6 a0_7 a0_8).bind fun t121 => ((alert_text_api_Arc.f a0_9 a0_10 a0_11).bind fun t122 => ((alert_text_api_Quanta.f a0_12 a0_13 a0_14).bind fun t123 => ((some (([(⟨#[111, 98, 106, 101, 99, 116]⟩ : ByteArray), t120, (⟨#[114, 97]⟩ : ByteArray), t121, (⟨#[100, 101, 99]⟩ : ByteArray), t122, (⟨#[102, 108, 117, 120]⟩ : ByteArray), t123] : List ByteArray) : List ByteArray)).bind fun y124 => (if y109.length + y124.length < 8796093022208 then ((strings_Join.f (y109 ++ y124) (⟨#[32]⟩ : ByteArray)).bind fun t130 => (some (t130, 0))) else (none)))))))) = some (r1, r2) := by first | (rw [hy109]; with_reducible exact H) | (have H2_ := (Option.bind_some _ _).symm.trans H; rw [hy109]; with_reducible exact H2_) | (have H2_ := (Option.bind_some _ _).symm.trans H; with_reducible exact H2_) | with_reducible exact H | (rw [hy109]; exact H) | exact H
  have Ny109 := Aside0.mk hy109
  clear hy109
  by_cases c10 : a0_1 = 6
  · rw [if_pos c10] at H
    have c10b0 : (a0_1 == 6) = true := beq_iff_eq.mpr c10
    have c10b1 : (a0_1 != 6) = false := bne_eq_false_iff_eq.mpr c10
    clear c10
    replace H := Option.bind_eq_some_iff.mp H
    obtain ⟨t112, A110, H⟩ := H
    try dsimp -simprocs only at H
    have A11 := Aside0.mk A110
    clear A110
    obtain ⟨y113, hy113⟩ : ∃ y_ : List ByteArray, y_ = (([(⟨#[111, 102]⟩ : ByteArray), t112] : List ByteArray)) := ⟨_, rfl⟩
    replace H : (if y109.length + y113.length < 8796093022208 then ((strings_Join.f (y109 ++ y113) (⟨#[32]⟩ : ByteArray)).bind fun t119 => (some (t119, 0))) else (none)) = some (r1, r2) := by first | (rw [hy113]; with_reducible exact H) | (have H2_ := (Option.bind_some _ _).symm.trans H; rw [hy113]; with_reducible exact H2_) | (have H2_ := (Option.bind_some _ _).symm.trans H; with_reducible exact H2_) | with_reducible exact H | (rw [hy113]; exact H) | exact H
    have Ny113 := Aside0.mk hy113
    clear hy113
    by_cases c12 : y109.length + y113.length < 8796093022208
    rotate_left
    · rw [if_neg c12] at H
      exact absurd H (by simp)
    rw [if_pos c12] at H
    have LMc12 := Aside0.mk c12
    clear c12
    obtain ⟨y116, hy116⟩ : ∃ y_ : List ByteArray, y_ = (y109 ++ y113) := ⟨_, rfl⟩
    replace H : ((strings_Join.f y116 (⟨#[32]⟩ : ByteArray)).bind fun t119 => (some (t119, 0))) = some (r1, r2) := by first | (rw [hy116]; with_reducible exact H) | (have H2_ := (Option.bind_some _ _).symm.trans H; rw [hy116]; with_reducible exact H2_) | (have H2_ := (Option.bind_some _ _).symm.trans H; with_reducible exact H2_) | with_reducible exact H | (rw [hy116]; exact H) | exact H
    have Ny116 := Aside0.mk hy116
    clear hy116
    replace H := Option.bind_eq_some_iff.mp H
    obtain ⟨t119, A130, H⟩ := H
    try dsimp -simprocs only at H
    have A13 := Aside0.mk A130
    clear A130
    simp only [Option.some.injEq, Prod.mk.injEq] at H
    obtain ⟨rfl, rfl⟩ := H
    go_enter Tryd.func24, Tryd.ntmps24
    try go_wp2_with (first | ((with_reducible refine gate_dst (N := 1) rfl ?_); refine bxq_ 1 #[.int .i64 a0_0, .int .i64 a0_1, .int .i64 a0_2, .int .i64 a0_3, .int .i64 a0_4, .bool a0_5, .int .i64 a0_6, .int .i64 a0_7, .bool a0_8, .int .i64 a0_9, .int .i64 a0_10, .bool a0_11, .int .i64 a0_12, .int .i64 a0_13, .bool a0_14, .int .i64 a0_15] 36 ?_; intro gb101 hg w14 hbox hb; have BK101 := Aside0.mk (hbox); have GW101 := gwq_ HB hg rfl; have GE101 := GW101; replace HB := hbs_ HB hb rfl rfl rfl rfl; clear hb hbox hg; have hcz15_0 := bc_ BK101 0 rfl; have hcz15_1 := bc_ BK101 1 rfl; have hcz15_2 := bc_ BK101 2 rfl; have hcz15_3 := bc_ BK101 3 rfl; have hcz15_4 := bc_ BK101 4 rfl; have hcz15_5 := bc_ BK101 5 rfl; have hcz15_6 := bc_ BK101 6 rfl; have hcz15_7 := bc_ BK101 7 rfl; have hcz15_8 := bc_ BK101 8 rfl; have hcz15_9 := bc_ BK101 9 rfl; have hcz15_10 := bc_ BK101 10 rfl; have hcz15_11 := bc_ BK101 11 rfl; have hcz15_12 := bc_ BK101 12 rfl; have hcz15_13 := bc_ BK101 13 rfl; have hcz15_14 := bc_ BK101 14 rfl; have hcz15_15 := bc_ BK101 15 rfl; have hfz15_0 := blk_frozen BK101.out 0; have hfz15_1 := blk_frozen BK101.out 1; have hfz15_2 := blk_frozen BK101.out 2; have hfz15_3 := blk_frozen BK101.out 3; have hfz15_4 := blk_frozen BK101.out 4; have hfz15_5 := blk_frozen BK101.out 5; have hfz15_6 := blk_frozen BK101.out 6; have hfz15_7 := blk_frozen BK101.out 7; have hfz15_8 := blk_frozen BK101.out 8; have hfz15_9 := blk_frozen BK101.out 9; have hfz15_10 := blk_frozen BK101.out 10; have hfz15_11 := blk_frozen BK101.out 11; have hfz15_12 := blk_frozen BK101.out 12; have hfz15_13 := blk_frozen BK101.out 13; have hfz15_14 := blk_frozen BK101.out 14; have hfz15_15 := blk_frozen BK101.out 15) | ((with_reducible refine gate_callee (f := 9) rfl ?_); refine glq_ (some 7) Tryd.func9 #[.agg #[.int .i64 a0_0, .int .i64 a0_1, .int .i64 a0_2, .int .i64 a0_3, .int .i64 a0_4, .bool a0_5, .int .i64 a0_6, .int .i64 a0_7, .bool a0_8, .int .i64 a0_9, .int .i64 a0_10, .bool a0_11, .int .i64 a0_12, .int .i64 a0_13, .bool a0_14, .int .i64 a0_15]] ?_; (with_reducible refine (alert_Check.calls k a0_0 a0_1 a0_2 a0_3 a0_4 a0_5 a0_6 a0_7 a0_8 a0_9 a0_10 a0_11 a0_12 a0_13 a0_14 a0_15 t102 _ A2.out).mono ?_); rintro e w16 ⟨rfl, hb⟩; refine ⟨_, rfl, ?_⟩; replace BK101 := bkb_ BK101 hb rfl; replace HB := hbs_ HB hb rfl rfl rfl rfl; (try clear hb)))
    replace BK101 := Aside0.mk (blk_drew BK101.out)
    replace HB := Aside0.mk (below_drew1 HB.out)
    refine start_ (n := 14) (S := fun w' => w'.cell? ⟨gb101, 0, none⟩ = some (.int .i64 a0_0) ∧ w'.cell? ⟨gb101, 1, none⟩ = some (.int .i64 a0_1) ∧ w'.cell? ⟨gb101, 2, none⟩ = some (.int .i64 a0_2) ∧ w'.cell? ⟨gb101, 3, none⟩ = some (.int .i64 a0_3) ∧ w'.cell? ⟨gb101, 4, none⟩ = some (.int .i64 a0_4) ∧ w'.cell? ⟨gb101, 5, none⟩ = some (.bool a0_5) ∧ w'.cell? ⟨gb101, 6, none⟩ = some (.int .i64 a0_6) ∧ w'.cell? ⟨gb101, 7, none⟩ = some (.int .i64 a0_7) ∧ w'.cell? ⟨gb101, 8, none⟩ = some (.bool a0_8) ∧ w'.cell? ⟨gb101, 9, none⟩ = some (.int .i64 a0_9) ∧ w'.cell? ⟨gb101, 10, none⟩ = some (.int .i64 a0_10) ∧ w'.cell? ⟨gb101, 11, none⟩ = some (.bool a0_11) ∧ w'.cell? ⟨gb101, 12, none⟩ = some (.int .i64 a0_12) ∧ w'.cell? ⟨gb101, 13, none⟩ = some (.int .i64 a0_13) ∧ w'.cell? ⟨gb101, 14, none⟩ = some (.bool a0_14) ∧ w'.cell? ⟨gb101, 15, none⟩ = some (.int .i64 a0_15)) (ds := []) (bm_ [0, 14]) (by kernel_rfl) rfl rfl ⟨bc_ BK101 0 rfl, bc_ BK101 1 rfl, bc_ BK101 2 rfl, bc_ BK101 3 rfl, bc_ BK101 4 rfl, bc_ BK101 5 rfl, bc_ BK101 6 rfl, bc_ BK101 7 rfl, bc_ BK101 8 rfl, bc_ BK101 9 rfl, bc_ BK101 10 rfl, bc_ BK101 11 rfl, bc_ BK101 12 rfl, bc_ BK101 13 rfl, bc_ BK101 14 rfl, bc_ BK101 15 rfl⟩ (fun hHeld => ?_); refine with_tabW alert_Text.tab4 alert_Text.bits4 (fun HT_ HW_ => ?_)
    generalize w16.drew = w17 at BK101 HB hHeld ⊢
    refine pq_ 0 11 (bm_ [1, 13]) HT_ ?_
    refine pq_ 4 15 (bm_ [1, 3, 1, 9]) HT_ ?_
    refine pq_ 9 20 (bm_ [1, 3, 1, 4, 1, 4]) HT_ ?_
    refine tq_ 1 12 (bm_ [2, 2, 1, 4, 1, 4]) HT_ HW_ hHeld ?_
    refine tq_ 5 16 (bm_ [2, 2, 2, 3, 1, 4]) HT_ HW_ hHeld ?_
    refine pq_ 6 17 (bm_ [2, 2, 3, 2, 1, 4]) HT_ ?_
    refine tq_ 10 21 (bm_ [2, 2, 3, 2, 2, 3]) HT_ HW_ hHeld ?_
    refine oq_ 2 (some 13) (bm_ [3, 1, 3, 2, 2, 3]) HT_ (fun K hK => ?_)
    refine gq_ Tryd.func40 #[.int .i64 a0_0] ?_
    with_reducible refine (strconv_Itoa_40.calls a0_0 t103 _ A4.out).mono ?_
    rintro e w' ⟨rfl, ⟨nd, rfl⟩⟩
    refine ⟨_, rfl, ?_⟩
    refine hK.out _ _ ⟨bc_ BK101 0 rfl, bc_ BK101 1 rfl, bc_ BK101 2 rfl, bc_ BK101 3 rfl, bc_ BK101 4 rfl, bc_ BK101 5 rfl, bc_ BK101 6 rfl, bc_ BK101 7 rfl, bc_ BK101 8 rfl, bc_ BK101 9 rfl, bc_ BK101 10 rfl, bc_ BK101 11 rfl, bc_ BK101 12 rfl, bc_ BK101 13 rfl, bc_ BK101 14 rfl, bc_ BK101 15 rfl⟩ (fun hHeld => ?_)
    clear hK K
    refine nq_ 13 ?_
    refine oq_ 3 (some 14) (bm_ [7, 2, 2, 3]) HT_ (fun K hK => ?_)
    refine gq_ Tryd.func41 #[] ?_
    with_reducible refine (alert_Names.calls  t104 _ A5.out).mono ?_
    rintro e w18 ⟨v105, rfl, ho0, hb⟩
    refine ⟨_, rfl, ?_⟩
    have HO106 := Aside0.mk (Kd.R_lower ho0 (below_size (by repeat (first | (with_reducible first | exact HB.out | apply below_alloc | apply pw_below_drewN | apply below_drew1 | refine below_set ?_ GE101.out) | exact HB.out))))
    replace BK101 := bkb_ BK101 hb rfl
    replace HB := hbs_ HB hb rfl rfl rfl rfl
    (try clear hb)
    (try clear ho0)
    obtain ⟨Ao19, co19, eo19⟩ := Kd.R_slice HO106.out
    (first | subst eo19 | (injection eo19 with f1_ f2_ f3_; have f4_ := f1_.symm; have f5_ := f3_.symm; clear f1_ f2_ f3_; subst f4_; subst f5_))
    have p107 : 0 ≤ ((ji6) : Int) := of_decide_eq_true (by first | (with_reducible assumption) | assumption)
    have q107 : (ji6) < (t104.length : Int) := of_decide_eq_true (by first | (with_reducible assumption) | assumption)
    obtain ⟨ad107, e107, hx107_0⟩ := Kd.at_string (Kd.R_reads' HO106.out).2.2 (ji6) p107 q107
    cases e107
    replace p107 := eq_true p107
    replace q107 := eq_true q107
    refine hK.out _ _ ⟨bc_ BK101 0 rfl, bc_ BK101 1 rfl, bc_ BK101 2 rfl, bc_ BK101 3 rfl, bc_ BK101 4 rfl, bc_ BK101 5 rfl, bc_ BK101 6 rfl, bc_ BK101 7 rfl, bc_ BK101 8 rfl, bc_ BK101 9 rfl, bc_ BK101 10 rfl, bc_ BK101 11 rfl, bc_ BK101 12 rfl, bc_ BK101 13 rfl, bc_ BK101 14 rfl, bc_ BK101 15 rfl⟩ (fun hHeld => ?_)
    clear hK K
    refine later_ (fun w' => w'.cell? ⟨gb101, 0, none⟩ = some (.int .i64 a0_0) ∧ w'.cell? ⟨gb101, 1, none⟩ = some (.int .i64 a0_1) ∧ w'.cell? ⟨gb101, 2, none⟩ = some (.int .i64 a0_2) ∧ w'.cell? ⟨gb101, 3, none⟩ = some (.int .i64 a0_3) ∧ w'.cell? ⟨gb101, 4, none⟩ = some (.int .i64 a0_4) ∧ w'.cell? ⟨gb101, 5, none⟩ = some (.bool a0_5) ∧ w'.cell? ⟨gb101, 6, none⟩ = some (.int .i64 a0_6) ∧ w'.cell? ⟨gb101, 7, none⟩ = some (.int .i64 a0_7) ∧ w'.cell? ⟨gb101, 8, none⟩ = some (.bool a0_8) ∧ w'.cell? ⟨gb101, 9, none⟩ = some (.int .i64 a0_9) ∧ w'.cell? ⟨gb101, 10, none⟩ = some (.int .i64 a0_10) ∧ w'.cell? ⟨gb101, 11, none⟩ = some (.bool a0_11) ∧ w'.cell? ⟨gb101, 12, none⟩ = some (.int .i64 a0_12) ∧ w'.cell? ⟨gb101, 13, none⟩ = some (.int .i64 a0_13) ∧ w'.cell? ⟨gb101, 14, none⟩ = some (.bool a0_14) ∧ w'.cell? ⟨gb101, 15, none⟩ = some (.int .i64 a0_15) ∧ w'.cell? (ad107.add ((ji6)).toNat) = some (.string (rdOf ByteArray.empty t104 (ji6)))) (fun _ h_ => ⟨h_.1, h_.2.1, h_.2.2.1, h_.2.2.2.1, h_.2.2.2.2.1, h_.2.2.2.2.2.1, h_.2.2.2.2.2.2.1, h_.2.2.2.2.2.2.2.1, h_.2.2.2.2.2.2.2.2.1, h_.2.2.2.2.2.2.2.2.2.1, h_.2.2.2.2.2.2.2.2.2.2.1, h_.2.2.2.2.2.2.2.2.2.2.2.1, h_.2.2.2.2.2.2.2.2.2.2.2.2.1, h_.2.2.2.2.2.2.2.2.2.2.2.2.2.1, h_.2.2.2.2.2.2.2.2.2.2.2.2.2.2.1, h_.2.2.2.2.2.2.2.2.2.2.2.2.2.2.2.1⟩) ⟨bc_ BK101 0 rfl, bc_ BK101 1 rfl, bc_ BK101 2 rfl, bc_ BK101 3 rfl, bc_ BK101 4 rfl, bc_ BK101 5 rfl, bc_ BK101 6 rfl, bc_ BK101 7 rfl, bc_ BK101 8 rfl, bc_ BK101 9 rfl, bc_ BK101 10 rfl, bc_ BK101 11 rfl, bc_ BK101 12 rfl, bc_ BK101 13 rfl, bc_ BK101 14 rfl, bc_ BK101 15 rfl, hx107_0⟩ (fun hHeld => ?_)
    refine nq_ 14 ?_
    refine pq_ 7 18 (bm_ [8, 1, 2, 3]) HT_ ?_
    refine tq_ 8 19 (bm_ [11, 3]) HT_ HW_ hHeld ?_
    refine oq_ 11 (some 22) (bm_ [12, 2]) HT_ (fun K hK => ?_)
    refine gq_ Tryd.func42 #[.agg #[.int .i64 a0_3, .int .i64 a0_4, .bool a0_5]] ?_
    with_reducible refine (alert_text_api_Tick.calls a0_3 a0_4 a0_5 t108 _ A9.out).mono ?_
    rintro e w20 ⟨rfl, hb⟩
    have HS16_ := (hb.cell (World.block_lt_of_cell? _ _ (hHeld.2.2.2.2.2.2.2.2.2.2.2.2.2.2.2.2))).trans (hHeld.2.2.2.2.2.2.2.2.2.2.2.2.2.2.2.2)
    refine ⟨_, rfl, ?_⟩
    replace HO106 := Aside0.mk (Kd.R_below (by (with_reducible repeat (first | apply Kd.R_alloc | apply Kd.R_drewN | apply Kd.R_drew)); exact HO106.out) hb)
    replace BK101 := bkb_ BK101 hb rfl
    replace HB := hbs_ HB hb rfl rfl rfl rfl
    (try clear hb)
    refine hK.out _ _ ⟨bc_ BK101 0 rfl, bc_ BK101 1 rfl, bc_ BK101 2 rfl, bc_ BK101 3 rfl, bc_ BK101 4 rfl, bc_ BK101 5 rfl, bc_ BK101 6 rfl, bc_ BK101 7 rfl, bc_ BK101 8 rfl, bc_ BK101 9 rfl, bc_ BK101 10 rfl, bc_ BK101 11 rfl, bc_ BK101 12 rfl, bc_ BK101 13 rfl, bc_ BK101 14 rfl, bc_ BK101 15 rfl, HS16_⟩ (fun hHeld => ?_)
    clear hK K
    refine nq_ 22 ?_
    refine oq_ 12 (some 23) (bm_ [13, 1]) HT_ (fun K hK => ?_)
    refine Kd.R_lit_step Kd.string _ 9 ?hg (N := 23) ?hd (xs := ([(⟨#[97, 108, 101, 114, 116]⟩ : ByteArray), t103, rdOf ByteArray.empty t104 (ji6), (⟨#[97, 116]⟩ : ByteArray), t108] : List ByteArray)) (inner := [.string (⟨#[97, 108, 101, 114, 116]⟩ : ByteArray), .string t103, .string (rdOf ByteArray.empty t104 (ji6)), .string (⟨#[97, 116]⟩ : ByteArray), .string t108]) (ok := fun _ => True) (okp := fun _ => True) ?hr ?hp (fun _ hk => hk) trivial (Below.refl _ _) (Nat.le_refl _) (by simp) ?_; (case hd => rfl); (case hg => rfl); (case hr => first | (go_simp; done) | (go_simp; rfl)); (case hp => exact (Reps.one (show Kd.M Kd.string _ _ _ (⟨#[97, 108, 101, 114, 116]⟩ : ByteArray) [.string (⟨#[97, 108, 101, 114, 116]⟩ : ByteArray)] from rfl) (Reps.one (show Kd.M Kd.string _ _ _ t103 [.string t103] from rfl) (Reps.one (show Kd.M Kd.string _ _ _ (rdOf ByteArray.empty t104 (ji6)) [.string (rdOf ByteArray.empty t104 (ji6))] from rfl) (Reps.one (show Kd.M Kd.string _ _ _ (⟨#[97, 116]⟩ : ByteArray) [.string (⟨#[97, 116]⟩ : ByteArray)] from rfl) (Reps.one (show Kd.M Kd.string _ _ _ t108 [.string t108] from rfl) (Reps.none _ _)))))))
    intro v110 w21 ho22 hb hg_ hnew_
    have HS16_ := (hb.cell (World.block_lt_of_cell? _ _ (hHeld.2.2.2.2.2.2.2.2.2.2.2.2.2.2.2.2))).trans (hHeld.2.2.2.2.2.2.2.2.2.2.2.2.2.2.2.2)
    clear hg_ hnew_
    (first | rw [← Ny109.out] at ho22 | (simp only [Int.reduceToNat] at ho22; rw [← Ny109.out] at ho22))
    have HO111 := Aside0.mk (Kd.R_lower (Kd.R_new' ho22 (Kd.R_lt (by (with_reducible repeat (first | apply Kd.R_alloc | apply Kd.R_drewN | apply Kd.R_drew)); exact HO106.out))) (below_size (by repeat (first | (with_reducible first | exact HB.out | apply below_alloc | apply pw_below_drewN | apply below_drew1 | refine below_set ?_ GE101.out) | exact HB.out))))
    replace HO106 := Aside0.mk (Kd.R_elder' (by (with_reducible repeat (first | apply Kd.R_alloc | apply Kd.R_drewN | apply Kd.R_drew)); exact HO106.out) (Kd.R_base ho22) hb)
    replace BK101 := bkb_ BK101 hb rfl
    replace HB := hbs_ HB hb rfl rfl rfl rfl
    clear hb ho22
    refine hK.out _ _ ⟨bc_ BK101 0 rfl, bc_ BK101 1 rfl, bc_ BK101 2 rfl, bc_ BK101 3 rfl, bc_ BK101 4 rfl, bc_ BK101 5 rfl, bc_ BK101 6 rfl, bc_ BK101 7 rfl, bc_ BK101 8 rfl, bc_ BK101 9 rfl, bc_ BK101 10 rfl, bc_ BK101 11 rfl, bc_ BK101 12 rfl, bc_ BK101 13 rfl, bc_ BK101 14 rfl, bc_ BK101 15 rfl, HS16_⟩ (fun hHeld => ?_)
    clear hK K
    refine nq_ 23 ?_
    refine pq_ 13 5 (bm_ [14]) HT_ ?_
    refine done_ (done_of HT_.out (by kernel_rfl)) ?_
    have hcz23_0 := bc_ BK101 0 rfl
    have hcz23_1 := bc_ BK101 1 rfl
    have hcz23_2 := bc_ BK101 2 rfl
    have hcz23_3 := bc_ BK101 3 rfl
    have hcz23_4 := bc_ BK101 4 rfl
    have hcz23_5 := bc_ BK101 5 rfl
    have hcz23_6 := bc_ BK101 6 rfl
    have hcz23_7 := bc_ BK101 7 rfl
    have hcz23_8 := bc_ BK101 8 rfl
    have hcz23_9 := bc_ BK101 9 rfl
    have hcz23_10 := bc_ BK101 10 rfl
    have hcz23_11 := bc_ BK101 11 rfl
    have hcz23_12 := bc_ BK101 12 rfl
    have hcz23_13 := bc_ BK101 13 rfl
    have hcz23_14 := bc_ BK101 14 rfl
    have hcz23_15 := bc_ BK101 15 rfl
    have hfz23_0 := blk_frozen BK101.out 0
    have hfz23_1 := blk_frozen BK101.out 1
    have hfz23_2 := blk_frozen BK101.out 2
    have hfz23_3 := blk_frozen BK101.out 3
    have hfz23_4 := blk_frozen BK101.out 4
    have hfz23_5 := blk_frozen BK101.out 5
    have hfz23_6 := blk_frozen BK101.out 6
    have hfz23_7 := blk_frozen BK101.out 7
    have hfz23_8 := blk_frozen BK101.out 8
    have hfz23_9 := blk_frozen BK101.out 9
    have hfz23_10 := blk_frozen BK101.out 10
    have hfz23_11 := blk_frozen BK101.out 11
    have hfz23_12 := blk_frozen BK101.out 12
    have hfz23_13 := blk_frozen BK101.out 13
    have hfz23_14 := blk_frozen BK101.out 14
    have hfz23_15 := blk_frozen BK101.out 15
    try go_wp2_with (first | ((with_reducible refine gate_callee (f := 40) rfl ?_); refine glq_ (some 30) Tryd.func40 #[.int .i64 a0_15] ?_; (with_reducible refine (strconv_Itoa_40.calls a0_15 t112 _ A11.out).mono ?_); rintro e w' ⟨rfl, ⟨nd, rfl⟩⟩; refine ⟨_, rfl, ?_⟩) | ((with_reducible refine gate_dst (N := 31) rfl ?_); refine Kd.R_lit Kd.string _ 9 ?hg (N := 31) ?hd (xs := ([(⟨#[111, 102]⟩ : ByteArray), t112] : List ByteArray)) (inner := [.string (⟨#[111, 102]⟩ : ByteArray), .string t112]) (ok := fun _ => True) (okp := fun _ => True) ?hr ?hp (fun _ hk => hk) trivial (Below.refl _ _) (Nat.le_refl _) (by simp) ?_; (case hd => rfl); (case hg => rfl); (case hr => first | (go_simp; done) | (go_simp; rfl)); (case hp => exact (Reps.one (show Kd.M Kd.string _ _ _ (⟨#[111, 102]⟩ : ByteArray) [.string (⟨#[111, 102]⟩ : ByteArray)] from rfl) (Reps.one (show Kd.M Kd.string _ _ _ t112 [.string t112] from rfl) (Reps.none _ _)))); intro v114 w24 ho25 hb hg_ hnew_; clear hg_ hnew_; (first | rw [← Ny113.out] at ho25 | (simp only [Int.reduceToNat] at ho25; rw [← Ny113.out] at ho25)); have HO115 := Aside0.mk (Kd.R_lower (Kd.R_new' (Kd.R_new' ho25 (Kd.R_lt (by (with_reducible repeat (first | apply Kd.R_alloc | apply Kd.R_drewN | apply Kd.R_drew)); exact HO106.out))) (Kd.R_lt (by (with_reducible repeat (first | apply Kd.R_alloc | apply Kd.R_drewN | apply Kd.R_drew)); exact HO111.out))) (below_size (by repeat (first | (with_reducible first | exact HB.out | apply below_alloc | apply pw_below_drewN | apply below_drew1 | refine below_set ?_ GE101.out) | exact HB.out)))); replace HO106 := Aside0.mk (Kd.R_elder' (by (with_reducible repeat (first | apply Kd.R_alloc | apply Kd.R_drewN | apply Kd.R_drew)); exact HO106.out) (Kd.R_base ho25) hb); replace HO111 := Aside0.mk (Kd.R_elder' (by (with_reducible repeat (first | apply Kd.R_alloc | apply Kd.R_drewN | apply Kd.R_drew)); exact HO111.out) (Kd.R_base ho25) hb); replace BK101 := bkb_ BK101 hb rfl; replace HB := hbs_ HB hb rfl rfl rfl rfl; clear hb ho25; obtain ⟨Ao27, co27, eo27⟩ := Kd.R_slice HO115.out; subst eo27) | ((with_reducible refine gate_builtin (b := .append) (xs := #[.tmp 27, .tmp 31]) rfl ?_); at_builtin; refine Kd.R_append_rows Kd.string (w0 := w) w.heap.size rfl (.tmp 27) (.tmp 31) 77 9 (.string ⟨#[]⟩) 16 rfl Tryd.underlying77 info9 rfl (by decide) (by omega) v110 y109 y113 _ _ _ (fun k_ => some k_ ≠ (.slice (some ad107) t104.length co19 : Value).ownBlock ∧ some k_ ≠ (.slice Ao27 y113.length co27 : Value).ownBlock) (fun _ => False) rfl rfl ?aO ?aR (fun _ _ h => h) (fun _ h => h.elim) ?aF ?aB ?aS ?aL ?_; (case aR => repeat (first | exact (Kd.R_reads' HO115.out).2.2 | (with_reducible refine Kd.C_alloc ?_ _) | (with_reducible refine Kd.C_drewN ?_ _) | (with_reducible refine Kd.C_drew ?_))); (case aB => exact (by repeat (first | (with_reducible first | exact HB.out | apply below_alloc | apply pw_below_drewN | apply below_drew1 | refine below_set ?_ GE101.out) | exact HB.out))); (case aF => exact (fun k_ hk => ⟨Kd.fresh' (Kd.R_lt (by (with_reducible repeat (first | apply Kd.R_alloc | apply Kd.R_drewN | apply Kd.R_drew)); exact HO106.out)) k_ hk, Kd.fresh' (Kd.R_lt (by (with_reducible repeat (first | apply Kd.R_alloc | apply Kd.R_drewN | apply Kd.R_drew)); exact HO115.out)) k_ hk⟩)); (case aO => exact (by (with_reducible repeat (first | apply Kd.R_alloc | apply Kd.R_drewN | apply Kd.R_drew)); exact Kd.R_mono HO111.out (fun _ hk => ⟨hk.1.2, hk.2⟩))); (case aS => exact (below_size (by repeat (first | (with_reducible first | exact HB.out | apply below_alloc | apply pw_below_drewN | apply below_drew1 | refine below_set ?_ GE101.out) | exact HB.out)))); (case aL => have := LMc12.out; omega); intro v117 w26 ho hb hg hat; rw [← Ny116.out] at ho; have HO118 := Aside0.mk (ho); replace BK101 := Aside0.mk (blk_grown (g := gb101) (o := .cells #[.int .i64 a0_0, .int .i64 a0_1, .int .i64 a0_2, .int .i64 a0_3, .int .i64 a0_4, .bool a0_5, .int .i64 a0_6, .int .i64 a0_7, .bool a0_8, .int .i64 a0_9, .int .i64 a0_10, .bool a0_11, .int .i64 a0_12, .int .i64 a0_13, .bool a0_14, .int .i64 a0_15] 36 (0, 0)) BK101.out hg (Kd.R_ne HO111.out BK101.out (by decide))); replace HO106 := Aside0.mk (Kd.R_after (ok := (fun k_ => some k_ ≠ (.slice Ao27 y113.length co27 : Value).ownBlock)) (by (with_reducible repeat (first | apply Kd.R_alloc | apply Kd.R_drewN | apply Kd.R_drew)); exact Kd.R_mono HO106.out (fun _ hk => ⟨hk.2, hk.1.2⟩)) hg hat); replace HO115 := Aside0.mk (Kd.R_after (ok := (fun k_ => some k_ ≠ (.slice (some ad107) t104.length co19 : Value).ownBlock)) (by (with_reducible repeat (first | apply Kd.R_alloc | apply Kd.R_drewN | apply Kd.R_drew)); exact Kd.R_mono HO115.out (fun _ hk => ⟨hk.1.2, hk.2⟩)) hg hat); replace HB := Aside0.mk (hb); clear HO111; clear ho hb hg hat; obtain ⟨Ao28, co28, eo28⟩ := Kd.R_slice HO118.out; subst eo28) | ((with_reducible refine gate_callee (f := 45) rfl ?_); refine glq_ (some 49) Tryd.func45 #[.slice Ao28 y116.length co28, .string (⟨#[32]⟩ : ByteArray)] ?_; (with_reducible refine (strings_Join.calls _ _ y116 (⟨#[32]⟩ : ByteArray) t119 _ ?side1 ?side2 A13.out).mono ?_); (case side1 => repeat (first | exact (Kd.R_reads' HO118.out).2.2 | (with_reducible refine Kd.C_alloc ?_ _) | (with_reducible refine Kd.C_drewN ?_ _) | (with_reducible refine Kd.C_drew ?_))); (case side2 => exact (Kd.R_reads' HO118.out).2.1); rintro e w29 ⟨rfl, hb⟩; refine ⟨_, rfl, ?_⟩; replace HO106 := Aside0.mk (Kd.R_below (by (with_reducible repeat (first | apply Kd.R_alloc | apply Kd.R_drewN | apply Kd.R_drew)); exact HO106.out) hb); replace HO115 := Aside0.mk (Kd.R_below (by (with_reducible repeat (first | apply Kd.R_alloc | apply Kd.R_drewN | apply Kd.R_drew)); exact HO115.out) hb); replace HO118 := Aside0.mk (Kd.R_below (by (with_reducible repeat (first | apply Kd.R_alloc | apply Kd.R_drewN | apply Kd.R_drew)); exact HO118.out) hb); replace BK101 := bkb_ BK101 hb rfl; replace HB := hbs_ HB hb rfl rfl rfl rfl; (try clear hb)))
    go_ret2
    exact ⟨by first | rfl | (simp [errW_none, errW_some] <;> rfl) | (simp only [← hji6]; first | rfl | (simp [errW_none, errW_some] <;> rfl)) | (simp [*, errW_none, errW_some] <;> rfl), by repeat (first | (with_reducible first | exact HB.out | apply below_alloc | apply pw_below_drewN | apply below_drew1 | refine below_set ?_ GE101.out) | exact HB.out)⟩
  rw [if_neg c10] at H
  have c10b0 : (a0_1 == 6) = false := beq_eq_false_iff_ne.mpr c10
  have c10b1 : (a0_1 != 6) = true := bne_iff_ne.mpr c10
  replace H := Option.bind_eq_some_iff.mp H
  obtain ⟨t120, A300, H⟩ := H
  try dsimp -simprocs only at H
  have A30 := Aside0.mk A300
  clear A300
  replace H := Option.bind_eq_some_iff.mp H
  obtain ⟨t121, A310, H⟩ := H
  try dsimp -simprocs only at H
  have A31 := Aside0.mk A310
  clear A310
  replace H := Option.bind_eq_some_iff.mp H
  obtain ⟨t122, A320, H⟩ := H
  try dsimp -simprocs only at H
  have A32 := Aside0.mk A320
  clear A320
  replace H := Option.bind_eq_some_iff.mp H
  obtain ⟨t123, A330, H⟩ := H
  try dsimp -simprocs only at H
  have A33 := Aside0.mk A330
  clear A330
  obtain ⟨y124, hy124⟩ : ∃ y_ : List ByteArray, y_ = (([(⟨#[111, 98, 106, 101, 99, 116]⟩ : ByteArray), t120, (⟨#[114, 97]⟩ : ByteArray), t121, (⟨#[100, 101, 99]⟩ : ByteArray), t122, (⟨#[102, 108, 117, 120]⟩ : ByteArray), t123] : List ByteArray)) := ⟨_, rfl⟩
  replace H : (if y109.length + y124.length < 8796093022208 then ((strings_Join.f (y109 ++ y124) (⟨#[32]⟩ : ByteArray)).bind fun t130 => (some (t130, 0))) else (none)) = some (r1, r2) := by first | (rw [hy124]; with_reducible exact H) | (have H2_ := (Option.bind_some _ _).symm.trans H; rw [hy124]; with_reducible exact H2_) | (have H2_ := (Option.bind_some _ _).symm.trans H; with_reducible exact H2_) | with_reducible exact H | (rw [hy124]; exact H) | exact H
  have Ny124 := Aside0.mk hy124
  clear hy124
  by_cases c34 : y109.length + y124.length < 8796093022208
  rotate_left
  · rw [if_neg c34] at H
    exact absurd H (by simp)
  rw [if_pos c34] at H
  have LMc34 := Aside0.mk c34
  clear c34
  obtain ⟨y127, hy127⟩ : ∃ y_ : List ByteArray, y_ = (y109 ++ y124) := ⟨_, rfl⟩
  replace H : ((strings_Join.f y127 (⟨#[32]⟩ : ByteArray)).bind fun t130 => (some (t130, 0))) = some (r1, r2) := by first | (rw [hy127]; with_reducible exact H) | (have H2_ := (Option.bind_some _ _).symm.trans H; rw [hy127]; with_reducible exact H2_) | (have H2_ := (Option.bind_some _ _).symm.trans H; with_reducible exact H2_) | with_reducible exact H | (rw [hy127]; exact H) | exact H
  have Ny127 := Aside0.mk hy127
  clear hy127
  replace H := Option.bind_eq_some_iff.mp H
  obtain ⟨t130, A350, H⟩ := H
  try dsimp -simprocs only at H
  have A35 := Aside0.mk A350
  clear A350
  simp only [Option.some.injEq, Prod.mk.injEq] at H
  obtain ⟨rfl, rfl⟩ := H
  go_enter Tryd.func24, Tryd.ntmps24
  try go_wp2_with (first | ((with_reducible refine gate_dst (N := 1) rfl ?_); refine bxq_ 1 #[.int .i64 a0_0, .int .i64 a0_1, .int .i64 a0_2, .int .i64 a0_3, .int .i64 a0_4, .bool a0_5, .int .i64 a0_6, .int .i64 a0_7, .bool a0_8, .int .i64 a0_9, .int .i64 a0_10, .bool a0_11, .int .i64 a0_12, .int .i64 a0_13, .bool a0_14, .int .i64 a0_15] 36 ?_; intro gb101 hg w36 hbox hb; have BK101 := Aside0.mk (hbox); have GW101 := gwq_ HB hg rfl; have GE101 := GW101; replace HB := hbs_ HB hb rfl rfl rfl rfl; clear hb hbox hg; have hcz37_0 := bc_ BK101 0 rfl; have hcz37_1 := bc_ BK101 1 rfl; have hcz37_2 := bc_ BK101 2 rfl; have hcz37_3 := bc_ BK101 3 rfl; have hcz37_4 := bc_ BK101 4 rfl; have hcz37_5 := bc_ BK101 5 rfl; have hcz37_6 := bc_ BK101 6 rfl; have hcz37_7 := bc_ BK101 7 rfl; have hcz37_8 := bc_ BK101 8 rfl; have hcz37_9 := bc_ BK101 9 rfl; have hcz37_10 := bc_ BK101 10 rfl; have hcz37_11 := bc_ BK101 11 rfl; have hcz37_12 := bc_ BK101 12 rfl; have hcz37_13 := bc_ BK101 13 rfl; have hcz37_14 := bc_ BK101 14 rfl; have hcz37_15 := bc_ BK101 15 rfl; have hfz37_0 := blk_frozen BK101.out 0; have hfz37_1 := blk_frozen BK101.out 1; have hfz37_2 := blk_frozen BK101.out 2; have hfz37_3 := blk_frozen BK101.out 3; have hfz37_4 := blk_frozen BK101.out 4; have hfz37_5 := blk_frozen BK101.out 5; have hfz37_6 := blk_frozen BK101.out 6; have hfz37_7 := blk_frozen BK101.out 7; have hfz37_8 := blk_frozen BK101.out 8; have hfz37_9 := blk_frozen BK101.out 9; have hfz37_10 := blk_frozen BK101.out 10; have hfz37_11 := blk_frozen BK101.out 11; have hfz37_12 := blk_frozen BK101.out 12; have hfz37_13 := blk_frozen BK101.out 13; have hfz37_14 := blk_frozen BK101.out 14; have hfz37_15 := blk_frozen BK101.out 15) | ((with_reducible refine gate_callee (f := 9) rfl ?_); refine glq_ (some 7) Tryd.func9 #[.agg #[.int .i64 a0_0, .int .i64 a0_1, .int .i64 a0_2, .int .i64 a0_3, .int .i64 a0_4, .bool a0_5, .int .i64 a0_6, .int .i64 a0_7, .bool a0_8, .int .i64 a0_9, .int .i64 a0_10, .bool a0_11, .int .i64 a0_12, .int .i64 a0_13, .bool a0_14, .int .i64 a0_15]] ?_; (with_reducible refine (alert_Check.calls k a0_0 a0_1 a0_2 a0_3 a0_4 a0_5 a0_6 a0_7 a0_8 a0_9 a0_10 a0_11 a0_12 a0_13 a0_14 a0_15 t102 _ A2.out).mono ?_); rintro e w38 ⟨rfl, hb⟩; refine ⟨_, rfl, ?_⟩; replace BK101 := bkb_ BK101 hb rfl; replace HB := hbs_ HB hb rfl rfl rfl rfl; (try clear hb)))
  replace BK101 := Aside0.mk (blk_drew BK101.out)
  replace HB := Aside0.mk (below_drew1 HB.out)
  refine start_ (n := 14) (S := fun w' => w'.cell? ⟨gb101, 0, none⟩ = some (.int .i64 a0_0) ∧ w'.cell? ⟨gb101, 1, none⟩ = some (.int .i64 a0_1) ∧ w'.cell? ⟨gb101, 2, none⟩ = some (.int .i64 a0_2) ∧ w'.cell? ⟨gb101, 3, none⟩ = some (.int .i64 a0_3) ∧ w'.cell? ⟨gb101, 4, none⟩ = some (.int .i64 a0_4) ∧ w'.cell? ⟨gb101, 5, none⟩ = some (.bool a0_5) ∧ w'.cell? ⟨gb101, 6, none⟩ = some (.int .i64 a0_6) ∧ w'.cell? ⟨gb101, 7, none⟩ = some (.int .i64 a0_7) ∧ w'.cell? ⟨gb101, 8, none⟩ = some (.bool a0_8) ∧ w'.cell? ⟨gb101, 9, none⟩ = some (.int .i64 a0_9) ∧ w'.cell? ⟨gb101, 10, none⟩ = some (.int .i64 a0_10) ∧ w'.cell? ⟨gb101, 11, none⟩ = some (.bool a0_11) ∧ w'.cell? ⟨gb101, 12, none⟩ = some (.int .i64 a0_12) ∧ w'.cell? ⟨gb101, 13, none⟩ = some (.int .i64 a0_13) ∧ w'.cell? ⟨gb101, 14, none⟩ = some (.bool a0_14) ∧ w'.cell? ⟨gb101, 15, none⟩ = some (.int .i64 a0_15)) (ds := []) (bm_ [0, 14]) (by kernel_rfl) rfl rfl ⟨bc_ BK101 0 rfl, bc_ BK101 1 rfl, bc_ BK101 2 rfl, bc_ BK101 3 rfl, bc_ BK101 4 rfl, bc_ BK101 5 rfl, bc_ BK101 6 rfl, bc_ BK101 7 rfl, bc_ BK101 8 rfl, bc_ BK101 9 rfl, bc_ BK101 10 rfl, bc_ BK101 11 rfl, bc_ BK101 12 rfl, bc_ BK101 13 rfl, bc_ BK101 14 rfl, bc_ BK101 15 rfl⟩ (fun hHeld => ?_); refine with_tabW alert_Text.tab4 alert_Text.bits4 (fun HT_ HW_ => ?_)
  generalize w38.drew = w39 at BK101 HB hHeld ⊢
  refine pq_ 0 11 (bm_ [1, 13]) HT_ ?_
  refine pq_ 4 15 (bm_ [1, 3, 1, 9]) HT_ ?_
  refine pq_ 9 20 (bm_ [1, 3, 1, 4, 1, 4]) HT_ ?_
  refine tq_ 1 12 (bm_ [2, 2, 1, 4, 1, 4]) HT_ HW_ hHeld ?_
  refine tq_ 5 16 (bm_ [2, 2, 2, 3, 1, 4]) HT_ HW_ hHeld ?_
  refine pq_ 6 17 (bm_ [2, 2, 3, 2, 1, 4]) HT_ ?_
  refine tq_ 10 21 (bm_ [2, 2, 3, 2, 2, 3]) HT_ HW_ hHeld ?_
  refine oq_ 2 (some 13) (bm_ [3, 1, 3, 2, 2, 3]) HT_ (fun K hK => ?_)
  refine gq_ Tryd.func40 #[.int .i64 a0_0] ?_
  with_reducible refine (strconv_Itoa_40.calls a0_0 t103 _ A4.out).mono ?_
  rintro e w' ⟨rfl, ⟨nd, rfl⟩⟩
  refine ⟨_, rfl, ?_⟩
  refine hK.out _ _ ⟨bc_ BK101 0 rfl, bc_ BK101 1 rfl, bc_ BK101 2 rfl, bc_ BK101 3 rfl, bc_ BK101 4 rfl, bc_ BK101 5 rfl, bc_ BK101 6 rfl, bc_ BK101 7 rfl, bc_ BK101 8 rfl, bc_ BK101 9 rfl, bc_ BK101 10 rfl, bc_ BK101 11 rfl, bc_ BK101 12 rfl, bc_ BK101 13 rfl, bc_ BK101 14 rfl, bc_ BK101 15 rfl⟩ (fun hHeld => ?_)
  clear hK K
  refine nq_ 13 ?_
  refine oq_ 3 (some 14) (bm_ [7, 2, 2, 3]) HT_ (fun K hK => ?_)
  refine gq_ Tryd.func41 #[] ?_
  with_reducible refine (alert_Names.calls  t104 _ A5.out).mono ?_
  rintro e w40 ⟨v105, rfl, ho0, hb⟩
  refine ⟨_, rfl, ?_⟩
  have HO106 := Aside0.mk (Kd.R_lower ho0 (below_size (by repeat (first | (with_reducible first | exact HB.out | apply below_alloc | apply pw_below_drewN | apply below_drew1 | refine below_set ?_ GE101.out) | exact HB.out))))
  replace BK101 := bkb_ BK101 hb rfl
  replace HB := hbs_ HB hb rfl rfl rfl rfl
  (try clear hb)
  (try clear ho0)
  obtain ⟨Ao41, co41, eo41⟩ := Kd.R_slice HO106.out
  (first | subst eo41 | (injection eo41 with f1_ f2_ f3_; have f4_ := f1_.symm; have f5_ := f3_.symm; clear f1_ f2_ f3_; subst f4_; subst f5_))
  have p107 : 0 ≤ ((ji6) : Int) := of_decide_eq_true (by first | (with_reducible assumption) | assumption)
  have q107 : (ji6) < (t104.length : Int) := of_decide_eq_true (by first | (with_reducible assumption) | assumption)
  obtain ⟨ad107, e107, hx107_0⟩ := Kd.at_string (Kd.R_reads' HO106.out).2.2 (ji6) p107 q107
  cases e107
  replace p107 := eq_true p107
  replace q107 := eq_true q107
  refine hK.out _ _ ⟨bc_ BK101 0 rfl, bc_ BK101 1 rfl, bc_ BK101 2 rfl, bc_ BK101 3 rfl, bc_ BK101 4 rfl, bc_ BK101 5 rfl, bc_ BK101 6 rfl, bc_ BK101 7 rfl, bc_ BK101 8 rfl, bc_ BK101 9 rfl, bc_ BK101 10 rfl, bc_ BK101 11 rfl, bc_ BK101 12 rfl, bc_ BK101 13 rfl, bc_ BK101 14 rfl, bc_ BK101 15 rfl⟩ (fun hHeld => ?_)
  clear hK K
  refine later_ (fun w' => w'.cell? ⟨gb101, 0, none⟩ = some (.int .i64 a0_0) ∧ w'.cell? ⟨gb101, 1, none⟩ = some (.int .i64 a0_1) ∧ w'.cell? ⟨gb101, 2, none⟩ = some (.int .i64 a0_2) ∧ w'.cell? ⟨gb101, 3, none⟩ = some (.int .i64 a0_3) ∧ w'.cell? ⟨gb101, 4, none⟩ = some (.int .i64 a0_4) ∧ w'.cell? ⟨gb101, 5, none⟩ = some (.bool a0_5) ∧ w'.cell? ⟨gb101, 6, none⟩ = some (.int .i64 a0_6) ∧ w'.cell? ⟨gb101, 7, none⟩ = some (.int .i64 a0_7) ∧ w'.cell? ⟨gb101, 8, none⟩ = some (.bool a0_8) ∧ w'.cell? ⟨gb101, 9, none⟩ = some (.int .i64 a0_9) ∧ w'.cell? ⟨gb101, 10, none⟩ = some (.int .i64 a0_10) ∧ w'.cell? ⟨gb101, 11, none⟩ = some (.bool a0_11) ∧ w'.cell? ⟨gb101, 12, none⟩ = some (.int .i64 a0_12) ∧ w'.cell? ⟨gb101, 13, none⟩ = some (.int .i64 a0_13) ∧ w'.cell? ⟨gb101, 14, none⟩ = some (.bool a0_14) ∧ w'.cell? ⟨gb101, 15, none⟩ = some (.int .i64 a0_15) ∧ w'.cell? (ad107.add ((ji6)).toNat) = some (.string (rdOf ByteArray.empty t104 (ji6)))) (fun _ h_ => ⟨h_.1, h_.2.1, h_.2.2.1, h_.2.2.2.1, h_.2.2.2.2.1, h_.2.2.2.2.2.1, h_.2.2.2.2.2.2.1, h_.2.2.2.2.2.2.2.1, h_.2.2.2.2.2.2.2.2.1, h_.2.2.2.2.2.2.2.2.2.1, h_.2.2.2.2.2.2.2.2.2.2.1, h_.2.2.2.2.2.2.2.2.2.2.2.1, h_.2.2.2.2.2.2.2.2.2.2.2.2.1, h_.2.2.2.2.2.2.2.2.2.2.2.2.2.1, h_.2.2.2.2.2.2.2.2.2.2.2.2.2.2.1, h_.2.2.2.2.2.2.2.2.2.2.2.2.2.2.2.1⟩) ⟨bc_ BK101 0 rfl, bc_ BK101 1 rfl, bc_ BK101 2 rfl, bc_ BK101 3 rfl, bc_ BK101 4 rfl, bc_ BK101 5 rfl, bc_ BK101 6 rfl, bc_ BK101 7 rfl, bc_ BK101 8 rfl, bc_ BK101 9 rfl, bc_ BK101 10 rfl, bc_ BK101 11 rfl, bc_ BK101 12 rfl, bc_ BK101 13 rfl, bc_ BK101 14 rfl, bc_ BK101 15 rfl, hx107_0⟩ (fun hHeld => ?_)
  refine nq_ 14 ?_
  refine pq_ 7 18 (bm_ [8, 1, 2, 3]) HT_ ?_
  refine tq_ 8 19 (bm_ [11, 3]) HT_ HW_ hHeld ?_
  refine oq_ 11 (some 22) (bm_ [12, 2]) HT_ (fun K hK => ?_)
  refine gq_ Tryd.func42 #[.agg #[.int .i64 a0_3, .int .i64 a0_4, .bool a0_5]] ?_
  with_reducible refine (alert_text_api_Tick.calls a0_3 a0_4 a0_5 t108 _ A9.out).mono ?_
  rintro e w42 ⟨rfl, hb⟩
  have HS16_ := (hb.cell (World.block_lt_of_cell? _ _ (hHeld.2.2.2.2.2.2.2.2.2.2.2.2.2.2.2.2))).trans (hHeld.2.2.2.2.2.2.2.2.2.2.2.2.2.2.2.2)
  refine ⟨_, rfl, ?_⟩
  replace HO106 := Aside0.mk (Kd.R_below (by (with_reducible repeat (first | apply Kd.R_alloc | apply Kd.R_drewN | apply Kd.R_drew)); exact HO106.out) hb)
  replace BK101 := bkb_ BK101 hb rfl
  replace HB := hbs_ HB hb rfl rfl rfl rfl
  (try clear hb)
  refine hK.out _ _ ⟨bc_ BK101 0 rfl, bc_ BK101 1 rfl, bc_ BK101 2 rfl, bc_ BK101 3 rfl, bc_ BK101 4 rfl, bc_ BK101 5 rfl, bc_ BK101 6 rfl, bc_ BK101 7 rfl, bc_ BK101 8 rfl, bc_ BK101 9 rfl, bc_ BK101 10 rfl, bc_ BK101 11 rfl, bc_ BK101 12 rfl, bc_ BK101 13 rfl, bc_ BK101 14 rfl, bc_ BK101 15 rfl, HS16_⟩ (fun hHeld => ?_)
  clear hK K
  refine nq_ 22 ?_
  refine oq_ 12 (some 23) (bm_ [13, 1]) HT_ (fun K hK => ?_)
  refine Kd.R_lit_step Kd.string _ 9 ?hg (N := 23) ?hd (xs := ([(⟨#[97, 108, 101, 114, 116]⟩ : ByteArray), t103, rdOf ByteArray.empty t104 (ji6), (⟨#[97, 116]⟩ : ByteArray), t108] : List ByteArray)) (inner := [.string (⟨#[97, 108, 101, 114, 116]⟩ : ByteArray), .string t103, .string (rdOf ByteArray.empty t104 (ji6)), .string (⟨#[97, 116]⟩ : ByteArray), .string t108]) (ok := fun _ => True) (okp := fun _ => True) ?hr ?hp (fun _ hk => hk) trivial (Below.refl _ _) (Nat.le_refl _) (by simp) ?_; (case hd => rfl); (case hg => rfl); (case hr => first | (go_simp; done) | (go_simp; rfl)); (case hp => exact (Reps.one (show Kd.M Kd.string _ _ _ (⟨#[97, 108, 101, 114, 116]⟩ : ByteArray) [.string (⟨#[97, 108, 101, 114, 116]⟩ : ByteArray)] from rfl) (Reps.one (show Kd.M Kd.string _ _ _ t103 [.string t103] from rfl) (Reps.one (show Kd.M Kd.string _ _ _ (rdOf ByteArray.empty t104 (ji6)) [.string (rdOf ByteArray.empty t104 (ji6))] from rfl) (Reps.one (show Kd.M Kd.string _ _ _ (⟨#[97, 116]⟩ : ByteArray) [.string (⟨#[97, 116]⟩ : ByteArray)] from rfl) (Reps.one (show Kd.M Kd.string _ _ _ t108 [.string t108] from rfl) (Reps.none _ _)))))))
  intro v110 w43 ho44 hb hg_ hnew_
  have HS16_ := (hb.cell (World.block_lt_of_cell? _ _ (hHeld.2.2.2.2.2.2.2.2.2.2.2.2.2.2.2.2))).trans (hHeld.2.2.2.2.2.2.2.2.2.2.2.2.2.2.2.2)
  clear hg_ hnew_
  (first | rw [← Ny109.out] at ho44 | (simp only [Int.reduceToNat] at ho44; rw [← Ny109.out] at ho44))
  have HO111 := Aside0.mk (Kd.R_lower (Kd.R_new' ho44 (Kd.R_lt (by (with_reducible repeat (first | apply Kd.R_alloc | apply Kd.R_drewN | apply Kd.R_drew)); exact HO106.out))) (below_size (by repeat (first | (with_reducible first | exact HB.out | apply below_alloc | apply pw_below_drewN | apply below_drew1 | refine below_set ?_ GE101.out) | exact HB.out))))
  replace HO106 := Aside0.mk (Kd.R_elder' (by (with_reducible repeat (first | apply Kd.R_alloc | apply Kd.R_drewN | apply Kd.R_drew)); exact HO106.out) (Kd.R_base ho44) hb)
  replace BK101 := bkb_ BK101 hb rfl
  replace HB := hbs_ HB hb rfl rfl rfl rfl
  clear hb ho44
  refine hK.out _ _ ⟨bc_ BK101 0 rfl, bc_ BK101 1 rfl, bc_ BK101 2 rfl, bc_ BK101 3 rfl, bc_ BK101 4 rfl, bc_ BK101 5 rfl, bc_ BK101 6 rfl, bc_ BK101 7 rfl, bc_ BK101 8 rfl, bc_ BK101 9 rfl, bc_ BK101 10 rfl, bc_ BK101 11 rfl, bc_ BK101 12 rfl, bc_ BK101 13 rfl, bc_ BK101 14 rfl, bc_ BK101 15 rfl, HS16_⟩ (fun hHeld => ?_)
  clear hK K
  refine nq_ 23 ?_
  refine pq_ 13 5 (bm_ [14]) HT_ ?_
  refine done_ (done_of HT_.out (by kernel_rfl)) ?_
  have hcz45_0 := bc_ BK101 0 rfl
  have hcz45_1 := bc_ BK101 1 rfl
  have hcz45_2 := bc_ BK101 2 rfl
  have hcz45_3 := bc_ BK101 3 rfl
  have hcz45_4 := bc_ BK101 4 rfl
  have hcz45_5 := bc_ BK101 5 rfl
  have hcz45_6 := bc_ BK101 6 rfl
  have hcz45_7 := bc_ BK101 7 rfl
  have hcz45_8 := bc_ BK101 8 rfl
  have hcz45_9 := bc_ BK101 9 rfl
  have hcz45_10 := bc_ BK101 10 rfl
  have hcz45_11 := bc_ BK101 11 rfl
  have hcz45_12 := bc_ BK101 12 rfl
  have hcz45_13 := bc_ BK101 13 rfl
  have hcz45_14 := bc_ BK101 14 rfl
  have hcz45_15 := bc_ BK101 15 rfl
  have hfz45_0 := blk_frozen BK101.out 0
  have hfz45_1 := blk_frozen BK101.out 1
  have hfz45_2 := blk_frozen BK101.out 2
  have hfz45_3 := blk_frozen BK101.out 3
  have hfz45_4 := blk_frozen BK101.out 4
  have hfz45_5 := blk_frozen BK101.out 5
  have hfz45_6 := blk_frozen BK101.out 6
  have hfz45_7 := blk_frozen BK101.out 7
  have hfz45_8 := blk_frozen BK101.out 8
  have hfz45_9 := blk_frozen BK101.out 9
  have hfz45_10 := blk_frozen BK101.out 10
  have hfz45_11 := blk_frozen BK101.out 11
  have hfz45_12 := blk_frozen BK101.out 12
  have hfz45_13 := blk_frozen BK101.out 13
  have hfz45_14 := blk_frozen BK101.out 14
  have hfz45_15 := blk_frozen BK101.out 15
  try go_wp2
  replace HO106 := Aside0.mk (Kd.R_drew HO106.out)
  replace HO111 := Aside0.mk (Kd.R_drew HO111.out)
  replace BK101 := Aside0.mk (blk_drew BK101.out)
  replace HB := Aside0.mk (below_drew1 HB.out)
  refine start_ (n := 16) (S := fun w' => w'.cell? ⟨gb101, 0, none⟩ = some (.int .i64 a0_0) ∧ w'.cell? ⟨gb101, 1, none⟩ = some (.int .i64 a0_1) ∧ w'.cell? ⟨gb101, 2, none⟩ = some (.int .i64 a0_2) ∧ w'.cell? ⟨gb101, 3, none⟩ = some (.int .i64 a0_3) ∧ w'.cell? ⟨gb101, 4, none⟩ = some (.int .i64 a0_4) ∧ w'.cell? ⟨gb101, 5, none⟩ = some (.bool a0_5) ∧ w'.cell? ⟨gb101, 6, none⟩ = some (.int .i64 a0_6) ∧ w'.cell? ⟨gb101, 7, none⟩ = some (.int .i64 a0_7) ∧ w'.cell? ⟨gb101, 8, none⟩ = some (.bool a0_8) ∧ w'.cell? ⟨gb101, 9, none⟩ = some (.int .i64 a0_9) ∧ w'.cell? ⟨gb101, 10, none⟩ = some (.int .i64 a0_10) ∧ w'.cell? ⟨gb101, 11, none⟩ = some (.bool a0_11) ∧ w'.cell? ⟨gb101, 12, none⟩ = some (.int .i64 a0_12) ∧ w'.cell? ⟨gb101, 13, none⟩ = some (.int .i64 a0_13) ∧ w'.cell? ⟨gb101, 14, none⟩ = some (.bool a0_14) ∧ w'.cell? ⟨gb101, 15, none⟩ = some (.int .i64 a0_15)) (ds := []) (bm_ [0, 16]) (by kernel_rfl) rfl rfl ⟨bc_ BK101 0 rfl, bc_ BK101 1 rfl, bc_ BK101 2 rfl, bc_ BK101 3 rfl, bc_ BK101 4 rfl, bc_ BK101 5 rfl, bc_ BK101 6 rfl, bc_ BK101 7 rfl, bc_ BK101 8 rfl, bc_ BK101 9 rfl, bc_ BK101 10 rfl, bc_ BK101 11 rfl, bc_ BK101 12 rfl, bc_ BK101 13 rfl, bc_ BK101 14 rfl, bc_ BK101 15 rfl⟩ (fun hHeld => ?_); refine with_tabW alert_Text.tab7 alert_Text.bits7 (fun HT_ HW_ => ?_)
  generalize w43.drew = w46 at HO106 HO111 BK101 HB hHeld ⊢
  refine pq_ 0 33 (bm_ [1, 15]) HT_ ?_
  refine pq_ 1 34 (bm_ [2, 14]) HT_ ?_
  refine pq_ 4 37 (bm_ [2, 2, 1, 11]) HT_ ?_
  refine pq_ 7 40 (bm_ [2, 2, 1, 2, 1, 8]) HT_ ?_
  refine pq_ 10 43 (bm_ [2, 2, 1, 2, 1, 2, 1, 5]) HT_ ?_
  refine tq_ 2 35 (bm_ [3, 1, 1, 2, 1, 2, 1, 5]) HT_ HW_ hHeld ?_
  refine tq_ 5 38 (bm_ [3, 1, 2, 1, 1, 2, 1, 5]) HT_ HW_ hHeld ?_
  refine tq_ 8 41 (bm_ [3, 1, 2, 1, 2, 1, 1, 5]) HT_ HW_ hHeld ?_
  refine tq_ 11 44 (bm_ [3, 1, 2, 1, 2, 1, 2, 4]) HT_ HW_ hHeld ?_
  refine oq_ 3 (some 36) (bm_ [6, 1, 2, 1, 2, 4]) HT_ (fun K hK => ?_)
  refine gq_ Tryd.func40 #[.int .i64 a0_2] ?_
  with_reducible refine (strconv_Itoa_40.calls a0_2 t120 _ A30.out).mono ?_
  rintro e w' ⟨rfl, ⟨nd, rfl⟩⟩
  refine ⟨_, rfl, ?_⟩
  refine hK.out _ _ ⟨bc_ BK101 0 rfl, bc_ BK101 1 rfl, bc_ BK101 2 rfl, bc_ BK101 3 rfl, bc_ BK101 4 rfl, bc_ BK101 5 rfl, bc_ BK101 6 rfl, bc_ BK101 7 rfl, bc_ BK101 8 rfl, bc_ BK101 9 rfl, bc_ BK101 10 rfl, bc_ BK101 11 rfl, bc_ BK101 12 rfl, bc_ BK101 13 rfl, bc_ BK101 14 rfl, bc_ BK101 15 rfl⟩ (fun hHeld => ?_)
  clear hK K
  refine nq_ 36 ?_
  refine oq_ 6 (some 39) (bm_ [9, 1, 2, 4]) HT_ (fun K hK => ?_)
  refine gq_ Tryd.func43 #[.agg #[.int .i64 a0_6, .int .i64 a0_7, .bool a0_8]] ?_
  with_reducible refine (alert_text_api_Arc.calls a0_6 a0_7 a0_8 t121 _ A31.out).mono ?_
  rintro e w47 ⟨rfl, hb⟩
  refine ⟨_, rfl, ?_⟩
  replace HO106 := Aside0.mk (Kd.R_below (by (with_reducible repeat (first | apply Kd.R_alloc | apply Kd.R_drewN | apply Kd.R_drew)); exact HO106.out) hb)
  replace HO111 := Aside0.mk (Kd.R_below (by (with_reducible repeat (first | apply Kd.R_alloc | apply Kd.R_drewN | apply Kd.R_drew)); exact HO111.out) hb)
  replace BK101 := bkb_ BK101 hb rfl
  replace HB := hbs_ HB hb rfl rfl rfl rfl
  (try clear hb)
  refine hK.out _ _ ⟨bc_ BK101 0 rfl, bc_ BK101 1 rfl, bc_ BK101 2 rfl, bc_ BK101 3 rfl, bc_ BK101 4 rfl, bc_ BK101 5 rfl, bc_ BK101 6 rfl, bc_ BK101 7 rfl, bc_ BK101 8 rfl, bc_ BK101 9 rfl, bc_ BK101 10 rfl, bc_ BK101 11 rfl, bc_ BK101 12 rfl, bc_ BK101 13 rfl, bc_ BK101 14 rfl, bc_ BK101 15 rfl⟩ (fun hHeld => ?_)
  clear hK K
  refine nq_ 39 ?_
  refine oq_ 9 (some 42) (bm_ [12, 4]) HT_ (fun K hK => ?_)
  refine gq_ Tryd.func43 #[.agg #[.int .i64 a0_9, .int .i64 a0_10, .bool a0_11]] ?_
  with_reducible refine (alert_text_api_Arc.calls a0_9 a0_10 a0_11 t122 _ A32.out).mono ?_
  rintro e w48 ⟨rfl, hb⟩
  refine ⟨_, rfl, ?_⟩
  replace HO106 := Aside0.mk (Kd.R_below (by (with_reducible repeat (first | apply Kd.R_alloc | apply Kd.R_drewN | apply Kd.R_drew)); exact HO106.out) hb)
  replace HO111 := Aside0.mk (Kd.R_below (by (with_reducible repeat (first | apply Kd.R_alloc | apply Kd.R_drewN | apply Kd.R_drew)); exact HO111.out) hb)
  replace BK101 := bkb_ BK101 hb rfl
  replace HB := hbs_ HB hb rfl rfl rfl rfl
  (try clear hb)
  refine hK.out _ _ ⟨bc_ BK101 0 rfl, bc_ BK101 1 rfl, bc_ BK101 2 rfl, bc_ BK101 3 rfl, bc_ BK101 4 rfl, bc_ BK101 5 rfl, bc_ BK101 6 rfl, bc_ BK101 7 rfl, bc_ BK101 8 rfl, bc_ BK101 9 rfl, bc_ BK101 10 rfl, bc_ BK101 11 rfl, bc_ BK101 12 rfl, bc_ BK101 13 rfl, bc_ BK101 14 rfl, bc_ BK101 15 rfl⟩ (fun hHeld => ?_)
  clear hK K
  refine nq_ 42 ?_
  refine oq_ 12 (some 45) (bm_ [13, 3]) HT_ (fun K hK => ?_)
  refine gq_ Tryd.func44 #[.agg #[.int .i64 a0_12, .int .i64 a0_13, .bool a0_14]] ?_
  with_reducible refine (alert_text_api_Quanta.calls a0_12 a0_13 a0_14 t123 _ A33.out).mono ?_
  rintro e w49 ⟨rfl, hb⟩
  refine ⟨_, rfl, ?_⟩
  replace HO106 := Aside0.mk (Kd.R_below (by (with_reducible repeat (first | apply Kd.R_alloc | apply Kd.R_drewN | apply Kd.R_drew)); exact HO106.out) hb)
  replace HO111 := Aside0.mk (Kd.R_below (by (with_reducible repeat (first | apply Kd.R_alloc | apply Kd.R_drewN | apply Kd.R_drew)); exact HO111.out) hb)
  replace BK101 := bkb_ BK101 hb rfl
  replace HB := hbs_ HB hb rfl rfl rfl rfl
  (try clear hb)
  refine hK.out _ _ ⟨bc_ BK101 0 rfl, bc_ BK101 1 rfl, bc_ BK101 2 rfl, bc_ BK101 3 rfl, bc_ BK101 4 rfl, bc_ BK101 5 rfl, bc_ BK101 6 rfl, bc_ BK101 7 rfl, bc_ BK101 8 rfl, bc_ BK101 9 rfl, bc_ BK101 10 rfl, bc_ BK101 11 rfl, bc_ BK101 12 rfl, bc_ BK101 13 rfl, bc_ BK101 14 rfl, bc_ BK101 15 rfl⟩ (fun hHeld => ?_)
  clear hK K
  refine nq_ 45 ?_
  refine oq_ 13 (some 46) (bm_ [14, 2]) HT_ (fun K hK => ?_)
  refine Kd.R_lit_step Kd.string _ 9 ?hg (N := 46) ?hd (xs := ([(⟨#[111, 98, 106, 101, 99, 116]⟩ : ByteArray), t120, (⟨#[114, 97]⟩ : ByteArray), t121, (⟨#[100, 101, 99]⟩ : ByteArray), t122, (⟨#[102, 108, 117, 120]⟩ : ByteArray), t123] : List ByteArray)) (inner := [.string (⟨#[111, 98, 106, 101, 99, 116]⟩ : ByteArray), .string t120, .string (⟨#[114, 97]⟩ : ByteArray), .string t121, .string (⟨#[100, 101, 99]⟩ : ByteArray), .string t122, .string (⟨#[102, 108, 117, 120]⟩ : ByteArray), .string t123]) (ok := fun _ => True) (okp := fun _ => True) ?hr ?hp (fun _ hk => hk) trivial (Below.refl _ _) (Nat.le_refl _) (by simp) ?_; (case hd => rfl); (case hg => rfl); (case hr => first | (go_simp; done) | (go_simp; rfl)); (case hp => exact (Reps.one (show Kd.M Kd.string _ _ _ (⟨#[111, 98, 106, 101, 99, 116]⟩ : ByteArray) [.string (⟨#[111, 98, 106, 101, 99, 116]⟩ : ByteArray)] from rfl) (Reps.one (show Kd.M Kd.string _ _ _ t120 [.string t120] from rfl) (Reps.one (show Kd.M Kd.string _ _ _ (⟨#[114, 97]⟩ : ByteArray) [.string (⟨#[114, 97]⟩ : ByteArray)] from rfl) (Reps.one (show Kd.M Kd.string _ _ _ t121 [.string t121] from rfl) (Reps.one (show Kd.M Kd.string _ _ _ (⟨#[100, 101, 99]⟩ : ByteArray) [.string (⟨#[100, 101, 99]⟩ : ByteArray)] from rfl) (Reps.one (show Kd.M Kd.string _ _ _ t122 [.string t122] from rfl) (Reps.one (show Kd.M Kd.string _ _ _ (⟨#[102, 108, 117, 120]⟩ : ByteArray) [.string (⟨#[102, 108, 117, 120]⟩ : ByteArray)] from rfl) (Reps.one (show Kd.M Kd.string _ _ _ t123 [.string t123] from rfl) (Reps.none _ _))))))))))
  intro v125 w50 ho51 hb hg_ hnew_
  clear hg_ hnew_
  (first | rw [← Ny124.out] at ho51 | (simp only [Int.reduceToNat] at ho51; rw [← Ny124.out] at ho51))
  have HO126 := Aside0.mk (Kd.R_lower (Kd.R_new' (Kd.R_new' ho51 (Kd.R_lt (by (with_reducible repeat (first | apply Kd.R_alloc | apply Kd.R_drewN | apply Kd.R_drew)); exact HO106.out))) (Kd.R_lt (by (with_reducible repeat (first | apply Kd.R_alloc | apply Kd.R_drewN | apply Kd.R_drew)); exact HO111.out))) (below_size (by repeat (first | (with_reducible first | exact HB.out | apply below_alloc | apply pw_below_drewN | apply below_drew1 | refine below_set ?_ GE101.out) | exact HB.out))))
  replace HO106 := Aside0.mk (Kd.R_elder' (by (with_reducible repeat (first | apply Kd.R_alloc | apply Kd.R_drewN | apply Kd.R_drew)); exact HO106.out) (Kd.R_base ho51) hb)
  replace HO111 := Aside0.mk (Kd.R_elder' (by (with_reducible repeat (first | apply Kd.R_alloc | apply Kd.R_drewN | apply Kd.R_drew)); exact HO111.out) (Kd.R_base ho51) hb)
  replace BK101 := bkb_ BK101 hb rfl
  replace HB := hbs_ HB hb rfl rfl rfl rfl
  clear hb ho51
  obtain ⟨Ao53, co53, eo53⟩ := Kd.R_slice HO126.out
  (first | subst eo53 | (injection eo53 with f1_ f2_ f3_; have f4_ := f1_.symm; have f5_ := f3_.symm; clear f1_ f2_ f3_; subst f4_; subst f5_))
  refine hK.out _ _ ⟨bc_ BK101 0 rfl, bc_ BK101 1 rfl, bc_ BK101 2 rfl, bc_ BK101 3 rfl, bc_ BK101 4 rfl, bc_ BK101 5 rfl, bc_ BK101 6 rfl, bc_ BK101 7 rfl, bc_ BK101 8 rfl, bc_ BK101 9 rfl, bc_ BK101 10 rfl, bc_ BK101 11 rfl, bc_ BK101 12 rfl, bc_ BK101 13 rfl, bc_ BK101 14 rfl, bc_ BK101 15 rfl⟩ (fun hHeld => ?_)
  clear hK K
  refine nq_ 46 ?_
  refine oq_ 14 (some 47) (bm_ [15, 1]) HT_ (fun K hK => ?_)
  refine Kd.R_append_rows_step Kd.string (w0 := w) w.heap.size (by rfl) (.tmp 33) (.tmp 46) 77 9 (.string ⟨#[]⟩) 16 rfl Tryd.underlying77 info9 rfl (by decide) (by omega) v110 y109 y124 _ _ _ (fun k_ => some k_ ≠ (.slice (some ad107) t104.length co41 : Value).ownBlock ∧ some k_ ≠ (.slice Ao53 y124.length co53 : Value).ownBlock) (fun _ => False) rfl rfl ?aO ?aR (fun _ _ h => h) (fun _ h => h.elim) ?aF ?aB ?aS ?aL ?_
  (case aR => repeat (first | exact (Kd.R_reads' HO126.out).2.2 | (with_reducible refine Kd.C_alloc ?_ _) | (with_reducible refine Kd.C_drewN ?_ _) | (with_reducible refine Kd.C_drew ?_)))
  (case aB => exact (by repeat (first | (with_reducible first | exact HB.out | apply below_alloc | apply pw_below_drewN | apply below_drew1 | refine below_set ?_ GE101.out) | exact HB.out)))
  (case aF => exact (fun k_ hk => ⟨Kd.fresh' (Kd.R_lt (by (with_reducible repeat (first | apply Kd.R_alloc | apply Kd.R_drewN | apply Kd.R_drew)); exact HO106.out)) k_ hk, Kd.fresh' (Kd.R_lt (by (with_reducible repeat (first | apply Kd.R_alloc | apply Kd.R_drewN | apply Kd.R_drew)); exact HO126.out)) k_ hk⟩))
  (case aO => exact (by (with_reducible repeat (first | apply Kd.R_alloc | apply Kd.R_drewN | apply Kd.R_drew)); exact Kd.R_mono HO111.out (fun _ hk => ⟨hk.1.2, hk.2⟩)))
  (case aS => exact (below_size (by repeat (first | (with_reducible first | exact HB.out | apply below_alloc | apply pw_below_drewN | apply below_drew1 | refine below_set ?_ GE101.out) | exact HB.out))))
  (case aL => have := LMc34.out; omega)
  intro v128 w52 ho hb hg hat
  rw [← Ny127.out] at ho
  have HO129 := Aside0.mk (ho)
  replace BK101 := Aside0.mk (blk_grown (g := gb101) (o := .cells #[.int .i64 a0_0, .int .i64 a0_1, .int .i64 a0_2, .int .i64 a0_3, .int .i64 a0_4, .bool a0_5, .int .i64 a0_6, .int .i64 a0_7, .bool a0_8, .int .i64 a0_9, .int .i64 a0_10, .bool a0_11, .int .i64 a0_12, .int .i64 a0_13, .bool a0_14, .int .i64 a0_15] 36 (0, 0)) BK101.out hg (Kd.R_ne HO111.out BK101.out (by decide)))
  replace HO106 := Aside0.mk (Kd.R_after (ok := (fun k_ => some k_ ≠ (.slice Ao53 y124.length co53 : Value).ownBlock)) (by (with_reducible repeat (first | apply Kd.R_alloc | apply Kd.R_drewN | apply Kd.R_drew)); exact Kd.R_mono HO106.out (fun _ hk => ⟨hk.2, hk.1.2⟩)) hg hat)
  replace HO126 := Aside0.mk (Kd.R_after (ok := (fun k_ => some k_ ≠ (.slice (some ad107) t104.length co41 : Value).ownBlock)) (by (with_reducible repeat (first | apply Kd.R_alloc | apply Kd.R_drewN | apply Kd.R_drew)); exact Kd.R_mono HO126.out (fun _ hk => ⟨hk.1.2, hk.2⟩)) hg hat)
  replace HB := Aside0.mk (hb)
  clear HO111
  clear ho hb hg hat
  refine hK.out _ _ ⟨bc_ BK101 0 rfl, bc_ BK101 1 rfl, bc_ BK101 2 rfl, bc_ BK101 3 rfl, bc_ BK101 4 rfl, bc_ BK101 5 rfl, bc_ BK101 6 rfl, bc_ BK101 7 rfl, bc_ BK101 8 rfl, bc_ BK101 9 rfl, bc_ BK101 10 rfl, bc_ BK101 11 rfl, bc_ BK101 12 rfl, bc_ BK101 13 rfl, bc_ BK101 14 rfl, bc_ BK101 15 rfl⟩ (fun hHeld => ?_)
  clear hK K
  refine nq_ 47 ?_
  refine pq_ 15 5 (bm_ [16]) HT_ ?_
  refine done_ (done_of HT_.out (by kernel_rfl)) ?_
  obtain ⟨Ao54, co54, eo54⟩ := Kd.R_slice HO129.out
  subst eo54
  try go_wp2_with (first | ((with_reducible refine gate_callee (f := 45) rfl ?_); refine glq_ (some 49) Tryd.func45 #[.slice Ao54 y127.length co54, .string (⟨#[32]⟩ : ByteArray)] ?_; (with_reducible refine (strings_Join.calls _ _ y127 (⟨#[32]⟩ : ByteArray) t130 _ ?side1 ?side2 A35.out).mono ?_); (case side1 => repeat (first | exact (Kd.R_reads' HO129.out).2.2 | (with_reducible refine Kd.C_alloc ?_ _) | (with_reducible refine Kd.C_drewN ?_ _) | (with_reducible refine Kd.C_drew ?_))); (case side2 => exact (Kd.R_reads' HO129.out).2.1); rintro e w55 ⟨rfl, hb⟩; refine ⟨_, rfl, ?_⟩; replace HO106 := Aside0.mk (Kd.R_below (by (with_reducible repeat (first | apply Kd.R_alloc | apply Kd.R_drewN | apply Kd.R_drew)); exact HO106.out) hb); replace HO126 := Aside0.mk (Kd.R_below (by (with_reducible repeat (first | apply Kd.R_alloc | apply Kd.R_drewN | apply Kd.R_drew)); exact HO126.out) hb); replace HO129 := Aside0.mk (Kd.R_below (by (with_reducible repeat (first | apply Kd.R_alloc | apply Kd.R_drewN | apply Kd.R_drew)); exact HO129.out) hb); replace BK101 := bkb_ BK101 hb rfl; replace HB := hbs_ HB hb rfl rfl rfl rfl; (try clear hb)))
  go_ret2
  exact ⟨by first | rfl | (simp [errW_none, errW_some] <;> rfl) | (simp only [← hji6]; first | rfl | (simp [errW_none, errW_some] <;> rfl)) | (simp [*, errW_none, errW_some] <;> rfl), by repeat (first | (with_reducible first | exact HB.out | apply below_alloc | apply pw_below_drewN | apply below_drew1 | refine below_set ?_ GE101.out) | exact HB.out)⟩

/-! ### alert_Sum: function 25 -/
mutual
def alert_Sum.l0 : Nat → Int → List Int → Int → Int → Option (Int)
 | 0, _, _, _, _ => none
 | k + 1, x3, x6, x7, x8 => if x8 < x7 then (if 0 ≤ x8 then (if x8 < (x6.length : Int) then (alert_Sum.l1 k (Go.bits .xor .u32 x3 ((rd x6 x8) % 4294967296)) x6 x7 x8 0) else (none)) else (none)) else (some (Go.bits .xor .u32 IntKind.u32.max x3))
def alert_Sum.l1 : Nat → Int → List Int → Int → Int → Int → Option (Int)
 | 0, _, _, _, _, _ => none
 | k + 1, x3, x6, x7, x8, x16 => if x16 < 8 then (if (Go.bits .and .u32 x3 1) = 1 then (alert_Sum.l1 k (Go.bits .xor .u32 (x3 / 2) 3988292384) x6 x7 x8 (wrap64 (x16 + 1))) else (alert_Sum.l1 k (x3 / 2) x6 x7 x8 (wrap64 (x16 + 1)))) else (alert_Sum.l0 k x3 x6 x7 (wrap64 (x8 + 1)))
end
def alert_Sum.f (k : Nat) (l0 : List Int) : Option (Int) := alert_Sum.l0 k 4294967295 l0 (l0.length : Int) 0
theorem alert_Sum.mono_l : ∀ k, (∀ y0 y1 y2 y3, LeO (alert_Sum.l0 k y0 y1 y2 y3) (alert_Sum.l0 (k + 1) y0 y1 y2 y3)) ∧ (∀ y0 y1 y2 y3 y4, LeO (alert_Sum.l1 k y0 y1 y2 y3 y4) (alert_Sum.l1 (k + 1) y0 y1 y2 y3 y4))
 | 0 => ⟨fun _ _ _ _ r h => by simp [alert_Sum.l0] at h, fun _ _ _ _ _ r h => by simp [alert_Sum.l1] at h⟩
 | k + 1 => by
  obtain ⟨ih0, ih1⟩ := alert_Sum.mono_l k
  refine ⟨?_, ?_⟩
  · intro y0 y1 y2 y3
    unfold alert_Sum.l0
    repeat' first
    | (with_reducible exact ih0 _ _ _ _)
    | (with_reducible exact ih1 _ _ _ _ _)
    | (with_reducible exact LeO.refl _)
    | (with_reducible exact LeO.none _)
    | (with_reducible refine LeO.ite ?_ ?_)
    | (with_reducible refine LeO.bind ?_ (fun _ => ?_))
    | exact ih0 _ _ _ _
    | exact ih1 _ _ _ _ _
    | exact LeO.none _
    | refine LeO.ite ?_ ?_
    | refine LeO.bind ?_ (fun _ => ?_)
  · intro y0 y1 y2 y3 y4
    unfold alert_Sum.l1
    repeat' first
    | (with_reducible exact ih0 _ _ _ _)
    | (with_reducible exact ih1 _ _ _ _ _)
    | (with_reducible exact LeO.refl _)
    | (with_reducible exact LeO.none _)
    | (with_reducible refine LeO.ite ?_ ?_)
    | (with_reducible refine LeO.bind ?_ (fun _ => ?_))
    | exact ih0 _ _ _ _
    | exact ih1 _ _ _ _ _
    | exact LeO.none _
    | refine LeO.ite ?_ ?_
    | refine LeO.bind ?_ (fun _ => ?_)
theorem alert_Sum.mono : ∀ a0 k, LeO (alert_Sum.f k a0) (alert_Sum.f (k + 1) a0) := by
 intro a0 k
 obtain ⟨ih0, ih1⟩ := alert_Sum.mono_l k
 unfold alert_Sum.f
 repeat' first
  | (with_reducible exact ih0 _ _ _ _)
  | (with_reducible exact ih1 _ _ _ _ _)
  | (with_reducible exact LeO.refl _)
  | (with_reducible exact LeO.none _)
  | (with_reducible refine LeO.ite ?_ ?_)
  | (with_reducible refine LeO.bind ?_ (fun _ => ?_))
  | exact ih0 _ _ _ _
  | exact ih1 _ _ _ _ _
  | exact LeO.none _
  | refine LeO.ite ?_ ?_
  | refine LeO.bind ?_ (fun _ => ?_)
set_option maxHeartbeats 8000000 in
set_option maxRecDepth 100000 in
theorem alert_Sum.calls (k : Nat) (A0 : Option Addr) (c0 : Nat) (l0 : List Int) (r : Int) (w : World) (hr0 : Kd.C (Kd.int .u8) w A0 l0.length l0) (hc0 : l0.length ≤ c0) (h : alert_Sum.f k l0 = some r) :
 Calls Tryd.prog 25 #[.slice A0 l0.length c0] w fun e w' => e = .returned (.int .u32 r) ∧ Drawn0 w w' := by
  have HR0 := Aside0.mk hr0
  have HC0 := Aside0.mk hc0
  clear hr0 hc0
  have H : (alert_Sum.l0 k 4294967295 l0 (l0.length : Int) 0) = some r := h
  clear h
  have H' := Aside0.mk H
  clear H
  go_enter Tryd.func25, Tryd.ntmps25
  go_wp2
  go_loopg [3, 8] k (fun kq v3 v8 w' => ∃ (x3_1 : Int) (x8_1 : Int), v3 = .int .u32 x3_1 ∧ v8 = .int .i64 x8_1 ∧ Aside0 (alert_Sum.l0 kq x3_1 l0 (l0.length : Int) x8_1 = some r) ∧ Aside0 (kq ≤ k) ∧ Drawn0 w w')
  case atStart => exact ⟨(4294967295), (0), (by first | rfl | (simp; done) | (simp [*]; done)), (by first | rfl | (simp; done) | (simp [*]; done)), H', ⟨Nat.le_refl _⟩, by repeat (first | exact Drawn0.refl _ | apply Drawn0.step)⟩
  case round =>
   clear H'
   obtain ⟨x3_1, x8_1, rfl, rfl, HA, HK1, ⟨m1, rfl⟩⟩ := hrel
   cases gk with
   | zero => exact absurd HA.out (by simp [alert_Sum.l0])
   | succ k1 =>
    have H := HA.out
    clear HA
    simp only [alert_Sum.l0] at H
    by_cases c2 : x8_1 < (l0.length : Int)
    rotate_left
    · rw [if_neg c2] at H
      have c2b0 : decide (x8_1 < (l0.length : Int)) = false := decide_eq_false c2
      clear c2
      obtain rfl := Option.some.inj H
      go_wp2
      go_ret
      exact ⟨by first | rfl | (simp; done) | (simp [*]; done), by repeat (first | exact Drawn0.refl _ | apply Drawn0.step)⟩
    rw [if_pos c2] at H
    have c2b0 : decide (x8_1 < (l0.length : Int)) = true := decide_eq_true c2
    clear c2
    by_cases c3 : 0 ≤ x8_1
    rotate_left
    · rw [if_neg c3] at H
      exact absurd H (by simp)
    rw [if_pos c3] at H
    have c3b0 : decide (0 ≤ x8_1) = true := decide_eq_true c3
    clear c3
    by_cases c4 : x8_1 < (l0.length : Int)
    rotate_left
    · rw [if_neg c4] at H
      exact absurd H (by simp)
    rw [if_pos c4] at H
    have c4b0 : decide (x8_1 < (l0.length : Int)) = true := decide_eq_true c4
    clear c4
    have H' := Aside0.mk H
    clear H
    have p101 : 0 ≤ (x8_1 : Int) := of_decide_eq_true (by first | (with_reducible assumption) | assumption)
    have q101 : x8_1 < (l0.length : Int) := of_decide_eq_true (by first | (with_reducible assumption) | assumption)
    obtain ⟨ad101, e101, hx101_0⟩ := Kd.at_int HR0.out x8_1 p101 q101
    cases e101
    replace p101 := eq_true p101
    replace q101 := eq_true q101
    go_wp2
    go_loopg [3, 16] k1 (fun kq v3 v16 w' => ∃ (x3_2 : Int) (x16_2 : Int), v3 = .int .u32 x3_2 ∧ v16 = .int .i64 x16_2 ∧ Aside0 (alert_Sum.l1 kq x3_2 l0 (l0.length : Int) x8_1 x16_2 = some r) ∧ Aside0 (kq ≤ k1) ∧ Drawn0 w w')
    case atStart => exact ⟨(Go.bits .xor .u32 x3_1 ((rd l0 x8_1) % 4294967296)), (0), (by first | rfl | (simp; done) | (simp [*]; done)), (by first | rfl | (simp; done) | (simp [*]; done)), H', ⟨Nat.le_refl _⟩, by repeat (first | exact Drawn0.refl _ | apply Drawn0.step)⟩
    case round =>
     clear H'
     obtain ⟨x3_2, x16_2, rfl, rfl, HA, HK2, ⟨m2, rfl⟩⟩ := hrel
     cases gk with
     | zero => exact absurd HA.out (by simp [alert_Sum.l1])
     | succ k2 =>
      have H := HA.out
      clear HA
      simp only [alert_Sum.l1] at H
      by_cases c5 : x16_2 < 8
      · rw [if_pos c5] at H
        have c5b0 : decide (x16_2 < 8) = true := decide_eq_true c5
        clear c5
        by_cases c6 : (Go.bits .and .u32 x3_2 1) = 1
        · rw [if_pos c6] at H
          have c6b0 : ((Go.bits .and .u32 x3_2 1) == 1) = true := beq_iff_eq.mpr c6
          have c6b1 : ((Go.bits .and .u32 x3_2 1) != 1) = false := bne_eq_false_iff_eq.mpr c6
          clear c6
          have H' := Aside0.mk H
          clear H
          go_wp2
          go_roundg k2
          case measure => have := HK1.out; have := HK2.out; omega
          case rel => exact ⟨(Go.bits .xor .u32 (x3_2 / 2) 3988292384), (wrap64 (x16_2 + 1)), (by first | rfl | (simp; done) | (simp [*]; done)), (by first | rfl | (simp; done) | (simp [*]; done)), H', ⟨by have := HK1.out; have := HK2.out; omega⟩, by repeat (first | exact Drawn0.refl _ | apply Drawn0.step)⟩
        rw [if_neg c6] at H
        have c6b0 : ((Go.bits .and .u32 x3_2 1) == 1) = false := beq_eq_false_iff_ne.mpr c6
        have c6b1 : ((Go.bits .and .u32 x3_2 1) != 1) = true := bne_iff_ne.mpr c6
        have H' := Aside0.mk H
        clear H
        go_wp2
        go_roundg k2
        case measure => have := HK1.out; have := HK2.out; omega
        case rel => exact ⟨(x3_2 / 2), (wrap64 (x16_2 + 1)), (by first | rfl | (simp; done) | (simp [*]; done)), (by first | rfl | (simp; done) | (simp [*]; done)), H', ⟨by have := HK1.out; have := HK2.out; omega⟩, by repeat (first | exact Drawn0.refl _ | apply Drawn0.step)⟩
      rw [if_neg c5] at H
      have c5b0 : decide (x16_2 < 8) = false := decide_eq_false c5
      clear c5
      have H' := Aside0.mk H
      clear H
      go_wp2
      go_roundg k2
      case measure => have := HK1.out; have := HK2.out; omega
      case rel => exact ⟨(x3_2), (wrap64 (x8_1 + 1)), (by first | rfl | (simp; done) | (simp [*]; done)), (by first | rfl | (simp; done) | (simp [*]; done)), H', ⟨by have := HK1.out; have := HK2.out; omega⟩, by repeat (first | exact Drawn0.refl _ | apply Drawn0.step)⟩

end Go.Proofs.YthcdbpbimmjknaaDoor.Q
