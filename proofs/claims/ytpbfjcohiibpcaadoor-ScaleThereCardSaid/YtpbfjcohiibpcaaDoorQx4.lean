/- Contracts of Go functions of the seat, one by one: each call returns what the Lean function of the same name says, wherever that is 'some'; no other condition. Written by a program of this session. -/
import Derived.Test.YtpbfjcohiibpcaaDoorQx0
import Derived.Test.YtpbfjcohiibpcaaDoorQx3
namespace Go.Proofs.YtpbfjcohiibpcaaDoor.Q
open Go.RowKit Go.Proofs.YtpbfjcohiibpcaaDoorW.PrintWords Go.Proofs.YtpbfjcohiibpcaaDoorW.PrintLast Go.Proofs.YtpbfjcohiibpcaaDoorW.PrintMore
attribute [local go_sem] max2_int min2_int max_two min_two max_three min_three max_four min_four   -- for this text's walks alone
set_option linter.unusedVariables false
set_option linter.unusedSimpArgs false

/-! ### scale_Text: function 8 -/
def scale_Text.f (k : Nat) (a0_0 : Int) (a0_1 : Int) (a0_2 : Int) (a0_3 : Int) (a0_4 : Int) (a0_5 : Int) (a0_6 : Int) : Option (ByteArray × Int) := (scale_Check.f k a0_0 a0_1 a0_2 a0_3 a0_4 a0_5 a0_6).bind fun t102 => (if t102 = 0 then ((scale_pad.f a0_0 4).bind fun t103 => (if t103.size + 1 ≤ 9223372036854775807 then ((scale_pad.f a0_1 2).bind fun t104 => (if (t103 ++ (⟨#[45]⟩ : ByteArray)).size + t104.size ≤ 9223372036854775807 then (if ((t103 ++ (⟨#[45]⟩ : ByteArray)) ++ t104).size + 1 ≤ 9223372036854775807 then ((scale_pad.f a0_2 2).bind fun t105 => (if (((t103 ++ (⟨#[45]⟩ : ByteArray)) ++ t104) ++ (⟨#[45]⟩ : ByteArray)).size + t105.size ≤ 9223372036854775807 then (if ((((t103 ++ (⟨#[45]⟩ : ByteArray)) ++ t104) ++ (⟨#[45]⟩ : ByteArray)) ++ t105).size + 1 ≤ 9223372036854775807 then ((scale_pad.f a0_3 2).bind fun t106 => (if (((((t103 ++ (⟨#[45]⟩ : ByteArray)) ++ t104) ++ (⟨#[45]⟩ : ByteArray)) ++ t105) ++ (⟨#[84]⟩ : ByteArray)).size + t106.size ≤ 9223372036854775807 then (if ((((((t103 ++ (⟨#[45]⟩ : ByteArray)) ++ t104) ++ (⟨#[45]⟩ : ByteArray)) ++ t105) ++ (⟨#[84]⟩ : ByteArray)) ++ t106).size + 1 ≤ 9223372036854775807 then ((scale_pad.f a0_4 2).bind fun t107 => (if (((((((t103 ++ (⟨#[45]⟩ : ByteArray)) ++ t104) ++ (⟨#[45]⟩ : ByteArray)) ++ t105) ++ (⟨#[84]⟩ : ByteArray)) ++ t106) ++ (⟨#[58]⟩ : ByteArray)).size + t107.size ≤ 9223372036854775807 then (if ((((((((t103 ++ (⟨#[45]⟩ : ByteArray)) ++ t104) ++ (⟨#[45]⟩ : ByteArray)) ++ t105) ++ (⟨#[84]⟩ : ByteArray)) ++ t106) ++ (⟨#[58]⟩ : ByteArray)) ++ t107).size + 1 ≤ 9223372036854775807 then ((scale_pad.f a0_5 2).bind fun t108 => (if (((((((((t103 ++ (⟨#[45]⟩ : ByteArray)) ++ t104) ++ (⟨#[45]⟩ : ByteArray)) ++ t105) ++ (⟨#[84]⟩ : ByteArray)) ++ t106) ++ (⟨#[58]⟩ : ByteArray)) ++ t107) ++ (⟨#[58]⟩ : ByteArray)).size + t108.size ≤ 9223372036854775807 then (if ((((((((((t103 ++ (⟨#[45]⟩ : ByteArray)) ++ t104) ++ (⟨#[45]⟩ : ByteArray)) ++ t105) ++ (⟨#[84]⟩ : ByteArray)) ++ t106) ++ (⟨#[58]⟩ : ByteArray)) ++ t107) ++ (⟨#[58]⟩ : ByteArray)) ++ t108).size + 1 ≤ 9223372036854775807 then ((scale_pad.f a0_6 3).bind fun t109 => (if (((((((((((t103 ++ (⟨#[45]⟩ : ByteArray)) ++ t104) ++ (⟨#[45]⟩ : ByteArray)) ++ t105) ++ (⟨#[84]⟩ : ByteArray)) ++ t106) ++ (⟨#[58]⟩ : ByteArray)) ++ t107) ++ (⟨#[58]⟩ : ByteArray)) ++ t108) ++ (⟨#[46]⟩ : ByteArray)).size + t109.size ≤ 9223372036854775807 then (some ((((((((((((t103 ++ (⟨#[45]⟩ : ByteArray)) ++ t104) ++ (⟨#[45]⟩ : ByteArray)) ++ t105) ++ (⟨#[84]⟩ : ByteArray)) ++ t106) ++ (⟨#[58]⟩ : ByteArray)) ++ t107) ++ (⟨#[58]⟩ : ByteArray)) ++ t108) ++ (⟨#[46]⟩ : ByteArray)) ++ t109, 0)) else (none))) else (none)) else (none))) else (none)) else (none))) else (none)) else (none))) else (none)) else (none))) else (none)) else (none))) else (none))) else (some ((⟨#[]⟩ : ByteArray), t102)))
theorem scale_Text.mono : ∀ a0 a1 a2 a3 a4 a5 a6 k, LeO (scale_Text.f k a0 a1 a2 a3 a4 a5 a6) (scale_Text.f (k + 1) a0 a1 a2 a3 a4 a5 a6) := by
 intro a0 a1 a2 a3 a4 a5 a6 k
 unfold scale_Text.f
 repeat' first
  | (with_reducible exact scale_Check.mono _ _ _ _ _ _ _ _)
  | (with_reducible exact LeO.refl _)
  | (with_reducible exact LeO.none _)
  | (with_reducible refine LeO.ite ?_ ?_)
  | (with_reducible refine LeO.bind ?_ (fun _ => ?_))
  | exact scale_Check.mono _ _ _ _ _ _ _ _
  | exact LeO.none _
  | refine LeO.ite ?_ ?_
  | refine LeO.bind ?_ (fun _ => ?_)
def scale_Text.T4 : Bool × List (List Nat × List Nat) := (true, [([], []), ([0], [0]), ([1], [1]), ([2], [2]), ([], []), ([4], [4]), ([5, 2], [5]), ([3, 6], [3, 6]), ([7], [7]), ([], []), ([9], [9]), ([10, 6], [10]), ([8, 11], [8, 11]), ([12], [12]), ([], []), ([14], [14]), ([15, 11], [15]), ([13, 16], [13, 16]), ([17], [17]), ([], []), ([19], [19]), ([20, 16], [20]), ([18, 21], [18, 21]), ([22], [22]), ([], []), ([24], [24]), ([25, 21], [25]), ([23, 26], [23, 26]), ([27], [27]), ([], []), ([29], [29]), ([30, 26], [30]), ([28, 31], [28, 31]), ([32, 31, 0, 1, 2, 3, 4, 5, 6, 7, 8, 9, 10, 11, 12, 13, 14, 15, 16, 17, 18, 19, 20, 21, 22, 23, 24, 25, 26, 27, 28, 29, 30, 31, 32], [32]), ([33, 0, 1, 2, 3, 4, 5, 6, 7, 8, 9, 10, 11, 12, 13, 14, 15, 16, 17, 18, 19, 20, 21, 22, 23, 24, 25, 26, 27, 28, 29, 30, 31, 32, 33], [])])
def scale_Text.B4 : List Nat := [0, 1, 3, 7, 0, 16, 55, 127, 255, 0, 512, 1655, 4095, 8191, 0, 16384, 52855, 131071, 262143, 0, 524288, 1691255, 4194303, 8388607, 0, 16777216, 54120055, 134217727, 268435455, 0, 536870912, 1731841655, 4294967295, 8589934591, 17179869183]
theorem scale_Text.tab4 : rtab .any (opsOf Tryd.f8 4) = scale_Text.T4 := by kernel_rfl
theorem scale_Text.bits4 : waitsOk scale_Text.T4.2 scale_Text.B4 = true := by kernel_rfl
set_option maxHeartbeats 8000000 in
set_option maxRecDepth 100000 in
theorem scale_Text.calls (k : Nat) (a0_0 : Int) (a0_1 : Int) (a0_2 : Int) (a0_3 : Int) (a0_4 : Int) (a0_5 : Int) (a0_6 : Int) (r1 : ByteArray) (r2 : Int) (w : World) (ht : ScTab w) (h : scale_Text.f k a0_0 a0_1 a0_2 a0_3 a0_4 a0_5 a0_6 = some (r1, r2)) :
 Calls Tryd.prog 8 #[.agg #[.int .i64 a0_0, .int .i64 a0_1, .int .i64 a0_2, .int .i64 a0_3, .int .i64 a0_4, .int .i64 a0_5, .int .i64 a0_6]] w fun e w' => e = .returned (.tuple #[.string r1, .int .i64 r2]) ∧ Below w.heap.size w w' := by
  have hu32 := Tryd.underlying32
  have HB := Aside0.mk (Below.refl w.heap.size w)
  have H : ((scale_Check.f k a0_0 a0_1 a0_2 a0_3 a0_4 a0_5 a0_6).bind fun t102 => (if t102 = 0 then ((scale_pad.f a0_0 4).bind fun t103 => (if t103.size + 1 ≤ 9223372036854775807 then ((scale_pad.f a0_1 2).bind fun t104 => (if (t103 ++ (⟨#[45]⟩ : ByteArray)).size + t104.size ≤ 9223372036854775807 then (if ((t103 ++ (⟨#[45]⟩ : ByteArray)) ++ t104).size + 1 ≤ 9223372036854775807 then ((scale_pad.f a0_2 2).bind fun t105 => (if (((t103 ++ (⟨#[45]⟩ : ByteArray)) ++ t104) ++ (⟨#[45]⟩ : ByteArray)).size + t105.size ≤ 9223372036854775807 then (if ((((t103 ++ (⟨#[45]⟩ : ByteArray)) ++ t104) ++ (⟨#[45]⟩ : ByteArray)) ++ t105).size + 1 ≤ 9223372036854775807 then ((scale_pad.f a0_3 2).bind fun t106 => (if (((((t103 ++ (⟨#[45]⟩ : ByteArray)) ++ t104) ++ (⟨#[45]⟩ : ByteArray)) ++ t105) ++ (⟨#[84]⟩ : ByteArray)).size + t106.size ≤ 9223372036854775807 then (if ((((((t103 ++ (⟨#[45]⟩ : ByteArray)) ++ t104) ++ (⟨#[45]⟩ : ByteArray)) ++ t105) ++ (⟨#[84]⟩ : ByteArray)) ++ t106).size + 1 ≤ 9223372036854775807 then ((scale_pad.f a0_4 2).bind fun t107 => (if (((((((t103 ++ (⟨#[45]⟩ : ByteArray)) ++ t104) ++ (⟨#[45]⟩ : ByteArray)) ++ t105) ++ (⟨#[84]⟩ : ByteArray)) ++ t106) ++ (⟨#[58]⟩ : ByteArray)).size + t107.size ≤ 9223372036854775807 then (if ((((((((t103 ++ (⟨#[45]⟩ : ByteArray)) ++ t104) ++ (⟨#[45]⟩ : ByteArray)) ++ t105) ++ (⟨#[84]⟩ : ByteArray)) ++ t106) ++ (⟨#[58]⟩ : ByteArray)) ++ t107).size + 1 ≤ 9223372036854775807 then ((scale_pad.f a0_5 2).bind fun t108 => (if (((((((((t103 ++ (⟨#[45]⟩ : ByteArray)) ++ t104) ++ (⟨#[45]⟩ : ByteArray)) ++ t105) ++ (⟨#[84]⟩ : ByteArray)) ++ t106) ++ (⟨#[58]⟩ : ByteArray)) ++ t107) ++ (⟨#[58]⟩ : ByteArray)).size + t108.size ≤ 9223372036854775807 then (if ((((((((((t103 ++ (⟨#[45]⟩ : ByteArray)) ++ t104) ++ (⟨#[45]⟩ : ByteArray)) ++ t105) ++ (⟨#[84]⟩ : ByteArray)) ++ t106) ++ (⟨#[58]⟩ : ByteArray)) ++ t107) ++ (⟨#[58]⟩ : ByteArray)) ++ t108).size + 1 ≤ 9223372036854775807 then ((scale_pad.f a0_6 3).bind fun t109 => (if (((((((((((t103 ++ (⟨#[45]⟩ : ByteArray)) ++ t104) ++ (⟨#[45]⟩ : ByteArray)) ++ t105) ++ (⟨#[84]⟩ : ByteArray)) ++ t106) ++ (⟨#[58]⟩ : ByteArray)) ++ t107) ++ (⟨#[58]⟩ : ByteArray)) ++ t108) ++ (⟨#[46]⟩ : ByteArray)).size + t109.size ≤ 9223372036854775807 then (some ((((((((((((t103 ++ (⟨#[45]⟩ : ByteArray)) ++ t104) ++ (⟨#[45]⟩ : ByteArray)) ++ t105) ++ (⟨#[84]⟩ : ByteArray)) ++ t106) ++ (⟨#[58]⟩ : ByteArray)) ++ t107) ++ (⟨#[58]⟩ : ByteArray)) ++ t108) ++ (⟨#[46]⟩ : ByteArray)) ++ t109, 0)) else (none))) else (none)) else (none))) else (none)) else (none))) else (none)) else (none))) else (none)) else (none))) else (none)) else (none))) else (none))) else (some ((⟨#[]⟩ : ByteArray), t102)))) = some (r1, r2) := h
  clear h
  replace H := Option.bind_eq_some_iff.mp H
  obtain ⟨t102, A20, H⟩ := H
  try dsimp -simprocs only at H
  have A2 := Aside0.mk A20
  clear A20
  by_cases c3 : t102 = 0
  rotate_left
  · rw [if_neg c3] at H
    have c3b0 : (t102 == 0) = false := beq_eq_false_iff_ne.mpr c3
    have c3b1 : (t102 != 0) = true := bne_iff_ne.mpr c3
    simp only [Option.some.injEq, Prod.mk.injEq] at H
    obtain ⟨rfl, rfl⟩ := H
    go_enter Tryd.func8, Tryd.ntmps8
    go_wp2_with (first | ((with_reducible refine gate_dst (N := 1) rfl ?_); refine bxq_ 1 #[.int .i64 a0_0, .int .i64 a0_1, .int .i64 a0_2, .int .i64 a0_3, .int .i64 a0_4, .int .i64 a0_5, .int .i64 a0_6] 32 ?_; intro gb101 hg w34 hbox hb; have BK101 := Aside0.mk (hbox); have GW101 := gwq_ HB hg rfl; have GE101 := GW101; replace HB := hbs_ HB hb rfl rfl rfl rfl; clear hb hbox hg; have hcz35_0 := bc_ BK101 0 rfl; have hcz35_1 := bc_ BK101 1 rfl; have hcz35_2 := bc_ BK101 2 rfl; have hcz35_3 := bc_ BK101 3 rfl; have hcz35_4 := bc_ BK101 4 rfl; have hcz35_5 := bc_ BK101 5 rfl; have hcz35_6 := bc_ BK101 6 rfl; have hfz35_0 := blk_frozen BK101.out 0; have hfz35_1 := blk_frozen BK101.out 1; have hfz35_2 := blk_frozen BK101.out 2; have hfz35_3 := blk_frozen BK101.out 3; have hfz35_4 := blk_frozen BK101.out 4; have hfz35_5 := blk_frozen BK101.out 5; have hfz35_6 := blk_frozen BK101.out 6) | ((with_reducible refine gate_callee (f := 18) rfl ?_); refine glq_ (some 6) Tryd.func18 #[.agg #[.int .i64 a0_0, .int .i64 a0_1, .int .i64 a0_2, .int .i64 a0_3, .int .i64 a0_4, .int .i64 a0_5, .int .i64 a0_6]] ?_; (with_reducible refine (scale_Check.calls k a0_0 a0_1 a0_2 a0_3 a0_4 a0_5 a0_6 t102 _ A2.out).mono ?_); rintro e w36 ⟨rfl, hb⟩; refine ⟨_, rfl, ?_⟩; replace BK101 := bkb_ BK101 hb rfl; replace HB := hbs_ HB hb rfl rfl rfl rfl; (try clear hb)))
    go_ret2
    exact ⟨by first | rfl | (simp [errW_none, errW_some] <;> rfl) | (simp [*, errW_none, errW_some] <;> rfl), by repeat (first | (with_reducible first | exact HB.out | apply below_alloc | apply pw_below_drewN | apply below_drew1 | refine below_set ?_ GE101.out) | exact HB.out)⟩
  rw [if_pos c3] at H
  have c3b0 : (t102 == 0) = true := beq_iff_eq.mpr c3
  have c3b1 : (t102 != 0) = false := bne_eq_false_iff_eq.mpr c3
  clear c3
  replace H := Option.bind_eq_some_iff.mp H
  obtain ⟨t103, A40, H⟩ := H
  try dsimp -simprocs only at H
  have A4 := Aside0.mk A40
  clear A40
  by_cases c5 : t103.size + 1 ≤ 9223372036854775807
  rotate_left
  · rw [if_neg c5] at H
    exact absurd H (by simp)
  rw [if_pos c5] at H
  have c5b0 := eq_true c5
  have c5b1 : decide (t103.size + 1 ≤ 9223372036854775807) = true := decide_eq_true c5
  try have c5b2 : (9223372036854775807 < t103.size + 1) = False := eq_false (Nat.not_lt.2 c5)
  replace H := Option.bind_eq_some_iff.mp H
  obtain ⟨t104, A60, H⟩ := H
  try dsimp -simprocs only at H
  have A6 := Aside0.mk A60
  clear A60
  by_cases c7 : (t103 ++ (⟨#[45]⟩ : ByteArray)).size + t104.size ≤ 9223372036854775807
  rotate_left
  · rw [if_neg c7] at H
    exact absurd H (by simp)
  rw [if_pos c7] at H
  have c7b0 := eq_true c7
  have c7b1 : decide ((t103 ++ (⟨#[45]⟩ : ByteArray)).size + t104.size ≤ 9223372036854775807) = true := decide_eq_true c7
  try have c7b2 : (9223372036854775807 < (t103 ++ (⟨#[45]⟩ : ByteArray)).size + t104.size) = False := eq_false (Nat.not_lt.2 c7)
  have c7b3 : (9223372036854775807 < t103.size + 1 + t104.size) = False := eq_false (Nat.not_lt.2 (by have h_ := c7; simp only [ByteArray.size_append] at h_; exact h_))
  by_cases c8 : ((t103 ++ (⟨#[45]⟩ : ByteArray)) ++ t104).size + 1 ≤ 9223372036854775807
  rotate_left
  · rw [if_neg c8] at H
    exact absurd H (by simp)
  rw [if_pos c8] at H
  have c8b0 := eq_true c8
  have c8b1 : decide (((t103 ++ (⟨#[45]⟩ : ByteArray)) ++ t104).size + 1 ≤ 9223372036854775807) = true := decide_eq_true c8
  try have c8b2 : (9223372036854775807 < ((t103 ++ (⟨#[45]⟩ : ByteArray)) ++ t104).size + 1) = False := eq_false (Nat.not_lt.2 c8)
  have c8b3 : (9223372036854775807 < t103.size + 1 + t104.size + 1) = False := eq_false (Nat.not_lt.2 (by have h_ := c8; simp only [ByteArray.size_append] at h_; exact h_))
  replace H := Option.bind_eq_some_iff.mp H
  obtain ⟨t105, A90, H⟩ := H
  try dsimp -simprocs only at H
  have A9 := Aside0.mk A90
  clear A90
  by_cases c10 : (((t103 ++ (⟨#[45]⟩ : ByteArray)) ++ t104) ++ (⟨#[45]⟩ : ByteArray)).size + t105.size ≤ 9223372036854775807
  rotate_left
  · rw [if_neg c10] at H
    exact absurd H (by simp)
  rw [if_pos c10] at H
  have c10b0 := eq_true c10
  have c10b1 : decide ((((t103 ++ (⟨#[45]⟩ : ByteArray)) ++ t104) ++ (⟨#[45]⟩ : ByteArray)).size + t105.size ≤ 9223372036854775807) = true := decide_eq_true c10
  try have c10b2 : (9223372036854775807 < (((t103 ++ (⟨#[45]⟩ : ByteArray)) ++ t104) ++ (⟨#[45]⟩ : ByteArray)).size + t105.size) = False := eq_false (Nat.not_lt.2 c10)
  have c10b3 : (9223372036854775807 < t103.size + 1 + t104.size + 1 + t105.size) = False := eq_false (Nat.not_lt.2 (by have h_ := c10; simp only [ByteArray.size_append] at h_; exact h_))
  by_cases c11 : ((((t103 ++ (⟨#[45]⟩ : ByteArray)) ++ t104) ++ (⟨#[45]⟩ : ByteArray)) ++ t105).size + 1 ≤ 9223372036854775807
  rotate_left
  · rw [if_neg c11] at H
    exact absurd H (by simp)
  rw [if_pos c11] at H
  have c11b0 := eq_true c11
  have c11b1 : decide (((((t103 ++ (⟨#[45]⟩ : ByteArray)) ++ t104) ++ (⟨#[45]⟩ : ByteArray)) ++ t105).size + 1 ≤ 9223372036854775807) = true := decide_eq_true c11
  try have c11b2 : (9223372036854775807 < ((((t103 ++ (⟨#[45]⟩ : ByteArray)) ++ t104) ++ (⟨#[45]⟩ : ByteArray)) ++ t105).size + 1) = False := eq_false (Nat.not_lt.2 c11)
  have c11b3 : (9223372036854775807 < t103.size + 1 + t104.size + 1 + t105.size + 1) = False := eq_false (Nat.not_lt.2 (by have h_ := c11; simp only [ByteArray.size_append] at h_; exact h_))
  replace H := Option.bind_eq_some_iff.mp H
  obtain ⟨t106, A120, H⟩ := H
  try dsimp -simprocs only at H
  have A12 := Aside0.mk A120
  clear A120
  by_cases c13 : (((((t103 ++ (⟨#[45]⟩ : ByteArray)) ++ t104) ++ (⟨#[45]⟩ : ByteArray)) ++ t105) ++ (⟨#[84]⟩ : ByteArray)).size + t106.size ≤ 9223372036854775807
  rotate_left
  · rw [if_neg c13] at H
    exact absurd H (by simp)
  rw [if_pos c13] at H
  have c13b0 := eq_true c13
  have c13b1 : decide ((((((t103 ++ (⟨#[45]⟩ : ByteArray)) ++ t104) ++ (⟨#[45]⟩ : ByteArray)) ++ t105) ++ (⟨#[84]⟩ : ByteArray)).size + t106.size ≤ 9223372036854775807) = true := decide_eq_true c13
  try have c13b2 : (9223372036854775807 < (((((t103 ++ (⟨#[45]⟩ : ByteArray)) ++ t104) ++ (⟨#[45]⟩ : ByteArray)) ++ t105) ++ (⟨#[84]⟩ : ByteArray)).size + t106.size) = False := eq_false (Nat.not_lt.2 c13)
  have c13b3 : (9223372036854775807 < t103.size + 1 + t104.size + 1 + t105.size + 1 + t106.size) = False := eq_false (Nat.not_lt.2 (by have h_ := c13; simp only [ByteArray.size_append] at h_; exact h_))
  by_cases c14 : ((((((t103 ++ (⟨#[45]⟩ : ByteArray)) ++ t104) ++ (⟨#[45]⟩ : ByteArray)) ++ t105) ++ (⟨#[84]⟩ : ByteArray)) ++ t106).size + 1 ≤ 9223372036854775807
  rotate_left
  · rw [if_neg c14] at H
    exact absurd H (by simp)
  rw [if_pos c14] at H
  have c14b0 := eq_true c14
  have c14b1 : decide (((((((t103 ++ (⟨#[45]⟩ : ByteArray)) ++ t104) ++ (⟨#[45]⟩ : ByteArray)) ++ t105) ++ (⟨#[84]⟩ : ByteArray)) ++ t106).size + 1 ≤ 9223372036854775807) = true := decide_eq_true c14
  try have c14b2 : (9223372036854775807 < ((((((t103 ++ (⟨#[45]⟩ : ByteArray)) ++ t104) ++ (⟨#[45]⟩ : ByteArray)) ++ t105) ++ (⟨#[84]⟩ : ByteArray)) ++ t106).size + 1) = False := eq_false (Nat.not_lt.2 c14)
  have c14b3 : (9223372036854775807 < t103.size + 1 + t104.size + 1 + t105.size + 1 + t106.size + 1) = False := eq_false (Nat.not_lt.2 (by have h_ := c14; simp only [ByteArray.size_append] at h_; exact h_))
  replace H := Option.bind_eq_some_iff.mp H
  obtain ⟨t107, A150, H⟩ := H
  try dsimp -simprocs only at H
  have A15 := Aside0.mk A150
  clear A150
  by_cases c16 : (((((((t103 ++ (⟨#[45]⟩ : ByteArray)) ++ t104) ++ (⟨#[45]⟩ : ByteArray)) ++ t105) ++ (⟨#[84]⟩ : ByteArray)) ++ t106) ++ (⟨#[58]⟩ : ByteArray)).size + t107.size ≤ 9223372036854775807
  rotate_left
  · rw [if_neg c16] at H
    exact absurd H (by simp)
  rw [if_pos c16] at H
  have c16b0 := eq_true c16
  have c16b1 : decide ((((((((t103 ++ (⟨#[45]⟩ : ByteArray)) ++ t104) ++ (⟨#[45]⟩ : ByteArray)) ++ t105) ++ (⟨#[84]⟩ : ByteArray)) ++ t106) ++ (⟨#[58]⟩ : ByteArray)).size + t107.size ≤ 9223372036854775807) = true := decide_eq_true c16
  try have c16b2 : (9223372036854775807 < (((((((t103 ++ (⟨#[45]⟩ : ByteArray)) ++ t104) ++ (⟨#[45]⟩ : ByteArray)) ++ t105) ++ (⟨#[84]⟩ : ByteArray)) ++ t106) ++ (⟨#[58]⟩ : ByteArray)).size + t107.size) = False := eq_false (Nat.not_lt.2 c16)
  have c16b3 : (9223372036854775807 < t103.size + 1 + t104.size + 1 + t105.size + 1 + t106.size + 1 + t107.size) = False := eq_false (Nat.not_lt.2 (by have h_ := c16; simp only [ByteArray.size_append] at h_; exact h_))
  by_cases c17 : ((((((((t103 ++ (⟨#[45]⟩ : ByteArray)) ++ t104) ++ (⟨#[45]⟩ : ByteArray)) ++ t105) ++ (⟨#[84]⟩ : ByteArray)) ++ t106) ++ (⟨#[58]⟩ : ByteArray)) ++ t107).size + 1 ≤ 9223372036854775807
  rotate_left
  · rw [if_neg c17] at H
    exact absurd H (by simp)
  rw [if_pos c17] at H
  have c17b0 := eq_true c17
  have c17b1 : decide (((((((((t103 ++ (⟨#[45]⟩ : ByteArray)) ++ t104) ++ (⟨#[45]⟩ : ByteArray)) ++ t105) ++ (⟨#[84]⟩ : ByteArray)) ++ t106) ++ (⟨#[58]⟩ : ByteArray)) ++ t107).size + 1 ≤ 9223372036854775807) = true := decide_eq_true c17
  try have c17b2 : (9223372036854775807 < ((((((((t103 ++ (⟨#[45]⟩ : ByteArray)) ++ t104) ++ (⟨#[45]⟩ : ByteArray)) ++ t105) ++ (⟨#[84]⟩ : ByteArray)) ++ t106) ++ (⟨#[58]⟩ : ByteArray)) ++ t107).size + 1) = False := eq_false (Nat.not_lt.2 c17)
  have c17b3 : (9223372036854775807 < t103.size + 1 + t104.size + 1 + t105.size + 1 + t106.size + 1 + t107.size + 1) = False := eq_false (Nat.not_lt.2 (by have h_ := c17; simp only [ByteArray.size_append] at h_; exact h_))
  replace H := Option.bind_eq_some_iff.mp H
  obtain ⟨t108, A180, H⟩ := H
  try dsimp -simprocs only at H
  have A18 := Aside0.mk A180
  clear A180
  by_cases c19 : (((((((((t103 ++ (⟨#[45]⟩ : ByteArray)) ++ t104) ++ (⟨#[45]⟩ : ByteArray)) ++ t105) ++ (⟨#[84]⟩ : ByteArray)) ++ t106) ++ (⟨#[58]⟩ : ByteArray)) ++ t107) ++ (⟨#[58]⟩ : ByteArray)).size + t108.size ≤ 9223372036854775807
  rotate_left
  · rw [if_neg c19] at H
    exact absurd H (by simp)
  rw [if_pos c19] at H
  have c19b0 := eq_true c19
  have c19b1 : decide ((((((((((t103 ++ (⟨#[45]⟩ : ByteArray)) ++ t104) ++ (⟨#[45]⟩ : ByteArray)) ++ t105) ++ (⟨#[84]⟩ : ByteArray)) ++ t106) ++ (⟨#[58]⟩ : ByteArray)) ++ t107) ++ (⟨#[58]⟩ : ByteArray)).size + t108.size ≤ 9223372036854775807) = true := decide_eq_true c19
  try have c19b2 : (9223372036854775807 < (((((((((t103 ++ (⟨#[45]⟩ : ByteArray)) ++ t104) ++ (⟨#[45]⟩ : ByteArray)) ++ t105) ++ (⟨#[84]⟩ : ByteArray)) ++ t106) ++ (⟨#[58]⟩ : ByteArray)) ++ t107) ++ (⟨#[58]⟩ : ByteArray)).size + t108.size) = False := eq_false (Nat.not_lt.2 c19)
  have c19b3 : (9223372036854775807 < t103.size + 1 + t104.size + 1 + t105.size + 1 + t106.size + 1 + t107.size + 1 + t108.size) = False := eq_false (Nat.not_lt.2 (by have h_ := c19; simp only [ByteArray.size_append] at h_; exact h_))
  by_cases c20 : ((((((((((t103 ++ (⟨#[45]⟩ : ByteArray)) ++ t104) ++ (⟨#[45]⟩ : ByteArray)) ++ t105) ++ (⟨#[84]⟩ : ByteArray)) ++ t106) ++ (⟨#[58]⟩ : ByteArray)) ++ t107) ++ (⟨#[58]⟩ : ByteArray)) ++ t108).size + 1 ≤ 9223372036854775807
  rotate_left
  · rw [if_neg c20] at H
    exact absurd H (by simp)
  rw [if_pos c20] at H
  have c20b0 := eq_true c20
  have c20b1 : decide (((((((((((t103 ++ (⟨#[45]⟩ : ByteArray)) ++ t104) ++ (⟨#[45]⟩ : ByteArray)) ++ t105) ++ (⟨#[84]⟩ : ByteArray)) ++ t106) ++ (⟨#[58]⟩ : ByteArray)) ++ t107) ++ (⟨#[58]⟩ : ByteArray)) ++ t108).size + 1 ≤ 9223372036854775807) = true := decide_eq_true c20
  try have c20b2 : (9223372036854775807 < ((((((((((t103 ++ (⟨#[45]⟩ : ByteArray)) ++ t104) ++ (⟨#[45]⟩ : ByteArray)) ++ t105) ++ (⟨#[84]⟩ : ByteArray)) ++ t106) ++ (⟨#[58]⟩ : ByteArray)) ++ t107) ++ (⟨#[58]⟩ : ByteArray)) ++ t108).size + 1) = False := eq_false (Nat.not_lt.2 c20)
  have c20b3 : (9223372036854775807 < t103.size + 1 + t104.size + 1 + t105.size + 1 + t106.size + 1 + t107.size + 1 + t108.size + 1) = False := eq_false (Nat.not_lt.2 (by have h_ := c20; simp only [ByteArray.size_append] at h_; exact h_))
  replace H := Option.bind_eq_some_iff.mp H
  obtain ⟨t109, A210, H⟩ := H
  try dsimp -simprocs only at H
  have A21 := Aside0.mk A210
  clear A210
  by_cases c22 : (((((((((((t103 ++ (⟨#[45]⟩ : ByteArray)) ++ t104) ++ (⟨#[45]⟩ : ByteArray)) ++ t105) ++ (⟨#[84]⟩ : ByteArray)) ++ t106) ++ (⟨#[58]⟩ : ByteArray)) ++ t107) ++ (⟨#[58]⟩ : ByteArray)) ++ t108) ++ (⟨#[46]⟩ : ByteArray)).size + t109.size ≤ 9223372036854775807
  rotate_left
  · rw [if_neg c22] at H
    exact absurd H (by simp)
  rw [if_pos c22] at H
  have c22b0 := eq_true c22
  have c22b1 : decide ((((((((((((t103 ++ (⟨#[45]⟩ : ByteArray)) ++ t104) ++ (⟨#[45]⟩ : ByteArray)) ++ t105) ++ (⟨#[84]⟩ : ByteArray)) ++ t106) ++ (⟨#[58]⟩ : ByteArray)) ++ t107) ++ (⟨#[58]⟩ : ByteArray)) ++ t108) ++ (⟨#[46]⟩ : ByteArray)).size + t109.size ≤ 9223372036854775807) = true := decide_eq_true c22
  try have c22b2 : (9223372036854775807 < (((((((((((t103 ++ (⟨#[45]⟩ : ByteArray)) ++ t104) ++ (⟨#[45]⟩ : ByteArray)) ++ t105) ++ (⟨#[84]⟩ : ByteArray)) ++ t106) ++ (⟨#[58]⟩ : ByteArray)) ++ t107) ++ (⟨#[58]⟩ : ByteArray)) ++ t108) ++ (⟨#[46]⟩ : ByteArray)).size + t109.size) = False := eq_false (Nat.not_lt.2 c22)
  have c22b3 : (9223372036854775807 < t103.size + 1 + t104.size + 1 + t105.size + 1 + t106.size + 1 + t107.size + 1 + t108.size + 1 + t109.size) = False := eq_false (Nat.not_lt.2 (by have h_ := c22; simp only [ByteArray.size_append] at h_; exact h_))
  simp only [Option.some.injEq, Prod.mk.injEq] at H
  obtain ⟨rfl, rfl⟩ := H
  go_enter Tryd.func8, Tryd.ntmps8
  try go_wp2_with (first | ((with_reducible refine gate_dst (N := 1) rfl ?_); refine bxq_ 1 #[.int .i64 a0_0, .int .i64 a0_1, .int .i64 a0_2, .int .i64 a0_3, .int .i64 a0_4, .int .i64 a0_5, .int .i64 a0_6] 32 ?_; intro gb101 hg w23 hbox hb; have BK101 := Aside0.mk (hbox); have GW101 := gwq_ HB hg rfl; have GE101 := GW101; replace HB := hbs_ HB hb rfl rfl rfl rfl; clear hb hbox hg; have hcz24_0 := bc_ BK101 0 rfl; have hcz24_1 := bc_ BK101 1 rfl; have hcz24_2 := bc_ BK101 2 rfl; have hcz24_3 := bc_ BK101 3 rfl; have hcz24_4 := bc_ BK101 4 rfl; have hcz24_5 := bc_ BK101 5 rfl; have hcz24_6 := bc_ BK101 6 rfl; have hfz24_0 := blk_frozen BK101.out 0; have hfz24_1 := blk_frozen BK101.out 1; have hfz24_2 := blk_frozen BK101.out 2; have hfz24_3 := blk_frozen BK101.out 3; have hfz24_4 := blk_frozen BK101.out 4; have hfz24_5 := blk_frozen BK101.out 5; have hfz24_6 := blk_frozen BK101.out 6) | ((with_reducible refine gate_callee (f := 18) rfl ?_); refine glq_ (some 6) Tryd.func18 #[.agg #[.int .i64 a0_0, .int .i64 a0_1, .int .i64 a0_2, .int .i64 a0_3, .int .i64 a0_4, .int .i64 a0_5, .int .i64 a0_6]] ?_; (with_reducible refine (scale_Check.calls k a0_0 a0_1 a0_2 a0_3 a0_4 a0_5 a0_6 t102 _ A2.out).mono ?_); rintro e w25 ⟨rfl, hb⟩; refine ⟨_, rfl, ?_⟩; replace BK101 := bkb_ BK101 hb rfl; replace HB := hbs_ HB hb rfl rfl rfl rfl; (try clear hb)))
  replace BK101 := Aside0.mk (blk_drew BK101.out)
  replace HB := Aside0.mk (below_drew1 HB.out)
  refine start_ (n := 35) (S := fun w' => w'.cell? ⟨gb101, 0, none⟩ = some (.int .i64 a0_0) ∧ w'.cell? ⟨gb101, 1, none⟩ = some (.int .i64 a0_1) ∧ w'.cell? ⟨gb101, 2, none⟩ = some (.int .i64 a0_2) ∧ w'.cell? ⟨gb101, 3, none⟩ = some (.int .i64 a0_3) ∧ w'.cell? ⟨gb101, 4, none⟩ = some (.int .i64 a0_4) ∧ w'.cell? ⟨gb101, 5, none⟩ = some (.int .i64 a0_5) ∧ w'.cell? ⟨gb101, 6, none⟩ = some (.int .i64 a0_6)) (ds := []) (bm_ [0, 35]) (by kernel_rfl) rfl rfl ⟨bc_ BK101 0 rfl, bc_ BK101 1 rfl, bc_ BK101 2 rfl, bc_ BK101 3 rfl, bc_ BK101 4 rfl, bc_ BK101 5 rfl, bc_ BK101 6 rfl⟩ (fun hHeld => ?_); refine with_tabW scale_Text.tab4 scale_Text.bits4 (fun HT_ HW_ => ?_)
  generalize w25.drew = w26 at BK101 HB hHeld ⊢
  refine pq_ 0 10 (bm_ [1, 34]) HT_ ?_
  refine pq_ 4 14 (bm_ [1, 3, 1, 30]) HT_ ?_
  refine pq_ 9 19 (bm_ [1, 3, 1, 4, 1, 25]) HT_ ?_
  refine pq_ 14 24 (bm_ [1, 3, 1, 4, 1, 4, 1, 20]) HT_ ?_
  refine pq_ 19 29 (bm_ [1, 3, 1, 4, 1, 4, 1, 4, 1, 15]) HT_ ?_
  refine pq_ 24 34 (bm_ [1, 3, 1, 4, 1, 4, 1, 4, 1, 4, 1, 10]) HT_ ?_
  refine pq_ 29 39 (bm_ [1, 3, 1, 4, 1, 4, 1, 4, 1, 4, 1, 4, 1, 5]) HT_ ?_
  refine tq_ 1 11 (bm_ [2, 2, 1, 4, 1, 4, 1, 4, 1, 4, 1, 4, 1, 5]) HT_ HW_ hHeld ?_
  refine tq_ 5 15 (bm_ [2, 2, 2, 3, 1, 4, 1, 4, 1, 4, 1, 4, 1, 5]) HT_ HW_ hHeld ?_
  refine tq_ 10 20 (bm_ [2, 2, 2, 3, 2, 3, 1, 4, 1, 4, 1, 4, 1, 5]) HT_ HW_ hHeld ?_
  refine tq_ 15 25 (bm_ [2, 2, 2, 3, 2, 3, 2, 3, 1, 4, 1, 4, 1, 5]) HT_ HW_ hHeld ?_
  refine tq_ 20 30 (bm_ [2, 2, 2, 3, 2, 3, 2, 3, 2, 3, 1, 4, 1, 5]) HT_ HW_ hHeld ?_
  refine tq_ 25 35 (bm_ [2, 2, 2, 3, 2, 3, 2, 3, 2, 3, 2, 3, 1, 5]) HT_ HW_ hHeld ?_
  refine tq_ 30 40 (bm_ [2, 2, 2, 3, 2, 3, 2, 3, 2, 3, 2, 3, 2, 4]) HT_ HW_ hHeld ?_
  refine oq_ 2 (some 12) (bm_ [3, 1, 2, 3, 2, 3, 2, 3, 2, 3, 2, 3, 2, 4]) HT_ (fun K hK => ?_)
  refine gq_ Tryd.func19 #[.int .i64 a0_0, .int .i64 4] ?_
  with_reducible refine (scale_pad.calls a0_0 4 t103 _ (sctab_below ht HB.out) A4.out).mono ?_
  rintro e w27 ⟨rfl, hb⟩
  refine ⟨_, rfl, ?_⟩
  replace BK101 := bkb_ BK101 hb rfl
  replace HB := hbs_ HB hb rfl rfl rfl rfl
  (try clear hb)
  refine hK.out _ _ ⟨bc_ BK101 0 rfl, bc_ BK101 1 rfl, bc_ BK101 2 rfl, bc_ BK101 3 rfl, bc_ BK101 4 rfl, bc_ BK101 5 rfl, bc_ BK101 6 rfl⟩ (fun hHeld => ?_)
  clear hK K
  refine nq_ 12 ?_
  refine pq_ 3 13 (bm_ [6, 3, 2, 3, 2, 3, 2, 3, 2, 3, 2, 4]) HT_ ?_
  refine oq_ 6 (some 16) (bm_ [7, 2, 2, 3, 2, 3, 2, 3, 2, 3, 2, 4]) HT_ (fun K hK => ?_)
  refine gq_ Tryd.func19 #[.int .i64 a0_1, .int .i64 2] ?_
  with_reducible refine (scale_pad.calls a0_1 2 t104 _ (sctab_below ht HB.out) A6.out).mono ?_
  rintro e w28 ⟨rfl, hb⟩
  refine ⟨_, rfl, ?_⟩
  replace BK101 := bkb_ BK101 hb rfl
  replace HB := hbs_ HB hb rfl rfl rfl rfl
  (try clear hb)
  refine hK.out _ _ ⟨bc_ BK101 0 rfl, bc_ BK101 1 rfl, bc_ BK101 2 rfl, bc_ BK101 3 rfl, bc_ BK101 4 rfl, bc_ BK101 5 rfl, bc_ BK101 6 rfl⟩ (fun hHeld => ?_)
  clear hK K
  refine nq_ 16 ?_
  refine pq_ 7 17 (bm_ [8, 1, 2, 3, 2, 3, 2, 3, 2, 3, 2, 4]) HT_ ?_
  refine pq_ 8 18 (bm_ [11, 3, 2, 3, 2, 3, 2, 3, 2, 4]) HT_ ?_
  refine oq_ 11 (some 21) (bm_ [12, 2, 2, 3, 2, 3, 2, 3, 2, 4]) HT_ (fun K hK => ?_)
  refine gq_ Tryd.func19 #[.int .i64 a0_2, .int .i64 2] ?_
  with_reducible refine (scale_pad.calls a0_2 2 t105 _ (sctab_below ht HB.out) A9.out).mono ?_
  rintro e w29 ⟨rfl, hb⟩
  refine ⟨_, rfl, ?_⟩
  replace BK101 := bkb_ BK101 hb rfl
  replace HB := hbs_ HB hb rfl rfl rfl rfl
  (try clear hb)
  refine hK.out _ _ ⟨bc_ BK101 0 rfl, bc_ BK101 1 rfl, bc_ BK101 2 rfl, bc_ BK101 3 rfl, bc_ BK101 4 rfl, bc_ BK101 5 rfl, bc_ BK101 6 rfl⟩ (fun hHeld => ?_)
  clear hK K
  refine nq_ 21 ?_
  refine pq_ 12 22 (bm_ [13, 1, 2, 3, 2, 3, 2, 3, 2, 4]) HT_ ?_
  refine pq_ 13 23 (bm_ [16, 3, 2, 3, 2, 3, 2, 4]) HT_ ?_
  refine oq_ 16 (some 26) (bm_ [17, 2, 2, 3, 2, 3, 2, 4]) HT_ (fun K hK => ?_)
  refine gq_ Tryd.func19 #[.int .i64 a0_3, .int .i64 2] ?_
  with_reducible refine (scale_pad.calls a0_3 2 t106 _ (sctab_below ht HB.out) A12.out).mono ?_
  rintro e w30 ⟨rfl, hb⟩
  refine ⟨_, rfl, ?_⟩
  replace BK101 := bkb_ BK101 hb rfl
  replace HB := hbs_ HB hb rfl rfl rfl rfl
  (try clear hb)
  refine hK.out _ _ ⟨bc_ BK101 0 rfl, bc_ BK101 1 rfl, bc_ BK101 2 rfl, bc_ BK101 3 rfl, bc_ BK101 4 rfl, bc_ BK101 5 rfl, bc_ BK101 6 rfl⟩ (fun hHeld => ?_)
  clear hK K
  refine nq_ 26 ?_
  refine pq_ 17 27 (bm_ [18, 1, 2, 3, 2, 3, 2, 4]) HT_ ?_
  refine pq_ 18 28 (bm_ [21, 3, 2, 3, 2, 4]) HT_ ?_
  refine oq_ 21 (some 31) (bm_ [22, 2, 2, 3, 2, 4]) HT_ (fun K hK => ?_)
  refine gq_ Tryd.func19 #[.int .i64 a0_4, .int .i64 2] ?_
  with_reducible refine (scale_pad.calls a0_4 2 t107 _ (sctab_below ht HB.out) A15.out).mono ?_
  rintro e w31 ⟨rfl, hb⟩
  refine ⟨_, rfl, ?_⟩
  replace BK101 := bkb_ BK101 hb rfl
  replace HB := hbs_ HB hb rfl rfl rfl rfl
  (try clear hb)
  refine hK.out _ _ ⟨bc_ BK101 0 rfl, bc_ BK101 1 rfl, bc_ BK101 2 rfl, bc_ BK101 3 rfl, bc_ BK101 4 rfl, bc_ BK101 5 rfl, bc_ BK101 6 rfl⟩ (fun hHeld => ?_)
  clear hK K
  refine nq_ 31 ?_
  refine pq_ 22 32 (bm_ [23, 1, 2, 3, 2, 4]) HT_ ?_
  refine pq_ 23 33 (bm_ [26, 3, 2, 4]) HT_ ?_
  refine oq_ 26 (some 36) (bm_ [27, 2, 2, 4]) HT_ (fun K hK => ?_)
  refine gq_ Tryd.func19 #[.int .i64 a0_5, .int .i64 2] ?_
  with_reducible refine (scale_pad.calls a0_5 2 t108 _ (sctab_below ht HB.out) A18.out).mono ?_
  rintro e w32 ⟨rfl, hb⟩
  refine ⟨_, rfl, ?_⟩
  replace BK101 := bkb_ BK101 hb rfl
  replace HB := hbs_ HB hb rfl rfl rfl rfl
  (try clear hb)
  refine hK.out _ _ ⟨bc_ BK101 0 rfl, bc_ BK101 1 rfl, bc_ BK101 2 rfl, bc_ BK101 3 rfl, bc_ BK101 4 rfl, bc_ BK101 5 rfl, bc_ BK101 6 rfl⟩ (fun hHeld => ?_)
  clear hK K
  refine nq_ 36 ?_
  refine pq_ 27 37 (bm_ [28, 1, 2, 4]) HT_ ?_
  refine pq_ 28 38 (bm_ [31, 4]) HT_ ?_
  refine oq_ 31 (some 41) (bm_ [32, 3]) HT_ (fun K hK => ?_)
  refine gq_ Tryd.func19 #[.int .i64 a0_6, .int .i64 3] ?_
  with_reducible refine (scale_pad.calls a0_6 3 t109 _ (sctab_below ht HB.out) A21.out).mono ?_
  rintro e w33 ⟨rfl, hb⟩
  refine ⟨_, rfl, ?_⟩
  replace BK101 := bkb_ BK101 hb rfl
  replace HB := hbs_ HB hb rfl rfl rfl rfl
  (try clear hb)
  refine hK.out _ _ ⟨bc_ BK101 0 rfl, bc_ BK101 1 rfl, bc_ BK101 2 rfl, bc_ BK101 3 rfl, bc_ BK101 4 rfl, bc_ BK101 5 rfl, bc_ BK101 6 rfl⟩ (fun hHeld => ?_)
  clear hK K
  refine nq_ 41 ?_
  refine pq_ 32 42 (bm_ [33, 2]) HT_ ?_
  refine pq_ 33 2 (bm_ [34, 1]) HT_ ?_
  refine pq_ 34 3 (bm_ [35]) HT_ ?_
  refine done_ (done_of HT_.out (by kernel_rfl)) ?_
  try go_wp2
  go_ret2
  exact ⟨by first | rfl | (simp [errW_none, errW_some] <;> rfl) | (simp [*, errW_none, errW_some] <;> rfl), by repeat (first | (with_reducible first | exact HB.out | apply below_alloc | apply pw_below_drewN | apply below_drew1 | refine below_set ?_ GE101.out) | exact HB.out)⟩

end Go.Proofs.YtpbfjcohiibpcaaDoor.Q
