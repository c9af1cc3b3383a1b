/- Contracts of Go functions of the seat, one by one: each call returns what the Lean function of the same name says, wherever that is 'some'; no other condition. Written by a program of this session. -/
import Derived.Test.YthcdbpbimmjknaaDoorKAlertOrdersQx0
import Derived.Test.YthcdbpbimmjknaaDoorKAlertOrdersQx1
import Derived.Test.YthcdbpbimmjknaaDoorKAlertOrdersQx7
import Derived.Test.YthcdbpbimmjknaaDoorKAlertOrdersQx13
namespace Go.Proofs.YthcdbpbimmjknaaDoor.Q
open Go.RowKit Go.Proofs.YthcdbpbimmjknaaDoorW.PrintWords Go.Proofs.YthcdbpbimmjknaaDoorW.PrintLast Go.Proofs.YthcdbpbimmjknaaDoorW.PrintMore
attribute [local go_sem] max2_int min2_int max_two min_two max_three min_three max_four min_four   -- for this text's walks alone
set_option linter.unusedVariables false
set_option linter.unusedSimpArgs false

attribute [local go_sem high] eqA36
/-! ### alert_Check: function 9 -/
mutual
def alert_Check.j0 : Nat → Bool → Int → Int → Int → Int → Int → Bool → Int → Int → Bool → Int → Int → Bool → Int → Int → Bool → Int → Option (Int)
 | 0, _, _, _, _, _, _, _, _, _, _, _, _, _, _, _, _, _ => none
 | k + 1, x31, x102000, x102001, x102002, x102003, x102004, x102005, x102006, x102007, x102008, x102009, x102010, x102011, x102012, x102013, x102014, x102015 => if x31 = true then (some 4) else (if x102001 < 1 then (alert_Check.j1 k true x102000 x102001 x102002 x102003 x102004 x102005 x102006 x102007 x102008 x102009 x102010 x102011 x102012 x102013 x102014 x102015) else (alert_Check.j1 k (decide (x102001 > 6)) x102000 x102001 x102002 x102003 x102004 x102005 x102006 x102007 x102008 x102009 x102010 x102011 x102012 x102013 x102014 x102015))
def alert_Check.j1 : Nat → Bool → Int → Int → Int → Int → Int → Bool → Int → Int → Bool → Int → Int → Bool → Int → Int → Bool → Int → Option (Int)
 | 0, _, _, _, _, _, _, _, _, _, _, _, _, _, _, _, _, _ => none
 | k + 1, x39, x102000, x102001, x102002, x102003, x102004, x102005, x102006, x102007, x102008, x102009, x102010, x102011, x102012, x102013, x102014, x102015 => if x39 = true then (some 12) else ((bound_Check_api_Tick.f k x102003 x102004 x102005).bind fun t102 => ((bound_Check_api_Arc.f k x102006 x102007 x102008).bind fun t103 => ((bound_Check_api_Arc.f k x102009 x102010 x102011).bind fun t104 => ((bound_Check_api_Quanta.f k x102012 x102013 x102014).bind fun t105 => ((cmp_Or_api_Errno.f k (([t102, t103, t104, t105] : List Int))).bind fun t109 => (if t109 = 0 then (if x102003 < (-17592186044416) then (alert_Check.j2 k true x102000 x102001 x102002 x102003 x102004 x102005 x102006 x102007 x102008 x102009 x102010 x102011 x102012 x102013 x102014 x102015) else (if x102004 > 17592186044416 then (alert_Check.j2 k true x102000 x102001 x102002 x102003 x102004 x102005 x102006 x102007 x102008 x102009 x102010 x102011 x102012 x102013 x102014 x102015) else (if x102009 < (-1073741824) then (alert_Check.j2 k true x102000 x102001 x102002 x102003 x102004 x102005 x102006 x102007 x102008 x102009 x102010 x102011 x102012 x102013 x102014 x102015) else (alert_Check.j2 k (decide (x102010 > 1073741824)) x102000 x102001 x102002 x102003 x102004 x102005 x102006 x102007 x102008 x102009 x102010 x102011 x102012 x102013 x102014 x102015)))) else (some t109)))))))
def alert_Check.j2 : Nat → Bool → Int → Int → Int → Int → Int → Bool → Int → Int → Bool → Int → Int → Bool → Int → Int → Bool → Int → Option (Int)
 | 0, _, _, _, _, _, _, _, _, _, _, _, _, _, _, _, _, _ => none
 | k + 1, x57, x102000, x102001, x102002, x102003, x102004, x102005, x102006, x102007, x102008, x102009, x102010, x102011, x102012, x102013, x102014, x102015 => if x57 = true then (some 4) else (if x102006 < 0 then (alert_Check.j3 k true x102000 x102001 x102002 x102003 x102004 x102005 x102006 x102007 x102008 x102009 x102010 x102011 x102012 x102013 x102014 x102015) else (if x102006 ≥ 4294967296 then (alert_Check.j3 k true x102000 x102001 x102002 x102003 x102004 x102005 x102006 x102007 x102008 x102009 x102010 x102011 x102012 x102013 x102014 x102015) else (alert_Check.j3 k (decide ((wrap64 (x102007 - x102006)) ≥ 4294967296)) x102000 x102001 x102002 x102003 x102004 x102005 x102006 x102007 x102008 x102009 x102010 x102011 x102012 x102013 x102014 x102015)))
def alert_Check.j3 : Nat → Bool → Int → Int → Int → Int → Int → Bool → Int → Int → Bool → Int → Int → Bool → Int → Int → Bool → Int → Option (Int)
 | 0, _, _, _, _, _, _, _, _, _, _, _, _, _, _, _, _, _ => none
 | k + 1, x80, x102000, x102001, x102002, x102003, x102004, x102005, x102006, x102007, x102008, x102009, x102010, x102011, x102012, x102013, x102014, x102015 => if x80 = true then (some 4) else (if x102001 = 6 then (alert_Check.j4 k false x102000 x102001 x102002 x102003 x102004 x102005 x102006 x102007 x102008 x102009 x102010 x102011 x102012 x102013 x102014 x102015) else (alert_Check.j4 k (x102015 != 0) x102000 x102001 x102002 x102003 x102004 x102005 x102006 x102007 x102008 x102009 x102010 x102011 x102012 x102013 x102014 x102015))
def alert_Check.j4 : Nat → Bool → Int → Int → Int → Int → Int → Bool → Int → Int → Bool → Int → Int → Bool → Int → Int → Bool → Int → Option (Int)
 | 0, _, _, _, _, _, _, _, _, _, _, _, _, _, _, _, _, _ => none
 | k + 1, x101, x102000, x102001, x102002, x102003, x102004, x102005, x102006, x102007, x102008, x102009, x102010, x102011, x102012, x102013, x102014, x102015 => if x101 = true then (some 3) else (if x102001 = 6 then (if x102015 = 0 then (some 3) else (if x102015 = x102000 then (some 3) else (if (!(x102002 == 0) || ((!(x102006 == 0) || (!(x102007 == 0) || (x102008))) || ((!(x102009 == 0) || (!(x102010 == 0) || (x102011))) || ((!(x102012 == 0) || (!(x102013 == 0) || (x102014))))))) = true then (some 3) else (some 0)))) else (some 0))
end
def alert_Check.f (k : Nat) (a0_0 : Int) (a0_1 : Int) (a0_2 : Int) (a0_3 : Int) (a0_4 : Int) (a0_5 : Bool) (a0_6 : Int) (a0_7 : Int) (a0_8 : Bool) (a0_9 : Int) (a0_10 : Int) (a0_11 : Bool) (a0_12 : Int) (a0_13 : Int) (a0_14 : Bool) (a0_15 : Int) : Option (Int) := if a0_0 < 1 then (alert_Check.j0 k true a0_0 a0_1 a0_2 a0_3 a0_4 a0_5 a0_6 a0_7 a0_8 a0_9 a0_10 a0_11 a0_12 a0_13 a0_14 a0_15) else (if a0_0 > 2147483647 then (alert_Check.j0 k true a0_0 a0_1 a0_2 a0_3 a0_4 a0_5 a0_6 a0_7 a0_8 a0_9 a0_10 a0_11 a0_12 a0_13 a0_14 a0_15) else (if a0_2 < 0 then (alert_Check.j0 k true a0_0 a0_1 a0_2 a0_3 a0_4 a0_5 a0_6 a0_7 a0_8 a0_9 a0_10 a0_11 a0_12 a0_13 a0_14 a0_15) else (if a0_2 > 2147483647 then (alert_Check.j0 k true a0_0 a0_1 a0_2 a0_3 a0_4 a0_5 a0_6 a0_7 a0_8 a0_9 a0_10 a0_11 a0_12 a0_13 a0_14 a0_15) else (if a0_15 < 0 then (alert_Check.j0 k true a0_0 a0_1 a0_2 a0_3 a0_4 a0_5 a0_6 a0_7 a0_8 a0_9 a0_10 a0_11 a0_12 a0_13 a0_14 a0_15) else (alert_Check.j0 k (decide (a0_15 > 2147483647)) a0_0 a0_1 a0_2 a0_3 a0_4 a0_5 a0_6 a0_7 a0_8 a0_9 a0_10 a0_11 a0_12 a0_13 a0_14 a0_15)))))
theorem alert_Check.mono_l : ∀ k, (∀ y0 y1 y2 y3 y4 y5 y6 y7 y8 y9 y10 y11 y12 y13 y14 y15 y16, LeO (alert_Check.j0 k y0 y1 y2 y3 y4 y5 y6 y7 y8 y9 y10 y11 y12 y13 y14 y15 y16) (alert_Check.j0 (k + 1) y0 y1 y2 y3 y4 y5 y6 y7 y8 y9 y10 y11 y12 y13 y14 y15 y16)) ∧ (∀ y0 y1 y2 y3 y4 y5 y6 y7 y8 y9 y10 y11 y12 y13 y14 y15 y16, LeO (alert_Check.j1 k y0 y1 y2 y3 y4 y5 y6 y7 y8 y9 y10 y11 y12 y13 y14 y15 y16) (alert_Check.j1 (k + 1) y0 y1 y2 y3 y4 y5 y6 y7 y8 y9 y10 y11 y12 y13 y14 y15 y16)) ∧ (∀ y0 y1 y2 y3 y4 y5 y6 y7 y8 y9 y10 y11 y12 y13 y14 y15 y16, LeO (alert_Check.j2 k y0 y1 y2 y3 y4 y5 y6 y7 y8 y9 y10 y11 y12 y13 y14 y15 y16) (alert_Check.j2 (k + 1) y0 y1 y2 y3 y4 y5 y6 y7 y8 y9 y10 y11 y12 y13 y14 y15 y16)) ∧ (∀ y0 y1 y2 y3 y4 y5 y6 y7 y8 y9 y10 y11 y12 y13 y14 y15 y16, LeO (alert_Check.j3 k y0 y1 y2 y3 y4 y5 y6 y7 y8 y9 y10 y11 y12 y13 y14 y15 y16) (alert_Check.j3 (k + 1) y0 y1 y2 y3 y4 y5 y6 y7 y8 y9 y10 y11 y12 y13 y14 y15 y16)) ∧ (∀ y0 y1 y2 y3 y4 y5 y6 y7 y8 y9 y10 y11 y12 y13 y14 y15 y16, LeO (alert_Check.j4 k y0 y1 y2 y3 y4 y5 y6 y7 y8 y9 y10 y11 y12 y13 y14 y15 y16) (alert_Check.j4 (k + 1) y0 y1 y2 y3 y4 y5 y6 y7 y8 y9 y10 y11 y12 y13 y14 y15 y16))
 | 0 => ⟨fun _ _ _ _ _ _ _ _ _ _ _ _ _ _ _ _ _ r h => by simp [alert_Check.j0] at h, fun _ _ _ _ _ _ _ _ _ _ _ _ _ _ _ _ _ r h => by simp [alert_Check.j1] at h, fun _ _ _ _ _ _ _ _ _ _ _ _ _ _ _ _ _ r h => by simp [alert_Check.j2] at h, fun _ _ _ _ _ _ _ _ _ _ _ _ _ _ _ _ _ r h => by simp [alert_Check.j3] at h, fun _ _ _ _ _ _ _ _ _ _ _ _ _ _ _ _ _ r h => by simp [alert_Check.j4] at h⟩
 | k + 1 => by
  obtain ⟨ih0, ih1, ih2, ih3, ih4⟩ := alert_Check.mono_l k
  refine ⟨?_, ?_, ?_, ?_, ?_⟩
  · intro y0 y1 y2 y3 y4 y5 y6 y7 y8 y9 y10 y11 y12 y13 y14 y15 y16
    unfold alert_Check.j0
    repeat' first
    | (with_reducible exact ih0 _ _ _ _ _ _ _ _ _ _ _ _ _ _ _ _ _)
    | (with_reducible exact ih1 _ _ _ _ _ _ _ _ _ _ _ _ _ _ _ _ _)
    | (with_reducible exact ih2 _ _ _ _ _ _ _ _ _ _ _ _ _ _ _ _ _)
    | (with_reducible exact ih3 _ _ _ _ _ _ _ _ _ _ _ _ _ _ _ _ _)
    | (with_reducible exact ih4 _ _ _ _ _ _ _ _ _ _ _ _ _ _ _ _ _)
    | (with_reducible exact bound_Check_api_Arc.mono _ _ _ _)
    | (with_reducible exact bound_Check_api_Quanta.mono _ _ _ _)
    | (with_reducible exact bound_Check_api_Tick.mono _ _ _ _)
    | (with_reducible exact cmp_Or_api_Errno.mono _ _)
    | (with_reducible exact LeO.refl _)
    | (with_reducible exact LeO.none _)
    | (with_reducible refine LeO.ite ?_ ?_)
    | (with_reducible refine LeO.bind ?_ (fun _ => ?_))
    | exact ih0 _ _ _ _ _ _ _ _ _ _ _ _ _ _ _ _ _
    | exact ih1 _ _ _ _ _ _ _ _ _ _ _ _ _ _ _ _ _
    | exact ih2 _ _ _ _ _ _ _ _ _ _ _ _ _ _ _ _ _
    | exact ih3 _ _ _ _ _ _ _ _ _ _ _ _ _ _ _ _ _
    | exact ih4 _ _ _ _ _ _ _ _ _ _ _ _ _ _ _ _ _
    | exact bound_Check_api_Arc.mono _ _ _ _
    | exact bound_Check_api_Quanta.mono _ _ _ _
    | exact bound_Check_api_Tick.mono _ _ _ _
    | exact cmp_Or_api_Errno.mono _ _
    | exact LeO.none _
    | refine LeO.ite ?_ ?_
    | refine LeO.bind ?_ (fun _ => ?_)
  · intro y0 y1 y2 y3 y4 y5 y6 y7 y8 y9 y10 y11 y12 y13 y14 y15 y16
    unfold alert_Check.j1
    repeat' first
    | (with_reducible exact ih0 _ _ _ _ _ _ _ _ _ _ _ _ _ _ _ _ _)
    | (with_reducible exact ih1 _ _ _ _ _ _ _ _ _ _ _ _ _ _ _ _ _)
    | (with_reducible exact ih2 _ _ _ _ _ _ _ _ _ _ _ _ _ _ _ _ _)
    | (with_reducible exact ih3 _ _ _ _ _ _ _ _ _ _ _ _ _ _ _ _ _)
    | (with_reducible exact ih4 _ _ _ _ _ _ _ _ _ _ _ _ _ _ _ _ _)
    | (with_reducible exact bound_Check_api_Arc.mono _ _ _ _)
    | (with_reducible exact bound_Check_api_Quanta.mono _ _ _ _)
    | (with_reducible exact bound_Check_api_Tick.mono _ _ _ _)
    | (with_reducible exact cmp_Or_api_Errno.mono _ _)
    | (with_reducible exact LeO.refl _)
    | (with_reducible exact LeO.none _)
    | (with_reducible refine LeO.ite ?_ ?_)
    | (with_reducible refine LeO.bind ?_ (fun _ => ?_))
    | exact ih0 _ _ _ _ _ _ _ _ _ _ _ _ _ _ _ _ _
    | exact ih1 _ _ _ _ _ _ _ _ _ _ _ _ _ _ _ _ _
    | exact ih2 _ _ _ _ _ _ _ _ _ _ _ _ _ _ _ _ _
    | exact ih3 _ _ _ _ _ _ _ _ _ _ _ _ _ _ _ _ _
    | exact ih4 _ _ _ _ _ _ _ _ _ _ _ _ _ _ _ _ _
    | exact bound_Check_api_Arc.mono _ _ _ _
    | exact bound_Check_api_Quanta.mono _ _ _ _
    | exact bound_Check_api_Tick.mono _ _ _ _
    | exact cmp_Or_api_Errno.mono _ _
    | exact LeO.none _
    | refine LeO.ite ?_ ?_
    | refine LeO.bind ?_ (fun _ => ?_)
  · intro y0 y1 y2 y3 y4 y5 y6 y7 y8 y9 y10 y11 y12 y13 y14 y15 y16
    unfold alert_Check.j2
    repeat' first
    | (with_reducible exact ih0 _ _ _ _ _ _ _ _ _ _ _ _ _ _ _ _ _)
    | (with_reducible exact ih1 _ _ _ _ _ _ _ _ _ _ _ _ _ _ _ _ _)
    | (with_reducible exact ih2 _ _ _ _ _ _ _ _ _ _ _ _ _ _ _ _ _)
    | (with_reducible exact ih3 _ _ _ _ _ _ _ _ _ _ _ _ _ _ _ _ _)
    | (with_reducible exact ih4 _ _ _ _ _ _ _ _ _ _ _ _ _ _ _ _ _)
    | (with_reducible exact bound_Check_api_Arc.mono _ _ _ _)
    | (with_reducible exact bound_Check_api_Quanta.mono _ _ _ _)
    | (with_reducible exact bound_Check_api_Tick.mono _ _ _ _)
    | (with_reducible exact cmp_Or_api_Errno.mono _ _)
    | (with_reducible exact LeO.refl _)
    | (with_reducible exact LeO.none _)
    | (with_reducible refine LeO.ite ?_ ?_)
    | (with_reducible refine LeO.bind ?_ (fun _ => ?_))
    | exact ih0 _ _ _ _ _ _ _ _ _ _ _ _ _ _ _ _ _
    | exact ih1 _ _ _ _ _ _ _ _ _ _ _ _ _ _ _ _ _
    | exact ih2 _ _ _ _ _ _ _ _ _ _ _ _ _ _ _ _ _
    | exact ih3 _ _ _ _ _ _ _ _ _ _ _ _ _ _ _ _ _
    | exact ih4 _ _ _ _ _ _ _ _ _ _ _ _ _ _ _ _ _
    | exact bound_Check_api_Arc.mono _ _ _ _
    | exact bound_Check_api_Quanta.mono _ _ _ _
    | exact bound_Check_api_Tick.mono _ _ _ _
    | exact cmp_Or_api_Errno.mono _ _
    | exact LeO.none _
    | refine LeO.ite ?_ ?_
    | refine LeO.bind ?_ (fun _ => ?_)
  · intro y0 y1 y2 y3 y4 y5 y6 y7 y8 y9 y10 y11 y12 y13 y14 y15 y16
    unfold alert_Check.j3
    repeat' first
    | (with_reducible exact ih0 _ _ _ _ _ _ _ _ _ _ _ _ _ _ _ _ _)
    | (with_reducible exact ih1 _ _ _ _ _ _ _ _ _ _ _ _ _ _ _ _ _)
    | (with_reducible exact ih2 _ _ _ _ _ _ _ _ _ _ _ _ _ _ _ _ _)
    | (with_reducible exact ih3 _ _ _ _ _ _ _ _ _ _ _ _ _ _ _ _ _)
    | (with_reducible exact ih4 _ _ _ _ _ _ _ _ _ _ _ _ _ _ _ _ _)
    | (with_reducible exact bound_Check_api_Arc.mono _ _ _ _)
    | (with_reducible exact bound_Check_api_Quanta.mono _ _ _ _)
    | (with_reducible exact bound_Check_api_Tick.mono _ _ _ _)
    | (with_reducible exact cmp_Or_api_Errno.mono _ _)
    | (with_reducible exact LeO.refl _)
    | (with_reducible exact LeO.none _)
    | (with_reducible refine LeO.ite ?_ ?_)
    | (with_reducible refine LeO.bind ?_ (fun _ => ?_))
    | exact ih0 _ _ _ _ _ _ _ _ _ _ _ _ _ _ _ _ _
    | exact ih1 _ _ _ _ _ _ _ _ _ _ _ _ _ _ _ _ _
    | exact ih2 _ _ _ _ _ _ _ _ _ _ _ _ _ _ _ _ _
    | exact ih3 _ _ _ _ _ _ _ _ _ _ _ _ _ _ _ _ _
    | exact ih4 _ _ _ _ _ _ _ _ _ _ _ _ _ _ _ _ _
    | exact bound_Check_api_Arc.mono _ _ _ _
    | exact bound_Check_api_Quanta.mono _ _ _ _
    | exact bound_Check_api_Tick.mono _ _ _ _
    | exact cmp_Or_api_Errno.mono _ _
    | exact LeO.none _
    | refine LeO.ite ?_ ?_
    | refine LeO.bind ?_ (fun _ => ?_)
  · intro y0 y1 y2 y3 y4 y5 y6 y7 y8 y9 y10 y11 y12 y13 y14 y15 y16
    unfold alert_Check.j4
    repeat' first
    | (with_reducible exact ih0 _ _ _ _ _ _ _ _ _ _ _ _ _ _ _ _ _)
    | (with_reducible exact ih1 _ _ _ _ _ _ _ _ _ _ _ _ _ _ _ _ _)
    | (with_reducible exact ih2 _ _ _ _ _ _ _ _ _ _ _ _ _ _ _ _ _)
    | (with_reducible exact ih3 _ _ _ _ _ _ _ _ _ _ _ _ _ _ _ _ _)
    | (with_reducible exact ih4 _ _ _ _ _ _ _ _ _ _ _ _ _ _ _ _ _)
    | (with_reducible exact bound_Check_api_Arc.mono _ _ _ _)
    | (with_reducible exact bound_Check_api_Quanta.mono _ _ _ _)
    | (with_reducible exact bound_Check_api_Tick.mono _ _ _ _)
    | (with_reducible exact cmp_Or_api_Errno.mono _ _)
    | (with_reducible exact LeO.refl _)
    | (with_reducible exact LeO.none _)
    | (with_reducible refine LeO.ite ?_ ?_)
    | (with_reducible refine LeO.bind ?_ (fun _ => ?_))
    | exact ih0 _ _ _ _ _ _ _ _ _ _ _ _ _ _ _ _ _
    | exact ih1 _ _ _ _ _ _ _ _ _ _ _ _ _ _ _ _ _
    | exact ih2 _ _ _ _ _ _ _ _ _ _ _ _ _ _ _ _ _
    | exact ih3 _ _ _ _ _ _ _ _ _ _ _ _ _ _ _ _ _
    | exact ih4 _ _ _ _ _ _ _ _ _ _ _ _ _ _ _ _ _
    | exact bound_Check_api_Arc.mono _ _ _ _
    | exact bound_Check_api_Quanta.mono _ _ _ _
    | exact bound_Check_api_Tick.mono _ _ _ _
    | exact cmp_Or_api_Errno.mono _ _
    | exact LeO.none _
    | refine LeO.ite ?_ ?_
    | refine LeO.bind ?_ (fun _ => ?_)
theorem alert_Check.mono : ∀ a0 a1 a2 a3 a4 a5 a6 a7 a8 a9 a10 a11 a12 a13 a14 a15 k, LeO (alert_Check.f k a0 a1 a2 a3 a4 a5 a6 a7 a8 a9 a10 a11 a12 a13 a14 a15) (alert_Check.f (k + 1) a0 a1 a2 a3 a4 a5 a6 a7 a8 a9 a10 a11 a12 a13 a14 a15) := by
 intro a0 a1 a2 a3 a4 a5 a6 a7 a8 a9 a10 a11 a12 a13 a14 a15 k
 obtain ⟨ih0, ih1, ih2, ih3, ih4⟩ := alert_Check.mono_l k
 unfold alert_Check.f
 repeat' first
  | (with_reducible exact ih0 _ _ _ _ _ _ _ _ _ _ _ _ _ _ _ _ _)
  | (with_reducible exact ih1 _ _ _ _ _ _ _ _ _ _ _ _ _ _ _ _ _)
  | (with_reducible exact ih2 _ _ _ _ _ _ _ _ _ _ _ _ _ _ _ _ _)
  | (with_reducible exact ih3 _ _ _ _ _ _ _ _ _ _ _ _ _ _ _ _ _)
  | (with_reducible exact ih4 _ _ _ _ _ _ _ _ _ _ _ _ _ _ _ _ _)
  | (with_reducible exact bound_Check_api_Arc.mono _ _ _ _)
  | (with_reducible exact bound_Check_api_Quanta.mono _ _ _ _)
  | (with_reducible exact bound_Check_api_Tick.mono _ _ _ _)
  | (with_reducible exact cmp_Or_api_Errno.mono _ _)
  | (with_reducible exact LeO.refl _)
  | (with_reducible exact LeO.none _)
  | (with_reducible refine LeO.ite ?_ ?_)
  | (with_reducible refine LeO.bind ?_ (fun _ => ?_))
  | exact ih0 _ _ _ _ _ _ _ _ _ _ _ _ _ _ _ _ _
  | exact ih1 _ _ _ _ _ _ _ _ _ _ _ _ _ _ _ _ _
  | exact ih2 _ _ _ _ _ _ _ _ _ _ _ _ _ _ _ _ _
  | exact ih3 _ _ _ _ _ _ _ _ _ _ _ _ _ _ _ _ _
  | exact ih4 _ _ _ _ _ _ _ _ _ _ _ _ _ _ _ _ _
  | exact bound_Check_api_Arc.mono _ _ _ _
  | exact bound_Check_api_Quanta.mono _ _ _ _
  | exact bound_Check_api_Tick.mono _ _ _ _
  | exact cmp_Or_api_Errno.mono _ _
  | exact LeO.none _
  | refine LeO.ite ?_ ?_
  | refine LeO.bind ?_ (fun _ => ?_)
def alert_Check.T5 : Bool × List (List Nat × List Nat) := (true, [([], []), ([0], [0]), ([1], [1]), ([], []), ([3], [3]), ([4, 2], [4]), ([], []), ([6], [6]), ([7, 5], [7]), ([], []), ([9], [9]), ([10, 8], [10]), ([2, 5, 8, 11], [2, 5, 8, 11]), ([12, 11], [12]), ([13, 13, 0, 1, 2, 3, 4, 5, 6, 7, 8, 9, 10, 11, 12, 13], [13])])
def alert_Check.B5 : List Nat := [0, 1, 3, 0, 8, 31, 0, 64, 255, 0, 512, 2047, 4095, 8191, 16383]
theorem alert_Check.tab5 : rtab .any (opsOf Tryd.f9 5) = alert_Check.T5 := by kernel_rfl
theorem alert_Check.bits5 : waitsOk alert_Check.T5.2 alert_Check.B5 = true := by kernel_rfl
set_option maxHeartbeats 8000000 in
set_option maxRecDepth 100000 in
theorem alert_Check.calls (k : Nat) (a0_0 : Int) (a0_1 : Int) (a0_2 : Int) (a0_3 : Int) (a0_4 : Int) (a0_5 : Bool) (a0_6 : Int) (a0_7 : Int) (a0_8 : Bool) (a0_9 : Int) (a0_10 : Int) (a0_11 : Bool) (a0_12 : Int) (a0_13 : Int) (a0_14 : Bool) (a0_15 : Int) (r : Int) (w : World) (h : alert_Check.f k a0_0 a0_1 a0_2 a0_3 a0_4 a0_5 a0_6 a0_7 a0_8 a0_9 a0_10 a0_11 a0_12 a0_13 a0_14 a0_15 = some r) :
 Calls Tryd.prog 9 #[.agg #[.int .i64 a0_0, .int .i64 a0_1, .int .i64 a0_2, .int .i64 a0_3, .int .i64 a0_4, .bool a0_5, .int .i64 a0_6, .int .i64 a0_7, .bool a0_8, .int .i64 a0_9, .int .i64 a0_10, .bool a0_11, .int .i64 a0_12, .int .i64 a0_13, .bool a0_14, .int .i64 a0_15]] w fun e w' => e = .returned (.int .i64 r) ∧ Below w.heap.size w w' := by
  have hu36 := Tryd.underlying36
  have hu28 := Tryd.underlying28
  have hu31 := Tryd.underlying31
  have hu34 := Tryd.underlying34
  have HB := Aside0.mk (Below.refl w.heap.size w)
  have H : (if a0_0 < 1 then (alert_Check.j0 k true a0_0 a0_1 a0_2 a0_3 a0_4 a0_5 a0_6 a0_7 a0_8 a0_9 a0_10 a0_11 a0_12 a0_13 a0_14 a0_15) else (if a0_0 > 2147483647 then (alert_Check.j0 k true a0_0 a0_1 a0_2 a0_3 a0_4 a0_5 a0_6 a0_7 a0_8 a0_9 a0_10 a0_11 a0_12 a0_13 a0_14 a0_15) else (if a0_2 < 0 then (alert_Check.j0 k true a0_0 a0_1 a0_2 a0_3 a0_4 a0_5 a0_6 a0_7 a0_8 a0_9 a0_10 a0_11 a0_12 a0_13 a0_14 a0_15) else (if a0_2 > 2147483647 then (alert_Check.j0 k true a0_0 a0_1 a0_2 a0_3 a0_4 a0_5 a0_6 a0_7 a0_8 a0_9 a0_10 a0_11 a0_12 a0_13 a0_14 a0_15) else (if a0_15 < 0 then (alert_Check.j0 k true a0_0 a0_1 a0_2 a0_3 a0_4 a0_5 a0_6 a0_7 a0_8 a0_9 a0_10 a0_11 a0_12 a0_13 a0_14 a0_15) else (alert_Check.j0 k (decide (a0_15 > 2147483647)) a0_0 a0_1 a0_2 a0_3 a0_4 a0_5 a0_6 a0_7 a0_8 a0_9 a0_10 a0_11 a0_12 a0_13 a0_14 a0_15)))))) = some r := h
  clear h
  have HC2 := Aside0.mk H
  clear H
  go_enter Tryd.func9, Tryd.ntmps9
  go_upto_region 1 with (first | ((with_reducible refine gate_dst (N := 1) rfl ?_); refine bxq_ 1 #[.int .i64 a0_0, .int .i64 a0_1, .int .i64 a0_2, .int .i64 a0_3, .int .i64 a0_4, .bool a0_5, .int .i64 a0_6, .int .i64 a0_7, .bool a0_8, .int .i64 a0_9, .int .i64 a0_10, .bool a0_11, .int .i64 a0_12, .int .i64 a0_13, .bool a0_14, .int .i64 a0_15] 36 ?_; intro gb101 hg w3 hbox hb; have BK101 := Aside0.mk (hbox); have GW101 := gwq_ HB hg rfl; have GE101 := GW101; replace HB := hbs_ HB hb rfl rfl rfl rfl; clear hb hbox hg))
  (try simp only [Act.put, List.setIfInBounds_toArray, List.set_cons_zero, List.set_cons_succ])
  go_cut [31] (fun v31 wc => ∃ (kq : Nat) (x31_1 : Bool), v31 = .bool x31_1 ∧ Aside0 (alert_Check.j0 kq x31_1 a0_0 a0_1 a0_2 a0_3 a0_4 a0_5 a0_6 a0_7 a0_8 a0_9 a0_10 a0_11 a0_12 a0_13 a0_14 a0_15 = some r) ∧ Aside0 (kq ≤ k) ∧ Aside0 (wc.heap[gb101]? = some (.cells #[.int .i64 a0_0, .int .i64 a0_1, .int .i64 a0_2, .int .i64 a0_3, .int .i64 a0_4, .bool a0_5, .int .i64 a0_6, .int .i64 a0_7, .bool a0_8, .int .i64 a0_9, .int .i64 a0_10, .bool a0_11, .int .i64 a0_12, .int .i64 a0_13, .bool a0_14, .int .i64 a0_15] 36 (0, 0))) ∧ Aside0 (Below w.heap.size w wc))
  case first =>
   have H := HC2.out
   clear HC2
   by_cases c4 : a0_0 < 1
   · rw [if_pos c4] at H
     have c4b0 : decide (a0_0 < 1) = true := decide_eq_true c4
     clear c4
     (first | rw [c4b0] | (simp only [i64_w, i32_w]; rw [c4b0]) | skip)
     have H' := Aside0.mk H
     clear H
     have hcz5_0 := bc_ BK101 0 rfl
     have hcz5_1 := bc_ BK101 1 rfl
     have hcz5_2 := bc_ BK101 2 rfl
     have hcz5_3 := bc_ BK101 3 rfl
     have hcz5_4 := bc_ BK101 4 rfl
     have hcz5_5 := bc_ BK101 5 rfl
     have hcz5_6 := bc_ BK101 6 rfl
     have hcz5_7 := bc_ BK101 7 rfl
     have hcz5_8 := bc_ BK101 8 rfl
     have hcz5_9 := bc_ BK101 9 rfl
     have hcz5_10 := bc_ BK101 10 rfl
     have hcz5_11 := bc_ BK101 11 rfl
     have hcz5_12 := bc_ BK101 12 rfl
     have hcz5_13 := bc_ BK101 13 rfl
     have hcz5_14 := bc_ BK101 14 rfl
     have hcz5_15 := bc_ BK101 15 rfl
     have hfz5_0 := blk_frozen BK101.out 0
     have hfz5_1 := blk_frozen BK101.out 1
     have hfz5_2 := blk_frozen BK101.out 2
     have hfz5_3 := blk_frozen BK101.out 3
     have hfz5_4 := blk_frozen BK101.out 4
     have hfz5_5 := blk_frozen BK101.out 5
     have hfz5_6 := blk_frozen BK101.out 6
     have hfz5_7 := blk_frozen BK101.out 7
     have hfz5_8 := blk_frozen BK101.out 8
     have hfz5_9 := blk_frozen BK101.out 9
     have hfz5_10 := blk_frozen BK101.out 10
     have hfz5_11 := blk_frozen BK101.out 11
     have hfz5_12 := blk_frozen BK101.out 12
     have hfz5_13 := blk_frozen BK101.out 13
     have hfz5_14 := blk_frozen BK101.out 14
     have hfz5_15 := blk_frozen BK101.out 15
     go_wp2
     go_meet
     case rel => exact ⟨_, (true), (by first | rfl | (simp; done) | (simp [*]; done)), H', ⟨by first | omega | exact Nat.le_refl _⟩, ⟨by (with_reducible repeat (first | refine blk_drewN ?_ _ | refine blk_drew ?_ | refine blk_alloc ?_ _)); exact BK101.out⟩, ⟨by repeat (first | (with_reducible first | exact HB.out | apply below_alloc | apply pw_below_drewN | apply below_drew1 | refine below_set ?_ GE101.out) | exact HB.out)⟩⟩
   rw [if_neg c4] at H
   have c4b0 : decide (a0_0 < 1) = false := decide_eq_false c4
   clear c4
   (first | rw [c4b0] | (simp only [i64_w, i32_w]; rw [c4b0]) | skip)
   by_cases c6 : a0_0 > 2147483647
   · rw [if_pos c6] at H
     have c6b0 : decide (2147483647 < a0_0) = true := decide_eq_true c6
     clear c6
     have H' := Aside0.mk H
     clear H
     have hcz7_0 := bc_ BK101 0 rfl
     have hcz7_1 := bc_ BK101 1 rfl
     have hcz7_2 := bc_ BK101 2 rfl
     have hcz7_3 := bc_ BK101 3 rfl
     have hcz7_4 := bc_ BK101 4 rfl
     have hcz7_5 := bc_ BK101 5 rfl
     have hcz7_6 := bc_ BK101 6 rfl
     have hcz7_7 := bc_ BK101 7 rfl
     have hcz7_8 := bc_ BK101 8 rfl
     have hcz7_9 := bc_ BK101 9 rfl
     have hcz7_10 := bc_ BK101 10 rfl
     have hcz7_11 := bc_ BK101 11 rfl
     have hcz7_12 := bc_ BK101 12 rfl
     have hcz7_13 := bc_ BK101 13 rfl
     have hcz7_14 := bc_ BK101 14 rfl
     have hcz7_15 := bc_ BK101 15 rfl
     have hfz7_0 := blk_frozen BK101.out 0
     have hfz7_1 := blk_frozen BK101.out 1
     have hfz7_2 := blk_frozen BK101.out 2
     have hfz7_3 := blk_frozen BK101.out 3
     have hfz7_4 := blk_frozen BK101.out 4
     have hfz7_5 := blk_frozen BK101.out 5
     have hfz7_6 := blk_frozen BK101.out 6
     have hfz7_7 := blk_frozen BK101.out 7
     have hfz7_8 := blk_frozen BK101.out 8
     have hfz7_9 := blk_frozen BK101.out 9
     have hfz7_10 := blk_frozen BK101.out 10
     have hfz7_11 := blk_frozen BK101.out 11
     have hfz7_12 := blk_frozen BK101.out 12
     have hfz7_13 := blk_frozen BK101.out 13
     have hfz7_14 := blk_frozen BK101.out 14
     have hfz7_15 := blk_frozen BK101.out 15
     go_wp2
     go_meet
     case rel => exact ⟨_, (true), (by first | rfl | (simp; done) | (simp [*]; done)), H', ⟨by first | omega | exact Nat.le_refl _⟩, ⟨by (with_reducible repeat (first | refine blk_drewN ?_ _ | refine blk_drew ?_ | refine blk_alloc ?_ _)); exact BK101.out⟩, ⟨by repeat (first | (with_reducible first | exact HB.out | apply below_alloc | apply pw_below_drewN | apply below_drew1 | refine below_set ?_ GE101.out) | exact HB.out)⟩⟩
   rw [if_neg c6] at H
   have c6b0 : decide (2147483647 < a0_0) = false := decide_eq_false c6
   clear c6
   by_cases c8 : a0_2 < 0
   · rw [if_pos c8] at H
     have c8b0 : decide (a0_2 < 0) = true := decide_eq_true c8
     clear c8
     have H' := Aside0.mk H
     clear H
     have hcz9_0 := bc_ BK101 0 rfl
     have hcz9_1 := bc_ BK101 1 rfl
     have hcz9_2 := bc_ BK101 2 rfl
     have hcz9_3 := bc_ BK101 3 rfl
     have hcz9_4 := bc_ BK101 4 rfl
     have hcz9_5 := bc_ BK101 5 rfl
     have hcz9_6 := bc_ BK101 6 rfl
     have hcz9_7 := bc_ BK101 7 rfl
     have hcz9_8 := bc_ BK101 8 rfl
     have hcz9_9 := bc_ BK101 9 rfl
     have hcz9_10 := bc_ BK101 10 rfl
     have hcz9_11 := bc_ BK101 11 rfl
     have hcz9_12 := bc_ BK101 12 rfl
     have hcz9_13 := bc_ BK101 13 rfl
     have hcz9_14 := bc_ BK101 14 rfl
     have hcz9_15 := bc_ BK101 15 rfl
     have hfz9_0 := blk_frozen BK101.out 0
     have hfz9_1 := blk_frozen BK101.out 1
     have hfz9_2 := blk_frozen BK101.out 2
     have hfz9_3 := blk_frozen BK101.out 3
     have hfz9_4 := blk_frozen BK101.out 4
     have hfz9_5 := blk_frozen BK101.out 5
     have hfz9_6 := blk_frozen BK101.out 6
     have hfz9_7 := blk_frozen BK101.out 7
     have hfz9_8 := blk_frozen BK101.out 8
     have hfz9_9 := blk_frozen BK101.out 9
     have hfz9_10 := blk_frozen BK101.out 10
     have hfz9_11 := blk_frozen BK101.out 11
     have hfz9_12 := blk_frozen BK101.out 12
     have hfz9_13 := blk_frozen BK101.out 13
     have hfz9_14 := blk_frozen BK101.out 14
     have hfz9_15 := blk_frozen BK101.out 15
     go_wp2
     go_meet
     case rel => exact ⟨_, (true), (by first | rfl | (simp; done) | (simp [*]; done)), H', ⟨by first | omega | exact Nat.le_refl _⟩, ⟨by (with_reducible repeat (first | refine blk_drewN ?_ _ | refine blk_drew ?_ | refine blk_alloc ?_ _)); exact BK101.out⟩, ⟨by repeat (first | (with_reducible first | exact HB.out | apply below_alloc | apply pw_below_drewN | apply below_drew1 | refine below_set ?_ GE101.out) | exact HB.out)⟩⟩
   rw [if_neg c8] at H
   have c8b0 : decide (a0_2 < 0) = false := decide_eq_false c8
   clear c8
   by_cases c10 : a0_2 > 2147483647
   · rw [if_pos c10] at H
     have c10b0 : decide (2147483647 < a0_2) = true := decide_eq_true c10
     clear c10
     have H' := Aside0.mk H
     clear H
     have hcz11_0 := bc_ BK101 0 rfl
     have hcz11_1 := bc_ BK101 1 rfl
     have hcz11_2 := bc_ BK101 2 rfl
     have hcz11_3 := bc_ BK101 3 rfl
     have hcz11_4 := bc_ BK101 4 rfl
     have hcz11_5 := bc_ BK101 5 rfl
     have hcz11_6 := bc_ BK101 6 rfl
     have hcz11_7 := bc_ BK101 7 rfl
     have hcz11_8 := bc_ BK101 8 rfl
     have hcz11_9 := bc_ BK101 9 rfl
     have hcz11_10 := bc_ BK101 10 rfl
     have hcz11_11 := bc_ BK101 11 rfl
     have hcz11_12 := bc_ BK101 12 rfl
     have hcz11_13 := bc_ BK101 13 rfl
     have hcz11_14 := bc_ BK101 14 rfl
     have hcz11_15 := bc_ BK101 15 rfl
     have hfz11_0 := blk_frozen BK101.out 0
     have hfz11_1 := blk_frozen BK101.out 1
     have hfz11_2 := blk_frozen BK101.out 2
     have hfz11_3 := blk_frozen BK101.out 3
     have hfz11_4 := blk_frozen BK101.out 4
     have hfz11_5 := blk_frozen BK101.out 5
     have hfz11_6 := blk_frozen BK101.out 6
     have hfz11_7 := blk_frozen BK101.out 7
     have hfz11_8 := blk_frozen BK101.out 8
     have hfz11_9 := blk_frozen BK101.out 9
     have hfz11_10 := blk_frozen BK101.out 10
     have hfz11_11 := blk_frozen BK101.out 11
     have hfz11_12 := blk_frozen BK101.out 12
     have hfz11_13 := blk_frozen BK101.out 13
     have hfz11_14 := blk_frozen BK101.out 14
     have hfz11_15 := blk_frozen BK101.out 15
     go_wp2
     go_meet
     case rel => exact ⟨_, (true), (by first | rfl | (simp; done) | (simp [*]; done)), H', ⟨by first | omega | exact Nat.le_refl _⟩, ⟨by (with_reducible repeat (first | refine blk_drewN ?_ _ | refine blk_drew ?_ | refine blk_alloc ?_ _)); exact BK101.out⟩, ⟨by repeat (first | (with_reducible first | exact HB.out | apply below_alloc | apply pw_below_drewN | apply below_drew1 | refine below_set ?_ GE101.out) | exact HB.out)⟩⟩
   rw [if_neg c10] at H
   have c10b0 : decide (2147483647 < a0_2) = false := decide_eq_false c10
   clear c10
   by_cases c12 : a0_15 < 0
   · rw [if_pos c12] at H
     have c12b0 : decide (a0_15 < 0) = true := decide_eq_true c12
     clear c12
     have H' := Aside0.mk H
     clear H
     have hcz13_0 := bc_ BK101 0 rfl
     have hcz13_1 := bc_ BK101 1 rfl
     have hcz13_2 := bc_ BK101 2 rfl
     have hcz13_3 := bc_ BK101 3 rfl
     have hcz13_4 := bc_ BK101 4 rfl
     have hcz13_5 := bc_ BK101 5 rfl
     have hcz13_6 := bc_ BK101 6 rfl
     have hcz13_7 := bc_ BK101 7 rfl
     have hcz13_8 := bc_ BK101 8 rfl
     have hcz13_9 := bc_ BK101 9 rfl
     have hcz13_10 := bc_ BK101 10 rfl
     have hcz13_11 := bc_ BK101 11 rfl
     have hcz13_12 := bc_ BK101 12 rfl
     have hcz13_13 := bc_ BK101 13 rfl
     have hcz13_14 := bc_ BK101 14 rfl
     have hcz13_15 := bc_ BK101 15 rfl
     have hfz13_0 := blk_frozen BK101.out 0
     have hfz13_1 := blk_frozen BK101.out 1
     have hfz13_2 := blk_frozen BK101.out 2
     have hfz13_3 := blk_frozen BK101.out 3
     have hfz13_4 := blk_frozen BK101.out 4
     have hfz13_5 := blk_frozen BK101.out 5
     have hfz13_6 := blk_frozen BK101.out 6
     have hfz13_7 := blk_frozen BK101.out 7
     have hfz13_8 := blk_frozen BK101.out 8
     have hfz13_9 := blk_frozen BK101.out 9
     have hfz13_10 := blk_frozen BK101.out 10
     have hfz13_11 := blk_frozen BK101.out 11
     have hfz13_12 := blk_frozen BK101.out 12
     have hfz13_13 := blk_frozen BK101.out 13
     have hfz13_14 := blk_frozen BK101.out 14
     have hfz13_15 := blk_frozen BK101.out 15
     go_wp2
     go_meet
     case rel => exact ⟨_, (true), (by first | rfl | (simp; done) | (simp [*]; done)), H', ⟨by first | omega | exact Nat.le_refl _⟩, ⟨by (with_reducible repeat (first | refine blk_drewN ?_ _ | refine blk_drew ?_ | refine blk_alloc ?_ _)); exact BK101.out⟩, ⟨by repeat (first | (with_reducible first | exact HB.out | apply below_alloc | apply pw_below_drewN | apply below_drew1 | refine below_set ?_ GE101.out) | exact HB.out)⟩⟩
   rw [if_neg c12] at H
   have c12b0 : decide (a0_15 < 0) = false := decide_eq_false c12
   clear c12
   have H' := Aside0.mk H
   clear H
   have hcz14_0 := bc_ BK101 0 rfl
   have hcz14_1 := bc_ BK101 1 rfl
   have hcz14_2 := bc_ BK101 2 rfl
   have hcz14_3 := bc_ BK101 3 rfl
   have hcz14_4 := bc_ BK101 4 rfl
   have hcz14_5 := bc_ BK101 5 rfl
   have hcz14_6 := bc_ BK101 6 rfl
   have hcz14_7 := bc_ BK101 7 rfl
   have hcz14_8 := bc_ BK101 8 rfl
   have hcz14_9 := bc_ BK101 9 rfl
   have hcz14_10 := bc_ BK101 10 rfl
   have hcz14_11 := bc_ BK101 11 rfl
   have hcz14_12 := bc_ BK101 12 rfl
   have hcz14_13 := bc_ BK101 13 rfl
   have hcz14_14 := bc_ BK101 14 rfl
   have hcz14_15 := bc_ BK101 15 rfl
   have hfz14_0 := blk_frozen BK101.out 0
   have hfz14_1 := blk_frozen BK101.out 1
   have hfz14_2 := blk_frozen BK101.out 2
   have hfz14_3 := blk_frozen BK101.out 3
   have hfz14_4 := blk_frozen BK101.out 4
   have hfz14_5 := blk_frozen BK101.out 5
   have hfz14_6 := blk_frozen BK101.out 6
   have hfz14_7 := blk_frozen BK101.out 7
   have hfz14_8 := blk_frozen BK101.out 8
   have hfz14_9 := blk_frozen BK101.out 9
   have hfz14_10 := blk_frozen BK101.out 10
   have hfz14_11 := blk_frozen BK101.out 11
   have hfz14_12 := blk_frozen BK101.out 12
   have hfz14_13 := blk_frozen BK101.out 13
   have hfz14_14 := blk_frozen BK101.out 14
   have hfz14_15 := blk_frozen BK101.out 15
   go_wp2
   go_meet
   case rel => exact ⟨_, (decide (a0_15 > 2147483647)), (by first | rfl | (simp; done) | (simp [*]; done)), H', ⟨by first | omega | exact Nat.le_refl _⟩, ⟨by (with_reducible repeat (first | refine blk_drewN ?_ _ | refine blk_drew ?_ | refine blk_alloc ?_ _)); exact BK101.out⟩, ⟨by repeat (first | (with_reducible first | exact HB.out | apply below_alloc | apply pw_below_drewN | apply below_drew1 | refine below_set ?_ GE101.out) | exact HB.out)⟩⟩
  case rest =>
   clear HC2
   obtain ⟨kq, x31_1, rfl, HA, HJ1, BK101, HB⟩ := hcut
   cases kq with
   | zero => exact absurd HA.out (by simp [alert_Check.j0])
   | succ kj1 =>
    have H := HA.out
    clear HA
    simp only [alert_Check.j0] at H
    by_cases c15 : x31_1 = true
    · subst c15
      rw [if_pos rfl] at H
      obtain rfl := Option.some.inj H
      go_wp2
      go_ret
      exact ⟨by first | rfl | (simp [errW_none, errW_some] <;> rfl) | (simp [*, errW_none, errW_some] <;> rfl), by repeat (first | (with_reducible first | exact HB.out | apply below_alloc | apply pw_below_drewN | apply below_drew1 | refine below_set ?_ GE101.out) | exact HB.out)⟩
    replace c15 := Bool.eq_false_iff.mpr c15
    subst c15
    rw [if_neg (show ¬ (false = true) by decide)] at H
    have HC16 := Aside0.mk H
    clear H
    go_upto_region 3 with (fail)
    go_cut [39] (fun v39 wc => ∃ (kq : Nat) (x39_15 : Bool), v39 = .bool x39_15 ∧ Aside0 (alert_Check.j1 kq x39_15 a0_0 a0_1 a0_2 a0_3 a0_4 a0_5 a0_6 a0_7 a0_8 a0_9 a0_10 a0_11 a0_12 a0_13 a0_14 a0_15 = some r) ∧ Aside0 (kq ≤ kj1) ∧ Aside0 (wc.heap[gb101]? = some (.cells #[.int .i64 a0_0, .int .i64 a0_1, .int .i64 a0_2, .int .i64 a0_3, .int .i64 a0_4, .bool a0_5, .int .i64 a0_6, .int .i64 a0_7, .bool a0_8, .int .i64 a0_9, .int .i64 a0_10, .bool a0_11, .int .i64 a0_12, .int .i64 a0_13, .bool a0_14, .int .i64 a0_15] 36 (0, 0))) ∧ Aside0 (Below w.heap.size w wc))
    case first =>
     have H := HC16.out
     clear HC16
     by_cases c17 : a0_1 < 1
     · rw [if_pos c17] at H
       have c17b0 : decide (a0_1 < 1) = true := decide_eq_true c17
       clear c17
       (first | rw [c17b0] | (simp only [i64_w, i32_w]; rw [c17b0]) | skip)
       have H' := Aside0.mk H
       clear H
       have hcz18_0 := bc_ BK101 0 rfl
       have hcz18_1 := bc_ BK101 1 rfl
       have hcz18_2 := bc_ BK101 2 rfl
       have hcz18_3 := bc_ BK101 3 rfl
       have hcz18_4 := bc_ BK101 4 rfl
       have hcz18_5 := bc_ BK101 5 rfl
       have hcz18_6 := bc_ BK101 6 rfl
       have hcz18_7 := bc_ BK101 7 rfl
       have hcz18_8 := bc_ BK101 8 rfl
       have hcz18_9 := bc_ BK101 9 rfl
       have hcz18_10 := bc_ BK101 10 rfl
       have hcz18_11 := bc_ BK101 11 rfl
       have hcz18_12 := bc_ BK101 12 rfl
       have hcz18_13 := bc_ BK101 13 rfl
       have hcz18_14 := bc_ BK101 14 rfl
       have hcz18_15 := bc_ BK101 15 rfl
       have hfz18_0 := blk_frozen BK101.out 0
       have hfz18_1 := blk_frozen BK101.out 1
       have hfz18_2 := blk_frozen BK101.out 2
       have hfz18_3 := blk_frozen BK101.out 3
       have hfz18_4 := blk_frozen BK101.out 4
       have hfz18_5 := blk_frozen BK101.out 5
       have hfz18_6 := blk_frozen BK101.out 6
       have hfz18_7 := blk_frozen BK101.out 7
       have hfz18_8 := blk_frozen BK101.out 8
       have hfz18_9 := blk_frozen BK101.out 9
       have hfz18_10 := blk_frozen BK101.out 10
       have hfz18_11 := blk_frozen BK101.out 11
       have hfz18_12 := blk_frozen BK101.out 12
       have hfz18_13 := blk_frozen BK101.out 13
       have hfz18_14 := blk_frozen BK101.out 14
       have hfz18_15 := blk_frozen BK101.out 15
       go_wp2
       go_meet
       case rel => exact ⟨_, (true), (by first | rfl | (simp; done) | (simp [*]; done)), H', ⟨by have := HJ1.out; first | omega | exact Nat.le_refl _⟩, ⟨by (with_reducible repeat (first | refine blk_drewN ?_ _ | refine blk_drew ?_ | refine blk_alloc ?_ _)); exact BK101.out⟩, ⟨by repeat (first | (with_reducible first | exact HB.out | apply below_alloc | apply pw_below_drewN | apply below_drew1 | refine below_set ?_ GE101.out) | exact HB.out)⟩⟩
     rw [if_neg c17] at H
     have c17b0 : decide (a0_1 < 1) = false := decide_eq_false c17
     clear c17
     (first | rw [c17b0] | (simp only [i64_w, i32_w]; rw [c17b0]) | skip)
     have H' := Aside0.mk H
     clear H
     have hcz19_0 := bc_ BK101 0 rfl
     have hcz19_1 := bc_ BK101 1 rfl
     have hcz19_2 := bc_ BK101 2 rfl
     have hcz19_3 := bc_ BK101 3 rfl
     have hcz19_4 := bc_ BK101 4 rfl
     have hcz19_5 := bc_ BK101 5 rfl
     have hcz19_6 := bc_ BK101 6 rfl
     have hcz19_7 := bc_ BK101 7 rfl
     have hcz19_8 := bc_ BK101 8 rfl
     have hcz19_9 := bc_ BK101 9 rfl
     have hcz19_10 := bc_ BK101 10 rfl
     have hcz19_11 := bc_ BK101 11 rfl
     have hcz19_12 := bc_ BK101 12 rfl
     have hcz19_13 := bc_ BK101 13 rfl
     have hcz19_14 := bc_ BK101 14 rfl
     have hcz19_15 := bc_ BK101 15 rfl
     have hfz19_0 := blk_frozen BK101.out 0
     have hfz19_1 := blk_frozen BK101.out 1
     have hfz19_2 := blk_frozen BK101.out 2
     have hfz19_3 := blk_frozen BK101.out 3
     have hfz19_4 := blk_frozen BK101.out 4
     have hfz19_5 := blk_frozen BK101.out 5
     have hfz19_6 := blk_frozen BK101.out 6
     have hfz19_7 := blk_frozen BK101.out 7
     have hfz19_8 := blk_frozen BK101.out 8
     have hfz19_9 := blk_frozen BK101.out 9
     have hfz19_10 := blk_frozen BK101.out 10
     have hfz19_11 := blk_frozen BK101.out 11
     have hfz19_12 := blk_frozen BK101.out 12
     have hfz19_13 := blk_frozen BK101.out 13
     have hfz19_14 := blk_frozen BK101.out 14
     have hfz19_15 := blk_frozen BK101.out 15
     go_wp2
     go_meet
     case rel => exact ⟨_, (decide (a0_1 > 6)), (by first | rfl | (simp; done) | (simp [*]; done)), H', ⟨by have := HJ1.out; first | omega | exact Nat.le_refl _⟩, ⟨by (with_reducible repeat (first | refine blk_drewN ?_ _ | refine blk_drew ?_ | refine blk_alloc ?_ _)); exact BK101.out⟩, ⟨by repeat (first | (with_reducible first | exact HB.out | apply below_alloc | apply pw_below_drewN | apply below_drew1 | refine below_set ?_ GE101.out) | exact HB.out)⟩⟩
    case rest =>
     clear HC16
     obtain ⟨kq, x39_15, rfl, HA, HJ15, BK101, HB⟩ := hcut
     cases kq with
     | zero => exact absurd HA.out (by simp [alert_Check.j1])
     | succ kj15 =>
      have H := HA.out
      clear HA
      simp only [alert_Check.j1] at H
      by_cases c20 : x39_15 = true
      · subst c20
        rw [if_pos rfl] at H
        obtain rfl := Option.some.inj H
        go_wp2
        go_ret
        exact ⟨by first | rfl | (simp [errW_none, errW_some] <;> rfl) | (simp [*, errW_none, errW_some] <;> rfl), by repeat (first | (with_reducible first | exact HB.out | apply below_alloc | apply pw_below_drewN | apply below_drew1 | refine below_set ?_ GE101.out) | exact HB.out)⟩
      replace c20 := Bool.eq_false_iff.mpr c20
      subst c20
      rw [if_neg (show ¬ (false = true) by decide)] at H
      replace H := Option.bind_eq_some_iff.mp H
      obtain ⟨t102, A210, H⟩ := H
      try dsimp -simprocs only at H
      have A21 := Aside0.mk A210
      clear A210
      replace H := Option.bind_eq_some_iff.mp H
      obtain ⟨t103, A220, H⟩ := H
      try dsimp -simprocs only at H
      have A22 := Aside0.mk A220
      clear A220
      replace H := Option.bind_eq_some_iff.mp H
      obtain ⟨t104, A230, H⟩ := H
      try dsimp -simprocs only at H
      have A23 := Aside0.mk A230
      clear A230
      replace H := Option.bind_eq_some_iff.mp H
      obtain ⟨t105, A240, H⟩ := H
      try dsimp -simprocs only at H
      have A24 := Aside0.mk A240
      clear A240
      obtain ⟨y106, hy106⟩ : ∃ y_ : List Int, y_ = (([t102, t103, t104, t105] : List Int)) := ⟨_, rfl⟩
      replace H : ((cmp_Or_api_Errno.f kj15 y106).bind fun t109 => (if t109 = 0 then (if a0_3 < (-17592186044416) then (alert_Check.j2 kj15 true a0_0 a0_1 a0_2 a0_3 a0_4 a0_5 a0_6 a0_7 a0_8 a0_9 a0_10 a0_11 a0_12 a0_13 a0_14 a0_15) else (if a0_4 > 17592186044416 then (alert_Check.j2 kj15 true a0_0 a0_1 a0_2 a0_3 a0_4 a0_5 a0_6 a0_7 a0_8 a0_9 a0_10 a0_11 a0_12 a0_13 a0_14 a0_15) else (if a0_9 < (-1073741824) then (alert_Check.j2 kj15 true a0_0 a0_1 a0_2 a0_3 a0_4 a0_5 a0_6 a0_7 a0_8 a0_9 a0_10 a0_11 a0_12 a0_13 a0_14 a0_15) else (alert_Check.j2 kj15 (decide (a0_10 > 1073741824)) a0_0 a0_1 a0_2 a0_3 a0_4 a0_5 a0_6 a0_7 a0_8 a0_9 a0_10 a0_11 a0_12 a0_13 a0_14 a0_15)))) else (some t109))) = some r := by first | (rw [hy106]; with_reducible exact H) | (have H2_ := (Option.bind_some _ _).symm.trans H; rw [hy106]; with_reducible exact H2_) | (have H2_ := (Option.bind_some _ _).symm.trans H; with_reducible exact H2_) | with_reducible exact H | (rw [hy106]; exact H) | exact H
      have Ny106 := Aside0.mk hy106
      clear hy106
      replace H := Option.bind_eq_some_iff.mp H
      obtain ⟨t109, A250, H⟩ := H
      try dsimp -simprocs only at H
      have A25 := Aside0.mk A250
      clear A250
      by_cases c26 : t109 = 0
      rotate_left
      · rw [if_neg c26] at H
        have c26b0 : (t109 == 0) = false := beq_eq_false_iff_ne.mpr c26
        have c26b1 : (t109 != 0) = true := bne_iff_ne.mpr c26
        obtain rfl := Option.some.inj H
        try go_wp2
        replace BK101 := Aside0.mk (blk_drew BK101.out)
        replace HB := Aside0.mk (below_drew1 HB.out)
        refine start_ (n := 15) (S := fun w' => w'.cell? ⟨gb101, 0, none⟩ = some (.int .i64 a0_0) ∧ w'.cell? ⟨gb101, 1, none⟩ = some (.int .i64 a0_1) ∧ w'.cell? ⟨gb101, 2, none⟩ = some (.int .i64 a0_2) ∧ w'.cell? ⟨gb101, 3, none⟩ = some (.int .i64 a0_3) ∧ w'.cell? ⟨gb101, 4, none⟩ = some (.int .i64 a0_4) ∧ w'.cell? ⟨gb101, 5, none⟩ = some (.bool a0_5) ∧ w'.cell? ⟨gb101, 6, none⟩ = some (.int .i64 a0_6) ∧ w'.cell? ⟨gb101, 7, none⟩ = some (.int .i64 a0_7) ∧ w'.cell? ⟨gb101, 8, none⟩ = some (.bool a0_8) ∧ w'.cell? ⟨gb101, 9, none⟩ = some (.int .i64 a0_9) ∧ w'.cell? ⟨gb101, 10, none⟩ = some (.int .i64 a0_10) ∧ w'.cell? ⟨gb101, 11, none⟩ = some (.bool a0_11) ∧ w'.cell? ⟨gb101, 12, none⟩ = some (.int .i64 a0_12) ∧ w'.cell? ⟨gb101, 13, none⟩ = some (.int .i64 a0_13) ∧ w'.cell? ⟨gb101, 14, none⟩ = some (.bool a0_14) ∧ w'.cell? ⟨gb101, 15, none⟩ = some (.int .i64 a0_15)) (ds := []) (bm_ [0, 15]) (by kernel_rfl) rfl rfl ⟨bc_ BK101 0 rfl, bc_ BK101 1 rfl, bc_ BK101 2 rfl, bc_ BK101 3 rfl, bc_ BK101 4 rfl, bc_ BK101 5 rfl, bc_ BK101 6 rfl, bc_ BK101 7 rfl, bc_ BK101 8 rfl, bc_ BK101 9 rfl, bc_ BK101 10 rfl, bc_ BK101 11 rfl, bc_ BK101 12 rfl, bc_ BK101 13 rfl, bc_ BK101 14 rfl, bc_ BK101 15 rfl⟩ (fun hHeld => ?_); refine with_tabW alert_Check.tab5 alert_Check.bits5 (fun HT_ HW_ => ?_)
        generalize wc.drew = w65 at BK101 HB hHeld ⊢
        refine pq_ 0 40 (bm_ [1, 14]) HT_ ?_
        refine pq_ 3 43 (bm_ [1, 2, 1, 11]) HT_ ?_
        refine pq_ 6 46 (bm_ [1, 2, 1, 2, 1, 8]) HT_ ?_
        refine pq_ 9 49 (bm_ [1, 2, 1, 2, 1, 2, 1, 5]) HT_ ?_
        refine tq_ 1 41 (bm_ [2, 1, 1, 2, 1, 2, 1, 5]) HT_ HW_ hHeld ?_
        refine tq_ 4 44 (bm_ [2, 1, 2, 1, 1, 2, 1, 5]) HT_ HW_ hHeld ?_
        refine tq_ 7 47 (bm_ [2, 1, 2, 1, 2, 1, 1, 5]) HT_ HW_ hHeld ?_
        refine tq_ 10 50 (bm_ [2, 1, 2, 1, 2, 1, 2, 4]) HT_ HW_ hHeld ?_
        refine oq_ 2 (some 42) (bm_ [5, 1, 2, 1, 2, 4]) HT_ (fun K hK => ?_)
        refine gq_ Tryd.func27 #[.agg #[.int .i64 a0_3, .int .i64 a0_4, .bool a0_5]] ?_
        with_reducible refine (bound_Check_api_Tick.calls kj15 a0_3 a0_4 a0_5 t102 _ A21.out).mono ?_
        rintro e w66 ⟨rfl, hb⟩
        refine ⟨_, rfl, ?_⟩
        replace BK101 := bkb_ BK101 hb rfl
        replace HB := hbs_ HB hb rfl rfl rfl rfl
        (try clear hb)
        refine hK.out _ _ ⟨bc_ BK101 0 rfl, bc_ BK101 1 rfl, bc_ BK101 2 rfl, bc_ BK101 3 rfl, bc_ BK101 4 rfl, bc_ BK101 5 rfl, bc_ BK101 6 rfl, bc_ BK101 7 rfl, bc_ BK101 8 rfl, bc_ BK101 9 rfl, bc_ BK101 10 rfl, bc_ BK101 11 rfl, bc_ BK101 12 rfl, bc_ BK101 13 rfl, bc_ BK101 14 rfl, bc_ BK101 15 rfl⟩ (fun hHeld => ?_)
        clear hK K
        refine nq_ 42 ?_
        refine oq_ 5 (some 45) (bm_ [8, 1, 2, 4]) HT_ (fun K hK => ?_)
        refine gq_ Tryd.func28 #[.agg #[.int .i64 a0_6, .int .i64 a0_7, .bool a0_8]] ?_
        with_reducible refine (bound_Check_api_Arc.calls kj15 a0_6 a0_7 a0_8 t103 _ A22.out).mono ?_
        rintro e w67 ⟨rfl, hb⟩
        refine ⟨_, rfl, ?_⟩
        replace BK101 := bkb_ BK101 hb rfl
        replace HB := hbs_ HB hb rfl rfl rfl rfl
        (try clear hb)
        refine hK.out _ _ ⟨bc_ BK101 0 rfl, bc_ BK101 1 rfl, bc_ BK101 2 rfl, bc_ BK101 3 rfl, bc_ BK101 4 rfl, bc_ BK101 5 rfl, bc_ BK101 6 rfl, bc_ BK101 7 rfl, bc_ BK101 8 rfl, bc_ BK101 9 rfl, bc_ BK101 10 rfl, bc_ BK101 11 rfl, bc_ BK101 12 rfl, bc_ BK101 13 rfl, bc_ BK101 14 rfl, bc_ BK101 15 rfl⟩ (fun hHeld => ?_)
        clear hK K
        refine nq_ 45 ?_
        refine oq_ 8 (some 48) (bm_ [11, 4]) HT_ (fun K hK => ?_)
        refine gq_ Tryd.func28 #[.agg #[.int .i64 a0_9, .int .i64 a0_10, .bool a0_11]] ?_
        with_reducible refine (bound_Check_api_Arc.calls kj15 a0_9 a0_10 a0_11 t104 _ A23.out).mono ?_
        rintro e w68 ⟨rfl, hb⟩
        refine ⟨_, rfl, ?_⟩
        replace BK101 := bkb_ BK101 hb rfl
        replace HB := hbs_ HB hb rfl rfl rfl rfl
        (try clear hb)
        refine hK.out _ _ ⟨bc_ BK101 0 rfl, bc_ BK101 1 rfl, bc_ BK101 2 rfl, bc_ BK101 3 rfl, bc_ BK101 4 rfl, bc_ BK101 5 rfl, bc_ BK101 6 rfl, bc_ BK101 7 rfl, bc_ BK101 8 rfl, bc_ BK101 9 rfl, bc_ BK101 10 rfl, bc_ BK101 11 rfl, bc_ BK101 12 rfl, bc_ BK101 13 rfl, bc_ BK101 14 rfl, bc_ BK101 15 rfl⟩ (fun hHeld => ?_)
        clear hK K
        refine nq_ 48 ?_
        refine oq_ 11 (some 51) (bm_ [12, 3]) HT_ (fun K hK => ?_)
        refine gq_ Tryd.func29 #[.agg #[.int .i64 a0_12, .int .i64 a0_13, .bool a0_14]] ?_
        with_reducible refine (bound_Check_api_Quanta.calls kj15 a0_12 a0_13 a0_14 t105 _ A24.out).mono ?_
        rintro e w69 ⟨rfl, hb⟩
        refine ⟨_, rfl, ?_⟩
        replace BK101 := bkb_ BK101 hb rfl
        replace HB := hbs_ HB hb rfl rfl rfl rfl
        (try clear hb)
        refine hK.out _ _ ⟨bc_ BK101 0 rfl, bc_ BK101 1 rfl, bc_ BK101 2 rfl, bc_ BK101 3 rfl, bc_ BK101 4 rfl, bc_ BK101 5 rfl, bc_ BK101 6 rfl, bc_ BK101 7 rfl, bc_ BK101 8 rfl, bc_ BK101 9 rfl, bc_ BK101 10 rfl, bc_ BK101 11 rfl, bc_ BK101 12 rfl, bc_ BK101 13 rfl, bc_ BK101 14 rfl, bc_ BK101 15 rfl⟩ (fun hHeld => ?_)
        clear hK K
        refine nq_ 51 ?_
        refine oq_ 12 (some 52) (bm_ [13, 2]) HT_ (fun K hK => ?_)
        refine Kd.R_lit_step (Kd.int .i64) _ 44 ?hg (N := 52) ?hd (xs := ([t102, t103, t104, t105] : List Int)) (inner := [.int .i64 t102, .int .i64 t103, .int .i64 t104, .int .i64 t105]) (ok := fun _ => True) (okp := fun _ => True) ?hr ?hp (fun _ hk => hk) trivial (Below.refl _ _) (Nat.le_refl _) (by simp) ?_; (case hd => rfl); (case hg => rfl); (case hr => first | (go_simp; done) | (go_simp; rfl)); (case hp => exact (Reps.one (show Kd.M (Kd.int .i64) _ _ _ t102 [.int .i64 t102] from rfl) (Reps.one (show Kd.M (Kd.int .i64) _ _ _ t103 [.int .i64 t103] from rfl) (Reps.one (show Kd.M (Kd.int .i64) _ _ _ t104 [.int .i64 t104] from rfl) (Reps.one (show Kd.M (Kd.int .i64) _ _ _ t105 [.int .i64 t105] from rfl) (Reps.none _ _))))))
        intro v107 w70 ho71 hb hg_ hnew_
        clear hg_ hnew_
        (first | rw [← Ny106.out] at ho71 | (simp only [Int.reduceToNat] at ho71; rw [← Ny106.out] at ho71))
        have HO108 := Aside0.mk (Kd.R_lower ho71 (below_size (by repeat (first | (with_reducible first | exact HB.out | apply below_alloc | apply pw_below_drewN | apply below_drew1 | refine below_set ?_ GE101.out) | exact HB.out))))
        replace BK101 := bkb_ BK101 hb rfl
        replace HB := hbs_ HB hb rfl rfl rfl rfl
        clear hb ho71
        obtain ⟨Ao72, co72, eo72⟩ := Kd.R_slice HO108.out
        (first | subst eo72 | (injection eo72 with f1_ f2_ f3_; have f4_ := f1_.symm; have f5_ := f3_.symm; clear f1_ f2_ f3_; subst f4_; subst f5_))
        refine hK.out _ _ ⟨bc_ BK101 0 rfl, bc_ BK101 1 rfl, bc_ BK101 2 rfl, bc_ BK101 3 rfl, bc_ BK101 4 rfl, bc_ BK101 5 rfl, bc_ BK101 6 rfl, bc_ BK101 7 rfl, bc_ BK101 8 rfl, bc_ BK101 9 rfl, bc_ BK101 10 rfl, bc_ BK101 11 rfl, bc_ BK101 12 rfl, bc_ BK101 13 rfl, bc_ BK101 14 rfl, bc_ BK101 15 rfl⟩ (fun hHeld => ?_)
        clear hK K
        refine nq_ 52 ?_
        refine oq_ 13 (some 53) (bm_ [14, 1]) HT_ (fun K hK => ?_)
        refine gq_ Tryd.func26 #[.slice Ao72 y106.length co72] ?_
        with_reducible refine (cmp_Or_api_Errno.calls kj15 _ _ y106 t109 _ ?side1 ?side2 A25.out).mono ?_
        (case side1 => repeat (first | exact (Kd.R_reads' HO108.out).2.2 | (with_reducible refine Kd.C_alloc ?_ _) | (with_reducible refine Kd.C_drewN ?_ _) | (with_reducible refine Kd.C_drew ?_)))
        (case side2 => exact (Kd.R_reads' HO108.out).2.1)
        rintro e w' ⟨rfl, ⟨nd, rfl⟩⟩
        refine ⟨_, rfl, ?_⟩
        refine hK.out _ _ ⟨bc_ BK101 0 rfl, bc_ BK101 1 rfl, bc_ BK101 2 rfl, bc_ BK101 3 rfl, bc_ BK101 4 rfl, bc_ BK101 5 rfl, bc_ BK101 6 rfl, bc_ BK101 7 rfl, bc_ BK101 8 rfl, bc_ BK101 9 rfl, bc_ BK101 10 rfl, bc_ BK101 11 rfl, bc_ BK101 12 rfl, bc_ BK101 13 rfl, bc_ BK101 14 rfl, bc_ BK101 15 rfl⟩ (fun hHeld => ?_)
        clear hK K
        refine nq_ 53 ?_
        refine pq_ 14 3 (bm_ [15]) HT_ ?_
        refine done_ (done_of HT_.out (by kernel_rfl)) ?_
        try go_wp2
        go_ret
        exact ⟨by first | rfl | (simp [errW_none, errW_some] <;> rfl) | (simp [*, errW_none, errW_some] <;> rfl), by repeat (first | (with_reducible first | exact HB.out | apply below_alloc | apply pw_below_drewN | apply below_drew1 | refine below_set ?_ GE101.out) | exact HB.out)⟩
      rw [if_pos c26] at H
      have c26b0 : (t109 == 0) = true := beq_iff_eq.mpr c26
      have c26b1 : (t109 != 0) = false := bne_eq_false_iff_eq.mpr c26
      clear c26
      have HC27 := Aside0.mk H
      clear H
      try go_wp2
      replace BK101 := Aside0.mk (blk_drew BK101.out)
      replace HB := Aside0.mk (below_drew1 HB.out)
      refine start_ (n := 15) (S := fun w' => w'.cell? ⟨gb101, 0, none⟩ = some (.int .i64 a0_0) ∧ w'.cell? ⟨gb101, 1, none⟩ = some (.int .i64 a0_1) ∧ w'.cell? ⟨gb101, 2, none⟩ = some (.int .i64 a0_2) ∧ w'.cell? ⟨gb101, 3, none⟩ = some (.int .i64 a0_3) ∧ w'.cell? ⟨gb101, 4, none⟩ = some (.int .i64 a0_4) ∧ w'.cell? ⟨gb101, 5, none⟩ = some (.bool a0_5) ∧ w'.cell? ⟨gb101, 6, none⟩ = some (.int .i64 a0_6) ∧ w'.cell? ⟨gb101, 7, none⟩ = some (.int .i64 a0_7) ∧ w'.cell? ⟨gb101, 8, none⟩ = some (.bool a0_8) ∧ w'.cell? ⟨gb101, 9, none⟩ = some (.int .i64 a0_9) ∧ w'.cell? ⟨gb101, 10, none⟩ = some (.int .i64 a0_10) ∧ w'.cell? ⟨gb101, 11, none⟩ = some (.bool a0_11) ∧ w'.cell? ⟨gb101, 12, none⟩ = some (.int .i64 a0_12) ∧ w'.cell? ⟨gb101, 13, none⟩ = some (.int .i64 a0_13) ∧ w'.cell? ⟨gb101, 14, none⟩ = some (.bool a0_14) ∧ w'.cell? ⟨gb101, 15, none⟩ = some (.int .i64 a0_15)) (ds := []) (bm_ [0, 15]) (by kernel_rfl) rfl rfl ⟨bc_ BK101 0 rfl, bc_ BK101 1 rfl, bc_ BK101 2 rfl, bc_ BK101 3 rfl, bc_ BK101 4 rfl, bc_ BK101 5 rfl, bc_ BK101 6 rfl, bc_ BK101 7 rfl, bc_ BK101 8 rfl, bc_ BK101 9 rfl, bc_ BK101 10 rfl, bc_ BK101 11 rfl, bc_ BK101 12 rfl, bc_ BK101 13 rfl, bc_ BK101 14 rfl, bc_ BK101 15 rfl⟩ (fun hHeld => ?_); refine with_tabW alert_Check.tab5 alert_Check.bits5 (fun HT_ HW_ => ?_)
      generalize wc.drew = w28 at BK101 HB hHeld ⊢
      refine pq_ 0 40 (bm_ [1, 14]) HT_ ?_
      refine pq_ 3 43 (bm_ [1, 2, 1, 11]) HT_ ?_
      refine pq_ 6 46 (bm_ [1, 2, 1, 2, 1, 8]) HT_ ?_
      refine pq_ 9 49 (bm_ [1, 2, 1, 2, 1, 2, 1, 5]) HT_ ?_
      refine tq_ 1 41 (bm_ [2, 1, 1, 2, 1, 2, 1, 5]) HT_ HW_ hHeld ?_
      refine tq_ 4 44 (bm_ [2, 1, 2, 1, 1, 2, 1, 5]) HT_ HW_ hHeld ?_
      refine tq_ 7 47 (bm_ [2, 1, 2, 1, 2, 1, 1, 5]) HT_ HW_ hHeld ?_
      refine tq_ 10 50 (bm_ [2, 1, 2, 1, 2, 1, 2, 4]) HT_ HW_ hHeld ?_
      refine oq_ 2 (some 42) (bm_ [5, 1, 2, 1, 2, 4]) HT_ (fun K hK => ?_)
      refine gq_ Tryd.func27 #[.agg #[.int .i64 a0_3, .int .i64 a0_4, .bool a0_5]] ?_
      with_reducible refine (bound_Check_api_Tick.calls kj15 a0_3 a0_4 a0_5 t102 _ A21.out).mono ?_
      rintro e w29 ⟨rfl, hb⟩
      refine ⟨_, rfl, ?_⟩
      replace BK101 := bkb_ BK101 hb rfl
      replace HB := hbs_ HB hb rfl rfl rfl rfl
      (try clear hb)
      refine hK.out _ _ ⟨bc_ BK101 0 rfl, bc_ BK101 1 rfl, bc_ BK101 2 rfl, bc_ BK101 3 rfl, bc_ BK101 4 rfl, bc_ BK101 5 rfl, bc_ BK101 6 rfl, bc_ BK101 7 rfl, bc_ BK101 8 rfl, bc_ BK101 9 rfl, bc_ BK101 10 rfl, bc_ BK101 11 rfl, bc_ BK101 12 rfl, bc_ BK101 13 rfl, bc_ BK101 14 rfl, bc_ BK101 15 rfl⟩ (fun hHeld => ?_)
      clear hK K
      refine nq_ 42 ?_
      refine oq_ 5 (some 45) (bm_ [8, 1, 2, 4]) HT_ (fun K hK => ?_)
      refine gq_ Tryd.func28 #[.agg #[.int .i64 a0_6, .int .i64 a0_7, .bool a0_8]] ?_
      with_reducible refine (bound_Check_api_Arc.calls kj15 a0_6 a0_7 a0_8 t103 _ A22.out).mono ?_
      rintro e w30 ⟨rfl, hb⟩
      refine ⟨_, rfl, ?_⟩
      replace BK101 := bkb_ BK101 hb rfl
      replace HB := hbs_ HB hb rfl rfl rfl rfl
      (try clear hb)
      refine hK.out _ _ ⟨bc_ BK101 0 rfl, bc_ BK101 1 rfl, bc_ BK101 2 rfl, bc_ BK101 3 rfl, bc_ BK101 4 rfl, bc_ BK101 5 rfl, bc_ BK101 6 rfl, bc_ BK101 7 rfl, bc_ BK101 8 rfl, bc_ BK101 9 rfl, bc_ BK101 10 rfl, bc_ BK101 11 rfl, bc_ BK101 12 rfl, bc_ BK101 13 rfl, bc_ BK101 14 rfl, bc_ BK101 15 rfl⟩ (fun hHeld => ?_)
      clear hK K
      refine nq_ 45 ?_
      refine oq_ 8 (some 48) (bm_ [11, 4]) HT_ (fun K hK => ?_)
      refine gq_ Tryd.func28 #[.agg #[.int .i64 a0_9, .int .i64 a0_10, .bool a0_11]] ?_
      with_reducible refine (bound_Check_api_Arc.calls kj15 a0_9 a0_10 a0_11 t104 _ A23.out).mono ?_
      rintro e w31 ⟨rfl, hb⟩
      refine ⟨_, rfl, ?_⟩
      replace BK101 := bkb_ BK101 hb rfl
      replace HB := hbs_ HB hb rfl rfl rfl rfl
      (try clear hb)
      refine hK.out _ _ ⟨bc_ BK101 0 rfl, bc_ BK101 1 rfl, bc_ BK101 2 rfl, bc_ BK101 3 rfl, bc_ BK101 4 rfl, bc_ BK101 5 rfl, bc_ BK101 6 rfl, bc_ BK101 7 rfl, bc_ BK101 8 rfl, bc_ BK101 9 rfl, bc_ BK101 10 rfl, bc_ BK101 11 rfl, bc_ BK101 12 rfl, bc_ BK101 13 rfl, bc_ BK101 14 rfl, bc_ BK101 15 rfl⟩ (fun hHeld => ?_)
      clear hK K
      refine nq_ 48 ?_
      refine oq_ 11 (some 51) (bm_ [12, 3]) HT_ (fun K hK => ?_)
      refine gq_ Tryd.func29 #[.agg #[.int .i64 a0_12, .int .i64 a0_13, .bool a0_14]] ?_
      with_reducible refine (bound_Check_api_Quanta.calls kj15 a0_12 a0_13 a0_14 t105 _ A24.out).mono ?_
      rintro e w32 ⟨rfl, hb⟩
      refine ⟨_, rfl, ?_⟩
      replace BK101 := bkb_ BK101 hb rfl
      replace HB := hbs_ HB hb rfl rfl rfl rfl
      (try clear hb)
      refine hK.out _ _ ⟨bc_ BK101 0 rfl, bc_ BK101 1 rfl, bc_ BK101 2 rfl, bc_ BK101 3 rfl, bc_ BK101 4 rfl, bc_ BK101 5 rfl, bc_ BK101 6 rfl, bc_ BK101 7 rfl, bc_ BK101 8 rfl, bc_ BK101 9 rfl, bc_ BK101 10 rfl, bc_ BK101 11 rfl, bc_ BK101 12 rfl, bc_ BK101 13 rfl, bc_ BK101 14 rfl, bc_ BK101 15 rfl⟩ (fun hHeld => ?_)
      clear hK K
      refine nq_ 51 ?_
      refine oq_ 12 (some 52) (bm_ [13, 2]) HT_ (fun K hK => ?_)
      refine Kd.R_lit_step (Kd.int .i64) _ 44 ?hg (N := 52) ?hd (xs := ([t102, t103, t104, t105] : List Int)) (inner := [.int .i64 t102, .int .i64 t103, .int .i64 t104, .int .i64 t105]) (ok := fun _ => True) (okp := fun _ => True) ?hr ?hp (fun _ hk => hk) trivial (Below.refl _ _) (Nat.le_refl _) (by simp) ?_; (case hd => rfl); (case hg => rfl); (case hr => first | (go_simp; done) | (go_simp; rfl)); (case hp => exact (Reps.one (show Kd.M (Kd.int .i64) _ _ _ t102 [.int .i64 t102] from rfl) (Reps.one (show Kd.M (Kd.int .i64) _ _ _ t103 [.int .i64 t103] from rfl) (Reps.one (show Kd.M (Kd.int .i64) _ _ _ t104 [.int .i64 t104] from rfl) (Reps.one (show Kd.M (Kd.int .i64) _ _ _ t105 [.int .i64 t105] from rfl) (Reps.none _ _))))))
      intro v107 w33 ho34 hb hg_ hnew_
      clear hg_ hnew_
      (first | rw [← Ny106.out] at ho34 | (simp only [Int.reduceToNat] at ho34; rw [← Ny106.out] at ho34))
      have HO108 := Aside0.mk (Kd.R_lower ho34 (below_size (by repeat (first | (with_reducible first | exact HB.out | apply below_alloc | apply pw_below_drewN | apply below_drew1 | refine below_set ?_ GE101.out) | exact HB.out))))
      replace BK101 := bkb_ BK101 hb rfl
      replace HB := hbs_ HB hb rfl rfl rfl rfl
      clear hb ho34
      obtain ⟨Ao35, co35, eo35⟩ := Kd.R_slice HO108.out
      (first | subst eo35 | (injection eo35 with f1_ f2_ f3_; have f4_ := f1_.symm; have f5_ := f3_.symm; clear f1_ f2_ f3_; subst f4_; subst f5_))
      refine hK.out _ _ ⟨bc_ BK101 0 rfl, bc_ BK101 1 rfl, bc_ BK101 2 rfl, bc_ BK101 3 rfl, bc_ BK101 4 rfl, bc_ BK101 5 rfl, bc_ BK101 6 rfl, bc_ BK101 7 rfl, bc_ BK101 8 rfl, bc_ BK101 9 rfl, bc_ BK101 10 rfl, bc_ BK101 11 rfl, bc_ BK101 12 rfl, bc_ BK101 13 rfl, bc_ BK101 14 rfl, bc_ BK101 15 rfl⟩ (fun hHeld => ?_)
      clear hK K
      refine nq_ 52 ?_
      refine oq_ 13 (some 53) (bm_ [14, 1]) HT_ (fun K hK => ?_)
      refine gq_ Tryd.func26 #[.slice Ao35 y106.length co35] ?_
      with_reducible refine (cmp_Or_api_Errno.calls kj15 _ _ y106 t109 _ ?side1 ?side2 A25.out).mono ?_
      (case side1 => repeat (first | exact (Kd.R_reads' HO108.out).2.2 | (with_reducible refine Kd.C_alloc ?_ _) | (with_reducible refine Kd.C_drewN ?_ _) | (with_reducible refine Kd.C_drew ?_)))
      (case side2 => exact (Kd.R_reads' HO108.out).2.1)
      rintro e w' ⟨rfl, ⟨nd, rfl⟩⟩
      refine ⟨_, rfl, ?_⟩
      refine hK.out _ _ ⟨bc_ BK101 0 rfl, bc_ BK101 1 rfl, bc_ BK101 2 rfl, bc_ BK101 3 rfl, bc_ BK101 4 rfl, bc_ BK101 5 rfl, bc_ BK101 6 rfl, bc_ BK101 7 rfl, bc_ BK101 8 rfl, bc_ BK101 9 rfl, bc_ BK101 10 rfl, bc_ BK101 11 rfl, bc_ BK101 12 rfl, bc_ BK101 13 rfl, bc_ BK101 14 rfl, bc_ BK101 15 rfl⟩ (fun hHeld => ?_)
      clear hK K
      refine nq_ 53 ?_
      refine pq_ 14 3 (bm_ [15]) HT_ ?_
      refine done_ (done_of HT_.out (by kernel_rfl)) ?_
      go_upto_region 8 with (fail)
      go_cut [57] (fun v57 wc => ∃ (kq : Nat) (x57_26 : Bool), v57 = .bool x57_26 ∧ Aside0 (alert_Check.j2 kq x57_26 a0_0 a0_1 a0_2 a0_3 a0_4 a0_5 a0_6 a0_7 a0_8 a0_9 a0_10 a0_11 a0_12 a0_13 a0_14 a0_15 = some r) ∧ Aside0 (kq ≤ kj15) ∧ Aside0 (wc.heap[gb101]? = some (.cells #[.int .i64 a0_0, .int .i64 a0_1, .int .i64 a0_2, .int .i64 a0_3, .int .i64 a0_4, .bool a0_5, .int .i64 a0_6, .int .i64 a0_7, .bool a0_8, .int .i64 a0_9, .int .i64 a0_10, .bool a0_11, .int .i64 a0_12, .int .i64 a0_13, .bool a0_14, .int .i64 a0_15] 36 (0, 0))) ∧ Aside0 (Below w.heap.size w wc))
      case first =>
       have H := HC27.out
       clear HC27
       by_cases c36 : a0_3 < (-17592186044416)
       · rw [if_pos c36] at H
         have c36b0 : decide (a0_3 < (-17592186044416)) = true := decide_eq_true c36
         clear c36
         (first | rw [c36b0] | (simp only [i64_w, i32_w]; rw [c36b0]) | skip)
         have H' := Aside0.mk H
         clear H
         have hcz37_0 := bc_ BK101 0 rfl
         have hcz37_1 := bc_ BK101 1 rfl
         have hcz37_2 := bc_ BK101 2 rfl
         have hcz37_3 := bc_ BK101 3 rfl
         have hcz37_4 := bc_ BK101 4 rfl
         have hcz37_5 := bc_ BK101 5 rfl
         have hcz37_6 := bc_ BK101 6 rfl
         have hcz37_7 := bc_ BK101 7 rfl
         have hcz37_8 := bc_ BK101 8 rfl
         have hcz37_9 := bc_ BK101 9 rfl
         have hcz37_10 := bc_ BK101 10 rfl
         have hcz37_11 := bc_ BK101 11 rfl
         have hcz37_12 := bc_ BK101 12 rfl
         have hcz37_13 := bc_ BK101 13 rfl
         have hcz37_14 := bc_ BK101 14 rfl
         have hcz37_15 := bc_ BK101 15 rfl
         have hfz37_0 := blk_frozen BK101.out 0
         have hfz37_1 := blk_frozen BK101.out 1
         have hfz37_2 := blk_frozen BK101.out 2
         have hfz37_3 := blk_frozen BK101.out 3
         have hfz37_4 := blk_frozen BK101.out 4
         have hfz37_5 := blk_frozen BK101.out 5
         have hfz37_6 := blk_frozen BK101.out 6
         have hfz37_7 := blk_frozen BK101.out 7
         have hfz37_8 := blk_frozen BK101.out 8
         have hfz37_9 := blk_frozen BK101.out 9
         have hfz37_10 := blk_frozen BK101.out 10
         have hfz37_11 := blk_frozen BK101.out 11
         have hfz37_12 := blk_frozen BK101.out 12
         have hfz37_13 := blk_frozen BK101.out 13
         have hfz37_14 := blk_frozen BK101.out 14
         have hfz37_15 := blk_frozen BK101.out 15
         go_wp2
         go_meet
         case rel => exact ⟨_, (true), (by first | rfl | (simp; done) | (simp [*]; done)), H', ⟨by have := HJ1.out; have := HJ15.out; first | omega | exact Nat.le_refl _⟩, ⟨by (with_reducible repeat (first | refine blk_drewN ?_ _ | refine blk_drew ?_ | refine blk_alloc ?_ _)); exact BK101.out⟩, ⟨by repeat (first | (with_reducible first | exact HB.out | apply below_alloc | apply pw_below_drewN | apply below_drew1 | refine below_set ?_ GE101.out) | exact HB.out)⟩⟩
       rw [if_neg c36] at H
       have c36b0 : decide (a0_3 < (-17592186044416)) = false := decide_eq_false c36
       clear c36
       (first | rw [c36b0] | (simp only [i64_w, i32_w]; rw [c36b0]) | skip)
       by_cases c38 : a0_4 > 17592186044416
       · rw [if_pos c38] at H
         have c38b0 : decide (17592186044416 < a0_4) = true := decide_eq_true c38
         clear c38
         have H' := Aside0.mk H
         clear H
         have hcz39_0 := bc_ BK101 0 rfl
         have hcz39_1 := bc_ BK101 1 rfl
         have hcz39_2 := bc_ BK101 2 rfl
         have hcz39_3 := bc_ BK101 3 rfl
         have hcz39_4 := bc_ BK101 4 rfl
         have hcz39_5 := bc_ BK101 5 rfl
         have hcz39_6 := bc_ BK101 6 rfl
         have hcz39_7 := bc_ BK101 7 rfl
         have hcz39_8 := bc_ BK101 8 rfl
         have hcz39_9 := bc_ BK101 9 rfl
         have hcz39_10 := bc_ BK101 10 rfl
         have hcz39_11 := bc_ BK101 11 rfl
         have hcz39_12 := bc_ BK101 12 rfl
         have hcz39_13 := bc_ BK101 13 rfl
         have hcz39_14 := bc_ BK101 14 rfl
         have hcz39_15 := bc_ BK101 15 rfl
         have hfz39_0 := blk_frozen BK101.out 0
         have hfz39_1 := blk_frozen BK101.out 1
         have hfz39_2 := blk_frozen BK101.out 2
         have hfz39_3 := blk_frozen BK101.out 3
         have hfz39_4 := blk_frozen BK101.out 4
         have hfz39_5 := blk_frozen BK101.out 5
         have hfz39_6 := blk_frozen BK101.out 6
         have hfz39_7 := blk_frozen BK101.out 7
         have hfz39_8 := blk_frozen BK101.out 8
         have hfz39_9 := blk_frozen BK101.out 9
         have hfz39_10 := blk_frozen BK101.out 10
         have hfz39_11 := blk_frozen BK101.out 11
         have hfz39_12 := blk_frozen BK101.out 12
         have hfz39_13 := blk_frozen BK101.out 13
         have hfz39_14 := blk_frozen BK101.out 14
         have hfz39_15 := blk_frozen BK101.out 15
         go_wp2
         go_meet
         case rel => exact ⟨_, (true), (by first | rfl | (simp; done) | (simp [*]; done)), H', ⟨by have := HJ1.out; have := HJ15.out; first | omega | exact Nat.le_refl _⟩, ⟨by (with_reducible repeat (first | refine blk_drewN ?_ _ | refine blk_drew ?_ | refine blk_alloc ?_ _)); exact BK101.out⟩, ⟨by repeat (first | (with_reducible first | exact HB.out | apply below_alloc | apply pw_below_drewN | apply below_drew1 | refine below_set ?_ GE101.out) | exact HB.out)⟩⟩
       rw [if_neg c38] at H
       have c38b0 : decide (17592186044416 < a0_4) = false := decide_eq_false c38
       clear c38
       by_cases c40 : a0_9 < (-1073741824)
       · rw [if_pos c40] at H
         have c40b0 : decide (a0_9 < (-1073741824)) = true := decide_eq_true c40
         clear c40
         have H' := Aside0.mk H
         clear H
         have hcz41_0 := bc_ BK101 0 rfl
         have hcz41_1 := bc_ BK101 1 rfl
         have hcz41_2 := bc_ BK101 2 rfl
         have hcz41_3 := bc_ BK101 3 rfl
         have hcz41_4 := bc_ BK101 4 rfl
         have hcz41_5 := bc_ BK101 5 rfl
         have hcz41_6 := bc_ BK101 6 rfl
         have hcz41_7 := bc_ BK101 7 rfl
         have hcz41_8 := bc_ BK101 8 rfl
         have hcz41_9 := bc_ BK101 9 rfl
         have hcz41_10 := bc_ BK101 10 rfl
         have hcz41_11 := bc_ BK101 11 rfl
         have hcz41_12 := bc_ BK101 12 rfl
         have hcz41_13 := bc_ BK101 13 rfl
         have hcz41_14 := bc_ BK101 14 rfl
         have hcz41_15 := bc_ BK101 15 rfl
         have hfz41_0 := blk_frozen BK101.out 0
         have hfz41_1 := blk_frozen BK101.out 1
         have hfz41_2 := blk_frozen BK101.out 2
         have hfz41_3 := blk_frozen BK101.out 3
         have hfz41_4 := blk_frozen BK101.out 4
         have hfz41_5 := blk_frozen BK101.out 5
         have hfz41_6 := blk_frozen BK101.out 6
         have hfz41_7 := blk_frozen BK101.out 7
         have hfz41_8 := blk_frozen BK101.out 8
         have hfz41_9 := blk_frozen BK101.out 9
         have hfz41_10 := blk_frozen BK101.out 10
         have hfz41_11 := blk_frozen BK101.out 11
         have hfz41_12 := blk_frozen BK101.out 12
         have hfz41_13 := blk_frozen BK101.out 13
         have hfz41_14 := blk_frozen BK101.out 14
         have hfz41_15 := blk_frozen BK101.out 15
         go_wp2
         go_meet
         case rel => exact ⟨_, (true), (by first | rfl | (simp; done) | (simp [*]; done)), H', ⟨by have := HJ1.out; have := HJ15.out; first | omega | exact Nat.le_refl _⟩, ⟨by (with_reducible repeat (first | refine blk_drewN ?_ _ | refine blk_drew ?_ | refine blk_alloc ?_ _)); exact BK101.out⟩, ⟨by repeat (first | (with_reducible first | exact HB.out | apply below_alloc | apply pw_below_drewN | apply below_drew1 | refine below_set ?_ GE101.out) | exact HB.out)⟩⟩
       rw [if_neg c40] at H
       have c40b0 : decide (a0_9 < (-1073741824)) = false := decide_eq_false c40
       clear c40
       have H' := Aside0.mk H
       clear H
       have hcz42_0 := bc_ BK101 0 rfl
       have hcz42_1 := bc_ BK101 1 rfl
       have hcz42_2 := bc_ BK101 2 rfl
       have hcz42_3 := bc_ BK101 3 rfl
       have hcz42_4 := bc_ BK101 4 rfl
       have hcz42_5 := bc_ BK101 5 rfl
       have hcz42_6 := bc_ BK101 6 rfl
       have hcz42_7 := bc_ BK101 7 rfl
       have hcz42_8 := bc_ BK101 8 rfl
       have hcz42_9 := bc_ BK101 9 rfl
       have hcz42_10 := bc_ BK101 10 rfl
       have hcz42_11 := bc_ BK101 11 rfl
       have hcz42_12 := bc_ BK101 12 rfl
       have hcz42_13 := bc_ BK101 13 rfl
       have hcz42_14 := bc_ BK101 14 rfl
       have hcz42_15 := bc_ BK101 15 rfl
       have hfz42_0 := blk_frozen BK101.out 0
       have hfz42_1 := blk_frozen BK101.out 1
       have hfz42_2 := blk_frozen BK101.out 2
       have hfz42_3 := blk_frozen BK101.out 3
       have hfz42_4 := blk_frozen BK101.out 4
       have hfz42_5 := blk_frozen BK101.out 5
       have hfz42_6 := blk_frozen BK101.out 6
       have hfz42_7 := blk_frozen BK101.out 7
       have hfz42_8 := blk_frozen BK101.out 8
       have hfz42_9 := blk_frozen BK101.out 9
       have hfz42_10 := blk_frozen BK101.out 10
       have hfz42_11 := blk_frozen BK101.out 11
       have hfz42_12 := blk_frozen BK101.out 12
       have hfz42_13 := blk_frozen BK101.out 13
       have hfz42_14 := blk_frozen BK101.out 14
       have hfz42_15 := blk_frozen BK101.out 15
       go_wp2
       go_meet
       case rel => exact ⟨_, (decide (a0_10 > 1073741824)), (by first | rfl | (simp; done) | (simp [*]; done)), H', ⟨by have := HJ1.out; have := HJ15.out; first | omega | exact Nat.le_refl _⟩, ⟨by (with_reducible repeat (first | refine blk_drewN ?_ _ | refine blk_drew ?_ | refine blk_alloc ?_ _)); exact BK101.out⟩, ⟨by repeat (first | (with_reducible first | exact HB.out | apply below_alloc | apply pw_below_drewN | apply below_drew1 | refine below_set ?_ GE101.out) | exact HB.out)⟩⟩
      case rest =>
       clear HC27
       obtain ⟨kq, x57_26, rfl, HA, HJ26, BK101, HB⟩ := hcut
       cases kq with
       | zero => exact absurd HA.out (by simp [alert_Check.j2])
       | succ kj26 =>
        have H := HA.out
        clear HA
        simp only [alert_Check.j2] at H
        by_cases c43 : x57_26 = true
        · subst c43
          rw [if_pos rfl] at H
          obtain rfl := Option.some.inj H
          go_wp2
          go_ret
          exact ⟨by first | rfl | (simp [errW_none, errW_some] <;> rfl) | (simp [*, errW_none, errW_some] <;> rfl), by repeat (first | (with_reducible first | exact HB.out | apply below_alloc | apply pw_below_drewN | apply below_drew1 | refine below_set ?_ GE101.out) | exact HB.out)⟩
        replace c43 := Bool.eq_false_iff.mpr c43
        subst c43
        rw [if_neg (show ¬ (false = true) by decide)] at H
        have HC44 := Aside0.mk H
        clear H
        go_upto_region 10 with (fail)
        go_cut [80] (fun v80 wc => ∃ (kq : Nat) (x80_43 : Bool), v80 = .bool x80_43 ∧ Aside0 (alert_Check.j3 kq x80_43 a0_0 a0_1 a0_2 a0_3 a0_4 a0_5 a0_6 a0_7 a0_8 a0_9 a0_10 a0_11 a0_12 a0_13 a0_14 a0_15 = some r) ∧ Aside0 (kq ≤ kj26) ∧ Aside0 (wc.heap[gb101]? = some (.cells #[.int .i64 a0_0, .int .i64 a0_1, .int .i64 a0_2, .int .i64 a0_3, .int .i64 a0_4, .bool a0_5, .int .i64 a0_6, .int .i64 a0_7, .bool a0_8, .int .i64 a0_9, .int .i64 a0_10, .bool a0_11, .int .i64 a0_12, .int .i64 a0_13, .bool a0_14, .int .i64 a0_15] 36 (0, 0))) ∧ Aside0 (Below w.heap.size w wc))
        case first =>
         have H := HC44.out
         clear HC44
         by_cases c45 : a0_6 < 0
         · rw [if_pos c45] at H
           have c45b0 : decide (a0_6 < 0) = true := decide_eq_true c45
           clear c45
           (first | rw [c45b0] | (simp only [i64_w, i32_w]; rw [c45b0]) | skip)
           have H' := Aside0.mk H
           clear H
           have hcz46_0 := bc_ BK101 0 rfl
           have hcz46_1 := bc_ BK101 1 rfl
           have hcz46_2 := bc_ BK101 2 rfl
           have hcz46_3 := bc_ BK101 3 rfl
           have hcz46_4 := bc_ BK101 4 rfl
           have hcz46_5 := bc_ BK101 5 rfl
           have hcz46_6 := bc_ BK101 6 rfl
           have hcz46_7 := bc_ BK101 7 rfl
           have hcz46_8 := bc_ BK101 8 rfl
           have hcz46_9 := bc_ BK101 9 rfl
           have hcz46_10 := bc_ BK101 10 rfl
           have hcz46_11 := bc_ BK101 11 rfl
           have hcz46_12 := bc_ BK101 12 rfl
           have hcz46_13 := bc_ BK101 13 rfl
           have hcz46_14 := bc_ BK101 14 rfl
           have hcz46_15 := bc_ BK101 15 rfl
           have hfz46_0 := blk_frozen BK101.out 0
           have hfz46_1 := blk_frozen BK101.out 1
           have hfz46_2 := blk_frozen BK101.out 2
           have hfz46_3 := blk_frozen BK101.out 3
           have hfz46_4 := blk_frozen BK101.out 4
           have hfz46_5 := blk_frozen BK101.out 5
           have hfz46_6 := blk_frozen BK101.out 6
           have hfz46_7 := blk_frozen BK101.out 7
           have hfz46_8 := blk_frozen BK101.out 8
           have hfz46_9 := blk_frozen BK101.out 9
           have hfz46_10 := blk_frozen BK101.out 10
           have hfz46_11 := blk_frozen BK101.out 11
           have hfz46_12 := blk_frozen BK101.out 12
           have hfz46_13 := blk_frozen BK101.out 13
           have hfz46_14 := blk_frozen BK101.out 14
           have hfz46_15 := blk_frozen BK101.out 15
           go_wp2
           go_meet
           case rel => exact ⟨_, (true), (by first | rfl | (simp; done) | (simp [*]; done)), H', ⟨by have := HJ1.out; have := HJ15.out; have := HJ26.out; first | omega | exact Nat.le_refl _⟩, ⟨by (with_reducible repeat (first | refine blk_drewN ?_ _ | refine blk_drew ?_ | refine blk_alloc ?_ _)); exact BK101.out⟩, ⟨by repeat (first | (with_reducible first | exact HB.out | apply below_alloc | apply pw_below_drewN | apply below_drew1 | refine below_set ?_ GE101.out) | exact HB.out)⟩⟩
         rw [if_neg c45] at H
         have c45b0 : decide (a0_6 < 0) = false := decide_eq_false c45
         clear c45
         (first | rw [c45b0] | (simp only [i64_w, i32_w]; rw [c45b0]) | skip)
         by_cases c47 : a0_6 ≥ 4294967296
         · rw [if_pos c47] at H
           have c47b0 : decide (4294967296 ≤ a0_6) = true := decide_eq_true c47
           clear c47
           have H' := Aside0.mk H
           clear H
           have hcz48_0 := bc_ BK101 0 rfl
           have hcz48_1 := bc_ BK101 1 rfl
           have hcz48_2 := bc_ BK101 2 rfl
           have hcz48_3 := bc_ BK101 3 rfl
           have hcz48_4 := bc_ BK101 4 rfl
           have hcz48_5 := bc_ BK101 5 rfl
           have hcz48_6 := bc_ BK101 6 rfl
           have hcz48_7 := bc_ BK101 7 rfl
           have hcz48_8 := bc_ BK101 8 rfl
           have hcz48_9 := bc_ BK101 9 rfl
           have hcz48_10 := bc_ BK101 10 rfl
           have hcz48_11 := bc_ BK101 11 rfl
           have hcz48_12 := bc_ BK101 12 rfl
           have hcz48_13 := bc_ BK101 13 rfl
           have hcz48_14 := bc_ BK101 14 rfl
           have hcz48_15 := bc_ BK101 15 rfl
           have hfz48_0 := blk_frozen BK101.out 0
           have hfz48_1 := blk_frozen BK101.out 1
           have hfz48_2 := blk_frozen BK101.out 2
           have hfz48_3 := blk_frozen BK101.out 3
           have hfz48_4 := blk_frozen BK101.out 4
           have hfz48_5 := blk_frozen BK101.out 5
           have hfz48_6 := blk_frozen BK101.out 6
           have hfz48_7 := blk_frozen BK101.out 7
           have hfz48_8 := blk_frozen BK101.out 8
           have hfz48_9 := blk_frozen BK101.out 9
           have hfz48_10 := blk_frozen BK101.out 10
           have hfz48_11 := blk_frozen BK101.out 11
           have hfz48_12 := blk_frozen BK101.out 12
           have hfz48_13 := blk_frozen BK101.out 13
           have hfz48_14 := blk_frozen BK101.out 14
           have hfz48_15 := blk_frozen BK101.out 15
           go_wp2
           go_meet
           case rel => exact ⟨_, (true), (by first | rfl | (simp; done) | (simp [*]; done)), H', ⟨by have := HJ1.out; have := HJ15.out; have := HJ26.out; first | omega | exact Nat.le_refl _⟩, ⟨by (with_reducible repeat (first | refine blk_drewN ?_ _ | refine blk_drew ?_ | refine blk_alloc ?_ _)); exact BK101.out⟩, ⟨by repeat (first | (with_reducible first | exact HB.out | apply below_alloc | apply pw_below_drewN | apply below_drew1 | refine below_set ?_ GE101.out) | exact HB.out)⟩⟩
         rw [if_neg c47] at H
         have c47b0 : decide (4294967296 ≤ a0_6) = false := decide_eq_false c47
         clear c47
         have H' := Aside0.mk H
         clear H
         have hcz49_0 := bc_ BK101 0 rfl
         have hcz49_1 := bc_ BK101 1 rfl
         have hcz49_2 := bc_ BK101 2 rfl
         have hcz49_3 := bc_ BK101 3 rfl
         have hcz49_4 := bc_ BK101 4 rfl
         have hcz49_5 := bc_ BK101 5 rfl
         have hcz49_6 := bc_ BK101 6 rfl
         have hcz49_7 := bc_ BK101 7 rfl
         have hcz49_8 := bc_ BK101 8 rfl
         have hcz49_9 := bc_ BK101 9 rfl
         have hcz49_10 := bc_ BK101 10 rfl
         have hcz49_11 := bc_ BK101 11 rfl
         have hcz49_12 := bc_ BK101 12 rfl
         have hcz49_13 := bc_ BK101 13 rfl
         have hcz49_14 := bc_ BK101 14 rfl
         have hcz49_15 := bc_ BK101 15 rfl
         have hfz49_0 := blk_frozen BK101.out 0
         have hfz49_1 := blk_frozen BK101.out 1
         have hfz49_2 := blk_frozen BK101.out 2
         have hfz49_3 := blk_frozen BK101.out 3
         have hfz49_4 := blk_frozen BK101.out 4
         have hfz49_5 := blk_frozen BK101.out 5
         have hfz49_6 := blk_frozen BK101.out 6
         have hfz49_7 := blk_frozen BK101.out 7
         have hfz49_8 := blk_frozen BK101.out 8
         have hfz49_9 := blk_frozen BK101.out 9
         have hfz49_10 := blk_frozen BK101.out 10
         have hfz49_11 := blk_frozen BK101.out 11
         have hfz49_12 := blk_frozen BK101.out 12
         have hfz49_13 := blk_frozen BK101.out 13
         have hfz49_14 := blk_frozen BK101.out 14
         have hfz49_15 := blk_frozen BK101.out 15
         go_wp2
         go_meet
         case rel => exact ⟨_, (decide ((wrap64 (a0_7 - a0_6)) ≥ 4294967296)), (by first | rfl | (simp; done) | (simp [*]; done)), H', ⟨by have := HJ1.out; have := HJ15.out; have := HJ26.out; first | omega | exact Nat.le_refl _⟩, ⟨by (with_reducible repeat (first | refine blk_drewN ?_ _ | refine blk_drew ?_ | refine blk_alloc ?_ _)); exact BK101.out⟩, ⟨by repeat (first | (with_reducible first | exact HB.out | apply below_alloc | apply pw_below_drewN | apply below_drew1 | refine below_set ?_ GE101.out) | exact HB.out)⟩⟩
        case rest =>
         clear HC44
         obtain ⟨kq, x80_43, rfl, HA, HJ43, BK101, HB⟩ := hcut
         cases kq with
         | zero => exact absurd HA.out (by simp [alert_Check.j3])
         | succ kj43 =>
          have H := HA.out
          clear HA
          simp only [alert_Check.j3] at H
          by_cases c50 : x80_43 = true
          · subst c50
            rw [if_pos rfl] at H
            obtain rfl := Option.some.inj H
            go_wp2
            go_ret
            exact ⟨by first | rfl | (simp [errW_none, errW_some] <;> rfl) | (simp [*, errW_none, errW_some] <;> rfl), by repeat (first | (with_reducible first | exact HB.out | apply below_alloc | apply pw_below_drewN | apply below_drew1 | refine below_set ?_ GE101.out) | exact HB.out)⟩
          replace c50 := Bool.eq_false_iff.mpr c50
          subst c50
          rw [if_neg (show ¬ (false = true) by decide)] at H
          have HC51 := Aside0.mk H
          clear H
          go_upto_region 12 with (fail)
          go_cut [101] (fun v101 wc => ∃ (kq : Nat) (x101_50 : Bool), v101 = .bool x101_50 ∧ Aside0 (alert_Check.j4 kq x101_50 a0_0 a0_1 a0_2 a0_3 a0_4 a0_5 a0_6 a0_7 a0_8 a0_9 a0_10 a0_11 a0_12 a0_13 a0_14 a0_15 = some r) ∧ Aside0 (kq ≤ kj43) ∧ Aside0 (wc.heap[gb101]? = some (.cells #[.int .i64 a0_0, .int .i64 a0_1, .int .i64 a0_2, .int .i64 a0_3, .int .i64 a0_4, .bool a0_5, .int .i64 a0_6, .int .i64 a0_7, .bool a0_8, .int .i64 a0_9, .int .i64 a0_10, .bool a0_11, .int .i64 a0_12, .int .i64 a0_13, .bool a0_14, .int .i64 a0_15] 36 (0, 0))) ∧ Aside0 (Below w.heap.size w wc))
          case first =>
           have H := HC51.out
           clear HC51
           by_cases c52 : a0_1 = 6
           · rw [if_pos c52] at H
             have c52b0 : (a0_1 == 6) = true := beq_iff_eq.mpr c52
             have c52b1 : (a0_1 != 6) = false := bne_eq_false_iff_eq.mpr c52
             clear c52
             (first | rw [c52b0] | (simp only [i64_w, i32_w]; rw [c52b0]) | skip)
             have H' := Aside0.mk H
             clear H
             have hcz53_0 := bc_ BK101 0 rfl
             have hcz53_1 := bc_ BK101 1 rfl
             have hcz53_2 := bc_ BK101 2 rfl
             have hcz53_3 := bc_ BK101 3 rfl
             have hcz53_4 := bc_ BK101 4 rfl
             have hcz53_5 := bc_ BK101 5 rfl
             have hcz53_6 := bc_ BK101 6 rfl
             have hcz53_7 := bc_ BK101 7 rfl
             have hcz53_8 := bc_ BK101 8 rfl
             have hcz53_9 := bc_ BK101 9 rfl
             have hcz53_10 := bc_ BK101 10 rfl
             have hcz53_11 := bc_ BK101 11 rfl
             have hcz53_12 := bc_ BK101 12 rfl
             have hcz53_13 := bc_ BK101 13 rfl
             have hcz53_14 := bc_ BK101 14 rfl
             have hcz53_15 := bc_ BK101 15 rfl
             have hfz53_0 := blk_frozen BK101.out 0
             have hfz53_1 := blk_frozen BK101.out 1
             have hfz53_2 := blk_frozen BK101.out 2
             have hfz53_3 := blk_frozen BK101.out 3
             have hfz53_4 := blk_frozen BK101.out 4
             have hfz53_5 := blk_frozen BK101.out 5
             have hfz53_6 := blk_frozen BK101.out 6
             have hfz53_7 := blk_frozen BK101.out 7
             have hfz53_8 := blk_frozen BK101.out 8
             have hfz53_9 := blk_frozen BK101.out 9
             have hfz53_10 := blk_frozen BK101.out 10
             have hfz53_11 := blk_frozen BK101.out 11
             have hfz53_12 := blk_frozen BK101.out 12
             have hfz53_13 := blk_frozen BK101.out 13
             have hfz53_14 := blk_frozen BK101.out 14
             have hfz53_15 := blk_frozen BK101.out 15
             go_wp2
             go_meet
             case rel => exact ⟨_, (false), (by first | rfl | (simp; done) | (simp [*]; done)), H', ⟨by have := HJ1.out; have := HJ15.out; have := HJ26.out; have := HJ43.out; first | omega | exact Nat.le_refl _⟩, ⟨by (with_reducible repeat (first | refine blk_drewN ?_ _ | refine blk_drew ?_ | refine blk_alloc ?_ _)); exact BK101.out⟩, ⟨by repeat (first | (with_reducible first | exact HB.out | apply below_alloc | apply pw_below_drewN | apply below_drew1 | refine below_set ?_ GE101.out) | exact HB.out)⟩⟩
           rw [if_neg c52] at H
           have c52b0 : (a0_1 == 6) = false := beq_eq_false_iff_ne.mpr c52
           have c52b1 : (a0_1 != 6) = true := bne_iff_ne.mpr c52
           (first | rw [c52b0] | (simp only [i64_w, i32_w]; rw [c52b0]) | skip)
           have H' := Aside0.mk H
           clear H
           have hcz54_0 := bc_ BK101 0 rfl
           have hcz54_1 := bc_ BK101 1 rfl
           have hcz54_2 := bc_ BK101 2 rfl
           have hcz54_3 := bc_ BK101 3 rfl
           have hcz54_4 := bc_ BK101 4 rfl
           have hcz54_5 := bc_ BK101 5 rfl
           have hcz54_6 := bc_ BK101 6 rfl
           have hcz54_7 := bc_ BK101 7 rfl
           have hcz54_8 := bc_ BK101 8 rfl
           have hcz54_9 := bc_ BK101 9 rfl
           have hcz54_10 := bc_ BK101 10 rfl
           have hcz54_11 := bc_ BK101 11 rfl
           have hcz54_12 := bc_ BK101 12 rfl
           have hcz54_13 := bc_ BK101 13 rfl
           have hcz54_14 := bc_ BK101 14 rfl
           have hcz54_15 := bc_ BK101 15 rfl
           have hfz54_0 := blk_frozen BK101.out 0
           have hfz54_1 := blk_frozen BK101.out 1
           have hfz54_2 := blk_frozen BK101.out 2
           have hfz54_3 := blk_frozen BK101.out 3
           have hfz54_4 := blk_frozen BK101.out 4
           have hfz54_5 := blk_frozen BK101.out 5
           have hfz54_6 := blk_frozen BK101.out 6
           have hfz54_7 := blk_frozen BK101.out 7
           have hfz54_8 := blk_frozen BK101.out 8
           have hfz54_9 := blk_frozen BK101.out 9
           have hfz54_10 := blk_frozen BK101.out 10
           have hfz54_11 := blk_frozen BK101.out 11
           have hfz54_12 := blk_frozen BK101.out 12
           have hfz54_13 := blk_frozen BK101.out 13
           have hfz54_14 := blk_frozen BK101.out 14
           have hfz54_15 := blk_frozen BK101.out 15
           go_wp2
           go_meet
           case rel => exact ⟨_, ((a0_15 != 0)), (by first | rfl | (simp; done) | (simp [*]; done)), H', ⟨by have := HJ1.out; have := HJ15.out; have := HJ26.out; have := HJ43.out; first | omega | exact Nat.le_refl _⟩, ⟨by (with_reducible repeat (first | refine blk_drewN ?_ _ | refine blk_drew ?_ | refine blk_alloc ?_ _)); exact BK101.out⟩, ⟨by repeat (first | (with_reducible first | exact HB.out | apply below_alloc | apply pw_below_drewN | apply below_drew1 | refine below_set ?_ GE101.out) | exact HB.out)⟩⟩
          case rest =>
           clear HC51
           obtain ⟨kq, x101_50, rfl, HA, HJ50, BK101, HB⟩ := hcut
           cases kq with
           | zero => exact absurd HA.out (by simp [alert_Check.j4])
           | succ kj50 =>
            have H := HA.out
            clear HA
            simp only [alert_Check.j4] at H
            by_cases c55 : x101_50 = true
            · subst c55
              rw [if_pos rfl] at H
              obtain rfl := Option.some.inj H
              go_wp2
              go_ret
              exact ⟨by first | rfl | (simp [errW_none, errW_some] <;> rfl) | (simp [*, errW_none, errW_some] <;> rfl), by repeat (first | (with_reducible first | exact HB.out | apply below_alloc | apply pw_below_drewN | apply below_drew1 | refine below_set ?_ GE101.out) | exact HB.out)⟩
            replace c55 := Bool.eq_false_iff.mpr c55
            subst c55
            rw [if_neg (show ¬ (false = true) by decide)] at H
            by_cases c56 : a0_1 = 6
            rotate_left
            · rw [if_neg c56] at H
              have c56b0 : (a0_1 == 6) = false := beq_eq_false_iff_ne.mpr c56
              have c56b1 : (a0_1 != 6) = true := bne_iff_ne.mpr c56
              obtain rfl := Option.some.inj H
              have hcz64_0 := bc_ BK101 0 rfl
              have hcz64_1 := bc_ BK101 1 rfl
              have hcz64_2 := bc_ BK101 2 rfl
              have hcz64_3 := bc_ BK101 3 rfl
              have hcz64_4 := bc_ BK101 4 rfl
              have hcz64_5 := bc_ BK101 5 rfl
              have hcz64_6 := bc_ BK101 6 rfl
              have hcz64_7 := bc_ BK101 7 rfl
              have hcz64_8 := bc_ BK101 8 rfl
              have hcz64_9 := bc_ BK101 9 rfl
              have hcz64_10 := bc_ BK101 10 rfl
              have hcz64_11 := bc_ BK101 11 rfl
              have hcz64_12 := bc_ BK101 12 rfl
              have hcz64_13 := bc_ BK101 13 rfl
              have hcz64_14 := bc_ BK101 14 rfl
              have hcz64_15 := bc_ BK101 15 rfl
              have hfz64_0 := blk_frozen BK101.out 0
              have hfz64_1 := blk_frozen BK101.out 1
              have hfz64_2 := blk_frozen BK101.out 2
              have hfz64_3 := blk_frozen BK101.out 3
              have hfz64_4 := blk_frozen BK101.out 4
              have hfz64_5 := blk_frozen BK101.out 5
              have hfz64_6 := blk_frozen BK101.out 6
              have hfz64_7 := blk_frozen BK101.out 7
              have hfz64_8 := blk_frozen BK101.out 8
              have hfz64_9 := blk_frozen BK101.out 9
              have hfz64_10 := blk_frozen BK101.out 10
              have hfz64_11 := blk_frozen BK101.out 11
              have hfz64_12 := blk_frozen BK101.out 12
              have hfz64_13 := blk_frozen BK101.out 13
              have hfz64_14 := blk_frozen BK101.out 14
              have hfz64_15 := blk_frozen BK101.out 15
              go_wp2
              go_ret
              exact ⟨by first | rfl | (simp [errW_none, errW_some] <;> rfl) | (simp [*, errW_none, errW_some] <;> rfl), by repeat (first | (with_reducible first | exact HB.out | apply below_alloc | apply pw_below_drewN | apply below_drew1 | refine below_set ?_ GE101.out) | exact HB.out)⟩
            rw [if_pos c56] at H
            have c56b0 : (a0_1 == 6) = true := beq_iff_eq.mpr c56
            have c56b1 : (a0_1 != 6) = false := bne_eq_false_iff_eq.mpr c56
            clear c56
            by_cases c57 : a0_15 = 0
            · rw [if_pos c57] at H
              have c57b0 : (a0_15 == 0) = true := beq_iff_eq.mpr c57
              have c57b1 : (a0_15 != 0) = false := bne_eq_false_iff_eq.mpr c57
              clear c57
              obtain rfl := Option.some.inj H
              have hcz58_0 := bc_ BK101 0 rfl
              have hcz58_1 := bc_ BK101 1 rfl
              have hcz58_2 := bc_ BK101 2 rfl
              have hcz58_3 := bc_ BK101 3 rfl
              have hcz58_4 := bc_ BK101 4 rfl
              have hcz58_5 := bc_ BK101 5 rfl
              have hcz58_6 := bc_ BK101 6 rfl
              have hcz58_7 := bc_ BK101 7 rfl
              have hcz58_8 := bc_ BK101 8 rfl
              have hcz58_9 := bc_ BK101 9 rfl
              have hcz58_10 := bc_ BK101 10 rfl
              have hcz58_11 := bc_ BK101 11 rfl
              have hcz58_12 := bc_ BK101 12 rfl
              have hcz58_13 := bc_ BK101 13 rfl
              have hcz58_14 := bc_ BK101 14 rfl
              have hcz58_15 := bc_ BK101 15 rfl
              have hfz58_0 := blk_frozen BK101.out 0
              have hfz58_1 := blk_frozen BK101.out 1
              have hfz58_2 := blk_frozen BK101.out 2
              have hfz58_3 := blk_frozen BK101.out 3
              have hfz58_4 := blk_frozen BK101.out 4
              have hfz58_5 := blk_frozen BK101.out 5
              have hfz58_6 := blk_frozen BK101.out 6
              have hfz58_7 := blk_frozen BK101.out 7
              have hfz58_8 := blk_frozen BK101.out 8
              have hfz58_9 := blk_frozen BK101.out 9
              have hfz58_10 := blk_frozen BK101.out 10
              have hfz58_11 := blk_frozen BK101.out 11
              have hfz58_12 := blk_frozen BK101.out 12
              have hfz58_13 := blk_frozen BK101.out 13
              have hfz58_14 := blk_frozen BK101.out 14
              have hfz58_15 := blk_frozen BK101.out 15
              go_wp2
              go_ret
              exact ⟨by first | rfl | (simp [errW_none, errW_some] <;> rfl) | (simp [*, errW_none, errW_some] <;> rfl), by repeat (first | (with_reducible first | exact HB.out | apply below_alloc | apply pw_below_drewN | apply below_drew1 | refine below_set ?_ GE101.out) | exact HB.out)⟩
            rw [if_neg c57] at H
            have c57b0 : (a0_15 == 0) = false := beq_eq_false_iff_ne.mpr c57
            have c57b1 : (a0_15 != 0) = true := bne_iff_ne.mpr c57
            by_cases c59 : a0_15 = a0_0
            · rw [if_pos c59] at H
              have c59b0 : (a0_15 == a0_0) = true := beq_iff_eq.mpr c59
              have c59b1 : (a0_15 != a0_0) = false := bne_eq_false_iff_eq.mpr c59
              clear c59
              obtain rfl := Option.some.inj H
              have hcz60_0 := bc_ BK101 0 rfl
              have hcz60_1 := bc_ BK101 1 rfl
              have hcz60_2 := bc_ BK101 2 rfl
              have hcz60_3 := bc_ BK101 3 rfl
              have hcz60_4 := bc_ BK101 4 rfl
              have hcz60_5 := bc_ BK101 5 rfl
              have hcz60_6 := bc_ BK101 6 rfl
              have hcz60_7 := bc_ BK101 7 rfl
              have hcz60_8 := bc_ BK101 8 rfl
              have hcz60_9 := bc_ BK101 9 rfl
              have hcz60_10 := bc_ BK101 10 rfl
              have hcz60_11 := bc_ BK101 11 rfl
              have hcz60_12 := bc_ BK101 12 rfl
              have hcz60_13 := bc_ BK101 13 rfl
              have hcz60_14 := bc_ BK101 14 rfl
              have hcz60_15 := bc_ BK101 15 rfl
              have hfz60_0 := blk_frozen BK101.out 0
              have hfz60_1 := blk_frozen BK101.out 1
              have hfz60_2 := blk_frozen BK101.out 2
              have hfz60_3 := blk_frozen BK101.out 3
              have hfz60_4 := blk_frozen BK101.out 4
              have hfz60_5 := blk_frozen BK101.out 5
              have hfz60_6 := blk_frozen BK101.out 6
              have hfz60_7 := blk_frozen BK101.out 7
              have hfz60_8 := blk_frozen BK101.out 8
              have hfz60_9 := blk_frozen BK101.out 9
              have hfz60_10 := blk_frozen BK101.out 10
              have hfz60_11 := blk_frozen BK101.out 11
              have hfz60_12 := blk_frozen BK101.out 12
              have hfz60_13 := blk_frozen BK101.out 13
              have hfz60_14 := blk_frozen BK101.out 14
              have hfz60_15 := blk_frozen BK101.out 15
              go_wp2
              go_ret
              exact ⟨by first | rfl | (simp [errW_none, errW_some] <;> rfl) | (simp [*, errW_none, errW_some] <;> rfl), by repeat (first | (with_reducible first | exact HB.out | apply below_alloc | apply pw_below_drewN | apply below_drew1 | refine below_set ?_ GE101.out) | exact HB.out)⟩
            rw [if_neg c59] at H
            have c59b0 : (a0_15 == a0_0) = false := beq_eq_false_iff_ne.mpr c59
            have c59b1 : (a0_15 != a0_0) = true := bne_iff_ne.mpr c59
            by_cases c61 : (!(a0_2 == 0) || ((!(a0_6 == 0) || (!(a0_7 == 0) || (a0_8))) || ((!(a0_9 == 0) || (!(a0_10 == 0) || (a0_11))) || ((!(a0_12 == 0) || (!(a0_13 == 0) || (a0_14))))))) = true
            · rw [if_pos c61] at H
              have c61b0 : (!(a0_2 == 0) || ((!(a0_6 == 0) || (!(a0_7 == 0) || (a0_8))) || ((!(a0_9 == 0) || (!(a0_10 == 0) || (a0_11))) || ((!(a0_12 == 0) || (!(a0_13 == 0) || (a0_14))))))) = true := c61
              clear c61
              obtain rfl := Option.some.inj H
              have hcz62_0 := bc_ BK101 0 rfl
              have hcz62_1 := bc_ BK101 1 rfl
              have hcz62_2 := bc_ BK101 2 rfl
              have hcz62_3 := bc_ BK101 3 rfl
              have hcz62_4 := bc_ BK101 4 rfl
              have hcz62_5 := bc_ BK101 5 rfl
              have hcz62_6 := bc_ BK101 6 rfl
              have hcz62_7 := bc_ BK101 7 rfl
              have hcz62_8 := bc_ BK101 8 rfl
              have hcz62_9 := bc_ BK101 9 rfl
              have hcz62_10 := bc_ BK101 10 rfl
              have hcz62_11 := bc_ BK101 11 rfl
              have hcz62_12 := bc_ BK101 12 rfl
              have hcz62_13 := bc_ BK101 13 rfl
              have hcz62_14 := bc_ BK101 14 rfl
              have hcz62_15 := bc_ BK101 15 rfl
              have hfz62_0 := blk_frozen BK101.out 0
              have hfz62_1 := blk_frozen BK101.out 1
              have hfz62_2 := blk_frozen BK101.out 2
              have hfz62_3 := blk_frozen BK101.out 3
              have hfz62_4 := blk_frozen BK101.out 4
              have hfz62_5 := blk_frozen BK101.out 5
              have hfz62_6 := blk_frozen BK101.out 6
              have hfz62_7 := blk_frozen BK101.out 7
              have hfz62_8 := blk_frozen BK101.out 8
              have hfz62_9 := blk_frozen BK101.out 9
              have hfz62_10 := blk_frozen BK101.out 10
              have hfz62_11 := blk_frozen BK101.out 11
              have hfz62_12 := blk_frozen BK101.out 12
              have hfz62_13 := blk_frozen BK101.out 13
              have hfz62_14 := blk_frozen BK101.out 14
              have hfz62_15 := blk_frozen BK101.out 15
              go_wp2
              go_ret
              exact ⟨by first | rfl | (simp [errW_none, errW_some] <;> rfl) | (simp [*, errW_none, errW_some] <;> rfl), by repeat (first | (with_reducible first | exact HB.out | apply below_alloc | apply pw_below_drewN | apply below_drew1 | refine below_set ?_ GE101.out) | exact HB.out)⟩
            rw [if_neg c61] at H
            have c61b0 : (!(a0_2 == 0) || ((!(a0_6 == 0) || (!(a0_7 == 0) || (a0_8))) || ((!(a0_9 == 0) || (!(a0_10 == 0) || (a0_11))) || ((!(a0_12 == 0) || (!(a0_13 == 0) || (a0_14))))))) = false := by simpa using c61
            clear c61
            obtain rfl := Option.some.inj H
            have hcz63_0 := bc_ BK101 0 rfl
            have hcz63_1 := bc_ BK101 1 rfl
            have hcz63_2 := bc_ BK101 2 rfl
            have hcz63_3 := bc_ BK101 3 rfl
            have hcz63_4 := bc_ BK101 4 rfl
            have hcz63_5 := bc_ BK101 5 rfl
            have hcz63_6 := bc_ BK101 6 rfl
            have hcz63_7 := bc_ BK101 7 rfl
            have hcz63_8 := bc_ BK101 8 rfl
            have hcz63_9 := bc_ BK101 9 rfl
            have hcz63_10 := bc_ BK101 10 rfl
            have hcz63_11 := bc_ BK101 11 rfl
            have hcz63_12 := bc_ BK101 12 rfl
            have hcz63_13 := bc_ BK101 13 rfl
            have hcz63_14 := bc_ BK101 14 rfl
            have hcz63_15 := bc_ BK101 15 rfl
            have hfz63_0 := blk_frozen BK101.out 0
            have hfz63_1 := blk_frozen BK101.out 1
            have hfz63_2 := blk_frozen BK101.out 2
            have hfz63_3 := blk_frozen BK101.out 3
            have hfz63_4 := blk_frozen BK101.out 4
            have hfz63_5 := blk_frozen BK101.out 5
            have hfz63_6 := blk_frozen BK101.out 6
            have hfz63_7 := blk_frozen BK101.out 7
            have hfz63_8 := blk_frozen BK101.out 8
            have hfz63_9 := blk_frozen BK101.out 9
            have hfz63_10 := blk_frozen BK101.out 10
            have hfz63_11 := blk_frozen BK101.out 11
            have hfz63_12 := blk_frozen BK101.out 12
            have hfz63_13 := blk_frozen BK101.out 13
            have hfz63_14 := blk_frozen BK101.out 14
            have hfz63_15 := blk_frozen BK101.out 15
            go_wp2
            go_ret
            exact ⟨by first | rfl | (simp [errW_none, errW_some] <;> rfl) | (simp [*, errW_none, errW_some] <;> rfl), by repeat (first | (with_reducible first | exact HB.out | apply below_alloc | apply pw_below_drewN | apply below_drew1 | refine below_set ?_ GE101.out) | exact HB.out)⟩

end Go.Proofs.YthcdbpbimmjknaaDoor.Q
