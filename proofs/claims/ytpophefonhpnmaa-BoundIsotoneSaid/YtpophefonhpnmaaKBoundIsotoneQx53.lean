/- Contracts of Go functions of the seat, one by one: each call returns what the Lean function of the same name says, wherever that is 'some'; no other condition. Written by a program of this session. -/
import Derived.Test.YtpophefonhpnmaaKBoundIsotoneQx0
import Derived.Test.YtpophefonhpnmaaKBoundIsotoneQx7
import Derived.Test.YtpophefonhpnmaaKBoundIsotoneQx22
import Derived.Test.YtpophefonhpnmaaKBoundIsotoneQx23
import Derived.Test.YtpophefonhpnmaaKBoundIsotoneQx24
import Derived.Test.YtpophefonhpnmaaKBoundIsotoneQx42
import Derived.Test.YtpophefonhpnmaaKBoundIsotoneQx43
import Derived.Test.YtpophefonhpnmaaKBoundIsotoneQx51
namespace Go.Proofs.Ytpophefonhpnmaa.Q
open Go.RowKit Go.Proofs.YtpophefonhpnmaaW.PrintWords Go.Proofs.YtpophefonhpnmaaW.PrintLast Go.Proofs.YtpophefonhpnmaaW.PrintMore
attribute [local go_sem] max2_int min2_int max_two min_two max_three min_three max_four min_four   -- for this text's walks alone
set_option linter.unusedVariables false
set_option linter.unusedSimpArgs false

/-! ### spykeep1_BoundIsotone: function 6 -/
mutual
def spykeep1_BoundIsotone.j0 : Nat → Int → Int → Bool → Int → Int → Bool → Int → Int → Bool → Int → Int → Bool → Int → Int → Bool → Option (Bool)
 | 0, _, _, _, _, _, _, _, _, _, _, _, _, _, _, _ => none
 | k + 1, x12, x13, x53, x111000, x111001, x111002, x112000, x112001, x112002, x121000, x121001, x121002, x122000, x122001, x122002 => if x53 = true then (none) else ((bound_Meet_api_Fix.f k x121000 x121001 x121002 x122000 x122001 x122002).bind fun bt127 => ((bound_Meet_api_Fix.f k x111000 x111001 x111002 x112000 x112001 x112002).bind fun bt132 => (if bt127.2.2.2 = true then (if bt132.2.2.2 = true then ((bound_Inside_api_Fix.f k bt127.1 bt127.2.1 bt127.2.2.1 bt132.1 bt132.2.1 bt132.2.2.1).bind fun t137 => (if t137 = true then ((bound_Inside_api_Fix.f k bt127.1 bt127.2.1 bt127.2.2.1 x121000 x121001 x121002).bind fun t138 => (if t138 = true then ((bound_Inside_api_Fix.f k bt127.1 bt127.2.1 bt127.2.2.1 x122000 x122001 x122002).bind fun t139 => (spykeep1_BoundIsotone.j1 k x12 x13 (!t139) x111000 x111001 x111002 x112000 x112001 x112002 x121000 x121001 x121002 x122000 x122001 x122002)) else (none))) else (none))) else (none)) else (spykeep1_BoundIsotone.j1 k x12 x13 false x111000 x111001 x111002 x112000 x112001 x112002 x121000 x121001 x121002 x122000 x122001 x122002))))
def spykeep1_BoundIsotone.j1 : Nat → Int → Int → Bool → Int → Int → Bool → Int → Int → Bool → Int → Int → Bool → Int → Int → Bool → Option (Bool)
 | 0, _, _, _, _, _, _, _, _, _, _, _, _, _, _, _ => none
 | k + 1, x12, x13, x91, x111000, x111001, x111002, x112000, x112001, x112002, x121000, x121001, x121002, x122000, x122001, x122002 => if x91 = true then (none) else ((bound_Add_api_Fix.f k x121000 x121001 x121002 x122000 x122001 x122002).bind fun bt140 => ((bound_Add_api_Fix.f k x111000 x111001 x111002 x112000 x112001 x112002).bind fun bt143 => ((bound_Inside_api_Fix.f k bt140.1 bt140.2.1 bt140.2.2 bt143.1 bt143.2.1 bt143.2.2).bind fun t146 => (if t146 = true then ((bound_Sub_api_Fix.f k x121000 x121001 x121002 x122000 x122001 x122002).bind fun bt147 => ((bound_Sub_api_Fix.f k x111000 x111001 x111002 x112000 x112001 x112002).bind fun bt150 => ((bound_Inside_api_Fix.f k bt147.1 bt147.2.1 bt147.2.2 bt150.1 bt150.2.1 bt150.2.2).bind fun t153 => (if t153 = true then ((bound_Neg_api_Fix.f k x121000 x121001 x121002).bind fun bt154 => ((bound_Neg_api_Fix.f k x111000 x111001 x111002).bind fun bt157 => ((bound_Inside_api_Fix.f k bt154.1 bt154.2.1 bt154.2.2 bt157.1 bt157.2.1 bt157.2.2).bind fun t160 => (if t160 = true then ((bound_Abs_api_Fix.f k x121000 x121001 x121002).bind fun bt161 => ((bound_Abs_api_Fix.f k x111000 x111001 x111002).bind fun bt164 => ((bound_Inside_api_Fix.f k bt161.1 bt161.2.1 bt161.2.2 bt164.1 bt164.2.1 bt164.2.2).bind fun t167 => (if t167 = true then ((bound_Min_api_Fix.f k x121000 x121001 x121002 x122000 x122001 x122002).bind fun bt168 => ((bound_Min_api_Fix.f k x111000 x111001 x111002 x112000 x112001 x112002).bind fun bt171 => ((bound_Inside_api_Fix.f k bt168.1 bt168.2.1 bt168.2.2 bt171.1 bt171.2.1 bt171.2.2).bind fun t174 => (if t174 = true then ((bound_Max_api_Fix.f k x121000 x121001 x121002 x122000 x122001 x122002).bind fun bt175 => ((bound_Max_api_Fix.f k x111000 x111001 x111002 x112000 x112001 x112002).bind fun bt178 => ((bound_Inside_api_Fix.f k bt175.1 bt175.2.1 bt175.2.2 bt178.1 bt178.2.1 bt178.2.2).bind fun t181 => (if t181 = true then ((bound_Hull_api_Fix.f k x121000 x121001 x121002 x122000 x122001 x122002).bind fun bt182 => ((bound_Hull_api_Fix.f k x111000 x111001 x111002 x112000 x112001 x112002).bind fun bt185 => ((bound_Inside_api_Fix.f k bt182.1 bt182.2.1 bt182.2.2 bt185.1 bt185.2.1 bt185.2.2).bind fun t188 => (if t188 = true then ((bound_Mul_api_Fix.f k x121000 x121001 x121002 x122000 x122001 x122002 x12).bind fun bt189 => ((bound_Mul_api_Fix.f k x111000 x111001 x111002 x112000 x112001 x112002 x12).bind fun bt192 => ((bound_Inside_api_Fix.f k bt189.1 bt189.2.1 bt189.2.2 bt192.1 bt192.2.1 bt192.2.2).bind fun t195 => (if t195 = true then ((bound_Div_api_Fix.f k x121000 x121001 x121002 x122000 x122001 x122002 x12).bind fun bt196 => ((bound_Div_api_Fix.f k x111000 x111001 x111002 x112000 x112001 x112002 x12).bind fun bt199 => ((bound_Inside_api_Fix.f k bt196.1 bt196.2.1 bt196.2.2 bt199.1 bt199.2.1 bt199.2.2).bind fun t202 => (if t202 = true then ((bound_Scale_api_Fix.f k x121000 x121001 x121002 x13 x12).bind fun bt203 => ((bound_Scale_api_Fix.f k x111000 x111001 x111002 x13 x12).bind fun bt206 => ((bound_Inside_api_Fix.f k bt203.1 bt203.2.1 bt203.2.2 bt206.1 bt206.2.1 bt206.2.2).bind fun t209 => (if t209 = true then ((bound_Abs_api_Fix.f k x121000 x121001 x121002).bind fun bt210 => ((bound_Root_api_Fix.f k bt161.1 bt161.2.1 bt161.2.2 x12).bind fun bt213 => ((bound_Abs_api_Fix.f k x111000 x111001 x111002).bind fun bt216 => ((bound_Root_api_Fix.f k bt164.1 bt164.2.1 bt164.2.2 x12).bind fun bt219 => ((bound_Inside_api_Fix.f k bt213.1 bt213.2.1 bt213.2.2 bt219.1 bt219.2.1 bt219.2.2).bind fun t222 => (if t222 = true then ((bound_Hull_api_Fix.f k x121000 x121001 x121002 x122000 x122001 x122002).bind fun bt223 => ((bound_Inside_api_Fix.f k x121000 x121001 x121002 bt182.1 bt182.2.1 bt182.2.2).bind fun t226 => (some t226))) else (none))))))) else (none))))) else (none))))) else (none))))) else (none))))) else (none))))) else (none))))) else (none))))) else (none))))) else (none))))) else (none)))))
end
def spykeep1_BoundIsotone.f (k : Nat) (l0 : List Int) (a1 : Int) (a2 : Int) : Option (Bool) := (spymake_Bound_api_Fix.f l0 0 1048576).bind fun bt102 => ((spymake_Bound_api_Fix.f l0 bt102.2.2.2 1024).bind fun bt106 => ((spymake_Within_api_Fix.f l0 bt106.2.2.2 bt102.1 bt102.2.1 bt102.2.2.1).bind fun bt112 => ((spymake_Within_api_Fix.f l0 bt112.2.2.2 bt106.1 bt106.2.1 bt106.2.2.1).bind fun bt116 => ((spymake_Below.f a2 1000).bind fun t122 => ((spymake_Below.f a1 2001).bind fun t123 => ((spykeep1_boundFact.f k).bind fun t124 => (if t124 = true then ((bound_Inside_api_Fix.f k bt112.1 bt112.2.1 bt112.2.2.1 bt102.1 bt102.2.1 bt102.2.2.1).bind fun t125 => (if t125 = true then ((bound_Inside_api_Fix.f k bt116.1 bt116.2.1 bt116.2.2.1 bt106.1 bt106.2.1 bt106.2.2.1).bind fun t126 => (spykeep1_BoundIsotone.j0 k (wrap64 (1 + t122)) (wrap64 (t123 - 1000)) (!t126) bt102.1 bt102.2.1 bt102.2.2.1 bt106.1 bt106.2.1 bt106.2.2.1 bt112.1 bt112.2.1 bt112.2.2.1 bt116.1 bt116.2.1 bt116.2.2.1)) else (none))) else (none))))))))
theorem spykeep1_BoundIsotone.mono_l : ∀ k, (∀ y0 y1 y2 y3 y4 y5 y6 y7 y8 y9 y10 y11 y12 y13 y14, LeO (spykeep1_BoundIsotone.j0 k y0 y1 y2 y3 y4 y5 y6 y7 y8 y9 y10 y11 y12 y13 y14) (spykeep1_BoundIsotone.j0 (k + 1) y0 y1 y2 y3 y4 y5 y6 y7 y8 y9 y10 y11 y12 y13 y14)) ∧ (∀ y0 y1 y2 y3 y4 y5 y6 y7 y8 y9 y10 y11 y12 y13 y14, LeO (spykeep1_BoundIsotone.j1 k y0 y1 y2 y3 y4 y5 y6 y7 y8 y9 y10 y11 y12 y13 y14) (spykeep1_BoundIsotone.j1 (k + 1) y0 y1 y2 y3 y4 y5 y6 y7 y8 y9 y10 y11 y12 y13 y14))
 | 0 => ⟨fun _ _ _ _ _ _ _ _ _ _ _ _ _ _ _ r h => by simp [spykeep1_BoundIsotone.j0] at h, fun _ _ _ _ _ _ _ _ _ _ _ _ _ _ _ r h => by simp [spykeep1_BoundIsotone.j1] at h⟩
 | k + 1 => by
  obtain ⟨ih0, ih1⟩ := spykeep1_BoundIsotone.mono_l k
  refine ⟨?_, ?_⟩
  · intro y0 y1 y2 y3 y4 y5 y6 y7 y8 y9 y10 y11 y12 y13 y14
    unfold spykeep1_BoundIsotone.j0
    repeat' first
    | (with_reducible exact ih0 _ _ _ _ _ _ _ _ _ _ _ _ _ _ _)
    | (with_reducible exact ih1 _ _ _ _ _ _ _ _ _ _ _ _ _ _ _)
    | (with_reducible exact bound_Abs_api_Fix.mono _ _ _ _)
    | (with_reducible exact bound_Add_api_Fix.mono _ _ _ _ _ _ _)
    | (with_reducible exact bound_Div_api_Fix.mono _ _ _ _ _ _ _ _)
    | (with_reducible exact bound_Hull_api_Fix.mono _ _ _ _ _ _ _)
    | (with_reducible exact bound_Inside_api_Fix.mono _ _ _ _ _ _ _)
    | (with_reducible exact bound_Max_api_Fix.mono _ _ _ _ _ _ _)
    | (with_reducible exact bound_Meet_api_Fix.mono _ _ _ _ _ _ _)
    | (with_reducible exact bound_Min_api_Fix.mono _ _ _ _ _ _ _)
    | (with_reducible exact bound_Mul_api_Fix.mono _ _ _ _ _ _ _ _)
    | (with_reducible exact bound_Neg_api_Fix.mono _ _ _ _)
    | (with_reducible exact bound_Root_api_Fix.mono _ _ _ _ _)
    | (with_reducible exact bound_Scale_api_Fix.mono _ _ _ _ _ _)
    | (with_reducible exact bound_Sub_api_Fix.mono _ _ _ _ _ _ _)
    | (with_reducible exact spykeep1_boundFact.mono _)
    | (with_reducible exact LeO.refl _)
    | (with_reducible exact LeO.none _)
    | (with_reducible refine LeO.ite ?_ ?_)
    | (with_reducible refine LeO.bind ?_ (fun _ => ?_))
    | exact ih0 _ _ _ _ _ _ _ _ _ _ _ _ _ _ _
    | exact ih1 _ _ _ _ _ _ _ _ _ _ _ _ _ _ _
    | exact bound_Abs_api_Fix.mono _ _ _ _
    | exact bound_Add_api_Fix.mono _ _ _ _ _ _ _
    | exact bound_Div_api_Fix.mono _ _ _ _ _ _ _ _
    | exact bound_Hull_api_Fix.mono _ _ _ _ _ _ _
    | exact bound_Inside_api_Fix.mono _ _ _ _ _ _ _
    | exact bound_Max_api_Fix.mono _ _ _ _ _ _ _
    | exact bound_Meet_api_Fix.mono _ _ _ _ _ _ _
    | exact bound_Min_api_Fix.mono _ _ _ _ _ _ _
    | exact bound_Mul_api_Fix.mono _ _ _ _ _ _ _ _
    | exact bound_Neg_api_Fix.mono _ _ _ _
    | exact bound_Root_api_Fix.mono _ _ _ _ _
    | exact bound_Scale_api_Fix.mono _ _ _ _ _ _
    | exact bound_Sub_api_Fix.mono _ _ _ _ _ _ _
    | exact spykeep1_boundFact.mono _
    | exact LeO.none _
    | refine LeO.ite ?_ ?_
    | refine LeO.bind ?_ (fun _ => ?_)
  · intro y0 y1 y2 y3 y4 y5 y6 y7 y8 y9 y10 y11 y12 y13 y14
    unfold spykeep1_BoundIsotone.j1
    repeat' first
    | (with_reducible exact ih0 _ _ _ _ _ _ _ _ _ _ _ _ _ _ _)
    | (with_reducible exact ih1 _ _ _ _ _ _ _ _ _ _ _ _ _ _ _)
    | (with_reducible exact bound_Abs_api_Fix.mono _ _ _ _)
    | (with_reducible exact bound_Add_api_Fix.mono _ _ _ _ _ _ _)
    | (with_reducible exact bound_Div_api_Fix.mono _ _ _ _ _ _ _ _)
    | (with_reducible exact bound_Hull_api_Fix.mono _ _ _ _ _ _ _)
    | (with_reducible exact bound_Inside_api_Fix.mono _ _ _ _ _ _ _)
    | (with_reducible exact bound_Max_api_Fix.mono _ _ _ _ _ _ _)
    | (with_reducible exact bound_Meet_api_Fix.mono _ _ _ _ _ _ _)
    | (with_reducible exact bound_Min_api_Fix.mono _ _ _ _ _ _ _)
    | (with_reducible exact bound_Mul_api_Fix.mono _ _ _ _ _ _ _ _)
    | (with_reducible exact bound_Neg_api_Fix.mono _ _ _ _)
    | (with_reducible exact bound_Root_api_Fix.mono _ _ _ _ _)
    | (with_reducible exact bound_Scale_api_Fix.mono _ _ _ _ _ _)
    | (with_reducible exact bound_Sub_api_Fix.mono _ _ _ _ _ _ _)
    | (with_reducible exact spykeep1_boundFact.mono _)
    | (with_reducible exact LeO.refl _)
    | (with_reducible exact LeO.none _)
    | (with_reducible refine LeO.ite ?_ ?_)
    | (with_reducible refine LeO.bind ?_ (fun _ => ?_))
    | exact ih0 _ _ _ _ _ _ _ _ _ _ _ _ _ _ _
    | exact ih1 _ _ _ _ _ _ _ _ _ _ _ _ _ _ _
    | exact bound_Abs_api_Fix.mono _ _ _ _
    | exact bound_Add_api_Fix.mono _ _ _ _ _ _ _
    | exact bound_Div_api_Fix.mono _ _ _ _ _ _ _ _
    | exact bound_Hull_api_Fix.mono _ _ _ _ _ _ _
    | exact bound_Inside_api_Fix.mono _ _ _ _ _ _ _
    | exact bound_Max_api_Fix.mono _ _ _ _ _ _ _
    | exact bound_Meet_api_Fix.mono _ _ _ _ _ _ _
    | exact bound_Min_api_Fix.mono _ _ _ _ _ _ _
    | exact bound_Mul_api_Fix.mono _ _ _ _ _ _ _ _
    | exact bound_Neg_api_Fix.mono _ _ _ _
    | exact bound_Root_api_Fix.mono _ _ _ _ _
    | exact bound_Scale_api_Fix.mono _ _ _ _ _ _
    | exact bound_Sub_api_Fix.mono _ _ _ _ _ _ _
    | exact spykeep1_boundFact.mono _
    | exact LeO.none _
    | refine LeO.ite ?_ ?_
    | refine LeO.bind ?_ (fun _ => ?_)
theorem spykeep1_BoundIsotone.mono : ∀ a0 a1 a2 k, LeO (spykeep1_BoundIsotone.f k a0 a1 a2) (spykeep1_BoundIsotone.f (k + 1) a0 a1 a2) := by
 intro a0 a1 a2 k
 obtain ⟨ih0, ih1⟩ := spykeep1_BoundIsotone.mono_l k
 unfold spykeep1_BoundIsotone.f
 repeat' first
  | (with_reducible exact ih0 _ _ _ _ _ _ _ _ _ _ _ _ _ _ _)
  | (with_reducible exact ih1 _ _ _ _ _ _ _ _ _ _ _ _ _ _ _)
  | (with_reducible exact bound_Abs_api_Fix.mono _ _ _ _)
  | (with_reducible exact bound_Add_api_Fix.mono _ _ _ _ _ _ _)
  | (with_reducible exact bound_Div_api_Fix.mono _ _ _ _ _ _ _ _)
  | (with_reducible exact bound_Hull_api_Fix.mono _ _ _ _ _ _ _)
  | (with_reducible exact bound_Inside_api_Fix.mono _ _ _ _ _ _ _)
  | (with_reducible exact bound_Max_api_Fix.mono _ _ _ _ _ _ _)
  | (with_reducible exact bound_Meet_api_Fix.mono _ _ _ _ _ _ _)
  | (with_reducible exact bound_Min_api_Fix.mono _ _ _ _ _ _ _)
  | (with_reducible exact bound_Mul_api_Fix.mono _ _ _ _ _ _ _ _)
  | (with_reducible exact bound_Neg_api_Fix.mono _ _ _ _)
  | (with_reducible exact bound_Root_api_Fix.mono _ _ _ _ _)
  | (with_reducible exact bound_Scale_api_Fix.mono _ _ _ _ _ _)
  | (with_reducible exact bound_Sub_api_Fix.mono _ _ _ _ _ _ _)
  | (with_reducible exact spykeep1_boundFact.mono _)
  | (with_reducible exact LeO.refl _)
  | (with_reducible exact LeO.none _)
  | (with_reducible refine LeO.ite ?_ ?_)
  | (with_reducible refine LeO.bind ?_ (fun _ => ?_))
  | exact ih0 _ _ _ _ _ _ _ _ _ _ _ _ _ _ _
  | exact ih1 _ _ _ _ _ _ _ _ _ _ _ _ _ _ _
  | exact bound_Abs_api_Fix.mono _ _ _ _
  | exact bound_Add_api_Fix.mono _ _ _ _ _ _ _
  | exact bound_Div_api_Fix.mono _ _ _ _ _ _ _ _
  | exact bound_Hull_api_Fix.mono _ _ _ _ _ _ _
  | exact bound_Inside_api_Fix.mono _ _ _ _ _ _ _
  | exact bound_Max_api_Fix.mono _ _ _ _ _ _ _
  | exact bound_Meet_api_Fix.mono _ _ _ _ _ _ _
  | exact bound_Min_api_Fix.mono _ _ _ _ _ _ _
  | exact bound_Mul_api_Fix.mono _ _ _ _ _ _ _ _
  | exact bound_Neg_api_Fix.mono _ _ _ _
  | exact bound_Root_api_Fix.mono _ _ _ _ _
  | exact bound_Scale_api_Fix.mono _ _ _ _ _ _
  | exact bound_Sub_api_Fix.mono _ _ _ _ _ _ _
  | exact spykeep1_boundFact.mono _
  | exact LeO.none _
  | refine LeO.ite ?_ ?_
  | refine LeO.bind ?_ (fun _ => ?_)
def spykeep1_BoundIsotone.T3 : Bool × List (List Nat × List Nat) := (true, [([], []), ([], []), ([0, 1], [0, 1]), ([], []), ([], []), ([3, 4, 2], [3, 4]), ([], []), ([], []), ([6, 2, 5, 0, 1, 2, 6, 7], [2, 6]), ([7, 5, 8, 0, 1, 2, 3, 4, 5, 6, 7, 8], [5, 7])])
def spykeep1_BoundIsotone.B3 : List Nat := [0, 0, 3, 0, 0, 31, 0, 0, 255, 511]
theorem spykeep1_BoundIsotone.tab3 : rtab .any (opsOf Try.f6 3) = spykeep1_BoundIsotone.T3 := by kernel_rfl
theorem spykeep1_BoundIsotone.bits3 : waitsOk spykeep1_BoundIsotone.T3.2 spykeep1_BoundIsotone.B3 = true := by kernel_rfl
def spykeep1_BoundIsotone.T13 : Bool × List (List Nat × List Nat) := (true, [([], []), ([], []), ([], []), ([1, 2], [1, 2]), ([], []), ([], []), ([4, 5, 3], [4, 5]), ([0, 3, 6, 6], [0, 3, 6]), ([7, 7], [7]), ([8], [8]), ([8], [8]), ([8], [8]), ([10, 11, 8, 8], [8, 10, 11]), ([8], [8]), ([8], [8]), ([13, 14, 12, 8], [8, 13, 14]), ([9, 12, 15, 15, 8], [8, 9, 12, 15]), ([8, 16], [8, 16]), ([17, 16], [17]), ([18], [18]), ([18], [18]), ([20, 18, 18], [18, 20]), ([18], [18]), ([22, 21, 18], [18, 22]), ([19, 21, 23, 23, 18], [18, 19, 21, 23]), ([18, 24], [18, 24]), ([25, 24], [25]), ([26], [26]), ([26], [26]), ([28, 26, 26], [26, 28]), ([26], [26]), ([30, 29, 26], [26, 30]), ([27, 29, 31, 31, 26], [26, 27, 29, 31]), ([26, 32], [26, 32]), ([33, 32], [33]), ([34], [34]), ([34], [34]), ([34], [34]), ([36, 37, 34, 34], [34, 36, 37]), ([34], [34]), ([34], [34]), ([39, 40, 38, 34], [34, 39, 40]), ([35, 38, 41, 41, 34], [34, 35, 38, 41]), ([34, 42], [34, 42]), ([43, 42], [43]), ([44], [44]), ([44], [44]), ([44], [44]), ([46, 47, 44, 44], [44, 46, 47]), ([44], [44]), ([44], [44]), ([49, 50, 48, 44], [44, 49, 50]), ([45, 48, 51, 51, 44], [44, 45, 48, 51]), ([44, 52], [44, 52]), ([53, 52], [53]), ([54], [54]), ([54], [54]), ([54], [54]), ([56, 57, 54, 54], [54, 56, 57]), ([54], [54]), ([54], [54]), ([59, 60, 58, 54], [54, 59, 60]), ([55, 58, 61, 61, 54], [54, 55, 58, 61]), ([54, 62], [54, 62]), ([63, 62], [63]), ([64], [64]), ([64], [64]), ([64], [64]), ([64], [64]), ([66, 67, 68, 64, 64], [64, 66, 67, 68]), ([64], [64]), ([64], [64]), ([64], [64]), ([70, 71, 72, 69, 64], [64, 70, 71, 72]), ([65, 69, 73, 73, 64], [64, 65, 69, 73]), ([64, 74], [64, 74]), ([75, 74], [75]), ([76], [76]), ([76], [76]), ([76], [76]), ([76], [76]), ([78, 79, 80, 76, 76], [76, 78, 79, 80]), ([76], [76]), ([76], [76]), ([76], [76]), ([82, 83, 84, 81, 76], [76, 82, 83, 84]), ([77, 81, 85, 85, 76], [76, 77, 81, 85]), ([76, 86], [76, 86]), ([87, 86], [87]), ([88], [88]), ([88], [88]), ([88], [88]), ([88], [88]), ([90, 91, 92, 88, 88], [88, 90, 91, 92]), ([88], [88]), ([88], [88]), ([88], [88]), ([94, 95, 96, 93, 88], [88, 94, 95, 96]), ([89, 93, 97, 97, 88], [88, 89, 93, 97]), ([88, 98], [88, 98]), ([99, 98], [99]), ([100], [100]), ([100], [100]), ([102, 100, 100], [100, 102]), ([100], [100]), ([103, 104, 103, 100], [100, 103, 104]), ([100], [100]), ([106, 105, 100], [100, 106]), ([100], [100]), ([107, 108, 107, 100], [100, 107, 108]), ([101, 105, 109, 109, 100], [100, 101, 105, 109]), ([100, 110], [100, 110]), ([111, 110], [111]), ([112], [112]), ([112], [112]), ([112], [112]), ([112], [112]), ([115, 116, 112, 112], [112, 115, 116]), ([113, 114, 117, 117, 112], [112, 113, 114, 117]), ([112, 118], [112, 118]), ([119, 118, 0, 1, 2, 3, 4, 5, 6, 7, 8, 9, 10, 11, 12, 13, 14, 15, 16, 17, 18, 19, 20, 21, 22, 23, 24, 25, 26, 27, 28, 29, 30, 31, 32, 33, 34, 35, 36, 37, 38, 39, 40, 41, 42, 43, 44, 45, 46, 47, 48, 49, 50, 51, 52, 53, 54, 55, 56, 57, 58, 59, 60, 61, 62, 63, 64, 65, 66, 67, 68, 69, 70, 71, 72, 73, 74, 75, 76, 77, 78, 79, 80, 81, 82, 83, 84, 85, 86, 87, 88, 89, 90, 91, 92, 93, 94, 95, 96, 97, 98, 99, 100, 101, 102, 103, 104, 105, 106, 107, 108, 109, 110, 111, 112, 113, 114, 115, 116, 117, 118, 119], [119])])
def spykeep1_BoundIsotone.B13 : List Nat := [0, 0, 0, 6, 0, 0, 62, 127, 255, 511, 511, 511, 3583, 511, 511, 32255, 65535, 131071, 262143, 524287, 524287, 1572863, 524287, 7864319, 16777215, 33554431, 67108863, 134217727, 134217727, 402653183, 134217727, 2013265919, 4294967295, 8589934591, 17179869183, 34359738367, 34359738367, 34359738367, 240518168575, 34359738367, 34359738367, 2164663517183, 4398046511103, 8796093022207, 17592186044415, 35184372088831, 35184372088831, 35184372088831, 246290604621823, 35184372088831, 35184372088831, 2216615441596415, 4503599627370495, 9007199254740991, 18014398509481983, 36028797018963967, 36028797018963967, 36028797018963967, 252201579132747775, 36028797018963967, 36028797018963967, 2269814212194729983, 4611686018427387903, 9223372036854775807, 18446744073709551615, 36893488147419103231, 36893488147419103231, 36893488147419103231, 36893488147419103231, 553402322211286548479, 36893488147419103231, 36893488147419103231, 36893488147419103231, 9407839477591871324159, 18889465931478580854783, 37778931862957161709567, 75557863725914323419135, 151115727451828646838271, 151115727451828646838271, 151115727451828646838271, 151115727451828646838271, 2266735911777429702574079, 151115727451828646838271, 151115727451828646838271, 151115727451828646838271, 38534510500216304943759359, 77371252455336267181195263, 154742504910672534362390527, 309485009821345068724781055, 618970019642690137449562111, 618970019642690137449562111, 618970019642690137449562111, 618970019642690137449562111, 9284550294640352061743431679, 618970019642690137449562111, 618970019642690137449562111, 618970019642690137449562111, 157837355008885985049638338559, 316912650057057350374175801343, 633825300114114700748351602687, 1267650600228229401496703205375, 2535301200456458802993406410751, 2535301200456458802993406410751, 7605903601369376408980219232255, 2535301200456458802993406410751, 38029518006846882044901096161279, 2535301200456458802993406410751, 159723975628756904588584603877375, 2535301200456458802993406410751, 646501806116396994763318634741759, 1298074214633706907132624082305023, 2596148429267413814265248164610047, 5192296858534827628530496329220095, 10384593717069655257060992658440191, 10384593717069655257060992658440191, 10384593717069655257060992658440191, 10384593717069655257060992658440191, 134999718321905518341792904559722495, 332306998946228968225951765070086143, 664613997892457936451903530140172287, 1329227995784915872903807060280344575]
theorem spykeep1_BoundIsotone.tab13 : rtab .any (opsOf Try.f6 13) = spykeep1_BoundIsotone.T13 := by kernel_rfl
theorem spykeep1_BoundIsotone.bits13 : waitsOk spykeep1_BoundIsotone.T13.2 spykeep1_BoundIsotone.B13 = true := by kernel_rfl
set_option maxHeartbeats 8000000 in
set_option maxRecDepth 100000 in
theorem spykeep1_BoundIsotone.calls (k : Nat) (A0 : Option Addr) (c0 : Nat) (l0 : List Int) (a1 : Int) (a2 : Int) (r : Bool) (w : World) (hr0 : Kd.C (Kd.int .i64) w A0 l0.length l0) (hc0 : l0.length ≤ c0) (h : spykeep1_BoundIsotone.f k l0 a1 a2 = some r) :
 Calls Try.prog 6 #[.slice A0 l0.length c0, .int .i64 a1, .int .i64 a2] w fun e w' => e = .returned (.bool r) ∧ Below w.heap.size w w' := by
  have hu25 := Try.underlying25
  have hu56 := Try.underlying56
  have HR0 := Aside0.mk hr0
  have HC0 := Aside0.mk hc0
  clear hr0 hc0
  have HB := Aside0.mk (Below.refl w.heap.size w)
  have H : ((spymake_Bound_api_Fix.f l0 0 1048576).bind fun bt102 => ((spymake_Bound_api_Fix.f l0 bt102.2.2.2 1024).bind fun bt106 => ((spymake_Within_api_Fix.f l0 bt106.2.2.2 bt102.1 bt102.2.1 bt102.2.2.1).bind fun bt112 => ((spymake_Within_api_Fix.f l0 bt112.2.2.2 bt106.1 bt106.2.1 bt106.2.2.1).bind fun bt116 => ((spymake_Below.f a2 1000).bind fun t122 => ((spymake_Below.f a1 2001).bind fun t123 => ((spykeep1_boundFact.f k).bind fun t124 => (if t124 = true then ((bound_Inside_api_Fix.f k bt112.1 bt112.2.1 bt112.2.2.1 bt102.1 bt102.2.1 bt102.2.2.1).bind fun t125 => (if t125 = true then ((bound_Inside_api_Fix.f k bt116.1 bt116.2.1 bt116.2.2.1 bt106.1 bt106.2.1 bt106.2.2.1).bind fun t126 => (spykeep1_BoundIsotone.j0 k (wrap64 (1 + t122)) (wrap64 (t123 - 1000)) (!t126) bt102.1 bt102.2.1 bt102.2.2.1 bt106.1 bt106.2.1 bt106.2.2.1 bt112.1 bt112.2.1 bt112.2.2.1 bt116.1 bt116.2.1 bt116.2.2.1)) else (none))) else (none))))))))) = some r := h
  clear h
  replace H := Option.bind_eq_some_iff.mp H
  obtain ⟨⟨t102, t103, t104, t105⟩, A40, H⟩ := H
  try dsimp -simprocs only at H
  have A4 := Aside0.mk A40
  clear A40
  replace H := Option.bind_eq_some_iff.mp H
  obtain ⟨⟨t106, t107, t108, t109⟩, A50, H⟩ := H
  try dsimp -simprocs only at H
  have A5 := Aside0.mk A50
  clear A50
  replace H := Option.bind_eq_some_iff.mp H
  obtain ⟨⟨t112, t113, t114, t115⟩, A60, H⟩ := H
  try dsimp -simprocs only at H
  have A6 := Aside0.mk A60
  clear A60
  replace H := Option.bind_eq_some_iff.mp H
  obtain ⟨⟨t116, t117, t118, t119⟩, A70, H⟩ := H
  try dsimp -simprocs only at H
  have A7 := Aside0.mk A70
  clear A70
  replace H := Option.bind_eq_some_iff.mp H
  obtain ⟨t122, A80, H⟩ := H
  try dsimp -simprocs only at H
  have A8 := Aside0.mk A80
  clear A80
  replace H := Option.bind_eq_some_iff.mp H
  obtain ⟨t123, A90, H⟩ := H
  try dsimp -simprocs only at H
  have A9 := Aside0.mk A90
  clear A90
  have HC10 := Aside0.mk H
  clear H
  go_enter Try.func6, Try.ntmps6
  try go_wp2_with (first | ((with_reducible refine gate_dst (N := 21) rfl ?_); refine bxq_ 21 #[.slice A0 l0.length c0, .int .i64 0] 25 ?_; intro gb101 hg w11 hbox hb; have HI101 := Aside0.mk ((show IsS25 w _ gb101 l0 0 from ⟨_, _, hbox, (by rw [hg]; exact (below_size (by repeat (first | (with_reducible first | exact HB.out | apply below_alloc | apply pw_below_drewN | apply below_drew1) | exact HB.out))) : w.heap.size ≤ gb101), HR0.out⟩)); have GW101 := Aside0.mk ((by rw [hg]; exact (below_size (by repeat (first | (with_reducible first | exact HB.out | apply below_alloc | apply pw_below_drewN | apply below_drew1) | exact HB.out))) : w.heap.size ≤ gb101)); have GE101 := GW101; replace HB := Aside0.mk (below_step (by repeat (first | (with_reducible first | exact HB.out | apply below_alloc | apply pw_below_drewN | apply below_drew1) | exact HB.out)) hb); clear hb hbox hg) | ((with_reducible refine gate_callee (f := 31) rfl ?_); refine glq_ (some 23) Try.func31 #[.pointer (some ⟨gb101, 0, none⟩), .int .i64 1048576] ?_; (with_reducible refine (spymake_Bound_api_Fix.calls gb101 l0 0 1048576 t102 t103 t104 t105 w _ ?side1 ?side2 A4.out).mono ?_); (case side1 => repeat (first | (with_reducible first | exact HI101.out | apply IsS25.alloc | apply IsS25.drewN | apply IsS25.drew | apply IsS25.set_1) | exact HI101.out)); (case side2 => repeat (first | (with_reducible first | exact HB.out | apply below_alloc | apply pw_below_drewN | apply below_drew1 | refine below_set ?_ (IsS25.ge HI101.out)) | exact HB.out)); rintro e w12 ⟨rfl, hi, hb, hk⟩; refine ⟨_, rfl, ?_⟩; replace HB := Aside0.mk (hb); replace HI101 := Aside0.mk (hi); (try clear hb hk hi)) | ((with_reducible refine gate_callee (f := 31) rfl ?_); refine glq_ (some 25) Try.func31 #[.pointer (some ⟨gb101, 0, none⟩), .int .i64 1024] ?_; (with_reducible refine (spymake_Bound_api_Fix.calls gb101 l0 t105 1024 t106 t107 t108 t109 w _ ?side1 ?side2 A5.out).mono ?_); (case side1 => repeat (first | (with_reducible first | exact HI101.out | apply IsS25.alloc | apply IsS25.drewN | apply IsS25.drew | apply IsS25.set_1) | exact HI101.out)); (case side2 => repeat (first | (with_reducible first | exact HB.out | apply below_alloc | apply pw_below_drewN | apply below_drew1 | refine below_set ?_ (IsS25.ge HI101.out)) | exact HB.out)); rintro e w13 ⟨rfl, hi, hb, hk⟩; refine ⟨_, rfl, ?_⟩; replace HB := Aside0.mk (hb); replace HI101 := Aside0.mk (hi); (try clear hb hk hi)) | ((with_reducible refine gate_dst (N := 8) rfl ?_); refine bxq_ 8 #[.int .i64 0, .int .i64 0, .bool false] 56 ?_; intro gb110 hg w14 hbox hb; have n0_ := Aside0.mk (IsS25.below (by repeat (first | (with_reducible first | exact HI101.out | apply IsS25.alloc | apply IsS25.drewN | apply IsS25.drew | apply IsS25.set_1) | exact HI101.out)) hb); have n1_ := Aside0.mk (below_step (by repeat (first | (with_reducible first | exact HB.out | apply below_alloc | apply pw_below_drewN | apply below_drew1 | refine below_set ?_ (IsS25.ge HI101.out)) | exact HB.out)) hb); have n2_ := Aside0.mk (hbox); have n3_ := Aside0.mk ((by rw [hg]; exact (below_size (by repeat (first | (with_reducible first | exact HB.out | apply below_alloc | apply pw_below_drewN | apply below_drew1 | refine below_set ?_ (IsS25.ge HI101.out)) | exact HB.out))) : w.heap.size ≤ gb110)); have n4_ := n3_; have n5_ := Aside0.mk ((by rw [hg]; exact Nat.ne_of_lt (IsS25.lt (show IsS25 w _ gb101 l0 t109 from by repeat (first | (with_reducible first | exact HI101.out | apply IsS25.alloc | apply IsS25.drewN | apply IsS25.drew | apply IsS25.set_1) | exact HI101.out))) : gb101 ≠ gb110)); have n6_ := Aside0.mk ((by rw [hg]; exact Nat.ne_of_gt (IsS25.lt (show IsS25 w _ gb101 l0 t109 from by repeat (first | (with_reducible first | exact HI101.out | apply IsS25.alloc | apply IsS25.drewN | apply IsS25.drew | apply IsS25.set_1) | exact HI101.out))) : gb110 ≠ gb101)); clear HI101; clear HB; have HI101 := n0_; have HB := n1_; have BK110 := n2_; have GW110 := n3_; have GE110 := n4_; have NB101_110 := n5_; have NB110_101 := n6_; clear n0_ n1_ n2_ n3_ n4_ n5_ n6_; clear hb hbox hg) | ((with_reducible refine gate_dst (N := 9) rfl ?_); refine bxq_ 9 #[.int .i64 0, .int .i64 0, .bool false] 56 ?_; intro gb111 hg w15 hbox hb; have n0_ := Aside0.mk (IsS25.below (by repeat (first | (with_reducible first | exact HI101.out | apply IsS25.alloc | apply IsS25.drewN | apply IsS25.drew | apply IsS25.set_1 | refine IsS25.far ?_ NB101_110.out _) | exact HI101.out)) hb); have n1_ := bkb_ BK110 hb rfl; have n2_ := Aside0.mk (below_step (by repeat (first | (with_reducible first | exact HB.out | apply below_alloc | apply pw_below_drewN | apply below_drew1 | refine below_set ?_ (IsS25.ge HI101.out) | refine below_set ?_ GE110.out) | exact HB.out)) hb); have n3_ := Aside0.mk (hbox); have n4_ := Aside0.mk ((by rw [hg]; exact (below_size (by repeat (first | (with_reducible first | exact HB.out | apply below_alloc | apply pw_below_drewN | apply below_drew1 | refine below_set ?_ (IsS25.ge HI101.out) | refine below_set ?_ GE110.out) | exact HB.out))) : w.heap.size ≤ gb111)); have n5_ := n4_; have n6_ := nbl_ BK110 hg rfl; have n7_ := nbg_ BK110 hg rfl; have n8_ := Aside0.mk ((by rw [hg]; exact Nat.ne_of_lt (IsS25.lt (show IsS25 w _ gb101 l0 t109 from by repeat (first | (with_reducible first | exact HI101.out | apply IsS25.alloc | apply IsS25.drewN | apply IsS25.drew | apply IsS25.set_1 | refine IsS25.far ?_ NB101_110.out _) | exact HI101.out))) : gb101 ≠ gb111)); have n9_ := Aside0.mk ((by rw [hg]; exact Nat.ne_of_gt (IsS25.lt (show IsS25 w _ gb101 l0 t109 from by repeat (first | (with_reducible first | exact HI101.out | apply IsS25.alloc | apply IsS25.drewN | apply IsS25.drew | apply IsS25.set_1 | refine IsS25.far ?_ NB101_110.out _) | exact HI101.out))) : gb111 ≠ gb101)); clear HI101; clear BK110; clear HB; have HI101 := n0_; have BK110 := n1_; have HB := n2_; have BK111 := n3_; have GW111 := n4_; have GE111 := n5_; have NB110_111 := n6_; have NB111_110 := n7_; have NB101_111 := n8_; have NB111_101 := n9_; clear n0_ n1_ n2_ n3_ n4_ n5_ n6_ n7_ n8_ n9_; clear hb hbox hg; have hnb16 := NB110_111.out; have hnc16 := NB111_110.out; have hnb17 := NB110_101.out; have hnc17 := NB101_110.out; have hcz18_0 := bc_ BK110 0 rfl; have hcz18_1 := bc_ BK110 1 rfl; have hcz18_2 := bc_ BK110 2 rfl; have hfz18_0 := blk_frozen BK110.out 0; have hfz18_1 := blk_frozen BK110.out 1; have hfz18_2 := blk_frozen BK110.out 2; have hnb19 := NB111_101.out; have hnc19 := NB101_111.out; have hcz20_0 := bc_ BK111 0 rfl; have hcz20_1 := bc_ BK111 1 rfl; have hcz20_2 := bc_ BK111 2 rfl; have hfz20_0 := blk_frozen BK111.out 0; have hfz20_1 := blk_frozen BK111.out 1; have hfz20_2 := blk_frozen BK111.out 2))
  have n0_ : Aside0 (((((((w15.setCell ⟨gb110, 0, none⟩ (.int .i64 t102)).setCell ⟨gb110, 1, none⟩ (.int .i64 t103)).setCell ⟨gb110, 2, none⟩ (.bool t104)).setCell ⟨gb111, 0, none⟩ (.int .i64 t106)).setCell ⟨gb111, 1, none⟩ (.int .i64 t107)).setCell ⟨gb111, 2, none⟩ (.bool t108)).heap[gb110]? = some (.cells #[.int .i64 t102, .int .i64 t103, .bool t104] 56 (0, 0))) := ⟨by (with_reducible repeat (first | refine blk_drewN ?_ _ | refine blk_drew ?_ | refine blk_alloc ?_ _)); refine blk_far ?_ NB110_111.out _; (with_reducible repeat (first | refine blk_drewN ?_ _ | refine blk_drew ?_ | refine blk_alloc ?_ _)); refine blk_far ?_ NB110_111.out _; (with_reducible repeat (first | refine blk_drewN ?_ _ | refine blk_drew ?_ | refine blk_alloc ?_ _)); refine blk_far ?_ NB110_111.out _; (with_reducible repeat (first | refine blk_drewN ?_ _ | refine blk_drew ?_ | refine blk_alloc ?_ _)); refine blk_put (cs := #[.int .i64 t102, .int .i64 t103, .bool false]) ?_ 2 _ rfl; (with_reducible repeat (first | refine blk_drewN ?_ _ | refine blk_drew ?_ | refine blk_alloc ?_ _)); refine blk_put (cs := #[.int .i64 t102, .int .i64 0, .bool false]) ?_ 1 _ rfl; (with_reducible repeat (first | refine blk_drewN ?_ _ | refine blk_drew ?_ | refine blk_alloc ?_ _)); refine blk_put (cs := #[.int .i64 0, .int .i64 0, .bool false]) ?_ 0 _ rfl; (with_reducible repeat (first | refine blk_drewN ?_ _ | refine blk_drew ?_ | refine blk_alloc ?_ _)); exact BK110.out⟩
  have n1_ : Aside0 (((((((w15.setCell ⟨gb110, 0, none⟩ (.int .i64 t102)).setCell ⟨gb110, 1, none⟩ (.int .i64 t103)).setCell ⟨gb110, 2, none⟩ (.bool t104)).setCell ⟨gb111, 0, none⟩ (.int .i64 t106)).setCell ⟨gb111, 1, none⟩ (.int .i64 t107)).setCell ⟨gb111, 2, none⟩ (.bool t108)).heap[gb111]? = some (.cells #[.int .i64 t106, .int .i64 t107, .bool t108] 56 (0, 0))) := ⟨by (with_reducible repeat (first | refine blk_drewN ?_ _ | refine blk_drew ?_ | refine blk_alloc ?_ _)); refine blk_put (cs := #[.int .i64 t106, .int .i64 t107, .bool false]) ?_ 2 _ rfl; (with_reducible repeat (first | refine blk_drewN ?_ _ | refine blk_drew ?_ | refine blk_alloc ?_ _)); refine blk_put (cs := #[.int .i64 t106, .int .i64 0, .bool false]) ?_ 1 _ rfl; (with_reducible repeat (first | refine blk_drewN ?_ _ | refine blk_drew ?_ | refine blk_alloc ?_ _)); refine blk_put (cs := #[.int .i64 0, .int .i64 0, .bool false]) ?_ 0 _ rfl; (with_reducible repeat (first | refine blk_drewN ?_ _ | refine blk_drew ?_ | refine blk_alloc ?_ _)); refine blk_far ?_ NB111_110.out _; (with_reducible repeat (first | refine blk_drewN ?_ _ | refine blk_drew ?_ | refine blk_alloc ?_ _)); refine blk_far ?_ NB111_110.out _; (with_reducible repeat (first | refine blk_drewN ?_ _ | refine blk_drew ?_ | refine blk_alloc ?_ _)); refine blk_far ?_ NB111_110.out _; (with_reducible repeat (first | refine blk_drewN ?_ _ | refine blk_drew ?_ | refine blk_alloc ?_ _)); exact BK111.out⟩
  have n2_ : Aside0 (IsS25 w ((((((w15.setCell ⟨gb110, 0, none⟩ (.int .i64 t102)).setCell ⟨gb110, 1, none⟩ (.int .i64 t103)).setCell ⟨gb110, 2, none⟩ (.bool t104)).setCell ⟨gb111, 0, none⟩ (.int .i64 t106)).setCell ⟨gb111, 1, none⟩ (.int .i64 t107)).setCell ⟨gb111, 2, none⟩ (.bool t108)) gb101 l0 t109) := ⟨by repeat (first | (with_reducible first | exact HI101.out | apply IsS25.alloc | apply IsS25.drewN | apply IsS25.drew | apply IsS25.set_1 | refine IsS25.far ?_ NB101_110.out _ | refine IsS25.far ?_ NB101_111.out _) | exact HI101.out)⟩
  have n3_ : Aside0 (Below w.heap.size w ((((((w15.setCell ⟨gb110, 0, none⟩ (.int .i64 t102)).setCell ⟨gb110, 1, none⟩ (.int .i64 t103)).setCell ⟨gb110, 2, none⟩ (.bool t104)).setCell ⟨gb111, 0, none⟩ (.int .i64 t106)).setCell ⟨gb111, 1, none⟩ (.int .i64 t107)).setCell ⟨gb111, 2, none⟩ (.bool t108))) := ⟨by repeat (first | (with_reducible first | exact HB.out | apply below_alloc | apply pw_below_drewN | apply below_drew1 | refine below_set ?_ (IsS25.ge HI101.out) | refine below_set ?_ GE110.out | refine below_set ?_ GE111.out) | exact HB.out)⟩
  (try clear BK110)
  (try clear BK111)
  (try clear HI101)
  (try clear HB)
  generalize ((((((w15.setCell ⟨gb110, 0, none⟩ (.int .i64 t102)).setCell ⟨gb110, 1, none⟩ (.int .i64 t103)).setCell ⟨gb110, 2, none⟩ (.bool t104)).setCell ⟨gb111, 0, none⟩ (.int .i64 t106)).setCell ⟨gb111, 1, none⟩ (.int .i64 t107)).setCell ⟨gb111, 2, none⟩ (.bool t108)) = w21 at n0_ n1_ n2_ n3_ ⊢
  have BK110 := n0_
  have BK111 := n1_
  have HI101 := n2_
  have HB := n3_
  clear n0_ n1_ n2_ n3_
  replace BK110 := Aside0.mk (blk_drew BK110.out)
  replace BK111 := Aside0.mk (blk_drew BK111.out)
  replace HI101 := Aside0.mk (IsS25.drew HI101.out)
  replace HB := Aside0.mk (below_drew1 HB.out)
  refine start_ (n := 10) (S := fun w' => w'.cell? ⟨gb110, 0, none⟩ = some (.int .i64 t102) ∧ w'.cell? ⟨gb110, 1, none⟩ = some (.int .i64 t103) ∧ w'.cell? ⟨gb110, 2, none⟩ = some (.bool t104) ∧ w'.cell? ⟨gb111, 0, none⟩ = some (.int .i64 t106) ∧ w'.cell? ⟨gb111, 1, none⟩ = some (.int .i64 t107) ∧ w'.cell? ⟨gb111, 2, none⟩ = some (.bool t108)) (ds := []) (bm_ [0, 10]) (by kernel_rfl) rfl rfl ⟨bc_ BK110 0 rfl, bc_ BK110 1 rfl, bc_ BK110 2 rfl, bc_ BK111 0 rfl, bc_ BK111 1 rfl, bc_ BK111 2 rfl⟩ (fun hHeld => ?_); refine with_tabW spykeep1_BoundIsotone.tab3 spykeep1_BoundIsotone.bits3 (fun HT_ HW_ => ?_)
  generalize w21.drew = w22 at BK110 BK111 HI101 HB hHeld ⊢
  refine pq_ 0 26 (bm_ [1, 9]) HT_ ?_
  refine pq_ 3 29 (bm_ [1, 2, 1, 6]) HT_ ?_
  refine tq_ 1 27 (bm_ [2, 1, 1, 6]) HT_ HW_ hHeld ?_
  refine tq_ 4 30 (bm_ [2, 1, 2, 5]) HT_ HW_ hHeld ?_
  refine join_ (σ := Nat × Nat) 2 (bm_ [8, 2]) (fun s_ => [(28, .agg #[.int .i64 t112, .int .i64 t113, .bool t114]), (31, .agg #[.int .i64 t116, .int .i64 t117, .bool t118]), (10, .pointer (some ⟨s_.1, 0, none⟩)), (11, .pointer (some ⟨s_.2, 0, none⟩))]) (fun s_ w' => (w'.cell? ⟨gb110, 0, none⟩ = some (.int .i64 t102) ∧ w'.cell? ⟨gb110, 1, none⟩ = some (.int .i64 t103) ∧ w'.cell? ⟨gb110, 2, none⟩ = some (.bool t104) ∧ w'.cell? ⟨gb111, 0, none⟩ = some (.int .i64 t106) ∧ w'.cell? ⟨gb111, 1, none⟩ = some (.int .i64 t107) ∧ w'.cell? ⟨gb111, 2, none⟩ = some (.bool t108)) ∧ (w'.heap[gb110]? = some (.cells #[.int .i64 t102, .int .i64 t103, .bool t104] 56 (0, 0))) ∧ (w'.heap[gb111]? = some (.cells #[.int .i64 t106, .int .i64 t107, .bool t108] 56 (0, 0))) ∧ (w'.heap[s_.1]? = some (.cells #[.int .i64 0, .int .i64 0, .bool false] 56 (0, 0))) ∧ (w'.heap[s_.2]? = some (.cells #[.int .i64 0, .int .i64 0, .bool false] 56 (0, 0))) ∧ (w.heap.size ≤ s_.1) ∧ (w.heap.size ≤ s_.1) ∧ (gb101 ≠ s_.1) ∧ (s_.1 ≠ gb101) ∧ (gb110 ≠ s_.1) ∧ (s_.1 ≠ gb110) ∧ (gb111 ≠ s_.1) ∧ (s_.1 ≠ gb111) ∧ (s_.2 ≠ s_.1) ∧ (s_.1 ≠ s_.2) ∧ (w.heap.size ≤ s_.2) ∧ (w.heap.size ≤ s_.2) ∧ (gb101 ≠ s_.2) ∧ (s_.2 ≠ gb101) ∧ (gb110 ≠ s_.2) ∧ (s_.2 ≠ gb110) ∧ (gb111 ≠ s_.2) ∧ (s_.2 ≠ gb111) ∧ (IsS25 w w' gb101 l0 t119) ∧ (Below w.heap.size w w')) ?_ ?_
  rotate_left
  · intro hJ2_5_6_7
    refine join_ (σ := Nat) 3 (bm_ [7, 3]) (fun s_ => [(28, .agg #[.int .i64 t112, .int .i64 t113, .bool t114]), (31, .agg #[.int .i64 t116, .int .i64 t117, .bool t118]), (10, .pointer (some ⟨s_, 0, none⟩))]) (fun s_ w' => (w'.cell? ⟨gb110, 0, none⟩ = some (.int .i64 t102) ∧ w'.cell? ⟨gb110, 1, none⟩ = some (.int .i64 t103) ∧ w'.cell? ⟨gb110, 2, none⟩ = some (.bool t104) ∧ w'.cell? ⟨gb111, 0, none⟩ = some (.int .i64 t106) ∧ w'.cell? ⟨gb111, 1, none⟩ = some (.int .i64 t107) ∧ w'.cell? ⟨gb111, 2, none⟩ = some (.bool t108)) ∧ (w'.heap[gb110]? = some (.cells #[.int .i64 t102, .int .i64 t103, .bool t104] 56 (0, 0))) ∧ (w'.heap[gb111]? = some (.cells #[.int .i64 t106, .int .i64 t107, .bool t108] 56 (0, 0))) ∧ (w'.heap[s_]? = some (.cells #[.int .i64 0, .int .i64 0, .bool false] 56 (0, 0))) ∧ (w.heap.size ≤ s_) ∧ (w.heap.size ≤ s_) ∧ (gb101 ≠ s_) ∧ (s_ ≠ gb101) ∧ (gb110 ≠ s_) ∧ (s_ ≠ gb110) ∧ (gb111 ≠ s_) ∧ (s_ ≠ gb111) ∧ (IsS25 w w' gb101 l0 t119) ∧ (Below w.heap.size w w')) ?_ ?_
    rotate_left
    rotate_left
    · skip
      rintro gb120 w26 ⟨hS_, h0_, h1_, h2_, h3_, h4_, h5_, h6_, h7_, h8_, h9_, h10_, h11_, h12_⟩
      have BK120 : Aside0 (w26.heap[gb120]? = some (.cells #[.int .i64 0, .int .i64 0, .bool false] 56 (0, 0))) := ⟨h2_⟩
      have GW120 : Aside0 (w.heap.size ≤ gb120) := ⟨h3_⟩
      have GE120 : Aside0 (w.heap.size ≤ gb120) := ⟨h4_⟩
      have NB101_120 : Aside0 (gb101 ≠ gb120) := ⟨h5_⟩
      have NB120_101 : Aside0 (gb120 ≠ gb101) := ⟨h6_⟩
      have NB110_120 : Aside0 (gb110 ≠ gb120) := ⟨h7_⟩
      have NB120_110 : Aside0 (gb120 ≠ gb110) := ⟨h8_⟩
      have NB111_120 : Aside0 (gb111 ≠ gb120) := ⟨h9_⟩
      have NB120_111 : Aside0 (gb120 ≠ gb111) := ⟨h10_⟩
      replace BK110 : Aside0 (w26.heap[gb110]? = some (.cells #[.int .i64 t102, .int .i64 t103, .bool t104] 56 (0, 0))) := ⟨h0_⟩
      replace BK111 : Aside0 (w26.heap[gb111]? = some (.cells #[.int .i64 t106, .int .i64 t107, .bool t108] 56 (0, 0))) := ⟨h1_⟩
      replace HI101 : Aside0 (IsS25 w w26 gb101 l0 t119) := ⟨h11_⟩
      replace HB : Aside0 (Below w.heap.size w w26) := ⟨h12_⟩
      clear h0_ h1_ h2_ h3_ h4_ h5_ h6_ h7_ h8_ h9_ h10_ h11_ h12_
      have hHeld : w26.cell? ⟨gb110, 0, none⟩ = some (.int .i64 t102) ∧ w26.cell? ⟨gb110, 1, none⟩ = some (.int .i64 t103) ∧ w26.cell? ⟨gb110, 2, none⟩ = some (.bool t104) ∧ w26.cell? ⟨gb111, 0, none⟩ = some (.int .i64 t106) ∧ w26.cell? ⟨gb111, 1, none⟩ = some (.int .i64 t107) ∧ w26.cell? ⟨gb111, 2, none⟩ = some (.bool t108) := hS_
      refine norm_ (a' := ?_) ?_ ?_
      rotate_left
      · simp only [putAll, Act.put, List.setIfInBounds_toArray, List.set_cons_zero, List.set_cons_succ]
        rfl
      refine oq_ 7 (some 11) (bm_ [8, 2]) HT_ (fun K hK => ?_)
      refine bsq_ 11 #[.int .i64 0, .int .i64 0, .bool false] 56 ?_
      intro gb121 hg w27 hbox hb
      have BK121 := Aside0.mk (hbox)
      have GW121 := Aside0.mk ((by rw [hg]; exact (below_size (by exact HB.out)) : w.heap.size ≤ gb121))
      have GE121 := GW121
      have NB110_121 := nbl_ BK110 hg rfl
      have NB121_110 := nbg_ BK110 hg rfl
      have NB111_121 := nbl_ BK111 hg rfl
      have NB121_111 := nbg_ BK111 hg rfl
      have NB120_121 := nbl_ BK120 hg rfl
      have NB121_120 := nbg_ BK120 hg rfl
      have NB101_121 := Aside0.mk ((by rw [hg]; exact Nat.ne_of_lt (IsS25.lt HI101.out) : gb101 ≠ gb121))
      have NB121_101 := Aside0.mk ((by rw [hg]; exact Nat.ne_of_gt (IsS25.lt HI101.out) : gb121 ≠ gb101))
      replace HI101 := Aside0.mk (IsS25.below (by exact HI101.out) hb)
      replace BK110 := bkb_ BK110 hb rfl
      replace BK111 := bkb_ BK111 hb rfl
      replace BK120 := bkb_ BK120 hb rfl
      replace HB := Aside0.mk (below_step (by exact HB.out) hb)
      clear hb hbox hg
      refine hK.out _ _ ⟨bc_ BK110 0 rfl, bc_ BK110 1 rfl, bc_ BK110 2 rfl, bc_ BK111 0 rfl, bc_ BK111 1 rfl, bc_ BK111 2 rfl⟩ (fun hHeld => ?_)
      clear hK K
      refine nq_ 11 ?_
      exact norm_ (by simp only [putAll, Act.put, List.setIfInBounds_toArray, List.set_cons_zero, List.set_cons_succ]; try rfl) (hJ2_5_6_7 (gb120, gb121) _ ⟨hHeld, BK110.out, BK111.out, BK120.out, BK121.out, GW120.out, GE120.out, NB101_120.out, NB120_101.out, NB110_120.out, NB120_110.out, NB111_120.out, NB120_111.out, NB121_120.out, NB120_121.out, GW121.out, GE121.out, NB101_121.out, NB121_101.out, NB110_121.out, NB121_110.out, NB111_121.out, NB121_111.out, HI101.out, HB.out⟩)
    intro hJ2_5_6
    refine join_ (σ := Nat) 3 (bm_ [6, 1, 1, 2]) (fun s_ => [(28, .agg #[.int .i64 t112, .int .i64 t113, .bool t114]), (31, .agg #[.int .i64 t116, .int .i64 t117, .bool t118]), (11, .pointer (some ⟨s_, 0, none⟩))]) (fun s_ w' => (w'.cell? ⟨gb110, 0, none⟩ = some (.int .i64 t102) ∧ w'.cell? ⟨gb110, 1, none⟩ = some (.int .i64 t103) ∧ w'.cell? ⟨gb110, 2, none⟩ = some (.bool t104) ∧ w'.cell? ⟨gb111, 0, none⟩ = some (.int .i64 t106) ∧ w'.cell? ⟨gb111, 1, none⟩ = some (.int .i64 t107) ∧ w'.cell? ⟨gb111, 2, none⟩ = some (.bool t108)) ∧ (w'.heap[gb110]? = some (.cells #[.int .i64 t102, .int .i64 t103, .bool t104] 56 (0, 0))) ∧ (w'.heap[gb111]? = some (.cells #[.int .i64 t106, .int .i64 t107, .bool t108] 56 (0, 0))) ∧ (w'.heap[s_]? = some (.cells #[.int .i64 0, .int .i64 0, .bool false] 56 (0, 0))) ∧ (w.heap.size ≤ s_) ∧ (w.heap.size ≤ s_) ∧ (gb101 ≠ s_) ∧ (s_ ≠ gb101) ∧ (gb110 ≠ s_) ∧ (s_ ≠ gb110) ∧ (gb111 ≠ s_) ∧ (s_ ≠ gb111) ∧ (IsS25 w w' gb101 l0 t119) ∧ (Below w.heap.size w w')) ?_ ?_
    rotate_left
    rotate_left
    · skip
      rintro gb121 w26 ⟨hS_, h0_, h1_, h2_, h3_, h4_, h5_, h6_, h7_, h8_, h9_, h10_, h11_, h12_⟩
      have BK121 : Aside0 (w26.heap[gb121]? = some (.cells #[.int .i64 0, .int .i64 0, .bool false] 56 (0, 0))) := ⟨h2_⟩
      have GW121 : Aside0 (w.heap.size ≤ gb121) := ⟨h3_⟩
      have GE121 : Aside0 (w.heap.size ≤ gb121) := ⟨h4_⟩
      have NB101_121 : Aside0 (gb101 ≠ gb121) := ⟨h5_⟩
      have NB121_101 : Aside0 (gb121 ≠ gb101) := ⟨h6_⟩
      have NB110_121 : Aside0 (gb110 ≠ gb121) := ⟨h7_⟩
      have NB121_110 : Aside0 (gb121 ≠ gb110) := ⟨h8_⟩
      have NB111_121 : Aside0 (gb111 ≠ gb121) := ⟨h9_⟩
      have NB121_111 : Aside0 (gb121 ≠ gb111) := ⟨h10_⟩
      replace BK110 : Aside0 (w26.heap[gb110]? = some (.cells #[.int .i64 t102, .int .i64 t103, .bool t104] 56 (0, 0))) := ⟨h0_⟩
      replace BK111 : Aside0 (w26.heap[gb111]? = some (.cells #[.int .i64 t106, .int .i64 t107, .bool t108] 56 (0, 0))) := ⟨h1_⟩
      replace HI101 : Aside0 (IsS25 w w26 gb101 l0 t119) := ⟨h11_⟩
      replace HB : Aside0 (Below w.heap.size w w26) := ⟨h12_⟩
      clear h0_ h1_ h2_ h3_ h4_ h5_ h6_ h7_ h8_ h9_ h10_ h11_ h12_
      have hHeld : w26.cell? ⟨gb110, 0, none⟩ = some (.int .i64 t102) ∧ w26.cell? ⟨gb110, 1, none⟩ = some (.int .i64 t103) ∧ w26.cell? ⟨gb110, 2, none⟩ = some (.bool t104) ∧ w26.cell? ⟨gb111, 0, none⟩ = some (.int .i64 t106) ∧ w26.cell? ⟨gb111, 1, none⟩ = some (.int .i64 t107) ∧ w26.cell? ⟨gb111, 2, none⟩ = some (.bool t108) := hS_
      refine norm_ (a' := ?_) ?_ ?_
      rotate_left
      · simp only [putAll, Act.put, List.setIfInBounds_toArray, List.set_cons_zero, List.set_cons_succ]
        rfl
      refine oq_ 6 (some 10) (bm_ [8, 2]) HT_ (fun K hK => ?_)
      refine bsq_ 10 #[.int .i64 0, .int .i64 0, .bool false] 56 ?_
      intro gb120 hg w27 hbox hb
      have BK120 := Aside0.mk (hbox)
      have GW120 := Aside0.mk ((by rw [hg]; exact (below_size (by exact HB.out)) : w.heap.size ≤ gb120))
      have GE120 := GW120
      have NB110_120 := nbl_ BK110 hg rfl
      have NB120_110 := nbg_ BK110 hg rfl
      have NB111_120 := nbl_ BK111 hg rfl
      have NB120_111 := nbg_ BK111 hg rfl
      have NB121_120 := nbl_ BK121 hg rfl
      have NB120_121 := nbg_ BK121 hg rfl
      have NB101_120 := Aside0.mk ((by rw [hg]; exact Nat.ne_of_lt (IsS25.lt HI101.out) : gb101 ≠ gb120))
      have NB120_101 := Aside0.mk ((by rw [hg]; exact Nat.ne_of_gt (IsS25.lt HI101.out) : gb120 ≠ gb101))
      replace HI101 := Aside0.mk (IsS25.below (by exact HI101.out) hb)
      replace BK110 := bkb_ BK110 hb rfl
      replace BK111 := bkb_ BK111 hb rfl
      replace BK121 := bkb_ BK121 hb rfl
      replace HB := Aside0.mk (below_step (by exact HB.out) hb)
      clear hb hbox hg
      refine hK.out _ _ ⟨bc_ BK110 0 rfl, bc_ BK110 1 rfl, bc_ BK110 2 rfl, bc_ BK111 0 rfl, bc_ BK111 1 rfl, bc_ BK111 2 rfl⟩ (fun hHeld => ?_)
      clear hK K
      refine nq_ 10 ?_
      exact norm_ (by simp only [putAll, Act.put, List.setIfInBounds_toArray, List.set_cons_zero, List.set_cons_succ]; try rfl) (hJ2_5_6_7 (gb120, gb121) _ ⟨hHeld, BK110.out, BK111.out, BK120.out, BK121.out, GW120.out, GE120.out, NB101_120.out, NB120_101.out, NB110_120.out, NB120_110.out, NB111_120.out, NB120_111.out, NB121_120.out, NB120_121.out, GW121.out, GE121.out, NB101_121.out, NB121_101.out, NB110_121.out, NB121_110.out, NB111_121.out, NB121_111.out, HI101.out, HB.out⟩)
    intro hJ2_5_7
    refine join_ (σ := Nat × Nat) 3 (bm_ [5, 1, 2, 2]) (fun s_ => [(28, .agg #[.int .i64 t112, .int .i64 t113, .bool t114]), (10, .pointer (some ⟨s_.1, 0, none⟩)), (11, .pointer (some ⟨s_.2, 0, none⟩))]) (fun s_ w' => (w'.cell? ⟨gb110, 0, none⟩ = some (.int .i64 t102) ∧ w'.cell? ⟨gb110, 1, none⟩ = some (.int .i64 t103) ∧ w'.cell? ⟨gb110, 2, none⟩ = some (.bool t104) ∧ w'.cell? ⟨gb111, 0, none⟩ = some (.int .i64 t106) ∧ w'.cell? ⟨gb111, 1, none⟩ = some (.int .i64 t107) ∧ w'.cell? ⟨gb111, 2, none⟩ = some (.bool t108)) ∧ (w'.heap[gb110]? = some (.cells #[.int .i64 t102, .int .i64 t103, .bool t104] 56 (0, 0))) ∧ (w'.heap[gb111]? = some (.cells #[.int .i64 t106, .int .i64 t107, .bool t108] 56 (0, 0))) ∧ (w'.heap[s_.1]? = some (.cells #[.int .i64 0, .int .i64 0, .bool false] 56 (0, 0))) ∧ (w'.heap[s_.2]? = some (.cells #[.int .i64 0, .int .i64 0, .bool false] 56 (0, 0))) ∧ (w.heap.size ≤ s_.1) ∧ (w.heap.size ≤ s_.1) ∧ (gb101 ≠ s_.1) ∧ (s_.1 ≠ gb101) ∧ (gb110 ≠ s_.1) ∧ (s_.1 ≠ gb110) ∧ (gb111 ≠ s_.1) ∧ (s_.1 ≠ gb111) ∧ (s_.2 ≠ s_.1) ∧ (s_.1 ≠ s_.2) ∧ (w.heap.size ≤ s_.2) ∧ (w.heap.size ≤ s_.2) ∧ (gb101 ≠ s_.2) ∧ (s_.2 ≠ gb101) ∧ (gb110 ≠ s_.2) ∧ (s_.2 ≠ gb110) ∧ (gb111 ≠ s_.2) ∧ (s_.2 ≠ gb111) ∧ (IsS25 w w' gb101 l0 t115) ∧ (Below w.heap.size w w')) ?_ ?_
    rotate_left
    rotate_left
    · skip
      rintro ⟨gb120, gb121⟩ w26 ⟨hS_, h0_, h1_, h2_, h3_, h4_, h5_, h6_, h7_, h8_, h9_, h10_, h11_, h12_, h13_, h14_, h15_, h16_, h17_, h18_, h19_, h20_, h21_, h22_, h23_⟩
      have BK120 : Aside0 (w26.heap[gb120]? = some (.cells #[.int .i64 0, .int .i64 0, .bool false] 56 (0, 0))) := ⟨h2_⟩
      have BK121 : Aside0 (w26.heap[gb121]? = some (.cells #[.int .i64 0, .int .i64 0, .bool false] 56 (0, 0))) := ⟨h3_⟩
      have GW120 : Aside0 (w.heap.size ≤ gb120) := ⟨h4_⟩
      have GE120 : Aside0 (w.heap.size ≤ gb120) := ⟨h5_⟩
      have NB101_120 : Aside0 (gb101 ≠ gb120) := ⟨h6_⟩
      have NB120_101 : Aside0 (gb120 ≠ gb101) := ⟨h7_⟩
      have NB110_120 : Aside0 (gb110 ≠ gb120) := ⟨h8_⟩
      have NB120_110 : Aside0 (gb120 ≠ gb110) := ⟨h9_⟩
      have NB111_120 : Aside0 (gb111 ≠ gb120) := ⟨h10_⟩
      have NB120_111 : Aside0 (gb120 ≠ gb111) := ⟨h11_⟩
      have NB121_120 : Aside0 (gb121 ≠ gb120) := ⟨h12_⟩
      have NB120_121 : Aside0 (gb120 ≠ gb121) := ⟨h13_⟩
      have GW121 : Aside0 (w.heap.size ≤ gb121) := ⟨h14_⟩
      have GE121 : Aside0 (w.heap.size ≤ gb121) := ⟨h15_⟩
      have NB101_121 : Aside0 (gb101 ≠ gb121) := ⟨h16_⟩
      have NB121_101 : Aside0 (gb121 ≠ gb101) := ⟨h17_⟩
      have NB110_121 : Aside0 (gb110 ≠ gb121) := ⟨h18_⟩
      have NB121_110 : Aside0 (gb121 ≠ gb110) := ⟨h19_⟩
      have NB111_121 : Aside0 (gb111 ≠ gb121) := ⟨h20_⟩
      have NB121_111 : Aside0 (gb121 ≠ gb111) := ⟨h21_⟩
      replace BK110 : Aside0 (w26.heap[gb110]? = some (.cells #[.int .i64 t102, .int .i64 t103, .bool t104] 56 (0, 0))) := ⟨h0_⟩
      replace BK111 : Aside0 (w26.heap[gb111]? = some (.cells #[.int .i64 t106, .int .i64 t107, .bool t108] 56 (0, 0))) := ⟨h1_⟩
      replace HI101 : Aside0 (IsS25 w w26 gb101 l0 t115) := ⟨h22_⟩
      replace HB : Aside0 (Below w.heap.size w w26) := ⟨h23_⟩
      clear h0_ h1_ h2_ h3_ h4_ h5_ h6_ h7_ h8_ h9_ h10_ h11_ h12_ h13_ h14_ h15_ h16_ h17_ h18_ h19_ h20_ h21_ h22_ h23_
      have hHeld : w26.cell? ⟨gb110, 0, none⟩ = some (.int .i64 t102) ∧ w26.cell? ⟨gb110, 1, none⟩ = some (.int .i64 t103) ∧ w26.cell? ⟨gb110, 2, none⟩ = some (.bool t104) ∧ w26.cell? ⟨gb111, 0, none⟩ = some (.int .i64 t106) ∧ w26.cell? ⟨gb111, 1, none⟩ = some (.int .i64 t107) ∧ w26.cell? ⟨gb111, 2, none⟩ = some (.bool t108) := hS_
      refine norm_ (a' := ?_) ?_ ?_
      rotate_left
      · simp only [putAll, Act.put, List.setIfInBounds_toArray, List.set_cons_zero, List.set_cons_succ]
        rfl
      refine oq_ 5 (some 31) (bm_ [8, 2]) HT_ (fun K hK => ?_)
      refine gq_ Try.func32 #[.pointer (some ⟨gb101, 0, none⟩), .agg #[.int .i64 t106, .int .i64 t107, .bool t108]] ?_
      with_reducible refine (spymake_Within_api_Fix.calls gb101 l0 t115 t106 t107 t108 t116 t117 t118 t119 w _ ?side1 ?side2 A7.out).mono ?_
      (case side1 => exact HI101.out)
      (case side2 => exact HB.out)
      rintro e w27 ⟨rfl, hi, hb, hk⟩
      refine ⟨_, rfl, ?_⟩
      replace BK110 := Aside0.mk (KeepBut.blk hk (g' := gb110) (o := .cells #[.int .i64 t102, .int .i64 t103, .bool t104] 56 (0, 0)) BK110.out NB110_101.out (by simp))
      replace BK111 := Aside0.mk (KeepBut.blk hk (g' := gb111) (o := .cells #[.int .i64 t106, .int .i64 t107, .bool t108] 56 (0, 0)) BK111.out NB111_101.out (by simp))
      replace BK120 := Aside0.mk (KeepBut.blk hk (g' := gb120) (o := .cells #[.int .i64 0, .int .i64 0, .bool false] 56 (0, 0)) BK120.out NB120_101.out (by simp))
      replace BK121 := Aside0.mk (KeepBut.blk hk (g' := gb121) (o := .cells #[.int .i64 0, .int .i64 0, .bool false] 56 (0, 0)) BK121.out NB121_101.out (by simp))
      replace HB := Aside0.mk (hb)
      replace HI101 := Aside0.mk (hi)
      (try clear hb hk hi)
      refine hK.out _ _ ⟨bc_ BK110 0 rfl, bc_ BK110 1 rfl, bc_ BK110 2 rfl, bc_ BK111 0 rfl, bc_ BK111 1 rfl, bc_ BK111 2 rfl⟩ (fun hHeld => ?_)
      clear hK K
      refine nq_ 31 ?_
      exact norm_ (by simp only [putAll, Act.put, List.setIfInBounds_toArray, List.set_cons_zero, List.set_cons_succ]; try rfl) (hJ2_5_6_7 (gb120, gb121) _ ⟨hHeld, BK110.out, BK111.out, BK120.out, BK121.out, GW120.out, GE120.out, NB101_120.out, NB120_101.out, NB110_120.out, NB120_110.out, NB111_120.out, NB120_111.out, NB121_120.out, NB120_121.out, GW121.out, GE121.out, NB101_121.out, NB121_101.out, NB110_121.out, NB121_110.out, NB111_121.out, NB121_111.out, HI101.out, HB.out⟩)
    intro hJ2_6_7
    refine join_ (σ := Unit) 4 (bm_ [6, 4]) (fun s_ => [(28, .agg #[.int .i64 t112, .int .i64 t113, .bool t114]), (31, .agg #[.int .i64 t116, .int .i64 t117, .bool t118])]) (fun s_ w' => (w'.cell? ⟨gb110, 0, none⟩ = some (.int .i64 t102) ∧ w'.cell? ⟨gb110, 1, none⟩ = some (.int .i64 t103) ∧ w'.cell? ⟨gb110, 2, none⟩ = some (.bool t104) ∧ w'.cell? ⟨gb111, 0, none⟩ = some (.int .i64 t106) ∧ w'.cell? ⟨gb111, 1, none⟩ = some (.int .i64 t107) ∧ w'.cell? ⟨gb111, 2, none⟩ = some (.bool t108)) ∧ (w'.heap[gb110]? = some (.cells #[.int .i64 t102, .int .i64 t103, .bool t104] 56 (0, 0))) ∧ (w'.heap[gb111]? = some (.cells #[.int .i64 t106, .int .i64 t107, .bool t108] 56 (0, 0))) ∧ (IsS25 w w' gb101 l0 t119) ∧ (Below w.heap.size w w')) ?_ ?_
    rotate_left
    rotate_left
    · skip
      rintro _ w25 ⟨hS_, h0_, h1_, h2_, h3_⟩
      replace BK110 : Aside0 (w25.heap[gb110]? = some (.cells #[.int .i64 t102, .int .i64 t103, .bool t104] 56 (0, 0))) := ⟨h0_⟩
      replace BK111 : Aside0 (w25.heap[gb111]? = some (.cells #[.int .i64 t106, .int .i64 t107, .bool t108] 56 (0, 0))) := ⟨h1_⟩
      replace HI101 : Aside0 (IsS25 w w25 gb101 l0 t119) := ⟨h2_⟩
      replace HB : Aside0 (Below w.heap.size w w25) := ⟨h3_⟩
      clear h0_ h1_ h2_ h3_
      have hHeld : w25.cell? ⟨gb110, 0, none⟩ = some (.int .i64 t102) ∧ w25.cell? ⟨gb110, 1, none⟩ = some (.int .i64 t103) ∧ w25.cell? ⟨gb110, 2, none⟩ = some (.bool t104) ∧ w25.cell? ⟨gb111, 0, none⟩ = some (.int .i64 t106) ∧ w25.cell? ⟨gb111, 1, none⟩ = some (.int .i64 t107) ∧ w25.cell? ⟨gb111, 2, none⟩ = some (.bool t108) := hS_
      refine norm_ (a' := ?_) ?_ ?_
      rotate_left
      · simp only [putAll, Act.put, List.setIfInBounds_toArray, List.set_cons_zero, List.set_cons_succ]
        rfl
      refine two_ (i := 6) (j := 7) (Ni := some 10) (Nj := some 11) (bm_ [7, 3]) (bm_ [6, 1, 1, 2]) rfl rfl rfl rfl (two_of HT_.out (by kernel_rfl)) (by decide) (by decide) (fun K hK => ?_) (fun K hK => ?_)
      · skip
        refine bsq_ 10 #[.int .i64 0, .int .i64 0, .bool false] 56 ?_
        intro gb120 hg w26 hbox hb
        have BK120 := Aside0.mk (hbox)
        have GW120 := Aside0.mk ((by rw [hg]; exact (below_size (by exact HB.out)) : w.heap.size ≤ gb120))
        have GE120 := GW120
        have NB110_120 := nbl_ BK110 hg rfl
        have NB120_110 := nbg_ BK110 hg rfl
        have NB111_120 := nbl_ BK111 hg rfl
        have NB120_111 := nbg_ BK111 hg rfl
        have NB101_120 := Aside0.mk ((by rw [hg]; exact Nat.ne_of_lt (IsS25.lt HI101.out) : gb101 ≠ gb120))
        have NB120_101 := Aside0.mk ((by rw [hg]; exact Nat.ne_of_gt (IsS25.lt HI101.out) : gb120 ≠ gb101))
        replace HI101 := Aside0.mk (IsS25.below (by exact HI101.out) hb)
        replace BK110 := bkb_ BK110 hb rfl
        replace BK111 := bkb_ BK111 hb rfl
        replace HB := Aside0.mk (below_step (by exact HB.out) hb)
        clear hb hbox hg
        refine hK.out _ _ ⟨bc_ BK110 0 rfl, bc_ BK110 1 rfl, bc_ BK110 2 rfl, bc_ BK111 0 rfl, bc_ BK111 1 rfl, bc_ BK111 2 rfl⟩ (fun hHeld => ?_)
        clear hK K
        refine nq_ 10 ?_
        exact norm_ (by simp only [putAll, Act.put, List.setIfInBounds_toArray, List.set_cons_zero, List.set_cons_succ]; try rfl) (hJ2_5_6 (gb120) _ ⟨hHeld, BK110.out, BK111.out, BK120.out, GW120.out, GE120.out, NB101_120.out, NB120_101.out, NB110_120.out, NB120_110.out, NB111_120.out, NB120_111.out, HI101.out, HB.out⟩)
      skip
      refine bsq_ 11 #[.int .i64 0, .int .i64 0, .bool false] 56 ?_
      intro gb121 hg w26 hbox hb
      have BK121 := Aside0.mk (hbox)
      have GW121 := Aside0.mk ((by rw [hg]; exact (below_size (by exact HB.out)) : w.heap.size ≤ gb121))
      have GE121 := GW121
      have NB110_121 := nbl_ BK110 hg rfl
      have NB121_110 := nbg_ BK110 hg rfl
      have NB111_121 := nbl_ BK111 hg rfl
      have NB121_111 := nbg_ BK111 hg rfl
      have NB101_121 := Aside0.mk ((by rw [hg]; exact Nat.ne_of_lt (IsS25.lt HI101.out) : gb101 ≠ gb121))
      have NB121_101 := Aside0.mk ((by rw [hg]; exact Nat.ne_of_gt (IsS25.lt HI101.out) : gb121 ≠ gb101))
      replace HI101 := Aside0.mk (IsS25.below (by exact HI101.out) hb)
      replace BK110 := bkb_ BK110 hb rfl
      replace BK111 := bkb_ BK111 hb rfl
      replace HB := Aside0.mk (below_step (by exact HB.out) hb)
      clear hb hbox hg
      refine hK.out _ _ ⟨bc_ BK110 0 rfl, bc_ BK110 1 rfl, bc_ BK110 2 rfl, bc_ BK111 0 rfl, bc_ BK111 1 rfl, bc_ BK111 2 rfl⟩ (fun hHeld => ?_)
      clear hK K
      refine nq_ 11 ?_
      exact norm_ (by simp only [putAll, Act.put, List.setIfInBounds_toArray, List.set_cons_zero, List.set_cons_succ]; try rfl) (hJ2_5_7 (gb121) _ ⟨hHeld, BK110.out, BK111.out, BK121.out, GW121.out, GE121.out, NB101_121.out, NB121_101.out, NB110_121.out, NB121_110.out, NB111_121.out, NB121_111.out, HI101.out, HB.out⟩)
    intro hJ2_5
    refine join_ (σ := Nat) 4 (bm_ [5, 1, 1, 3]) (fun s_ => [(28, .agg #[.int .i64 t112, .int .i64 t113, .bool t114]), (10, .pointer (some ⟨s_, 0, none⟩))]) (fun s_ w' => (w'.cell? ⟨gb110, 0, none⟩ = some (.int .i64 t102) ∧ w'.cell? ⟨gb110, 1, none⟩ = some (.int .i64 t103) ∧ w'.cell? ⟨gb110, 2, none⟩ = some (.bool t104) ∧ w'.cell? ⟨gb111, 0, none⟩ = some (.int .i64 t106) ∧ w'.cell? ⟨gb111, 1, none⟩ = some (.int .i64 t107) ∧ w'.cell? ⟨gb111, 2, none⟩ = some (.bool t108)) ∧ (w'.heap[gb110]? = some (.cells #[.int .i64 t102, .int .i64 t103, .bool t104] 56 (0, 0))) ∧ (w'.heap[gb111]? = some (.cells #[.int .i64 t106, .int .i64 t107, .bool t108] 56 (0, 0))) ∧ (w'.heap[s_]? = some (.cells #[.int .i64 0, .int .i64 0, .bool false] 56 (0, 0))) ∧ (w.heap.size ≤ s_) ∧ (w.heap.size ≤ s_) ∧ (gb101 ≠ s_) ∧ (s_ ≠ gb101) ∧ (gb110 ≠ s_) ∧ (s_ ≠ gb110) ∧ (gb111 ≠ s_) ∧ (s_ ≠ gb111) ∧ (IsS25 w w' gb101 l0 t115) ∧ (Below w.heap.size w w')) ?_ ?_
    rotate_left
    rotate_left
    · skip
      rintro gb120 w25 ⟨hS_, h0_, h1_, h2_, h3_, h4_, h5_, h6_, h7_, h8_, h9_, h10_, h11_, h12_⟩
      have BK120 : Aside0 (w25.heap[gb120]? = some (.cells #[.int .i64 0, .int .i64 0, .bool false] 56 (0, 0))) := ⟨h2_⟩
      have GW120 : Aside0 (w.heap.size ≤ gb120) := ⟨h3_⟩
      have GE120 : Aside0 (w.heap.size ≤ gb120) := ⟨h4_⟩
      have NB101_120 : Aside0 (gb101 ≠ gb120) := ⟨h5_⟩
      have NB120_101 : Aside0 (gb120 ≠ gb101) := ⟨h6_⟩
      have NB110_120 : Aside0 (gb110 ≠ gb120) := ⟨h7_⟩
      have NB120_110 : Aside0 (gb120 ≠ gb110) := ⟨h8_⟩
      have NB111_120 : Aside0 (gb111 ≠ gb120) := ⟨h9_⟩
      have NB120_111 : Aside0 (gb120 ≠ gb111) := ⟨h10_⟩
      replace BK110 : Aside0 (w25.heap[gb110]? = some (.cells #[.int .i64 t102, .int .i64 t103, .bool t104] 56 (0, 0))) := ⟨h0_⟩
      replace BK111 : Aside0 (w25.heap[gb111]? = some (.cells #[.int .i64 t106, .int .i64 t107, .bool t108] 56 (0, 0))) := ⟨h1_⟩
      replace HI101 : Aside0 (IsS25 w w25 gb101 l0 t115) := ⟨h11_⟩
      replace HB : Aside0 (Below w.heap.size w w25) := ⟨h12_⟩
      clear h0_ h1_ h2_ h3_ h4_ h5_ h6_ h7_ h8_ h9_ h10_ h11_ h12_
      have hHeld : w25.cell? ⟨gb110, 0, none⟩ = some (.int .i64 t102) ∧ w25.cell? ⟨gb110, 1, none⟩ = some (.int .i64 t103) ∧ w25.cell? ⟨gb110, 2, none⟩ = some (.bool t104) ∧ w25.cell? ⟨gb111, 0, none⟩ = some (.int .i64 t106) ∧ w25.cell? ⟨gb111, 1, none⟩ = some (.int .i64 t107) ∧ w25.cell? ⟨gb111, 2, none⟩ = some (.bool t108) := hS_
      refine norm_ (a' := ?_) ?_ ?_
      rotate_left
      · simp only [putAll, Act.put, List.setIfInBounds_toArray, List.set_cons_zero, List.set_cons_succ]
        rfl
      refine two_ (i := 5) (j := 7) (Ni := some 31) (Nj := some 11) (bm_ [7, 3]) (bm_ [5, 1, 2, 2]) rfl rfl rfl rfl (two_of HT_.out (by kernel_rfl)) (by decide) (by decide) (fun K hK => ?_) (fun K hK => ?_)
      · skip
        refine gq_ Try.func32 #[.pointer (some ⟨gb101, 0, none⟩), .agg #[.int .i64 t106, .int .i64 t107, .bool t108]] ?_
        with_reducible refine (spymake_Within_api_Fix.calls gb101 l0 t115 t106 t107 t108 t116 t117 t118 t119 w _ ?side1 ?side2 A7.out).mono ?_
        (case side1 => exact HI101.out)
        (case side2 => exact HB.out)
        rintro e w26 ⟨rfl, hi, hb, hk⟩
        refine ⟨_, rfl, ?_⟩
        replace BK110 := Aside0.mk (KeepBut.blk hk (g' := gb110) (o := .cells #[.int .i64 t102, .int .i64 t103, .bool t104] 56 (0, 0)) BK110.out NB110_101.out (by simp))
        replace BK111 := Aside0.mk (KeepBut.blk hk (g' := gb111) (o := .cells #[.int .i64 t106, .int .i64 t107, .bool t108] 56 (0, 0)) BK111.out NB111_101.out (by simp))
        replace BK120 := Aside0.mk (KeepBut.blk hk (g' := gb120) (o := .cells #[.int .i64 0, .int .i64 0, .bool false] 56 (0, 0)) BK120.out NB120_101.out (by simp))
        replace HB := Aside0.mk (hb)
        replace HI101 := Aside0.mk (hi)
        (try clear hb hk hi)
        refine hK.out _ _ ⟨bc_ BK110 0 rfl, bc_ BK110 1 rfl, bc_ BK110 2 rfl, bc_ BK111 0 rfl, bc_ BK111 1 rfl, bc_ BK111 2 rfl⟩ (fun hHeld => ?_)
        clear hK K
        refine nq_ 31 ?_
        exact norm_ (by simp only [putAll, Act.put, List.setIfInBounds_toArray, List.set_cons_zero, List.set_cons_succ]; try rfl) (hJ2_5_6 (gb120) _ ⟨hHeld, BK110.out, BK111.out, BK120.out, GW120.out, GE120.out, NB101_120.out, NB120_101.out, NB110_120.out, NB120_110.out, NB111_120.out, NB120_111.out, HI101.out, HB.out⟩)
      skip
      refine bsq_ 11 #[.int .i64 0, .int .i64 0, .bool false] 56 ?_
      intro gb121 hg w26 hbox hb
      have BK121 := Aside0.mk (hbox)
      have GW121 := Aside0.mk ((by rw [hg]; exact (below_size (by exact HB.out)) : w.heap.size ≤ gb121))
      have GE121 := GW121
      have NB110_121 := nbl_ BK110 hg rfl
      have NB121_110 := nbg_ BK110 hg rfl
      have NB111_121 := nbl_ BK111 hg rfl
      have NB121_111 := nbg_ BK111 hg rfl
      have NB120_121 := nbl_ BK120 hg rfl
      have NB121_120 := nbg_ BK120 hg rfl
      have NB101_121 := Aside0.mk ((by rw [hg]; exact Nat.ne_of_lt (IsS25.lt HI101.out) : gb101 ≠ gb121))
      have NB121_101 := Aside0.mk ((by rw [hg]; exact Nat.ne_of_gt (IsS25.lt HI101.out) : gb121 ≠ gb101))
      replace HI101 := Aside0.mk (IsS25.below (by exact HI101.out) hb)
      replace BK110 := bkb_ BK110 hb rfl
      replace BK111 := bkb_ BK111 hb rfl
      replace BK120 := bkb_ BK120 hb rfl
      replace HB := Aside0.mk (below_step (by exact HB.out) hb)
      clear hb hbox hg
      refine hK.out _ _ ⟨bc_ BK110 0 rfl, bc_ BK110 1 rfl, bc_ BK110 2 rfl, bc_ BK111 0 rfl, bc_ BK111 1 rfl, bc_ BK111 2 rfl⟩ (fun hHeld => ?_)
      clear hK K
      refine nq_ 11 ?_
      exact norm_ (by simp only [putAll, Act.put, List.setIfInBounds_toArray, List.set_cons_zero, List.set_cons_succ]; try rfl) (hJ2_6_7 (gb120, gb121) _ ⟨hHeld, BK110.out, BK111.out, BK120.out, BK121.out, GW120.out, GE120.out, NB101_120.out, NB120_101.out, NB110_120.out, NB120_110.out, NB111_120.out, NB120_111.out, NB121_120.out, NB120_121.out, GW121.out, GE121.out, NB101_121.out, NB121_101.out, NB110_121.out, NB121_110.out, NB111_121.out, NB121_111.out, HI101.out, HB.out⟩)
    intro hJ2_6
    refine join_ (σ := Nat) 4 (bm_ [5, 2, 1, 2]) (fun s_ => [(28, .agg #[.int .i64 t112, .int .i64 t113, .bool t114]), (11, .pointer (some ⟨s_, 0, none⟩))]) (fun s_ w' => (w'.cell? ⟨gb110, 0, none⟩ = some (.int .i64 t102) ∧ w'.cell? ⟨gb110, 1, none⟩ = some (.int .i64 t103) ∧ w'.cell? ⟨gb110, 2, none⟩ = some (.bool t104) ∧ w'.cell? ⟨gb111, 0, none⟩ = some (.int .i64 t106) ∧ w'.cell? ⟨gb111, 1, none⟩ = some (.int .i64 t107) ∧ w'.cell? ⟨gb111, 2, none⟩ = some (.bool t108)) ∧ (w'.heap[gb110]? = some (.cells #[.int .i64 t102, .int .i64 t103, .bool t104] 56 (0, 0))) ∧ (w'.heap[gb111]? = some (.cells #[.int .i64 t106, .int .i64 t107, .bool t108] 56 (0, 0))) ∧ (w'.heap[s_]? = some (.cells #[.int .i64 0, .int .i64 0, .bool false] 56 (0, 0))) ∧ (w.heap.size ≤ s_) ∧ (w.heap.size ≤ s_) ∧ (gb101 ≠ s_) ∧ (s_ ≠ gb101) ∧ (gb110 ≠ s_) ∧ (s_ ≠ gb110) ∧ (gb111 ≠ s_) ∧ (s_ ≠ gb111) ∧ (IsS25 w w' gb101 l0 t115) ∧ (Below w.heap.size w w')) ?_ ?_
    rotate_left
    rotate_left
    · skip
      rintro gb121 w25 ⟨hS_, h0_, h1_, h2_, h3_, h4_, h5_, h6_, h7_, h8_, h9_, h10_, h11_, h12_⟩
      have BK121 : Aside0 (w25.heap[gb121]? = some (.cells #[.int .i64 0, .int .i64 0, .bool false] 56 (0, 0))) := ⟨h2_⟩
      have GW121 : Aside0 (w.heap.size ≤ gb121) := ⟨h3_⟩
      have GE121 : Aside0 (w.heap.size ≤ gb121) := ⟨h4_⟩
      have NB101_121 : Aside0 (gb101 ≠ gb121) := ⟨h5_⟩
      have NB121_101 : Aside0 (gb121 ≠ gb101) := ⟨h6_⟩
      have NB110_121 : Aside0 (gb110 ≠ gb121) := ⟨h7_⟩
      have NB121_110 : Aside0 (gb121 ≠ gb110) := ⟨h8_⟩
      have NB111_121 : Aside0 (gb111 ≠ gb121) := ⟨h9_⟩
      have NB121_111 : Aside0 (gb121 ≠ gb111) := ⟨h10_⟩
      replace BK110 : Aside0 (w25.heap[gb110]? = some (.cells #[.int .i64 t102, .int .i64 t103, .bool t104] 56 (0, 0))) := ⟨h0_⟩
      replace BK111 : Aside0 (w25.heap[gb111]? = some (.cells #[.int .i64 t106, .int .i64 t107, .bool t108] 56 (0, 0))) := ⟨h1_⟩
      replace HI101 : Aside0 (IsS25 w w25 gb101 l0 t115) := ⟨h11_⟩
      replace HB : Aside0 (Below w.heap.size w w25) := ⟨h12_⟩
      clear h0_ h1_ h2_ h3_ h4_ h5_ h6_ h7_ h8_ h9_ h10_ h11_ h12_
      have hHeld : w25.cell? ⟨gb110, 0, none⟩ = some (.int .i64 t102) ∧ w25.cell? ⟨gb110, 1, none⟩ = some (.int .i64 t103) ∧ w25.cell? ⟨gb110, 2, none⟩ = some (.bool t104) ∧ w25.cell? ⟨gb111, 0, none⟩ = some (.int .i64 t106) ∧ w25.cell? ⟨gb111, 1, none⟩ = some (.int .i64 t107) ∧ w25.cell? ⟨gb111, 2, none⟩ = some (.bool t108) := hS_
      refine norm_ (a' := ?_) ?_ ?_
      rotate_left
      · simp only [putAll, Act.put, List.setIfInBounds_toArray, List.set_cons_zero, List.set_cons_succ]
        rfl
      refine two_ (i := 5) (j := 6) (Ni := some 31) (Nj := some 10) (bm_ [6, 1, 1, 2]) (bm_ [5, 1, 2, 2]) rfl rfl rfl rfl (two_of HT_.out (by kernel_rfl)) (by decide) (by decide) (fun K hK => ?_) (fun K hK => ?_)
      · skip
        refine gq_ Try.func32 #[.pointer (some ⟨gb101, 0, none⟩), .agg #[.int .i64 t106, .int .i64 t107, .bool t108]] ?_
        with_reducible refine (spymake_Within_api_Fix.calls gb101 l0 t115 t106 t107 t108 t116 t117 t118 t119 w _ ?side1 ?side2 A7.out).mono ?_
        (case side1 => exact HI101.out)
        (case side2 => exact HB.out)
        rintro e w26 ⟨rfl, hi, hb, hk⟩
        refine ⟨_, rfl, ?_⟩
        replace BK110 := Aside0.mk (KeepBut.blk hk (g' := gb110) (o := .cells #[.int .i64 t102, .int .i64 t103, .bool t104] 56 (0, 0)) BK110.out NB110_101.out (by simp))
        replace BK111 := Aside0.mk (KeepBut.blk hk (g' := gb111) (o := .cells #[.int .i64 t106, .int .i64 t107, .bool t108] 56 (0, 0)) BK111.out NB111_101.out (by simp))
        replace BK121 := Aside0.mk (KeepBut.blk hk (g' := gb121) (o := .cells #[.int .i64 0, .int .i64 0, .bool false] 56 (0, 0)) BK121.out NB121_101.out (by simp))
        replace HB := Aside0.mk (hb)
        replace HI101 := Aside0.mk (hi)
        (try clear hb hk hi)
        refine hK.out _ _ ⟨bc_ BK110 0 rfl, bc_ BK110 1 rfl, bc_ BK110 2 rfl, bc_ BK111 0 rfl, bc_ BK111 1 rfl, bc_ BK111 2 rfl⟩ (fun hHeld => ?_)
        clear hK K
        refine nq_ 31 ?_
        exact norm_ (by simp only [putAll, Act.put, List.setIfInBounds_toArray, List.set_cons_zero, List.set_cons_succ]; try rfl) (hJ2_5_7 (gb121) _ ⟨hHeld, BK110.out, BK111.out, BK121.out, GW121.out, GE121.out, NB101_121.out, NB121_101.out, NB110_121.out, NB121_110.out, NB111_121.out, NB121_111.out, HI101.out, HB.out⟩)
      skip
      refine bsq_ 10 #[.int .i64 0, .int .i64 0, .bool false] 56 ?_
      intro gb120 hg w26 hbox hb
      have BK120 := Aside0.mk (hbox)
      have GW120 := Aside0.mk ((by rw [hg]; exact (below_size (by exact HB.out)) : w.heap.size ≤ gb120))
      have GE120 := GW120
      have NB110_120 := nbl_ BK110 hg rfl
      have NB120_110 := nbg_ BK110 hg rfl
      have NB111_120 := nbl_ BK111 hg rfl
      have NB120_111 := nbg_ BK111 hg rfl
      have NB121_120 := nbl_ BK121 hg rfl
      have NB120_121 := nbg_ BK121 hg rfl
      have NB101_120 := Aside0.mk ((by rw [hg]; exact Nat.ne_of_lt (IsS25.lt HI101.out) : gb101 ≠ gb120))
      have NB120_101 := Aside0.mk ((by rw [hg]; exact Nat.ne_of_gt (IsS25.lt HI101.out) : gb120 ≠ gb101))
      replace HI101 := Aside0.mk (IsS25.below (by exact HI101.out) hb)
      replace BK110 := bkb_ BK110 hb rfl
      replace BK111 := bkb_ BK111 hb rfl
      replace BK121 := bkb_ BK121 hb rfl
      replace HB := Aside0.mk (below_step (by exact HB.out) hb)
      clear hb hbox hg
      refine hK.out _ _ ⟨bc_ BK110 0 rfl, bc_ BK110 1 rfl, bc_ BK110 2 rfl, bc_ BK111 0 rfl, bc_ BK111 1 rfl, bc_ BK111 2 rfl⟩ (fun hHeld => ?_)
      clear hK K
      refine nq_ 10 ?_
      exact norm_ (by simp only [putAll, Act.put, List.setIfInBounds_toArray, List.set_cons_zero, List.set_cons_succ]; try rfl) (hJ2_6_7 (gb120, gb121) _ ⟨hHeld, BK110.out, BK111.out, BK120.out, BK121.out, GW120.out, GE120.out, NB101_120.out, NB120_101.out, NB110_120.out, NB120_110.out, NB111_120.out, NB120_111.out, NB121_120.out, NB120_121.out, GW121.out, GE121.out, NB101_121.out, NB121_101.out, NB110_121.out, NB121_110.out, NB111_121.out, NB121_111.out, HI101.out, HB.out⟩)
    intro hJ2_7
    refine join_ (σ := Nat × Nat) 4 (bm_ [2, 1, 2, 1, 2, 2]) (fun s_ => [(10, .pointer (some ⟨s_.1, 0, none⟩)), (11, .pointer (some ⟨s_.2, 0, none⟩))]) (fun s_ w' => (w'.cell? ⟨gb110, 0, none⟩ = some (.int .i64 t102) ∧ w'.cell? ⟨gb110, 1, none⟩ = some (.int .i64 t103) ∧ w'.cell? ⟨gb110, 2, none⟩ = some (.bool t104) ∧ w'.cell? ⟨gb111, 0, none⟩ = some (.int .i64 t106) ∧ w'.cell? ⟨gb111, 1, none⟩ = some (.int .i64 t107) ∧ w'.cell? ⟨gb111, 2, none⟩ = some (.bool t108)) ∧ (w'.heap[gb110]? = some (.cells #[.int .i64 t102, .int .i64 t103, .bool t104] 56 (0, 0))) ∧ (w'.heap[gb111]? = some (.cells #[.int .i64 t106, .int .i64 t107, .bool t108] 56 (0, 0))) ∧ (w'.heap[s_.1]? = some (.cells #[.int .i64 0, .int .i64 0, .bool false] 56 (0, 0))) ∧ (w'.heap[s_.2]? = some (.cells #[.int .i64 0, .int .i64 0, .bool false] 56 (0, 0))) ∧ (w.heap.size ≤ s_.1) ∧ (w.heap.size ≤ s_.1) ∧ (gb101 ≠ s_.1) ∧ (s_.1 ≠ gb101) ∧ (gb110 ≠ s_.1) ∧ (s_.1 ≠ gb110) ∧ (gb111 ≠ s_.1) ∧ (s_.1 ≠ gb111) ∧ (s_.2 ≠ s_.1) ∧ (s_.1 ≠ s_.2) ∧ (w.heap.size ≤ s_.2) ∧ (w.heap.size ≤ s_.2) ∧ (gb101 ≠ s_.2) ∧ (s_.2 ≠ gb101) ∧ (gb110 ≠ s_.2) ∧ (s_.2 ≠ gb110) ∧ (gb111 ≠ s_.2) ∧ (s_.2 ≠ gb111) ∧ (IsS25 w w' gb101 l0 t109) ∧ (Below w.heap.size w w')) ?_ ?_
    rotate_left
    rotate_left
    · skip
      rintro ⟨gb120, gb121⟩ w25 ⟨hS_, h0_, h1_, h2_, h3_, h4_, h5_, h6_, h7_, h8_, h9_, h10_, h11_, h12_, h13_, h14_, h15_, h16_, h17_, h18_, h19_, h20_, h21_, h22_, h23_⟩
      have BK120 : Aside0 (w25.heap[gb120]? = some (.cells #[.int .i64 0, .int .i64 0, .bool false] 56 (0, 0))) := ⟨h2_⟩
      have BK121 : Aside0 (w25.heap[gb121]? = some (.cells #[.int .i64 0, .int .i64 0, .bool false] 56 (0, 0))) := ⟨h3_⟩
      have GW120 : Aside0 (w.heap.size ≤ gb120) := ⟨h4_⟩
      have GE120 : Aside0 (w.heap.size ≤ gb120) := ⟨h5_⟩
      have NB101_120 : Aside0 (gb101 ≠ gb120) := ⟨h6_⟩
      have NB120_101 : Aside0 (gb120 ≠ gb101) := ⟨h7_⟩
      have NB110_120 : Aside0 (gb110 ≠ gb120) := ⟨h8_⟩
      have NB120_110 : Aside0 (gb120 ≠ gb110) := ⟨h9_⟩
      have NB111_120 : Aside0 (gb111 ≠ gb120) := ⟨h10_⟩
      have NB120_111 : Aside0 (gb120 ≠ gb111) := ⟨h11_⟩
      have NB121_120 : Aside0 (gb121 ≠ gb120) := ⟨h12_⟩
      have NB120_121 : Aside0 (gb120 ≠ gb121) := ⟨h13_⟩
      have GW121 : Aside0 (w.heap.size ≤ gb121) := ⟨h14_⟩
      have GE121 : Aside0 (w.heap.size ≤ gb121) := ⟨h15_⟩
      have NB101_121 : Aside0 (gb101 ≠ gb121) := ⟨h16_⟩
      have NB121_101 : Aside0 (gb121 ≠ gb101) := ⟨h17_⟩
      have NB110_121 : Aside0 (gb110 ≠ gb121) := ⟨h18_⟩
      have NB121_110 : Aside0 (gb121 ≠ gb110) := ⟨h19_⟩
      have NB111_121 : Aside0 (gb111 ≠ gb121) := ⟨h20_⟩
      have NB121_111 : Aside0 (gb121 ≠ gb111) := ⟨h21_⟩
      replace BK110 : Aside0 (w25.heap[gb110]? = some (.cells #[.int .i64 t102, .int .i64 t103, .bool t104] 56 (0, 0))) := ⟨h0_⟩
      replace BK111 : Aside0 (w25.heap[gb111]? = some (.cells #[.int .i64 t106, .int .i64 t107, .bool t108] 56 (0, 0))) := ⟨h1_⟩
      replace HI101 : Aside0 (IsS25 w w25 gb101 l0 t109) := ⟨h22_⟩
      replace HB : Aside0 (Below w.heap.size w w25) := ⟨h23_⟩
      clear h0_ h1_ h2_ h3_ h4_ h5_ h6_ h7_ h8_ h9_ h10_ h11_ h12_ h13_ h14_ h15_ h16_ h17_ h18_ h19_ h20_ h21_ h22_ h23_
      have hHeld : w25.cell? ⟨gb110, 0, none⟩ = some (.int .i64 t102) ∧ w25.cell? ⟨gb110, 1, none⟩ = some (.int .i64 t103) ∧ w25.cell? ⟨gb110, 2, none⟩ = some (.bool t104) ∧ w25.cell? ⟨gb111, 0, none⟩ = some (.int .i64 t106) ∧ w25.cell? ⟨gb111, 1, none⟩ = some (.int .i64 t107) ∧ w25.cell? ⟨gb111, 2, none⟩ = some (.bool t108) := hS_
      refine norm_ (a' := ?_) ?_ ?_
      rotate_left
      · simp only [putAll, Act.put, List.setIfInBounds_toArray, List.set_cons_zero, List.set_cons_succ]
        rfl
      refine oq_ 2 (some 28) (bm_ [5, 1, 2, 2]) HT_ (fun K hK => ?_)
      refine gq_ Try.func32 #[.pointer (some ⟨gb101, 0, none⟩), .agg #[.int .i64 t102, .int .i64 t103, .bool t104]] ?_
      with_reducible refine (spymake_Within_api_Fix.calls gb101 l0 t109 t102 t103 t104 t112 t113 t114 t115 w _ ?side1 ?side2 A6.out).mono ?_
      (case side1 => exact HI101.out)
      (case side2 => exact HB.out)
      rintro e w26 ⟨rfl, hi, hb, hk⟩
      refine ⟨_, rfl, ?_⟩
      replace BK110 := Aside0.mk (KeepBut.blk hk (g' := gb110) (o := .cells #[.int .i64 t102, .int .i64 t103, .bool t104] 56 (0, 0)) BK110.out NB110_101.out (by simp))
      replace BK111 := Aside0.mk (KeepBut.blk hk (g' := gb111) (o := .cells #[.int .i64 t106, .int .i64 t107, .bool t108] 56 (0, 0)) BK111.out NB111_101.out (by simp))
      replace BK120 := Aside0.mk (KeepBut.blk hk (g' := gb120) (o := .cells #[.int .i64 0, .int .i64 0, .bool false] 56 (0, 0)) BK120.out NB120_101.out (by simp))
      replace BK121 := Aside0.mk (KeepBut.blk hk (g' := gb121) (o := .cells #[.int .i64 0, .int .i64 0, .bool false] 56 (0, 0)) BK121.out NB121_101.out (by simp))
      replace HB := Aside0.mk (hb)
      replace HI101 := Aside0.mk (hi)
      (try clear hb hk hi)
      refine hK.out _ _ ⟨bc_ BK110 0 rfl, bc_ BK110 1 rfl, bc_ BK110 2 rfl, bc_ BK111 0 rfl, bc_ BK111 1 rfl, bc_ BK111 2 rfl⟩ (fun hHeld => ?_)
      clear hK K
      refine nq_ 28 ?_
      exact norm_ (by simp only [putAll, Act.put, List.setIfInBounds_toArray, List.set_cons_zero, List.set_cons_succ]; try rfl) (hJ2_6_7 (gb120, gb121) _ ⟨hHeld, BK110.out, BK111.out, BK120.out, BK121.out, GW120.out, GE120.out, NB101_120.out, NB120_101.out, NB110_120.out, NB120_110.out, NB111_120.out, NB120_111.out, NB121_120.out, NB120_121.out, GW121.out, GE121.out, NB101_121.out, NB121_101.out, NB110_121.out, NB121_110.out, NB111_121.out, NB121_111.out, HI101.out, HB.out⟩)
    intro hJ6_7
    refine join_ (σ := Unit) 5 (bm_ [5, 5]) (fun s_ => [(28, .agg #[.int .i64 t112, .int .i64 t113, .bool t114])]) (fun s_ w' => (w'.cell? ⟨gb110, 0, none⟩ = some (.int .i64 t102) ∧ w'.cell? ⟨gb110, 1, none⟩ = some (.int .i64 t103) ∧ w'.cell? ⟨gb110, 2, none⟩ = some (.bool t104) ∧ w'.cell? ⟨gb111, 0, none⟩ = some (.int .i64 t106) ∧ w'.cell? ⟨gb111, 1, none⟩ = some (.int .i64 t107) ∧ w'.cell? ⟨gb111, 2, none⟩ = some (.bool t108)) ∧ (w'.heap[gb110]? = some (.cells #[.int .i64 t102, .int .i64 t103, .bool t104] 56 (0, 0))) ∧ (w'.heap[gb111]? = some (.cells #[.int .i64 t106, .int .i64 t107, .bool t108] 56 (0, 0))) ∧ (IsS25 w w' gb101 l0 t115) ∧ (Below w.heap.size w w')) ?_ ?_
    rotate_left
    · intro hJ2
      refine join_ (σ := Nat) 5 (bm_ [2, 1, 2, 1, 1, 3]) (fun s_ => [(10, .pointer (some ⟨s_, 0, none⟩))]) (fun s_ w' => (w'.cell? ⟨gb110, 0, none⟩ = some (.int .i64 t102) ∧ w'.cell? ⟨gb110, 1, none⟩ = some (.int .i64 t103) ∧ w'.cell? ⟨gb110, 2, none⟩ = some (.bool t104) ∧ w'.cell? ⟨gb111, 0, none⟩ = some (.int .i64 t106) ∧ w'.cell? ⟨gb111, 1, none⟩ = some (.int .i64 t107) ∧ w'.cell? ⟨gb111, 2, none⟩ = some (.bool t108)) ∧ (w'.heap[gb110]? = some (.cells #[.int .i64 t102, .int .i64 t103, .bool t104] 56 (0, 0))) ∧ (w'.heap[gb111]? = some (.cells #[.int .i64 t106, .int .i64 t107, .bool t108] 56 (0, 0))) ∧ (w'.heap[s_]? = some (.cells #[.int .i64 0, .int .i64 0, .bool false] 56 (0, 0))) ∧ (w.heap.size ≤ s_) ∧ (w.heap.size ≤ s_) ∧ (gb101 ≠ s_) ∧ (s_ ≠ gb101) ∧ (gb110 ≠ s_) ∧ (s_ ≠ gb110) ∧ (gb111 ≠ s_) ∧ (s_ ≠ gb111) ∧ (IsS25 w w' gb101 l0 t109) ∧ (Below w.heap.size w w')) ?_ ?_
      rotate_left
      · intro hJ6
        refine join_ (σ := Nat) 5 (bm_ [2, 1, 2, 2, 1, 2]) (fun s_ => [(11, .pointer (some ⟨s_, 0, none⟩))]) (fun s_ w' => (w'.cell? ⟨gb110, 0, none⟩ = some (.int .i64 t102) ∧ w'.cell? ⟨gb110, 1, none⟩ = some (.int .i64 t103) ∧ w'.cell? ⟨gb110, 2, none⟩ = some (.bool t104) ∧ w'.cell? ⟨gb111, 0, none⟩ = some (.int .i64 t106) ∧ w'.cell? ⟨gb111, 1, none⟩ = some (.int .i64 t107) ∧ w'.cell? ⟨gb111, 2, none⟩ = some (.bool t108)) ∧ (w'.heap[gb110]? = some (.cells #[.int .i64 t102, .int .i64 t103, .bool t104] 56 (0, 0))) ∧ (w'.heap[gb111]? = some (.cells #[.int .i64 t106, .int .i64 t107, .bool t108] 56 (0, 0))) ∧ (w'.heap[s_]? = some (.cells #[.int .i64 0, .int .i64 0, .bool false] 56 (0, 0))) ∧ (w.heap.size ≤ s_) ∧ (w.heap.size ≤ s_) ∧ (gb101 ≠ s_) ∧ (s_ ≠ gb101) ∧ (gb110 ≠ s_) ∧ (s_ ≠ gb110) ∧ (gb111 ≠ s_) ∧ (s_ ≠ gb111) ∧ (IsS25 w w' gb101 l0 t109) ∧ (Below w.heap.size w w')) ?_ ?_
        rotate_left
        · intro hJ7
          refine three_ (i := 2) (j := 6) (k := 7) (Ni := some 28) (Nj := some 10) (Nk := some 11) (bm_ [5, 5]) (bm_ [2, 1, 2, 1, 1, 3]) (bm_ [2, 1, 2, 2, 1, 2]) rfl rfl rfl rfl rfl rfl (three_of HT_.out (by kernel_rfl)) (by decide) (by decide) (by decide) (fun K hK => ?_) (fun K hK => ?_) (fun K hK => ?_)
          · skip
            refine gq_ Try.func32 #[.pointer (some ⟨gb101, 0, none⟩), .agg #[.int .i64 t102, .int .i64 t103, .bool t104]] ?_
            with_reducible refine (spymake_Within_api_Fix.calls gb101 l0 t109 t102 t103 t104 t112 t113 t114 t115 w _ ?side1 ?side2 A6.out).mono ?_
            (case side1 => exact HI101.out)
            (case side2 => exact HB.out)
            rintro e w23 ⟨rfl, hi, hb, hk⟩
            refine ⟨_, rfl, ?_⟩
            replace BK110 := Aside0.mk (KeepBut.blk hk (g' := gb110) (o := .cells #[.int .i64 t102, .int .i64 t103, .bool t104] 56 (0, 0)) BK110.out NB110_101.out (by simp))
            replace BK111 := Aside0.mk (KeepBut.blk hk (g' := gb111) (o := .cells #[.int .i64 t106, .int .i64 t107, .bool t108] 56 (0, 0)) BK111.out NB111_101.out (by simp))
            replace HB := Aside0.mk (hb)
            replace HI101 := Aside0.mk (hi)
            (try clear hb hk hi)
            refine hK.out _ _ ⟨bc_ BK110 0 rfl, bc_ BK110 1 rfl, bc_ BK110 2 rfl, bc_ BK111 0 rfl, bc_ BK111 1 rfl, bc_ BK111 2 rfl⟩ (fun hHeld => ?_)
            clear hK K
            refine nq_ 28 ?_
            exact norm_ (by simp only [putAll, Act.put, List.setIfInBounds_toArray, List.set_cons_zero, List.set_cons_succ]; try rfl) (hJ2 () _ ⟨hHeld, BK110.out, BK111.out, HI101.out, HB.out⟩)
          · skip
            refine bsq_ 10 #[.int .i64 0, .int .i64 0, .bool false] 56 ?_
            intro gb120 hg w23 hbox hb
            have BK120 := Aside0.mk (hbox)
            have GW120 := Aside0.mk ((by rw [hg]; exact (below_size (by exact HB.out)) : w.heap.size ≤ gb120))
            have GE120 := GW120
            have NB110_120 := nbl_ BK110 hg rfl
            have NB120_110 := nbg_ BK110 hg rfl
            have NB111_120 := nbl_ BK111 hg rfl
            have NB120_111 := nbg_ BK111 hg rfl
            have NB101_120 := Aside0.mk ((by rw [hg]; exact Nat.ne_of_lt (IsS25.lt HI101.out) : gb101 ≠ gb120))
            have NB120_101 := Aside0.mk ((by rw [hg]; exact Nat.ne_of_gt (IsS25.lt HI101.out) : gb120 ≠ gb101))
            replace HI101 := Aside0.mk (IsS25.below (by exact HI101.out) hb)
            replace BK110 := bkb_ BK110 hb rfl
            replace BK111 := bkb_ BK111 hb rfl
            replace HB := Aside0.mk (below_step (by exact HB.out) hb)
            clear hb hbox hg
            refine hK.out _ _ ⟨bc_ BK110 0 rfl, bc_ BK110 1 rfl, bc_ BK110 2 rfl, bc_ BK111 0 rfl, bc_ BK111 1 rfl, bc_ BK111 2 rfl⟩ (fun hHeld => ?_)
            clear hK K
            refine nq_ 10 ?_
            exact norm_ (by simp only [putAll, Act.put, List.setIfInBounds_toArray, List.set_cons_zero, List.set_cons_succ]; try rfl) (hJ6 (gb120) _ ⟨hHeld, BK110.out, BK111.out, BK120.out, GW120.out, GE120.out, NB101_120.out, NB120_101.out, NB110_120.out, NB120_110.out, NB111_120.out, NB120_111.out, HI101.out, HB.out⟩)
          skip
          refine bsq_ 11 #[.int .i64 0, .int .i64 0, .bool false] 56 ?_
          intro gb121 hg w23 hbox hb
          have BK121 := Aside0.mk (hbox)
          have GW121 := Aside0.mk ((by rw [hg]; exact (below_size (by exact HB.out)) : w.heap.size ≤ gb121))
          have GE121 := GW121
          have NB110_121 := nbl_ BK110 hg rfl
          have NB121_110 := nbg_ BK110 hg rfl
          have NB111_121 := nbl_ BK111 hg rfl
          have NB121_111 := nbg_ BK111 hg rfl
          have NB101_121 := Aside0.mk ((by rw [hg]; exact Nat.ne_of_lt (IsS25.lt HI101.out) : gb101 ≠ gb121))
          have NB121_101 := Aside0.mk ((by rw [hg]; exact Nat.ne_of_gt (IsS25.lt HI101.out) : gb121 ≠ gb101))
          replace HI101 := Aside0.mk (IsS25.below (by exact HI101.out) hb)
          replace BK110 := bkb_ BK110 hb rfl
          replace BK111 := bkb_ BK111 hb rfl
          replace HB := Aside0.mk (below_step (by exact HB.out) hb)
          clear hb hbox hg
          refine hK.out _ _ ⟨bc_ BK110 0 rfl, bc_ BK110 1 rfl, bc_ BK110 2 rfl, bc_ BK111 0 rfl, bc_ BK111 1 rfl, bc_ BK111 2 rfl⟩ (fun hHeld => ?_)
          clear hK K
          refine nq_ 11 ?_
          exact norm_ (by simp only [putAll, Act.put, List.setIfInBounds_toArray, List.set_cons_zero, List.set_cons_succ]; try rfl) (hJ7 (gb121) _ ⟨hHeld, BK110.out, BK111.out, BK121.out, GW121.out, GE121.out, NB101_121.out, NB121_101.out, NB110_121.out, NB121_110.out, NB111_121.out, NB121_111.out, HI101.out, HB.out⟩)
        skip
        rintro gb121 w24 ⟨hS_, h0_, h1_, h2_, h3_, h4_, h5_, h6_, h7_, h8_, h9_, h10_, h11_, h12_⟩
        have BK121 : Aside0 (w24.heap[gb121]? = some (.cells #[.int .i64 0, .int .i64 0, .bool false] 56 (0, 0))) := ⟨h2_⟩
        have GW121 : Aside0 (w.heap.size ≤ gb121) := ⟨h3_⟩
        have GE121 : Aside0 (w.heap.size ≤ gb121) := ⟨h4_⟩
        have NB101_121 : Aside0 (gb101 ≠ gb121) := ⟨h5_⟩
        have NB121_101 : Aside0 (gb121 ≠ gb101) := ⟨h6_⟩
        have NB110_121 : Aside0 (gb110 ≠ gb121) := ⟨h7_⟩
        have NB121_110 : Aside0 (gb121 ≠ gb110) := ⟨h8_⟩
        have NB111_121 : Aside0 (gb111 ≠ gb121) := ⟨h9_⟩
        have NB121_111 : Aside0 (gb121 ≠ gb111) := ⟨h10_⟩
        replace BK110 : Aside0 (w24.heap[gb110]? = some (.cells #[.int .i64 t102, .int .i64 t103, .bool t104] 56 (0, 0))) := ⟨h0_⟩
        replace BK111 : Aside0 (w24.heap[gb111]? = some (.cells #[.int .i64 t106, .int .i64 t107, .bool t108] 56 (0, 0))) := ⟨h1_⟩
        replace HI101 : Aside0 (IsS25 w w24 gb101 l0 t109) := ⟨h11_⟩
        replace HB : Aside0 (Below w.heap.size w w24) := ⟨h12_⟩
        clear h0_ h1_ h2_ h3_ h4_ h5_ h6_ h7_ h8_ h9_ h10_ h11_ h12_
        have hHeld : w24.cell? ⟨gb110, 0, none⟩ = some (.int .i64 t102) ∧ w24.cell? ⟨gb110, 1, none⟩ = some (.int .i64 t103) ∧ w24.cell? ⟨gb110, 2, none⟩ = some (.bool t104) ∧ w24.cell? ⟨gb111, 0, none⟩ = some (.int .i64 t106) ∧ w24.cell? ⟨gb111, 1, none⟩ = some (.int .i64 t107) ∧ w24.cell? ⟨gb111, 2, none⟩ = some (.bool t108) := hS_
        refine norm_ (a' := ?_) ?_ ?_
        rotate_left
        · simp only [putAll, Act.put, List.setIfInBounds_toArray, List.set_cons_zero, List.set_cons_succ]
          rfl
        refine two_ (i := 2) (j := 6) (Ni := some 28) (Nj := some 10) (bm_ [5, 2, 1, 2]) (bm_ [2, 1, 2, 1, 2, 2]) rfl rfl rfl rfl (two_of HT_.out (by kernel_rfl)) (by decide) (by decide) (fun K hK => ?_) (fun K hK => ?_)
        · skip
          refine gq_ Try.func32 #[.pointer (some ⟨gb101, 0, none⟩), .agg #[.int .i64 t102, .int .i64 t103, .bool t104]] ?_
          with_reducible refine (spymake_Within_api_Fix.calls gb101 l0 t109 t102 t103 t104 t112 t113 t114 t115 w _ ?side1 ?side2 A6.out).mono ?_
          (case side1 => exact HI101.out)
          (case side2 => exact HB.out)
          rintro e w25 ⟨rfl, hi, hb, hk⟩
          refine ⟨_, rfl, ?_⟩
          replace BK110 := Aside0.mk (KeepBut.blk hk (g' := gb110) (o := .cells #[.int .i64 t102, .int .i64 t103, .bool t104] 56 (0, 0)) BK110.out NB110_101.out (by simp))
          replace BK111 := Aside0.mk (KeepBut.blk hk (g' := gb111) (o := .cells #[.int .i64 t106, .int .i64 t107, .bool t108] 56 (0, 0)) BK111.out NB111_101.out (by simp))
          replace BK121 := Aside0.mk (KeepBut.blk hk (g' := gb121) (o := .cells #[.int .i64 0, .int .i64 0, .bool false] 56 (0, 0)) BK121.out NB121_101.out (by simp))
          replace HB := Aside0.mk (hb)
          replace HI101 := Aside0.mk (hi)
          (try clear hb hk hi)
          refine hK.out _ _ ⟨bc_ BK110 0 rfl, bc_ BK110 1 rfl, bc_ BK110 2 rfl, bc_ BK111 0 rfl, bc_ BK111 1 rfl, bc_ BK111 2 rfl⟩ (fun hHeld => ?_)
          clear hK K
          refine nq_ 28 ?_
          exact norm_ (by simp only [putAll, Act.put, List.setIfInBounds_toArray, List.set_cons_zero, List.set_cons_succ]; try rfl) (hJ2_7 (gb121) _ ⟨hHeld, BK110.out, BK111.out, BK121.out, GW121.out, GE121.out, NB101_121.out, NB121_101.out, NB110_121.out, NB121_110.out, NB111_121.out, NB121_111.out, HI101.out, HB.out⟩)
        skip
        refine bsq_ 10 #[.int .i64 0, .int .i64 0, .bool false] 56 ?_
        intro gb120 hg w25 hbox hb
        have BK120 := Aside0.mk (hbox)
        have GW120 := Aside0.mk ((by rw [hg]; exact (below_size (by exact HB.out)) : w.heap.size ≤ gb120))
        have GE120 := GW120
        have NB110_120 := nbl_ BK110 hg rfl
        have NB120_110 := nbg_ BK110 hg rfl
        have NB111_120 := nbl_ BK111 hg rfl
        have NB120_111 := nbg_ BK111 hg rfl
        have NB121_120 := nbl_ BK121 hg rfl
        have NB120_121 := nbg_ BK121 hg rfl
        have NB101_120 := Aside0.mk ((by rw [hg]; exact Nat.ne_of_lt (IsS25.lt HI101.out) : gb101 ≠ gb120))
        have NB120_101 := Aside0.mk ((by rw [hg]; exact Nat.ne_of_gt (IsS25.lt HI101.out) : gb120 ≠ gb101))
        replace HI101 := Aside0.mk (IsS25.below (by exact HI101.out) hb)
        replace BK110 := bkb_ BK110 hb rfl
        replace BK111 := bkb_ BK111 hb rfl
        replace BK121 := bkb_ BK121 hb rfl
        replace HB := Aside0.mk (below_step (by exact HB.out) hb)
        clear hb hbox hg
        refine hK.out _ _ ⟨bc_ BK110 0 rfl, bc_ BK110 1 rfl, bc_ BK110 2 rfl, bc_ BK111 0 rfl, bc_ BK111 1 rfl, bc_ BK111 2 rfl⟩ (fun hHeld => ?_)
        clear hK K
        refine nq_ 10 ?_
        exact norm_ (by simp only [putAll, Act.put, List.setIfInBounds_toArray, List.set_cons_zero, List.set_cons_succ]; try rfl) (hJ6_7 (gb120, gb121) _ ⟨hHeld, BK110.out, BK111.out, BK120.out, BK121.out, GW120.out, GE120.out, NB101_120.out, NB120_101.out, NB110_120.out, NB120_110.out, NB111_120.out, NB120_111.out, NB121_120.out, NB120_121.out, GW121.out, GE121.out, NB101_121.out, NB121_101.out, NB110_121.out, NB121_110.out, NB111_121.out, NB121_111.out, HI101.out, HB.out⟩)
      skip
      rintro gb120 w24 ⟨hS_, h0_, h1_, h2_, h3_, h4_, h5_, h6_, h7_, h8_, h9_, h10_, h11_, h12_⟩
      have BK120 : Aside0 (w24.heap[gb120]? = some (.cells #[.int .i64 0, .int .i64 0, .bool false] 56 (0, 0))) := ⟨h2_⟩
      have GW120 : Aside0 (w.heap.size ≤ gb120) := ⟨h3_⟩
      have GE120 : Aside0 (w.heap.size ≤ gb120) := ⟨h4_⟩
      have NB101_120 : Aside0 (gb101 ≠ gb120) := ⟨h5_⟩
      have NB120_101 : Aside0 (gb120 ≠ gb101) := ⟨h6_⟩
      have NB110_120 : Aside0 (gb110 ≠ gb120) := ⟨h7_⟩
      have NB120_110 : Aside0 (gb120 ≠ gb110) := ⟨h8_⟩
      have NB111_120 : Aside0 (gb111 ≠ gb120) := ⟨h9_⟩
      have NB120_111 : Aside0 (gb120 ≠ gb111) := ⟨h10_⟩
      replace BK110 : Aside0 (w24.heap[gb110]? = some (.cells #[.int .i64 t102, .int .i64 t103, .bool t104] 56 (0, 0))) := ⟨h0_⟩
      replace BK111 : Aside0 (w24.heap[gb111]? = some (.cells #[.int .i64 t106, .int .i64 t107, .bool t108] 56 (0, 0))) := ⟨h1_⟩
      replace HI101 : Aside0 (IsS25 w w24 gb101 l0 t109) := ⟨h11_⟩
      replace HB : Aside0 (Below w.heap.size w w24) := ⟨h12_⟩
      clear h0_ h1_ h2_ h3_ h4_ h5_ h6_ h7_ h8_ h9_ h10_ h11_ h12_
      have hHeld : w24.cell? ⟨gb110, 0, none⟩ = some (.int .i64 t102) ∧ w24.cell? ⟨gb110, 1, none⟩ = some (.int .i64 t103) ∧ w24.cell? ⟨gb110, 2, none⟩ = some (.bool t104) ∧ w24.cell? ⟨gb111, 0, none⟩ = some (.int .i64 t106) ∧ w24.cell? ⟨gb111, 1, none⟩ = some (.int .i64 t107) ∧ w24.cell? ⟨gb111, 2, none⟩ = some (.bool t108) := hS_
      refine norm_ (a' := ?_) ?_ ?_
      rotate_left
      · simp only [putAll, Act.put, List.setIfInBounds_toArray, List.set_cons_zero, List.set_cons_succ]
        rfl
      refine two_ (i := 2) (j := 7) (Ni := some 28) (Nj := some 11) (bm_ [5, 1, 1, 3]) (bm_ [2, 1, 2, 1, 2, 2]) rfl rfl rfl rfl (two_of HT_.out (by kernel_rfl)) (by decide) (by decide) (fun K hK => ?_) (fun K hK => ?_)
      · skip
        refine gq_ Try.func32 #[.pointer (some ⟨gb101, 0, none⟩), .agg #[.int .i64 t102, .int .i64 t103, .bool t104]] ?_
        with_reducible refine (spymake_Within_api_Fix.calls gb101 l0 t109 t102 t103 t104 t112 t113 t114 t115 w _ ?side1 ?side2 A6.out).mono ?_
        (case side1 => exact HI101.out)
        (case side2 => exact HB.out)
        rintro e w25 ⟨rfl, hi, hb, hk⟩
        refine ⟨_, rfl, ?_⟩
        replace BK110 := Aside0.mk (KeepBut.blk hk (g' := gb110) (o := .cells #[.int .i64 t102, .int .i64 t103, .bool t104] 56 (0, 0)) BK110.out NB110_101.out (by simp))
        replace BK111 := Aside0.mk (KeepBut.blk hk (g' := gb111) (o := .cells #[.int .i64 t106, .int .i64 t107, .bool t108] 56 (0, 0)) BK111.out NB111_101.out (by simp))
        replace BK120 := Aside0.mk (KeepBut.blk hk (g' := gb120) (o := .cells #[.int .i64 0, .int .i64 0, .bool false] 56 (0, 0)) BK120.out NB120_101.out (by simp))
        replace HB := Aside0.mk (hb)
        replace HI101 := Aside0.mk (hi)
        (try clear hb hk hi)
        refine hK.out _ _ ⟨bc_ BK110 0 rfl, bc_ BK110 1 rfl, bc_ BK110 2 rfl, bc_ BK111 0 rfl, bc_ BK111 1 rfl, bc_ BK111 2 rfl⟩ (fun hHeld => ?_)
        clear hK K
        refine nq_ 28 ?_
        exact norm_ (by simp only [putAll, Act.put, List.setIfInBounds_toArray, List.set_cons_zero, List.set_cons_succ]; try rfl) (hJ2_6 (gb120) _ ⟨hHeld, BK110.out, BK111.out, BK120.out, GW120.out, GE120.out, NB101_120.out, NB120_101.out, NB110_120.out, NB120_110.out, NB111_120.out, NB120_111.out, HI101.out, HB.out⟩)
      skip
      refine bsq_ 11 #[.int .i64 0, .int .i64 0, .bool false] 56 ?_
      intro gb121 hg w25 hbox hb
      have BK121 := Aside0.mk (hbox)
      have GW121 := Aside0.mk ((by rw [hg]; exact (below_size (by exact HB.out)) : w.heap.size ≤ gb121))
      have GE121 := GW121
      have NB110_121 := nbl_ BK110 hg rfl
      have NB121_110 := nbg_ BK110 hg rfl
      have NB111_121 := nbl_ BK111 hg rfl
      have NB121_111 := nbg_ BK111 hg rfl
      have NB120_121 := nbl_ BK120 hg rfl
      have NB121_120 := nbg_ BK120 hg rfl
      have NB101_121 := Aside0.mk ((by rw [hg]; exact Nat.ne_of_lt (IsS25.lt HI101.out) : gb101 ≠ gb121))
      have NB121_101 := Aside0.mk ((by rw [hg]; exact Nat.ne_of_gt (IsS25.lt HI101.out) : gb121 ≠ gb101))
      replace HI101 := Aside0.mk (IsS25.below (by exact HI101.out) hb)
      replace BK110 := bkb_ BK110 hb rfl
      replace BK111 := bkb_ BK111 hb rfl
      replace BK120 := bkb_ BK120 hb rfl
      replace HB := Aside0.mk (below_step (by exact HB.out) hb)
      clear hb hbox hg
      refine hK.out _ _ ⟨bc_ BK110 0 rfl, bc_ BK110 1 rfl, bc_ BK110 2 rfl, bc_ BK111 0 rfl, bc_ BK111 1 rfl, bc_ BK111 2 rfl⟩ (fun hHeld => ?_)
      clear hK K
      refine nq_ 11 ?_
      exact norm_ (by simp only [putAll, Act.put, List.setIfInBounds_toArray, List.set_cons_zero, List.set_cons_succ]; try rfl) (hJ6_7 (gb120, gb121) _ ⟨hHeld, BK110.out, BK111.out, BK120.out, BK121.out, GW120.out, GE120.out, NB101_120.out, NB120_101.out, NB110_120.out, NB120_110.out, NB111_120.out, NB120_111.out, NB121_120.out, NB120_121.out, GW121.out, GE121.out, NB101_121.out, NB121_101.out, NB110_121.out, NB121_110.out, NB111_121.out, NB121_111.out, HI101.out, HB.out⟩)
    skip
    rintro _ w24 ⟨hS_, h0_, h1_, h2_, h3_⟩
    replace BK110 : Aside0 (w24.heap[gb110]? = some (.cells #[.int .i64 t102, .int .i64 t103, .bool t104] 56 (0, 0))) := ⟨h0_⟩
    replace BK111 : Aside0 (w24.heap[gb111]? = some (.cells #[.int .i64 t106, .int .i64 t107, .bool t108] 56 (0, 0))) := ⟨h1_⟩
    replace HI101 : Aside0 (IsS25 w w24 gb101 l0 t115) := ⟨h2_⟩
    replace HB : Aside0 (Below w.heap.size w w24) := ⟨h3_⟩
    clear h0_ h1_ h2_ h3_
    have hHeld : w24.cell? ⟨gb110, 0, none⟩ = some (.int .i64 t102) ∧ w24.cell? ⟨gb110, 1, none⟩ = some (.int .i64 t103) ∧ w24.cell? ⟨gb110, 2, none⟩ = some (.bool t104) ∧ w24.cell? ⟨gb111, 0, none⟩ = some (.int .i64 t106) ∧ w24.cell? ⟨gb111, 1, none⟩ = some (.int .i64 t107) ∧ w24.cell? ⟨gb111, 2, none⟩ = some (.bool t108) := hS_
    refine norm_ (a' := ?_) ?_ ?_
    rotate_left
    · simp only [putAll, Act.put, List.setIfInBounds_toArray, List.set_cons_zero, List.set_cons_succ]
      rfl
    refine three_ (i := 5) (j := 6) (k := 7) (Ni := some 31) (Nj := some 10) (Nk := some 11) (bm_ [6, 4]) (bm_ [5, 1, 1, 3]) (bm_ [5, 2, 1, 2]) rfl rfl rfl rfl rfl rfl (three_of HT_.out (by kernel_rfl)) (by decide) (by decide) (by decide) (fun K hK => ?_) (fun K hK => ?_) (fun K hK => ?_)
    · skip
      refine gq_ Try.func32 #[.pointer (some ⟨gb101, 0, none⟩), .agg #[.int .i64 t106, .int .i64 t107, .bool t108]] ?_
      with_reducible refine (spymake_Within_api_Fix.calls gb101 l0 t115 t106 t107 t108 t116 t117 t118 t119 w _ ?side1 ?side2 A7.out).mono ?_
      (case side1 => exact HI101.out)
      (case side2 => exact HB.out)
      rintro e w25 ⟨rfl, hi, hb, hk⟩
      refine ⟨_, rfl, ?_⟩
      replace BK110 := Aside0.mk (KeepBut.blk hk (g' := gb110) (o := .cells #[.int .i64 t102, .int .i64 t103, .bool t104] 56 (0, 0)) BK110.out NB110_101.out (by simp))
      replace BK111 := Aside0.mk (KeepBut.blk hk (g' := gb111) (o := .cells #[.int .i64 t106, .int .i64 t107, .bool t108] 56 (0, 0)) BK111.out NB111_101.out (by simp))
      replace HB := Aside0.mk (hb)
      replace HI101 := Aside0.mk (hi)
      (try clear hb hk hi)
      refine hK.out _ _ ⟨bc_ BK110 0 rfl, bc_ BK110 1 rfl, bc_ BK110 2 rfl, bc_ BK111 0 rfl, bc_ BK111 1 rfl, bc_ BK111 2 rfl⟩ (fun hHeld => ?_)
      clear hK K
      refine nq_ 31 ?_
      exact norm_ (by simp only [putAll, Act.put, List.setIfInBounds_toArray, List.set_cons_zero, List.set_cons_succ]; try rfl) (hJ2_5 () _ ⟨hHeld, BK110.out, BK111.out, HI101.out, HB.out⟩)
    · skip
      refine bsq_ 10 #[.int .i64 0, .int .i64 0, .bool false] 56 ?_
      intro gb120 hg w25 hbox hb
      have BK120 := Aside0.mk (hbox)
      have GW120 := Aside0.mk ((by rw [hg]; exact (below_size (by exact HB.out)) : w.heap.size ≤ gb120))
      have GE120 := GW120
      have NB110_120 := nbl_ BK110 hg rfl
      have NB120_110 := nbg_ BK110 hg rfl
      have NB111_120 := nbl_ BK111 hg rfl
      have NB120_111 := nbg_ BK111 hg rfl
      have NB101_120 := Aside0.mk ((by rw [hg]; exact Nat.ne_of_lt (IsS25.lt HI101.out) : gb101 ≠ gb120))
      have NB120_101 := Aside0.mk ((by rw [hg]; exact Nat.ne_of_gt (IsS25.lt HI101.out) : gb120 ≠ gb101))
      replace HI101 := Aside0.mk (IsS25.below (by exact HI101.out) hb)
      replace BK110 := bkb_ BK110 hb rfl
      replace BK111 := bkb_ BK111 hb rfl
      replace HB := Aside0.mk (below_step (by exact HB.out) hb)
      clear hb hbox hg
      refine hK.out _ _ ⟨bc_ BK110 0 rfl, bc_ BK110 1 rfl, bc_ BK110 2 rfl, bc_ BK111 0 rfl, bc_ BK111 1 rfl, bc_ BK111 2 rfl⟩ (fun hHeld => ?_)
      clear hK K
      refine nq_ 10 ?_
      exact norm_ (by simp only [putAll, Act.put, List.setIfInBounds_toArray, List.set_cons_zero, List.set_cons_succ]; try rfl) (hJ2_6 (gb120) _ ⟨hHeld, BK110.out, BK111.out, BK120.out, GW120.out, GE120.out, NB101_120.out, NB120_101.out, NB110_120.out, NB120_110.out, NB111_120.out, NB120_111.out, HI101.out, HB.out⟩)
    skip
    refine bsq_ 11 #[.int .i64 0, .int .i64 0, .bool false] 56 ?_
    intro gb121 hg w25 hbox hb
    have BK121 := Aside0.mk (hbox)
    have GW121 := Aside0.mk ((by rw [hg]; exact (below_size (by exact HB.out)) : w.heap.size ≤ gb121))
    have GE121 := GW121
    have NB110_121 := nbl_ BK110 hg rfl
    have NB121_110 := nbg_ BK110 hg rfl
    have NB111_121 := nbl_ BK111 hg rfl
    have NB121_111 := nbg_ BK111 hg rfl
    have NB101_121 := Aside0.mk ((by rw [hg]; exact Nat.ne_of_lt (IsS25.lt HI101.out) : gb101 ≠ gb121))
    have NB121_101 := Aside0.mk ((by rw [hg]; exact Nat.ne_of_gt (IsS25.lt HI101.out) : gb121 ≠ gb101))
    replace HI101 := Aside0.mk (IsS25.below (by exact HI101.out) hb)
    replace BK110 := bkb_ BK110 hb rfl
    replace BK111 := bkb_ BK111 hb rfl
    replace HB := Aside0.mk (below_step (by exact HB.out) hb)
    clear hb hbox hg
    refine hK.out _ _ ⟨bc_ BK110 0 rfl, bc_ BK110 1 rfl, bc_ BK110 2 rfl, bc_ BK111 0 rfl, bc_ BK111 1 rfl, bc_ BK111 2 rfl⟩ (fun hHeld => ?_)
    clear hK K
    refine nq_ 11 ?_
    exact norm_ (by simp only [putAll, Act.put, List.setIfInBounds_toArray, List.set_cons_zero, List.set_cons_succ]; try rfl) (hJ2_7 (gb121) _ ⟨hHeld, BK110.out, BK111.out, BK121.out, GW121.out, GE121.out, NB101_121.out, NB121_101.out, NB110_121.out, NB121_110.out, NB111_121.out, NB121_111.out, HI101.out, HB.out⟩)
  rintro ⟨gb120, gb121⟩ w27 ⟨hS_, h0_, h1_, h2_, h3_, h4_, h5_, h6_, h7_, h8_, h9_, h10_, h11_, h12_, h13_, h14_, h15_, h16_, h17_, h18_, h19_, h20_, h21_, h22_, h23_⟩
  have BK120 : Aside0 (w27.heap[gb120]? = some (.cells #[.int .i64 0, .int .i64 0, .bool false] 56 (0, 0))) := ⟨h2_⟩
  have BK121 : Aside0 (w27.heap[gb121]? = some (.cells #[.int .i64 0, .int .i64 0, .bool false] 56 (0, 0))) := ⟨h3_⟩
  have GW120 : Aside0 (w.heap.size ≤ gb120) := ⟨h4_⟩
  have GE120 : Aside0 (w.heap.size ≤ gb120) := ⟨h5_⟩
  have NB101_120 : Aside0 (gb101 ≠ gb120) := ⟨h6_⟩
  have NB120_101 : Aside0 (gb120 ≠ gb101) := ⟨h7_⟩
  have NB110_120 : Aside0 (gb110 ≠ gb120) := ⟨h8_⟩
  have NB120_110 : Aside0 (gb120 ≠ gb110) := ⟨h9_⟩
  have NB111_120 : Aside0 (gb111 ≠ gb120) := ⟨h10_⟩
  have NB120_111 : Aside0 (gb120 ≠ gb111) := ⟨h11_⟩
  have NB121_120 : Aside0 (gb121 ≠ gb120) := ⟨h12_⟩
  have NB120_121 : Aside0 (gb120 ≠ gb121) := ⟨h13_⟩
  have GW121 : Aside0 (w.heap.size ≤ gb121) := ⟨h14_⟩
  have GE121 : Aside0 (w.heap.size ≤ gb121) := ⟨h15_⟩
  have NB101_121 : Aside0 (gb101 ≠ gb121) := ⟨h16_⟩
  have NB121_101 : Aside0 (gb121 ≠ gb101) := ⟨h17_⟩
  have NB110_121 : Aside0 (gb110 ≠ gb121) := ⟨h18_⟩
  have NB121_110 : Aside0 (gb121 ≠ gb110) := ⟨h19_⟩
  have NB111_121 : Aside0 (gb111 ≠ gb121) := ⟨h20_⟩
  have NB121_111 : Aside0 (gb121 ≠ gb111) := ⟨h21_⟩
  replace BK110 : Aside0 (w27.heap[gb110]? = some (.cells #[.int .i64 t102, .int .i64 t103, .bool t104] 56 (0, 0))) := ⟨h0_⟩
  replace BK111 : Aside0 (w27.heap[gb111]? = some (.cells #[.int .i64 t106, .int .i64 t107, .bool t108] 56 (0, 0))) := ⟨h1_⟩
  replace HI101 : Aside0 (IsS25 w w27 gb101 l0 t119) := ⟨h22_⟩
  replace HB : Aside0 (Below w.heap.size w w27) := ⟨h23_⟩
  clear h0_ h1_ h2_ h3_ h4_ h5_ h6_ h7_ h8_ h9_ h10_ h11_ h12_ h13_ h14_ h15_ h16_ h17_ h18_ h19_ h20_ h21_ h22_ h23_
  have hHeld : w27.cell? ⟨gb110, 0, none⟩ = some (.int .i64 t102) ∧ w27.cell? ⟨gb110, 1, none⟩ = some (.int .i64 t103) ∧ w27.cell? ⟨gb110, 2, none⟩ = some (.bool t104) ∧ w27.cell? ⟨gb111, 0, none⟩ = some (.int .i64 t106) ∧ w27.cell? ⟨gb111, 1, none⟩ = some (.int .i64 t107) ∧ w27.cell? ⟨gb111, 2, none⟩ = some (.bool t108) := hS_
  refine norm_ (a' := ?_) ?_ ?_
  rotate_left
  · simp only [putAll, Act.put, List.setIfInBounds_toArray, List.set_cons_zero, List.set_cons_succ]
    rfl
  refine oq_ 8 none (bm_ [9, 1]) HT_ (fun K hK => ?_)
  have hs28 : w27.cell? ⟨gb120, 0, none⟩ = some (.int .i64 0) := bc_ BK120 0 rfl
  have hfs28 := blk_frozen BK120.out 0
  have hns28_0 := NB110_120.out
  have hns28_1 := NB111_120.out
  have hns28_3 := NB121_120.out
  have hms28_0 := NB120_110.out
  have hms28_1 := NB120_111.out
  have hms28_3 := NB120_121.out
  have hs29 : w27.cell? ⟨gb120, 1, none⟩ = some (.int .i64 0) := bc_ BK120 1 rfl
  have hfs29 := blk_frozen BK120.out 1
  have hns29_0 := NB110_120.out
  have hns29_1 := NB111_120.out
  have hns29_3 := NB121_120.out
  have hms29_0 := NB120_110.out
  have hms29_1 := NB120_111.out
  have hms29_3 := NB120_121.out
  have hs30 : w27.cell? ⟨gb120, 2, none⟩ = some (.bool false) := bc_ BK120 2 rfl
  have hfs30 := blk_frozen BK120.out 2
  have hns30_0 := NB110_120.out
  have hns30_1 := NB111_120.out
  have hns30_3 := NB121_120.out
  have hms30_0 := NB120_110.out
  have hms30_1 := NB120_111.out
  have hms30_3 := NB120_121.out
  refine skip_ (w1 := ?_) (by rfl) rfl ?_ ?_
  rotate_left
  · go_simp
    rfl
  refine hK.out _ _ ⟨((cell_far (p := ⟨gb120, _, none⟩) NB110_120.out _).trans (((cell_far (p := ⟨gb120, _, none⟩) NB110_120.out _).trans (((cell_far (p := ⟨gb120, _, none⟩) NB110_120.out _).trans (hHeld.1)))))), ((cell_far (p := ⟨gb120, _, none⟩) NB110_120.out _).trans (((cell_far (p := ⟨gb120, _, none⟩) NB110_120.out _).trans (((cell_far (p := ⟨gb120, _, none⟩) NB110_120.out _).trans (hHeld.2.1)))))), ((cell_far (p := ⟨gb120, _, none⟩) NB110_120.out _).trans (((cell_far (p := ⟨gb120, _, none⟩) NB110_120.out _).trans (((cell_far (p := ⟨gb120, _, none⟩) NB110_120.out _).trans (hHeld.2.2.1)))))), ((cell_far (p := ⟨gb120, _, none⟩) NB111_120.out _).trans (((cell_far (p := ⟨gb120, _, none⟩) NB111_120.out _).trans (((cell_far (p := ⟨gb120, _, none⟩) NB111_120.out _).trans (hHeld.2.2.2.1)))))), ((cell_far (p := ⟨gb120, _, none⟩) NB111_120.out _).trans (((cell_far (p := ⟨gb120, _, none⟩) NB111_120.out _).trans (((cell_far (p := ⟨gb120, _, none⟩) NB111_120.out _).trans (hHeld.2.2.2.2.1)))))), ((cell_far (p := ⟨gb120, _, none⟩) NB111_120.out _).trans (((cell_far (p := ⟨gb120, _, none⟩) NB111_120.out _).trans (((cell_far (p := ⟨gb120, _, none⟩) NB111_120.out _).trans (hHeld.2.2.2.2.2))))))⟩ (fun hHeld => ?_)
  clear hK K
  refine oq_ 9 none (bm_ [10]) HT_ (fun K hK => ?_)
  have hs31 : w27.cell? ⟨gb121, 0, none⟩ = some (.int .i64 0) := bc_ BK121 0 rfl
  have hfs31 := blk_frozen BK121.out 0
  have hns31_0 := NB110_121.out
  have hns31_1 := NB111_121.out
  have hns31_2 := NB120_121.out
  have hms31_0 := NB121_110.out
  have hms31_1 := NB121_111.out
  have hms31_2 := NB121_120.out
  have hs32 : w27.cell? ⟨gb121, 1, none⟩ = some (.int .i64 0) := bc_ BK121 1 rfl
  have hfs32 := blk_frozen BK121.out 1
  have hns32_0 := NB110_121.out
  have hns32_1 := NB111_121.out
  have hns32_2 := NB120_121.out
  have hms32_0 := NB121_110.out
  have hms32_1 := NB121_111.out
  have hms32_2 := NB121_120.out
  have hs33 : w27.cell? ⟨gb121, 2, none⟩ = some (.bool false) := bc_ BK121 2 rfl
  have hfs33 := blk_frozen BK121.out 2
  have hns33_0 := NB110_121.out
  have hns33_1 := NB111_121.out
  have hns33_2 := NB120_121.out
  have hms33_0 := NB121_110.out
  have hms33_1 := NB121_111.out
  have hms33_2 := NB121_120.out
  refine skip_ (w1 := ?_) (by rfl) rfl ?_ ?_
  rotate_left
  · go_simp
    rfl
  refine hK.out _ _ ⟨((cell_far (p := ⟨gb121, _, none⟩) NB110_121.out _).trans (((cell_far (p := ⟨gb121, _, none⟩) NB110_121.out _).trans (((cell_far (p := ⟨gb121, _, none⟩) NB110_121.out _).trans (hHeld.1)))))), ((cell_far (p := ⟨gb121, _, none⟩) NB110_121.out _).trans (((cell_far (p := ⟨gb121, _, none⟩) NB110_121.out _).trans (((cell_far (p := ⟨gb121, _, none⟩) NB110_121.out _).trans (hHeld.2.1)))))), ((cell_far (p := ⟨gb121, _, none⟩) NB110_121.out _).trans (((cell_far (p := ⟨gb121, _, none⟩) NB110_121.out _).trans (((cell_far (p := ⟨gb121, _, none⟩) NB110_121.out _).trans (hHeld.2.2.1)))))), ((cell_far (p := ⟨gb121, _, none⟩) NB111_121.out _).trans (((cell_far (p := ⟨gb121, _, none⟩) NB111_121.out _).trans (((cell_far (p := ⟨gb121, _, none⟩) NB111_121.out _).trans (hHeld.2.2.2.1)))))), ((cell_far (p := ⟨gb121, _, none⟩) NB111_121.out _).trans (((cell_far (p := ⟨gb121, _, none⟩) NB111_121.out _).trans (((cell_far (p := ⟨gb121, _, none⟩) NB111_121.out _).trans (hHeld.2.2.2.2.1)))))), ((cell_far (p := ⟨gb121, _, none⟩) NB111_121.out _).trans (((cell_far (p := ⟨gb121, _, none⟩) NB111_121.out _).trans (((cell_far (p := ⟨gb121, _, none⟩) NB111_121.out _).trans (hHeld.2.2.2.2.2))))))⟩ (fun hHeld => ?_)
  clear hK K
  refine done_ (done_of HT_.out (by kernel_rfl)) ?_
  go_upto_region 7 with (first | ((with_reducible refine gate_callee (f := 21) rfl ?_); refine glq_ (some 33) Try.func21 #[.int .i64 a2, .int .i64 1000] ?_; (with_reducible refine (spymake_Below.calls a2 1000 t122 _ A8.out).mono ?_); rintro e w' ⟨rfl, ⟨nd, rfl⟩⟩; refine ⟨_, rfl, ?_⟩) | ((with_reducible refine gate_callee (f := 21) rfl ?_); refine glq_ (some 36) Try.func21 #[.int .i64 a1, .int .i64 2001] ?_; (with_reducible refine (spymake_Below.calls a1 2001 t123 _ A9.out).mono ?_); rintro e w' ⟨rfl, ⟨nd, rfl⟩⟩; refine ⟨_, rfl, ?_⟩))
  (try simp only [Act.put, List.setIfInBounds_toArray, List.set_cons_zero, List.set_cons_succ])
  go_cut [53] (fun v53 wc => ∃ (kq : Nat) (x53_9 : Bool), v53 = .bool x53_9 ∧ Aside0 (spykeep1_BoundIsotone.j0 kq (wrap64 (1 + t122)) (wrap64 (t123 - 1000)) x53_9 t102 t103 t104 t106 t107 t108 t112 t113 t114 t116 t117 t118 = some r) ∧ Aside0 (kq ≤ k) ∧ Aside0 (wc.heap[gb110]? = some (.cells #[.int .i64 t102, .int .i64 t103, .bool t104] 56 (0, 0))) ∧ Aside0 (wc.heap[gb111]? = some (.cells #[.int .i64 t106, .int .i64 t107, .bool t108] 56 (0, 0))) ∧ Aside0 (wc.heap[gb120]? = some (.cells #[.int .i64 t112, .int .i64 t113, .bool t114] 56 (0, 0))) ∧ Aside0 (wc.heap[gb121]? = some (.cells #[.int .i64 t116, .int .i64 t117, .bool t118] 56 (0, 0))) ∧ Aside0 (Below w.heap.size w wc))
  case first => as_aux_lemma =>
   have H := HC10.out
   clear HC10
   replace H := Option.bind_eq_some_iff.mp H
   obtain ⟨t124, A340, H⟩ := H
   try dsimp -simprocs only at H
   have A34 := Aside0.mk A340
   clear A340
   by_cases c35 : t124 = true
   rotate_left
   · replace c35 := Bool.eq_false_iff.mpr c35
     subst c35
     rw [if_neg (show ¬ (false = true) by decide)] at H
     exact absurd H (by simp)
   subst c35
   rw [if_pos rfl] at H
   replace H := Option.bind_eq_some_iff.mp H
   obtain ⟨t125, A360, H⟩ := H
   try dsimp -simprocs only at H
   have A36 := Aside0.mk A360
   clear A360
   by_cases c37 : t125 = true
   · subst c37
     rw [if_pos rfl] at H
     replace H := Option.bind_eq_some_iff.mp H
     obtain ⟨t126, A380, H⟩ := H
     try dsimp -simprocs only at H
     have A38 := Aside0.mk A380
     clear A380
     have H' := Aside0.mk H
     clear H
     go_wp2_with (first | ((with_reducible refine gate_callee (f := 25) rfl ?_); refine glq_ (some 38) Try.func25 #[] ?_; (with_reducible refine (spykeep1_boundFact.calls k  true _ A34.out).mono ?_); rintro e w39 ⟨rfl, hb⟩; refine ⟨_, rfl, ?_⟩; have n0_ := Aside0.mk (by first | exact IsS25.below (show IsS25 w ((((((w27.setCell ⟨gb120, 0, none⟩ (.int .i64 t112)).setCell ⟨gb120, 1, none⟩ (.int .i64 t113)).setCell ⟨gb120, 2, none⟩ (.bool t114)).setCell ⟨gb121, 0, none⟩ (.int .i64 t116)).setCell ⟨gb121, 1, none⟩ (.int .i64 t117)).setCell ⟨gb121, 2, none⟩ (.bool t118)) gb101 l0 t119 from by repeat (first | (with_reducible first | exact HI101.out | apply IsS25.alloc | apply IsS25.drewN | apply IsS25.drew | apply IsS25.set_1 | refine IsS25.far ?_ NB101_110.out _ | refine IsS25.far ?_ NB101_111.out _ | refine IsS25.far ?_ NB101_120.out _ | refine IsS25.far ?_ NB101_121.out _) | exact HI101.out)) hb | exact IsS25.below (show IsS25 w (World.drewN ((((((w27.setCell ⟨gb120, 0, none⟩ (.int .i64 t112)).setCell ⟨gb120, 1, none⟩ (.int .i64 t113)).setCell ⟨gb120, 2, none⟩ (.bool t114)).setCell ⟨gb121, 0, none⟩ (.int .i64 t116)).setCell ⟨gb121, 1, none⟩ (.int .i64 t117)).setCell ⟨gb121, 2, none⟩ (.bool t118)) _) gb101 l0 t119 from by repeat (first | (with_reducible first | exact HI101.out | apply IsS25.alloc | apply IsS25.drewN | apply IsS25.drew | apply IsS25.set_1 | refine IsS25.far ?_ NB101_110.out _ | refine IsS25.far ?_ NB101_111.out _ | refine IsS25.far ?_ NB101_120.out _ | refine IsS25.far ?_ NB101_121.out _) | exact HI101.out)) hb); have n1_ := Aside0.mk (blk_below (g := gb110) (o := .cells #[.int .i64 t102, .int .i64 t103, .bool t104] 56 (0, 0)) (by (with_reducible repeat (first | refine blk_drewN ?_ _ | refine blk_drew ?_ | refine blk_alloc ?_ _)); refine blk_far ?_ NB110_121.out _; (with_reducible repeat (first | refine blk_drewN ?_ _ | refine blk_drew ?_ | refine blk_alloc ?_ _)); refine blk_far ?_ NB110_121.out _; (with_reducible repeat (first | refine blk_drewN ?_ _ | refine blk_drew ?_ | refine blk_alloc ?_ _)); refine blk_far ?_ NB110_121.out _; (with_reducible repeat (first | refine blk_drewN ?_ _ | refine blk_drew ?_ | refine blk_alloc ?_ _)); refine blk_far ?_ NB110_120.out _; (with_reducible repeat (first | refine blk_drewN ?_ _ | refine blk_drew ?_ | refine blk_alloc ?_ _)); refine blk_far ?_ NB110_120.out _; (with_reducible repeat (first | refine blk_drewN ?_ _ | refine blk_drew ?_ | refine blk_alloc ?_ _)); refine blk_far ?_ NB110_120.out _; (with_reducible repeat (first | refine blk_drewN ?_ _ | refine blk_drew ?_ | refine blk_alloc ?_ _)); exact BK110.out) hb); have n2_ := Aside0.mk (blk_below (g := gb111) (o := .cells #[.int .i64 t106, .int .i64 t107, .bool t108] 56 (0, 0)) (by (with_reducible repeat (first | refine blk_drewN ?_ _ | refine blk_drew ?_ | refine blk_alloc ?_ _)); refine blk_far ?_ NB111_121.out _; (with_reducible repeat (first | refine blk_drewN ?_ _ | refine blk_drew ?_ | refine blk_alloc ?_ _)); refine blk_far ?_ NB111_121.out _; (with_reducible repeat (first | refine blk_drewN ?_ _ | refine blk_drew ?_ | refine blk_alloc ?_ _)); refine blk_far ?_ NB111_121.out _; (with_reducible repeat (first | refine blk_drewN ?_ _ | refine blk_drew ?_ | refine blk_alloc ?_ _)); refine blk_far ?_ NB111_120.out _; (with_reducible repeat (first | refine blk_drewN ?_ _ | refine blk_drew ?_ | refine blk_alloc ?_ _)); refine blk_far ?_ NB111_120.out _; (with_reducible repeat (first | refine blk_drewN ?_ _ | refine blk_drew ?_ | refine blk_alloc ?_ _)); refine blk_far ?_ NB111_120.out _; (with_reducible repeat (first | refine blk_drewN ?_ _ | refine blk_drew ?_ | refine blk_alloc ?_ _)); exact BK111.out) hb); have n3_ := Aside0.mk (blk_below (g := gb120) (o := .cells #[.int .i64 t112, .int .i64 t113, .bool t114] 56 (0, 0)) (by (with_reducible repeat (first | refine blk_drewN ?_ _ | refine blk_drew ?_ | refine blk_alloc ?_ _)); refine blk_far ?_ NB120_121.out _; (with_reducible repeat (first | refine blk_drewN ?_ _ | refine blk_drew ?_ | refine blk_alloc ?_ _)); refine blk_far ?_ NB120_121.out _; (with_reducible repeat (first | refine blk_drewN ?_ _ | refine blk_drew ?_ | refine blk_alloc ?_ _)); refine blk_far ?_ NB120_121.out _; (with_reducible repeat (first | refine blk_drewN ?_ _ | refine blk_drew ?_ | refine blk_alloc ?_ _)); refine blk_put (cs := #[.int .i64 t112, .int .i64 t113, .bool false]) ?_ 2 _ rfl; (with_reducible repeat (first | refine blk_drewN ?_ _ | refine blk_drew ?_ | refine blk_alloc ?_ _)); refine blk_put (cs := #[.int .i64 t112, .int .i64 0, .bool false]) ?_ 1 _ rfl; (with_reducible repeat (first | refine blk_drewN ?_ _ | refine blk_drew ?_ | refine blk_alloc ?_ _)); refine blk_put (cs := #[.int .i64 0, .int .i64 0, .bool false]) ?_ 0 _ rfl; (with_reducible repeat (first | refine blk_drewN ?_ _ | refine blk_drew ?_ | refine blk_alloc ?_ _)); exact BK120.out) hb); have n4_ := Aside0.mk (blk_below (g := gb121) (o := .cells #[.int .i64 t116, .int .i64 t117, .bool t118] 56 (0, 0)) (by (with_reducible repeat (first | refine blk_drewN ?_ _ | refine blk_drew ?_ | refine blk_alloc ?_ _)); refine blk_put (cs := #[.int .i64 t116, .int .i64 t117, .bool false]) ?_ 2 _ rfl; (with_reducible repeat (first | refine blk_drewN ?_ _ | refine blk_drew ?_ | refine blk_alloc ?_ _)); refine blk_put (cs := #[.int .i64 t116, .int .i64 0, .bool false]) ?_ 1 _ rfl; (with_reducible repeat (first | refine blk_drewN ?_ _ | refine blk_drew ?_ | refine blk_alloc ?_ _)); refine blk_put (cs := #[.int .i64 0, .int .i64 0, .bool false]) ?_ 0 _ rfl; (with_reducible repeat (first | refine blk_drewN ?_ _ | refine blk_drew ?_ | refine blk_alloc ?_ _)); refine blk_far ?_ NB121_120.out _; (with_reducible repeat (first | refine blk_drewN ?_ _ | refine blk_drew ?_ | refine blk_alloc ?_ _)); refine blk_far ?_ NB121_120.out _; (with_reducible repeat (first | refine blk_drewN ?_ _ | refine blk_drew ?_ | refine blk_alloc ?_ _)); refine blk_far ?_ NB121_120.out _; (with_reducible repeat (first | refine blk_drewN ?_ _ | refine blk_drew ?_ | refine blk_alloc ?_ _)); exact BK121.out) hb); have n5_ := Aside0.mk (below_step (by repeat (first | (with_reducible first | exact HB.out | apply below_alloc | apply pw_below_drewN | apply below_drew1 | refine below_set ?_ (IsS25.ge HI101.out) | refine below_set ?_ GE110.out | refine below_set ?_ GE111.out | refine below_set ?_ GE120.out | refine below_set ?_ GE121.out) | exact HB.out)) hb); clear HI101; clear BK110; clear BK111; clear BK120; clear BK121; clear HB; have HI101 := n0_; have BK110 := n1_; have BK111 := n2_; have BK120 := n3_; have BK121 := n4_; have HB := n5_; clear n0_ n1_ n2_ n3_ n4_ n5_; (try clear hb); have hnb40 := NB120_110.out; have hnc40 := NB110_120.out; have hnb41 := NB120_111.out; have hnc41 := NB111_120.out; have hnb42 := NB120_121.out; have hnc42 := NB121_120.out; have hnb43 := NB120_101.out; have hnc43 := NB101_120.out; have hcz44_0 := bc_ BK120 0 rfl; have hcz44_1 := bc_ BK120 1 rfl; have hcz44_2 := bc_ BK120 2 rfl; have hfz44_0 := blk_frozen BK120.out 0; have hfz44_1 := blk_frozen BK120.out 1; have hfz44_2 := blk_frozen BK120.out 2; have hnb45 := NB110_111.out; have hnc45 := NB111_110.out; have hnb46 := NB110_121.out; have hnc46 := NB121_110.out; have hnb47 := NB110_101.out; have hnc47 := NB101_110.out; have hcz48_0 := bc_ BK110 0 rfl; have hcz48_1 := bc_ BK110 1 rfl; have hcz48_2 := bc_ BK110 2 rfl; have hfz48_0 := blk_frozen BK110.out 0; have hfz48_1 := blk_frozen BK110.out 1; have hfz48_2 := blk_frozen BK110.out 2) | (go_at_call 30; (with_reducible refine (bound_Inside_api_Fix.calls k t112 t113 t114 t102 t103 t104 true _ A36.out).mono ?_); rintro e w49 ⟨rfl, hb⟩; have n0_ := Aside0.mk (IsS25.below (by repeat (first | (with_reducible first | exact HI101.out | apply IsS25.alloc | apply IsS25.drewN | apply IsS25.drew | apply IsS25.set_1 | refine IsS25.far ?_ NB101_110.out _ | refine IsS25.far ?_ NB101_111.out _ | refine IsS25.far ?_ NB101_120.out _ | refine IsS25.far ?_ NB101_121.out _) | exact HI101.out)) hb); have n1_ := bkb_ BK110 hb rfl; have n2_ := bkb_ BK111 hb rfl; have n3_ := bkb_ BK120 hb rfl; have n4_ := bkb_ BK121 hb rfl; have n5_ := Aside0.mk (below_step (by repeat (first | (with_reducible first | exact HB.out | apply below_alloc | apply pw_below_drewN | apply below_drew1 | refine below_set ?_ (IsS25.ge HI101.out) | refine below_set ?_ GE110.out | refine below_set ?_ GE111.out | refine below_set ?_ GE120.out | refine below_set ?_ GE121.out) | exact HB.out)) hb); clear HI101; clear BK110; clear BK111; clear BK120; clear BK121; clear HB; have HI101 := n0_; have BK110 := n1_; have BK111 := n2_; have BK120 := n3_; have BK121 := n4_; have HB := n5_; clear n0_ n1_ n2_ n3_ n4_ n5_; (try clear hb); have hnb50 := NB121_111.out; have hnc50 := NB111_121.out; have hnb51 := NB121_101.out; have hnc51 := NB101_121.out; have hcz52_0 := bc_ BK121 0 rfl; have hcz52_1 := bc_ BK121 1 rfl; have hcz52_2 := bc_ BK121 2 rfl; have hfz52_0 := blk_frozen BK121.out 0; have hfz52_1 := blk_frozen BK121.out 1; have hfz52_2 := blk_frozen BK121.out 2; have hnb53 := NB111_101.out; have hnc53 := NB101_111.out; have hcz54_0 := bc_ BK111 0 rfl; have hcz54_1 := bc_ BK111 1 rfl; have hcz54_2 := bc_ BK111 2 rfl; have hfz54_0 := blk_frozen BK111.out 0; have hfz54_1 := blk_frozen BK111.out 1; have hfz54_2 := blk_frozen BK111.out 2) | (go_at_call 30; (with_reducible refine (bound_Inside_api_Fix.calls k t116 t117 t118 t106 t107 t108 t126 _ A38.out).mono ?_); rintro e w55 ⟨rfl, hb⟩; have n0_ := Aside0.mk (IsS25.below (by repeat (first | (with_reducible first | exact HI101.out | apply IsS25.alloc | apply IsS25.drewN | apply IsS25.drew | apply IsS25.set_1 | refine IsS25.far ?_ NB101_110.out _ | refine IsS25.far ?_ NB101_111.out _ | refine IsS25.far ?_ NB101_120.out _ | refine IsS25.far ?_ NB101_121.out _) | exact HI101.out)) hb); have n1_ := bkb_ BK110 hb rfl; have n2_ := bkb_ BK111 hb rfl; have n3_ := bkb_ BK120 hb rfl; have n4_ := bkb_ BK121 hb rfl; have n5_ := Aside0.mk (below_step (by repeat (first | (with_reducible first | exact HB.out | apply below_alloc | apply pw_below_drewN | apply below_drew1 | refine below_set ?_ (IsS25.ge HI101.out) | refine below_set ?_ GE110.out | refine below_set ?_ GE111.out | refine below_set ?_ GE120.out | refine below_set ?_ GE121.out) | exact HB.out)) hb); clear HI101; clear BK110; clear BK111; clear BK120; clear BK121; clear HB; have HI101 := n0_; have BK110 := n1_; have BK111 := n2_; have BK120 := n3_; have BK121 := n4_; have HB := n5_; clear n0_ n1_ n2_ n3_ n4_ n5_; (try clear hb)))
     go_meet
     case rel => exact ⟨_, (!t126), (by first | rfl | (simp; done) | (simp [*]; done)), H', ⟨by first | omega | exact Nat.le_refl _⟩, ⟨by (with_reducible repeat (first | refine blk_drewN ?_ _ | refine blk_drew ?_ | refine blk_alloc ?_ _)); exact BK110.out⟩, ⟨by (with_reducible repeat (first | refine blk_drewN ?_ _ | refine blk_drew ?_ | refine blk_alloc ?_ _)); exact BK111.out⟩, ⟨by (with_reducible repeat (first | refine blk_drewN ?_ _ | refine blk_drew ?_ | refine blk_alloc ?_ _)); exact BK120.out⟩, ⟨by (with_reducible repeat (first | refine blk_drewN ?_ _ | refine blk_drew ?_ | refine blk_alloc ?_ _)); exact BK121.out⟩, ⟨by repeat (first | (with_reducible first | exact HB.out | apply below_alloc | apply pw_below_drewN | apply below_drew1 | refine below_set ?_ (IsS25.ge HI101.out) | refine below_set ?_ GE110.out | refine below_set ?_ GE111.out | refine below_set ?_ GE120.out | refine below_set ?_ GE121.out) | exact HB.out)⟩⟩
   replace c37 := Bool.eq_false_iff.mpr c37
   subst c37
   rw [if_neg (show ¬ (false = true) by decide)] at H
   exact absurd H (by simp)
  case rest => as_aux_lemma =>
   clear HC10
   obtain ⟨kq, x53_9, rfl, HA, HJ9, BK110, BK111, BK120, BK121, HB⟩ := hcut
   cases kq with
   | zero => exact absurd HA.out (by simp [spykeep1_BoundIsotone.j0])
   | succ kj9 =>
    have H := HA.out
    clear HA
    simp only [spykeep1_BoundIsotone.j0] at H
    by_cases c56 : x53_9 = true
    · subst c56
      rw [if_pos rfl] at H
      exact absurd H (by simp)
    replace c56 := Bool.eq_false_iff.mpr c56
    subst c56
    rw [if_neg (show ¬ (false = true) by decide)] at H
    replace H := Option.bind_eq_some_iff.mp H
    obtain ⟨⟨t127, t128, t129, t130⟩, A570, H⟩ := H
    try dsimp -simprocs only at H
    have A57 := Aside0.mk A570
    clear A570
    replace H := Option.bind_eq_some_iff.mp H
    obtain ⟨⟨t132, t133, t134, t135⟩, A580, H⟩ := H
    try dsimp -simprocs only at H
    have A58 := Aside0.mk A580
    clear A580
    have HC59 := Aside0.mk H
    clear H
    have hnb60 := NB120_110.out
    have hnc60 := NB110_120.out
    have hnb61 := NB120_111.out
    have hnc61 := NB111_120.out
    have hnb62 := NB120_121.out
    have hnc62 := NB121_120.out
    have hcz63_0 := bc_ BK120 0 rfl
    have hcz63_1 := bc_ BK120 1 rfl
    have hcz63_2 := bc_ BK120 2 rfl
    have hfz63_0 := blk_frozen BK120.out 0
    have hfz63_1 := blk_frozen BK120.out 1
    have hfz63_2 := blk_frozen BK120.out 2
    have hnb64 := NB121_110.out
    have hnc64 := NB110_121.out
    have hnb65 := NB121_111.out
    have hnc65 := NB111_121.out
    have hcz66_0 := bc_ BK121 0 rfl
    have hcz66_1 := bc_ BK121 1 rfl
    have hcz66_2 := bc_ BK121 2 rfl
    have hfz66_0 := blk_frozen BK121.out 0
    have hfz66_1 := blk_frozen BK121.out 1
    have hfz66_2 := blk_frozen BK121.out 2
    go_upto_region 11 with (first | ((with_reducible refine gate_callee (f := 33) rfl ?_); refine glq_ (some 57) Try.func33 #[.agg #[.int .i64 t112, .int .i64 t113, .bool t114], .agg #[.int .i64 t116, .int .i64 t117, .bool t118]] ?_; (with_reducible refine (bound_Meet_api_Fix.calls kj9 t112 t113 t114 t116 t117 t118 t127 t128 t129 t130 _ A57.out).mono ?_); rintro e w67 ⟨rfl, hb⟩; refine ⟨_, rfl, ?_⟩; replace BK110 := bkb_ BK110 hb rfl; replace BK111 := bkb_ BK111 hb rfl; replace BK120 := bkb_ BK120 hb rfl; replace BK121 := bkb_ BK121 hb rfl; replace HB := hbs_ HB hb rfl rfl rfl rfl; (try clear hb)) | ((with_reducible refine gate_dst (N := 15) rfl ?_); refine bxq_ 15 #[.int .i64 0, .int .i64 0, .bool false] 56 ?_; intro gb131 hg w68 hbox hb; have BK131 := Aside0.mk (hbox); have GW131 := gwq_ HB hg rfl; have GE131 := GW131; have NB110_131 := nbl_ BK110 hg rfl; have NB131_110 := nbg_ BK110 hg rfl; have NB111_131 := nbl_ BK111 hg rfl; have NB131_111 := nbg_ BK111 hg rfl; have NB120_131 := nbl_ BK120 hg rfl; have NB131_120 := nbg_ BK120 hg rfl; have NB121_131 := nbl_ BK121 hg rfl; have NB131_121 := nbg_ BK121 hg rfl; replace BK110 := bkb_ BK110 hb rfl; replace BK111 := bkb_ BK111 hb rfl; replace BK120 := bkb_ BK120 hb rfl; replace BK121 := bkb_ BK121 hb rfl; replace HB := hbs_ HB hb rfl rfl rfl rfl; clear hb hbox hg; have hnb69 := NB131_110.out; have hnc69 := NB110_131.out; have hnb70 := NB131_111.out; have hnc70 := NB111_131.out; have hnb71 := NB131_120.out; have hnc71 := NB120_131.out; have hnb72 := NB131_121.out; have hnc72 := NB121_131.out; have hcz73_0 := bc_ BK131 0 rfl; have hcz73_1 := bc_ BK131 1 rfl; have hcz73_2 := bc_ BK131 2 rfl; have hfz73_0 := blk_frozen BK131.out 0; have hfz73_1 := blk_frozen BK131.out 1; have hfz73_2 := blk_frozen BK131.out 2; have hnb74 := NB110_111.out; have hnc74 := NB111_110.out; have hcz75_0 := bc_ BK110 0 rfl; have hcz75_1 := bc_ BK110 1 rfl; have hcz75_2 := bc_ BK110 2 rfl; have hfz75_0 := blk_frozen BK110.out 0; have hfz75_1 := blk_frozen BK110.out 1; have hfz75_2 := blk_frozen BK110.out 2; have hcz76_0 := bc_ BK111 0 rfl; have hcz76_1 := bc_ BK111 1 rfl; have hcz76_2 := bc_ BK111 2 rfl; have hfz76_0 := blk_frozen BK111.out 0; have hfz76_1 := blk_frozen BK111.out 1; have hfz76_2 := blk_frozen BK111.out 2) | ((with_reducible refine gate_callee (f := 33) rfl ?_); refine glq_ (some 63) Try.func33 #[.agg #[.int .i64 t102, .int .i64 t103, .bool t104], .agg #[.int .i64 t106, .int .i64 t107, .bool t108]] ?_; (with_reducible refine (bound_Meet_api_Fix.calls kj9 t102 t103 t104 t106 t107 t108 t132 t133 t134 t135 _ A58.out).mono ?_); rintro e w77 ⟨rfl, hb⟩; refine ⟨_, rfl, ?_⟩; replace BK110 := Aside0.mk (blk_below (g := gb110) (o := .cells #[.int .i64 t102, .int .i64 t103, .bool t104] 56 (0, 0)) (by (with_reducible repeat (first | refine blk_drewN ?_ _ | refine blk_drew ?_ | refine blk_alloc ?_ _)); refine blk_far ?_ NB110_131.out _; (with_reducible repeat (first | refine blk_drewN ?_ _ | refine blk_drew ?_ | refine blk_alloc ?_ _)); refine blk_far ?_ NB110_131.out _; (with_reducible repeat (first | refine blk_drewN ?_ _ | refine blk_drew ?_ | refine blk_alloc ?_ _)); refine blk_far ?_ NB110_131.out _; (with_reducible repeat (first | refine blk_drewN ?_ _ | refine blk_drew ?_ | refine blk_alloc ?_ _)); exact BK110.out) hb); replace BK111 := Aside0.mk (blk_below (g := gb111) (o := .cells #[.int .i64 t106, .int .i64 t107, .bool t108] 56 (0, 0)) (by (with_reducible repeat (first | refine blk_drewN ?_ _ | refine blk_drew ?_ | refine blk_alloc ?_ _)); refine blk_far ?_ NB111_131.out _; (with_reducible repeat (first | refine blk_drewN ?_ _ | refine blk_drew ?_ | refine blk_alloc ?_ _)); refine blk_far ?_ NB111_131.out _; (with_reducible repeat (first | refine blk_drewN ?_ _ | refine blk_drew ?_ | refine blk_alloc ?_ _)); refine blk_far ?_ NB111_131.out _; (with_reducible repeat (first | refine blk_drewN ?_ _ | refine blk_drew ?_ | refine blk_alloc ?_ _)); exact BK111.out) hb); replace BK120 := Aside0.mk (blk_below (g := gb120) (o := .cells #[.int .i64 t112, .int .i64 t113, .bool t114] 56 (0, 0)) (by (with_reducible repeat (first | refine blk_drewN ?_ _ | refine blk_drew ?_ | refine blk_alloc ?_ _)); refine blk_far ?_ NB120_131.out _; (with_reducible repeat (first | refine blk_drewN ?_ _ | refine blk_drew ?_ | refine blk_alloc ?_ _)); refine blk_far ?_ NB120_131.out _; (with_reducible repeat (first | refine blk_drewN ?_ _ | refine blk_drew ?_ | refine blk_alloc ?_ _)); refine blk_far ?_ NB120_131.out _; (with_reducible repeat (first | refine blk_drewN ?_ _ | refine blk_drew ?_ | refine blk_alloc ?_ _)); exact BK120.out) hb); replace BK121 := Aside0.mk (blk_below (g := gb121) (o := .cells #[.int .i64 t116, .int .i64 t117, .bool t118] 56 (0, 0)) (by (with_reducible repeat (first | refine blk_drewN ?_ _ | refine blk_drew ?_ | refine blk_alloc ?_ _)); refine blk_far ?_ NB121_131.out _; (with_reducible repeat (first | refine blk_drewN ?_ _ | refine blk_drew ?_ | refine blk_alloc ?_ _)); refine blk_far ?_ NB121_131.out _; (with_reducible repeat (first | refine blk_drewN ?_ _ | refine blk_drew ?_ | refine blk_alloc ?_ _)); refine blk_far ?_ NB121_131.out _; (with_reducible repeat (first | refine blk_drewN ?_ _ | refine blk_drew ?_ | refine blk_alloc ?_ _)); exact BK121.out) hb); replace BK131 := Aside0.mk (blk_below (g := gb131) (o := .cells #[.int .i64 t127, .int .i64 t128, .bool t129] 56 (0, 0)) (by (with_reducible repeat (first | refine blk_drewN ?_ _ | refine blk_drew ?_ | refine blk_alloc ?_ _)); refine blk_put (cs := #[.int .i64 t127, .int .i64 t128, .bool false]) ?_ 2 _ rfl; (with_reducible repeat (first | refine blk_drewN ?_ _ | refine blk_drew ?_ | refine blk_alloc ?_ _)); refine blk_put (cs := #[.int .i64 t127, .int .i64 0, .bool false]) ?_ 1 _ rfl; (with_reducible repeat (first | refine blk_drewN ?_ _ | refine blk_drew ?_ | refine blk_alloc ?_ _)); refine blk_put (cs := #[.int .i64 0, .int .i64 0, .bool false]) ?_ 0 _ rfl; (with_reducible repeat (first | refine blk_drewN ?_ _ | refine blk_drew ?_ | refine blk_alloc ?_ _)); exact BK131.out) hb); replace HB := Aside0.mk (below_step (by repeat (first | (with_reducible first | exact HB.out | apply below_alloc | apply pw_below_drewN | apply below_drew1 | refine below_set ?_ GE110.out | refine below_set ?_ GE111.out | refine below_set ?_ GE120.out | refine below_set ?_ GE121.out | refine below_set ?_ GE131.out) | exact HB.out)) hb); (try clear hb)) | ((with_reducible refine gate_dst (N := 17) rfl ?_); refine bxq_ 17 #[.int .i64 0, .int .i64 0, .bool false] 56 ?_; intro gb136 hg w78 hbox hb; have BK136 := Aside0.mk (hbox); have GW136 := gwq_ HB hg rfl; have GE136 := GW136; have NB110_136 := nbl_ BK110 hg rfl; have NB136_110 := nbg_ BK110 hg rfl; have NB111_136 := nbl_ BK111 hg rfl; have NB136_111 := nbg_ BK111 hg rfl; have NB120_136 := nbl_ BK120 hg rfl; have NB136_120 := nbg_ BK120 hg rfl; have NB121_136 := nbl_ BK121 hg rfl; have NB136_121 := nbg_ BK121 hg rfl; have NB131_136 := nbl_ BK131 hg rfl; have NB136_131 := nbg_ BK131 hg rfl; replace BK110 := bkb_ BK110 hb rfl; replace BK111 := bkb_ BK111 hb rfl; replace BK120 := bkb_ BK120 hb rfl; replace BK121 := bkb_ BK121 hb rfl; replace BK131 := bkb_ BK131 hb rfl; replace HB := hbs_ HB hb rfl rfl rfl rfl; clear hb hbox hg; have hnb79 := NB136_110.out; have hnc79 := NB110_136.out; have hnb80 := NB136_111.out; have hnc80 := NB111_136.out; have hnb81 := NB136_120.out; have hnc81 := NB120_136.out; have hnb82 := NB136_121.out; have hnc82 := NB121_136.out; have hnb83 := NB136_131.out; have hnc83 := NB131_136.out; have hcz84_0 := bc_ BK136 0 rfl; have hcz84_1 := bc_ BK136 1 rfl; have hcz84_2 := bc_ BK136 2 rfl; have hfz84_0 := blk_frozen BK136.out 0; have hfz84_1 := blk_frozen BK136.out 1; have hfz84_2 := blk_frozen BK136.out 2))
    (try simp only [Act.put, List.setIfInBounds_toArray, List.set_cons_zero, List.set_cons_succ])
    go_cut [91] (fun v91 wc => ∃ (kq : Nat) (x91_58 : Bool), v91 = .bool x91_58 ∧ Aside0 (spykeep1_BoundIsotone.j1 kq (wrap64 (1 + t122)) (wrap64 (t123 - 1000)) x91_58 t102 t103 t104 t106 t107 t108 t112 t113 t114 t116 t117 t118 = some r) ∧ Aside0 (kq ≤ kj9) ∧ Aside0 (wc.heap[gb110]? = some (.cells #[.int .i64 t102, .int .i64 t103, .bool t104] 56 (0, 0))) ∧ Aside0 (wc.heap[gb111]? = some (.cells #[.int .i64 t106, .int .i64 t107, .bool t108] 56 (0, 0))) ∧ Aside0 (wc.heap[gb120]? = some (.cells #[.int .i64 t112, .int .i64 t113, .bool t114] 56 (0, 0))) ∧ Aside0 (wc.heap[gb121]? = some (.cells #[.int .i64 t116, .int .i64 t117, .bool t118] 56 (0, 0))) ∧ Aside0 (wc.heap[gb131]? = some (.cells #[.int .i64 t127, .int .i64 t128, .bool t129] 56 (0, 0))) ∧ Aside0 (wc.heap[gb136]? = some (.cells #[.int .i64 t132, .int .i64 t133, .bool t134] 56 (0, 0))) ∧ Aside0 (Below w.heap.size w wc))
    case first => as_aux_lemma =>
     have H := HC59.out
     clear HC59
     by_cases c85 : t130 = true
     rotate_left
     · replace c85 := Bool.eq_false_iff.mpr c85
       subst c85
       rw [if_neg (show ¬ (false = true) by decide)] at H
       have H' := Aside0.mk H
       clear H
       go_wp2
       go_meet
       case rel => exact ⟨_, (false), (by first | rfl | (simp; done) | (simp [*]; done)), H', ⟨by have := HJ9.out; first | omega | exact Nat.le_refl _⟩, ⟨by (with_reducible repeat (first | refine blk_drewN ?_ _ | refine blk_drew ?_ | refine blk_alloc ?_ _)); refine blk_far ?_ NB110_136.out _; (with_reducible repeat (first | refine blk_drewN ?_ _ | refine blk_drew ?_ | refine blk_alloc ?_ _)); refine blk_far ?_ NB110_136.out _; (with_reducible repeat (first | refine blk_drewN ?_ _ | refine blk_drew ?_ | refine blk_alloc ?_ _)); refine blk_far ?_ NB110_136.out _; (with_reducible repeat (first | refine blk_drewN ?_ _ | refine blk_drew ?_ | refine blk_alloc ?_ _)); exact BK110.out⟩, ⟨by (with_reducible repeat (first | refine blk_drewN ?_ _ | refine blk_drew ?_ | refine blk_alloc ?_ _)); refine blk_far ?_ NB111_136.out _; (with_reducible repeat (first | refine blk_drewN ?_ _ | refine blk_drew ?_ | refine blk_alloc ?_ _)); refine blk_far ?_ NB111_136.out _; (with_reducible repeat (first | refine blk_drewN ?_ _ | refine blk_drew ?_ | refine blk_alloc ?_ _)); refine blk_far ?_ NB111_136.out _; (with_reducible repeat (first | refine blk_drewN ?_ _ | refine blk_drew ?_ | refine blk_alloc ?_ _)); exact BK111.out⟩, ⟨by (with_reducible repeat (first | refine blk_drewN ?_ _ | refine blk_drew ?_ | refine blk_alloc ?_ _)); refine blk_far ?_ NB120_136.out _; (with_reducible repeat (first | refine blk_drewN ?_ _ | refine blk_drew ?_ | refine blk_alloc ?_ _)); refine blk_far ?_ NB120_136.out _; (with_reducible repeat (first | refine blk_drewN ?_ _ | refine blk_drew ?_ | refine blk_alloc ?_ _)); refine blk_far ?_ NB120_136.out _; (with_reducible repeat (first | refine blk_drewN ?_ _ | refine blk_drew ?_ | refine blk_alloc ?_ _)); exact BK120.out⟩, ⟨by (with_reducible repeat (first | refine blk_drewN ?_ _ | refine blk_drew ?_ | refine blk_alloc ?_ _)); refine blk_far ?_ NB121_136.out _; (with_reducible repeat (first | refine blk_drewN ?_ _ | refine blk_drew ?_ | refine blk_alloc ?_ _)); refine blk_far ?_ NB121_136.out _; (with_reducible repeat (first | refine blk_drewN ?_ _ | refine blk_drew ?_ | refine blk_alloc ?_ _)); refine blk_far ?_ NB121_136.out _; (with_reducible repeat (first | refine blk_drewN ?_ _ | refine blk_drew ?_ | refine blk_alloc ?_ _)); exact BK121.out⟩, ⟨by (with_reducible repeat (first | refine blk_drewN ?_ _ | refine blk_drew ?_ | refine blk_alloc ?_ _)); refine blk_far ?_ NB131_136.out _; (with_reducible repeat (first | refine blk_drewN ?_ _ | refine blk_drew ?_ | refine blk_alloc ?_ _)); refine blk_far ?_ NB131_136.out _; (with_reducible repeat (first | refine blk_drewN ?_ _ | refine blk_drew ?_ | refine blk_alloc ?_ _)); refine blk_far ?_ NB131_136.out _; (with_reducible repeat (first | refine blk_drewN ?_ _ | refine blk_drew ?_ | refine blk_alloc ?_ _)); exact BK131.out⟩, ⟨by (with_reducible repeat (first | refine blk_drewN ?_ _ | refine blk_drew ?_ | refine blk_alloc ?_ _)); refine blk_put (cs := #[.int .i64 t132, .int .i64 t133, .bool false]) ?_ 2 _ rfl; (with_reducible repeat (first | refine blk_drewN ?_ _ | refine blk_drew ?_ | refine blk_alloc ?_ _)); refine blk_put (cs := #[.int .i64 t132, .int .i64 0, .bool false]) ?_ 1 _ rfl; (with_reducible repeat (first | refine blk_drewN ?_ _ | refine blk_drew ?_ | refine blk_alloc ?_ _)); refine blk_put (cs := #[.int .i64 0, .int .i64 0, .bool false]) ?_ 0 _ rfl; (with_reducible repeat (first | refine blk_drewN ?_ _ | refine blk_drew ?_ | refine blk_alloc ?_ _)); exact BK136.out⟩, ⟨by repeat (first | (with_reducible first | exact HB.out | apply below_alloc | apply pw_below_drewN | apply below_drew1 | refine below_set ?_ GE110.out | refine below_set ?_ GE111.out | refine below_set ?_ GE120.out | refine below_set ?_ GE121.out | refine below_set ?_ GE131.out | refine below_set ?_ GE136.out) | exact HB.out)⟩⟩
     subst c85
     rw [if_pos rfl] at H
     by_cases c86 : t135 = true
     rotate_left
     · replace c86 := Bool.eq_false_iff.mpr c86
       subst c86
       rw [if_neg (show ¬ (false = true) by decide)] at H
       exact absurd H (by simp)
     subst c86
     rw [if_pos rfl] at H
     replace H := Option.bind_eq_some_iff.mp H
     obtain ⟨t137, A870, H⟩ := H
     try dsimp -simprocs only at H
     have A87 := Aside0.mk A870
     clear A870
     by_cases c88 : t137 = true
     rotate_left
     · replace c88 := Bool.eq_false_iff.mpr c88
       subst c88
       rw [if_neg (show ¬ (false = true) by decide)] at H
       exact absurd H (by simp)
     subst c88
     rw [if_pos rfl] at H
     replace H := Option.bind_eq_some_iff.mp H
     obtain ⟨t138, A890, H⟩ := H
     try dsimp -simprocs only at H
     have A89 := Aside0.mk A890
     clear A890
     by_cases c90 : t138 = true
     rotate_left
     · replace c90 := Bool.eq_false_iff.mpr c90
       subst c90
       rw [if_neg (show ¬ (false = true) by decide)] at H
       exact absurd H (by simp)
     subst c90
     rw [if_pos rfl] at H
     replace H := Option.bind_eq_some_iff.mp H
     obtain ⟨t139, A910, H⟩ := H
     try dsimp -simprocs only at H
     have A91 := Aside0.mk A910
     clear A910
     have H' := Aside0.mk H
     clear H
     have hnb92 := NB131_110.out
     have hnc92 := NB110_131.out
     have hnb93 := NB131_111.out
     have hnc93 := NB111_131.out
     have hnb94 := NB131_120.out
     have hnc94 := NB120_131.out
     have hnb95 := NB131_121.out
     have hnc95 := NB121_131.out
     have hnb96 := NB131_136.out
     have hnc96 := NB136_131.out
     have hcz97_0 := bc_ BK131 0 rfl
     have hcz97_1 := bc_ BK131 1 rfl
     have hcz97_2 := bc_ BK131 2 rfl
     have hfz97_0 := blk_frozen BK131.out 0
     have hfz97_1 := blk_frozen BK131.out 1
     have hfz97_2 := blk_frozen BK131.out 2
     have hnb98 := NB136_110.out
     have hnc98 := NB110_136.out
     have hnb99 := NB136_111.out
     have hnc99 := NB111_136.out
     have hnb100 := NB136_120.out
     have hnc100 := NB120_136.out
     have hnb101 := NB136_121.out
     have hnc101 := NB121_136.out
     have hcz102_0 := bc_ BK136 0 rfl
     have hcz102_1 := bc_ BK136 1 rfl
     have hcz102_2 := bc_ BK136 2 rfl
     have hfz102_0 := blk_frozen BK136.out 0
     have hfz102_1 := blk_frozen BK136.out 1
     have hfz102_2 := blk_frozen BK136.out 2
     go_wp2_with (first | (go_at_call 30; (with_reducible refine (bound_Inside_api_Fix.calls kj9 t127 t128 t129 t132 t133 t134 true _ A87.out).mono ?_); rintro e w103 ⟨rfl, hb⟩; replace BK110 := Aside0.mk (blk_below (g := gb110) (o := .cells #[.int .i64 t102, .int .i64 t103, .bool t104] 56 (0, 0)) (by (with_reducible repeat (first | refine blk_drewN ?_ _ | refine blk_drew ?_ | refine blk_alloc ?_ _)); refine blk_far ?_ NB110_136.out _; (with_reducible repeat (first | refine blk_drewN ?_ _ | refine blk_drew ?_ | refine blk_alloc ?_ _)); refine blk_far ?_ NB110_136.out _; (with_reducible repeat (first | refine blk_drewN ?_ _ | refine blk_drew ?_ | refine blk_alloc ?_ _)); refine blk_far ?_ NB110_136.out _; (with_reducible repeat (first | refine blk_drewN ?_ _ | refine blk_drew ?_ | refine blk_alloc ?_ _)); exact BK110.out) hb); replace BK111 := Aside0.mk (blk_below (g := gb111) (o := .cells #[.int .i64 t106, .int .i64 t107, .bool t108] 56 (0, 0)) (by (with_reducible repeat (first | refine blk_drewN ?_ _ | refine blk_drew ?_ | refine blk_alloc ?_ _)); refine blk_far ?_ NB111_136.out _; (with_reducible repeat (first | refine blk_drewN ?_ _ | refine blk_drew ?_ | refine blk_alloc ?_ _)); refine blk_far ?_ NB111_136.out _; (with_reducible repeat (first | refine blk_drewN ?_ _ | refine blk_drew ?_ | refine blk_alloc ?_ _)); refine blk_far ?_ NB111_136.out _; (with_reducible repeat (first | refine blk_drewN ?_ _ | refine blk_drew ?_ | refine blk_alloc ?_ _)); exact BK111.out) hb); replace BK120 := Aside0.mk (blk_below (g := gb120) (o := .cells #[.int .i64 t112, .int .i64 t113, .bool t114] 56 (0, 0)) (by (with_reducible repeat (first | refine blk_drewN ?_ _ | refine blk_drew ?_ | refine blk_alloc ?_ _)); refine blk_far ?_ NB120_136.out _; (with_reducible repeat (first | refine blk_drewN ?_ _ | refine blk_drew ?_ | refine blk_alloc ?_ _)); refine blk_far ?_ NB120_136.out _; (with_reducible repeat (first | refine blk_drewN ?_ _ | refine blk_drew ?_ | refine blk_alloc ?_ _)); refine blk_far ?_ NB120_136.out _; (with_reducible repeat (first | refine blk_drewN ?_ _ | refine blk_drew ?_ | refine blk_alloc ?_ _)); exact BK120.out) hb); replace BK121 := Aside0.mk (blk_below (g := gb121) (o := .cells #[.int .i64 t116, .int .i64 t117, .bool t118] 56 (0, 0)) (by (with_reducible repeat (first | refine blk_drewN ?_ _ | refine blk_drew ?_ | refine blk_alloc ?_ _)); refine blk_far ?_ NB121_136.out _; (with_reducible repeat (first | refine blk_drewN ?_ _ | refine blk_drew ?_ | refine blk_alloc ?_ _)); refine blk_far ?_ NB121_136.out _; (with_reducible repeat (first | refine blk_drewN ?_ _ | refine blk_drew ?_ | refine blk_alloc ?_ _)); refine blk_far ?_ NB121_136.out _; (with_reducible repeat (first | refine blk_drewN ?_ _ | refine blk_drew ?_ | refine blk_alloc ?_ _)); exact BK121.out) hb); replace BK131 := Aside0.mk (blk_below (g := gb131) (o := .cells #[.int .i64 t127, .int .i64 t128, .bool t129] 56 (0, 0)) (by (with_reducible repeat (first | refine blk_drewN ?_ _ | refine blk_drew ?_ | refine blk_alloc ?_ _)); refine blk_far ?_ NB131_136.out _; (with_reducible repeat (first | refine blk_drewN ?_ _ | refine blk_drew ?_ | refine blk_alloc ?_ _)); refine blk_far ?_ NB131_136.out _; (with_reducible repeat (first | refine blk_drewN ?_ _ | refine blk_drew ?_ | refine blk_alloc ?_ _)); refine blk_far ?_ NB131_136.out _; (with_reducible repeat (first | refine blk_drewN ?_ _ | refine blk_drew ?_ | refine blk_alloc ?_ _)); exact BK131.out) hb); replace BK136 := Aside0.mk (blk_below (g := gb136) (o := .cells #[.int .i64 t132, .int .i64 t133, .bool t134] 56 (0, 0)) (by (with_reducible repeat (first | refine blk_drewN ?_ _ | refine blk_drew ?_ | refine blk_alloc ?_ _)); refine blk_put (cs := #[.int .i64 t132, .int .i64 t133, .bool false]) ?_ 2 _ rfl; (with_reducible repeat (first | refine blk_drewN ?_ _ | refine blk_drew ?_ | refine blk_alloc ?_ _)); refine blk_put (cs := #[.int .i64 t132, .int .i64 0, .bool false]) ?_ 1 _ rfl; (with_reducible repeat (first | refine blk_drewN ?_ _ | refine blk_drew ?_ | refine blk_alloc ?_ _)); refine blk_put (cs := #[.int .i64 0, .int .i64 0, .bool false]) ?_ 0 _ rfl; (with_reducible repeat (first | refine blk_drewN ?_ _ | refine blk_drew ?_ | refine blk_alloc ?_ _)); exact BK136.out) hb); replace HB := Aside0.mk (below_step (by repeat (first | (with_reducible first | exact HB.out | apply below_alloc | apply pw_below_drewN | apply below_drew1 | refine below_set ?_ GE110.out | refine below_set ?_ GE111.out | refine below_set ?_ GE120.out | refine below_set ?_ GE121.out | refine below_set ?_ GE131.out | refine below_set ?_ GE136.out) | exact HB.out)) hb); (try clear hb); have hcz104_0 := bc_ BK131 0 rfl; have hcz104_1 := bc_ BK131 1 rfl; have hcz104_2 := bc_ BK131 2 rfl; have hfz104_0 := blk_frozen BK131.out 0; have hfz104_1 := blk_frozen BK131.out 1; have hfz104_2 := blk_frozen BK131.out 2; have hnb105 := NB120_110.out; have hnc105 := NB110_120.out; have hnb106 := NB120_111.out; have hnc106 := NB111_120.out; have hnb107 := NB120_121.out; have hnc107 := NB121_120.out; have hcz108_0 := bc_ BK120 0 rfl; have hcz108_1 := bc_ BK120 1 rfl; have hcz108_2 := bc_ BK120 2 rfl; have hfz108_0 := blk_frozen BK120.out 0; have hfz108_1 := blk_frozen BK120.out 1; have hfz108_2 := blk_frozen BK120.out 2) | (go_at_call 30; (with_reducible refine (bound_Inside_api_Fix.calls kj9 t127 t128 t129 t112 t113 t114 true _ A89.out).mono ?_); rintro e w109 ⟨rfl, hb⟩; replace BK110 := bkb_ BK110 hb rfl; replace BK111 := bkb_ BK111 hb rfl; replace BK120 := bkb_ BK120 hb rfl; replace BK121 := bkb_ BK121 hb rfl; replace BK131 := bkb_ BK131 hb rfl; replace BK136 := bkb_ BK136 hb rfl; replace HB := hbs_ HB hb rfl rfl rfl rfl; (try clear hb); have hcz110_0 := bc_ BK131 0 rfl; have hcz110_1 := bc_ BK131 1 rfl; have hcz110_2 := bc_ BK131 2 rfl; have hfz110_0 := blk_frozen BK131.out 0; have hfz110_1 := blk_frozen BK131.out 1; have hfz110_2 := blk_frozen BK131.out 2; have hnb111 := NB121_110.out; have hnc111 := NB110_121.out; have hnb112 := NB121_111.out; have hnc112 := NB111_121.out; have hcz113_0 := bc_ BK121 0 rfl; have hcz113_1 := bc_ BK121 1 rfl; have hcz113_2 := bc_ BK121 2 rfl; have hfz113_0 := blk_frozen BK121.out 0; have hfz113_1 := blk_frozen BK121.out 1; have hfz113_2 := blk_frozen BK121.out 2) | (go_at_call 30; (with_reducible refine (bound_Inside_api_Fix.calls kj9 t127 t128 t129 t116 t117 t118 t139 _ A91.out).mono ?_); rintro e w114 ⟨rfl, hb⟩; replace BK110 := bkb_ BK110 hb rfl; replace BK111 := bkb_ BK111 hb rfl; replace BK120 := bkb_ BK120 hb rfl; replace BK121 := bkb_ BK121 hb rfl; replace BK131 := bkb_ BK131 hb rfl; replace BK136 := bkb_ BK136 hb rfl; replace HB := hbs_ HB hb rfl rfl rfl rfl; (try clear hb)))
     go_meet
     case rel => exact ⟨_, (!t139), (by first | rfl | (simp; done) | (simp [*]; done)), H', ⟨by have := HJ9.out; first | omega | exact Nat.le_refl _⟩, ⟨by (with_reducible repeat (first | refine blk_drewN ?_ _ | refine blk_drew ?_ | refine blk_alloc ?_ _)); exact BK110.out⟩, ⟨by (with_reducible repeat (first | refine blk_drewN ?_ _ | refine blk_drew ?_ | refine blk_alloc ?_ _)); exact BK111.out⟩, ⟨by (with_reducible repeat (first | refine blk_drewN ?_ _ | refine blk_drew ?_ | refine blk_alloc ?_ _)); exact BK120.out⟩, ⟨by (with_reducible repeat (first | refine blk_drewN ?_ _ | refine blk_drew ?_ | refine blk_alloc ?_ _)); exact BK121.out⟩, ⟨by (with_reducible repeat (first | refine blk_drewN ?_ _ | refine blk_drew ?_ | refine blk_alloc ?_ _)); exact BK131.out⟩, ⟨by (with_reducible repeat (first | refine blk_drewN ?_ _ | refine blk_drew ?_ | refine blk_alloc ?_ _)); exact BK136.out⟩, ⟨by repeat (first | (with_reducible first | exact HB.out | apply below_alloc | apply pw_below_drewN | apply below_drew1 | refine below_set ?_ GE110.out | refine below_set ?_ GE111.out | refine below_set ?_ GE120.out | refine below_set ?_ GE121.out | refine below_set ?_ GE131.out | refine below_set ?_ GE136.out) | exact HB.out)⟩⟩
    case rest => as_aux_lemma =>
     clear HC59
     obtain ⟨kq, x91_58, rfl, HA, HJ58, BK110, BK111, BK120, BK121, BK131, BK136, HB⟩ := hcut
     cases kq with
     | zero => exact absurd HA.out (by simp [spykeep1_BoundIsotone.j1])
     | succ kj58 =>
      have H := HA.out
      clear HA
      simp only [spykeep1_BoundIsotone.j1] at H
      by_cases c115 : x91_58 = true
      · subst c115
        rw [if_pos rfl] at H
        exact absurd H (by simp)
      replace c115 := Bool.eq_false_iff.mpr c115
      subst c115
      rw [if_neg (show ¬ (false = true) by decide)] at H
      replace H := Option.bind_eq_some_iff.mp H
      obtain ⟨⟨t140, t141, t142⟩, A1160, H⟩ := H
      try dsimp -simprocs only at H
      have A116 := Aside0.mk A1160
      clear A1160
      replace H := Option.bind_eq_some_iff.mp H
      obtain ⟨⟨t143, t144, t145⟩, A1170, H⟩ := H
      try dsimp -simprocs only at H
      have A117 := Aside0.mk A1170
      clear A1170
      replace H := Option.bind_eq_some_iff.mp H
      obtain ⟨t146, A1180, H⟩ := H
      try dsimp -simprocs only at H
      have A118 := Aside0.mk A1180
      clear A1180
      by_cases c119 : t146 = true
      rotate_left
      · replace c119 := Bool.eq_false_iff.mpr c119
        subst c119
        rw [if_neg (show ¬ (false = true) by decide)] at H
        exact absurd H (by simp)
      subst c119
      rw [if_pos rfl] at H
      replace H := Option.bind_eq_some_iff.mp H
      obtain ⟨⟨t147, t148, t149⟩, A1200, H⟩ := H
      try dsimp -simprocs only at H
      have A120 := Aside0.mk A1200
      clear A1200
      replace H := Option.bind_eq_some_iff.mp H
      obtain ⟨⟨t150, t151, t152⟩, A1210, H⟩ := H
      try dsimp -simprocs only at H
      have A121 := Aside0.mk A1210
      clear A1210
      replace H := Option.bind_eq_some_iff.mp H
      obtain ⟨t153, A1220, H⟩ := H
      try dsimp -simprocs only at H
      have A122 := Aside0.mk A1220
      clear A1220
      by_cases c123 : t153 = true
      rotate_left
      · replace c123 := Bool.eq_false_iff.mpr c123
        subst c123
        rw [if_neg (show ¬ (false = true) by decide)] at H
        exact absurd H (by simp)
      subst c123
      rw [if_pos rfl] at H
      replace H := Option.bind_eq_some_iff.mp H
      obtain ⟨⟨t154, t155, t156⟩, A1240, H⟩ := H
      try dsimp -simprocs only at H
      have A124 := Aside0.mk A1240
      clear A1240
      replace H := Option.bind_eq_some_iff.mp H
      obtain ⟨⟨t157, t158, t159⟩, A1250, H⟩ := H
      try dsimp -simprocs only at H
      have A125 := Aside0.mk A1250
      clear A1250
      replace H := Option.bind_eq_some_iff.mp H
      obtain ⟨t160, A1260, H⟩ := H
      try dsimp -simprocs only at H
      have A126 := Aside0.mk A1260
      clear A1260
      by_cases c127 : t160 = true
      rotate_left
      · replace c127 := Bool.eq_false_iff.mpr c127
        subst c127
        rw [if_neg (show ¬ (false = true) by decide)] at H
        exact absurd H (by simp)
      subst c127
      rw [if_pos rfl] at H
      replace H := Option.bind_eq_some_iff.mp H
      obtain ⟨⟨t161, t162, t163⟩, A1280, H⟩ := H
      try dsimp -simprocs only at H
      have A128 := Aside0.mk A1280
      clear A1280
      replace H := Option.bind_eq_some_iff.mp H
      obtain ⟨⟨t164, t165, t166⟩, A1290, H⟩ := H
      try dsimp -simprocs only at H
      have A129 := Aside0.mk A1290
      clear A1290
      replace H := Option.bind_eq_some_iff.mp H
      obtain ⟨t167, A1300, H⟩ := H
      try dsimp -simprocs only at H
      have A130 := Aside0.mk A1300
      clear A1300
      by_cases c131 : t167 = true
      rotate_left
      · replace c131 := Bool.eq_false_iff.mpr c131
        subst c131
        rw [if_neg (show ¬ (false = true) by decide)] at H
        exact absurd H (by simp)
      subst c131
      rw [if_pos rfl] at H
      replace H := Option.bind_eq_some_iff.mp H
      obtain ⟨⟨t168, t169, t170⟩, A1320, H⟩ := H
      try dsimp -simprocs only at H
      have A132 := Aside0.mk A1320
      clear A1320
      replace H := Option.bind_eq_some_iff.mp H
      obtain ⟨⟨t171, t172, t173⟩, A1330, H⟩ := H
      try dsimp -simprocs only at H
      have A133 := Aside0.mk A1330
      clear A1330
      replace H := Option.bind_eq_some_iff.mp H
      obtain ⟨t174, A1340, H⟩ := H
      try dsimp -simprocs only at H
      have A134 := Aside0.mk A1340
      clear A1340
      by_cases c135 : t174 = true
      rotate_left
      · replace c135 := Bool.eq_false_iff.mpr c135
        subst c135
        rw [if_neg (show ¬ (false = true) by decide)] at H
        exact absurd H (by simp)
      subst c135
      rw [if_pos rfl] at H
      replace H := Option.bind_eq_some_iff.mp H
      obtain ⟨⟨t175, t176, t177⟩, A1360, H⟩ := H
      try dsimp -simprocs only at H
      have A136 := Aside0.mk A1360
      clear A1360
      replace H := Option.bind_eq_some_iff.mp H
      obtain ⟨⟨t178, t179, t180⟩, A1370, H⟩ := H
      try dsimp -simprocs only at H
      have A137 := Aside0.mk A1370
      clear A1370
      replace H := Option.bind_eq_some_iff.mp H
      obtain ⟨t181, A1380, H⟩ := H
      try dsimp -simprocs only at H
      have A138 := Aside0.mk A1380
      clear A1380
      by_cases c139 : t181 = true
      rotate_left
      · replace c139 := Bool.eq_false_iff.mpr c139
        subst c139
        rw [if_neg (show ¬ (false = true) by decide)] at H
        exact absurd H (by simp)
      subst c139
      rw [if_pos rfl] at H
      replace H := Option.bind_eq_some_iff.mp H
      obtain ⟨⟨t182, t183, t184⟩, A1400, H⟩ := H
      try dsimp -simprocs only at H
      have A140 := Aside0.mk A1400
      clear A1400
      replace H := Option.bind_eq_some_iff.mp H
      obtain ⟨⟨t185, t186, t187⟩, A1410, H⟩ := H
      try dsimp -simprocs only at H
      have A141 := Aside0.mk A1410
      clear A1410
      replace H := Option.bind_eq_some_iff.mp H
      obtain ⟨t188, A1420, H⟩ := H
      try dsimp -simprocs only at H
      have A142 := Aside0.mk A1420
      clear A1420
      by_cases c143 : t188 = true
      rotate_left
      · replace c143 := Bool.eq_false_iff.mpr c143
        subst c143
        rw [if_neg (show ¬ (false = true) by decide)] at H
        exact absurd H (by simp)
      subst c143
      rw [if_pos rfl] at H
      replace H := Option.bind_eq_some_iff.mp H
      obtain ⟨⟨t189, t190, t191⟩, A1440, H⟩ := H
      try dsimp -simprocs only at H
      have A144 := Aside0.mk A1440
      clear A1440
      replace H := Option.bind_eq_some_iff.mp H
      obtain ⟨⟨t192, t193, t194⟩, A1450, H⟩ := H
      try dsimp -simprocs only at H
      have A145 := Aside0.mk A1450
      clear A1450
      replace H := Option.bind_eq_some_iff.mp H
      obtain ⟨t195, A1460, H⟩ := H
      try dsimp -simprocs only at H
      have A146 := Aside0.mk A1460
      clear A1460
      by_cases c147 : t195 = true
      rotate_left
      · replace c147 := Bool.eq_false_iff.mpr c147
        subst c147
        rw [if_neg (show ¬ (false = true) by decide)] at H
        exact absurd H (by simp)
      subst c147
      rw [if_pos rfl] at H
      replace H := Option.bind_eq_some_iff.mp H
      obtain ⟨⟨t196, t197, t198⟩, A1480, H⟩ := H
      try dsimp -simprocs only at H
      have A148 := Aside0.mk A1480
      clear A1480
      replace H := Option.bind_eq_some_iff.mp H
      obtain ⟨⟨t199, t200, t201⟩, A1490, H⟩ := H
      try dsimp -simprocs only at H
      have A149 := Aside0.mk A1490
      clear A1490
      replace H := Option.bind_eq_some_iff.mp H
      obtain ⟨t202, A1500, H⟩ := H
      try dsimp -simprocs only at H
      have A150 := Aside0.mk A1500
      clear A1500
      by_cases c151 : t202 = true
      rotate_left
      · replace c151 := Bool.eq_false_iff.mpr c151
        subst c151
        rw [if_neg (show ¬ (false = true) by decide)] at H
        exact absurd H (by simp)
      subst c151
      rw [if_pos rfl] at H
      replace H := Option.bind_eq_some_iff.mp H
      obtain ⟨⟨t203, t204, t205⟩, A1520, H⟩ := H
      try dsimp -simprocs only at H
      have A152 := Aside0.mk A1520
      clear A1520
      replace H := Option.bind_eq_some_iff.mp H
      obtain ⟨⟨t206, t207, t208⟩, A1530, H⟩ := H
      try dsimp -simprocs only at H
      have A153 := Aside0.mk A1530
      clear A1530
      replace H := Option.bind_eq_some_iff.mp H
      obtain ⟨t209, A1540, H⟩ := H
      try dsimp -simprocs only at H
      have A154 := Aside0.mk A1540
      clear A1540
      by_cases c155 : t209 = true
      rotate_left
      · replace c155 := Bool.eq_false_iff.mpr c155
        subst c155
        rw [if_neg (show ¬ (false = true) by decide)] at H
        exact absurd H (by simp)
      subst c155
      rw [if_pos rfl] at H
      replace H := Option.bind_eq_some_iff.mp H
      obtain ⟨⟨t210, t211, t212⟩, A1560, H⟩ := H
      try dsimp -simprocs only at H
      have E_ := Option.some.inj (A128.out.symm.trans A1560)
      simp only [Prod.mk.injEq] at E_
      obtain ⟨E0_, E1_, E2_⟩ := E_
      subst E0_
      subst E1_
      subst E2_
      have A156 := Aside0.mk A1560
      clear A1560
      replace H := Option.bind_eq_some_iff.mp H
      obtain ⟨⟨t213, t214, t215⟩, A1570, H⟩ := H
      try dsimp -simprocs only at H
      have A157 := Aside0.mk A1570
      clear A1570
      replace H := Option.bind_eq_some_iff.mp H
      obtain ⟨⟨t216, t217, t218⟩, A1580, H⟩ := H
      try dsimp -simprocs only at H
      have E_ := Option.some.inj (A129.out.symm.trans A1580)
      simp only [Prod.mk.injEq] at E_
      obtain ⟨E0_, E1_, E2_⟩ := E_
      subst E0_
      subst E1_
      subst E2_
      have A158 := Aside0.mk A1580
      clear A1580
      replace H := Option.bind_eq_some_iff.mp H
      obtain ⟨⟨t219, t220, t221⟩, A1590, H⟩ := H
      try dsimp -simprocs only at H
      have A159 := Aside0.mk A1590
      clear A1590
      replace H := Option.bind_eq_some_iff.mp H
      obtain ⟨t222, A1600, H⟩ := H
      try dsimp -simprocs only at H
      have A160 := Aside0.mk A1600
      clear A1600
      by_cases c161 : t222 = true
      rotate_left
      · replace c161 := Bool.eq_false_iff.mpr c161
        subst c161
        rw [if_neg (show ¬ (false = true) by decide)] at H
        exact absurd H (by simp)
      subst c161
      rw [if_pos rfl] at H
      replace H := Option.bind_eq_some_iff.mp H
      obtain ⟨⟨t223, t224, t225⟩, A1620, H⟩ := H
      try dsimp -simprocs only at H
      have E_ := Option.some.inj (A140.out.symm.trans A1620)
      simp only [Prod.mk.injEq] at E_
      obtain ⟨E0_, E1_, E2_⟩ := E_
      subst E0_
      subst E1_
      subst E2_
      have A162 := Aside0.mk A1620
      clear A1620
      replace H := Option.bind_eq_some_iff.mp H
      obtain ⟨t226, A1630, H⟩ := H
      try dsimp -simprocs only at H
      have A163 := Aside0.mk A1630
      clear A1630
      obtain rfl := Option.some.inj H
      try go_wp2
      replace BK110 := Aside0.mk (blk_drew BK110.out)
      replace BK111 := Aside0.mk (blk_drew BK111.out)
      replace BK120 := Aside0.mk (blk_drew BK120.out)
      replace BK121 := Aside0.mk (blk_drew BK121.out)
      replace BK131 := Aside0.mk (blk_drew BK131.out)
      replace BK136 := Aside0.mk (blk_drew BK136.out)
      replace HB := Aside0.mk (below_drew1 HB.out)
      refine start_ (n := 121) (S := fun w' => w'.cell? ⟨gb120, 0, none⟩ = some (.int .i64 t112) ∧ w'.cell? ⟨gb120, 1, none⟩ = some (.int .i64 t113) ∧ w'.cell? ⟨gb120, 2, none⟩ = some (.bool t114) ∧ w'.cell? ⟨gb121, 0, none⟩ = some (.int .i64 t116) ∧ w'.cell? ⟨gb121, 1, none⟩ = some (.int .i64 t117) ∧ w'.cell? ⟨gb121, 2, none⟩ = some (.bool t118) ∧ w'.cell? ⟨gb110, 0, none⟩ = some (.int .i64 t102) ∧ w'.cell? ⟨gb110, 1, none⟩ = some (.int .i64 t103) ∧ w'.cell? ⟨gb110, 2, none⟩ = some (.bool t104) ∧ w'.cell? ⟨gb111, 0, none⟩ = some (.int .i64 t106) ∧ w'.cell? ⟨gb111, 1, none⟩ = some (.int .i64 t107) ∧ w'.cell? ⟨gb111, 2, none⟩ = some (.bool t108)) (ds := []) (bm_ [0, 121]) (by kernel_rfl) rfl rfl ⟨bc_ BK120 0 rfl, bc_ BK120 1 rfl, bc_ BK120 2 rfl, bc_ BK121 0 rfl, bc_ BK121 1 rfl, bc_ BK121 2 rfl, bc_ BK110 0 rfl, bc_ BK110 1 rfl, bc_ BK110 2 rfl, bc_ BK111 0 rfl, bc_ BK111 1 rfl, bc_ BK111 2 rfl⟩ (fun hHeld => ?_); refine with_tabW spykeep1_BoundIsotone.tab13 spykeep1_BoundIsotone.bits13 (fun HT_ HW_ => ?_)
      generalize wc.drew = w164 at BK110 BK111 BK120 BK121 BK131 BK136 HB hHeld ⊢
      refine pq_ 0 92 (bm_ [1, 120]) HT_ ?_
      refine tq_ 1 93 (bm_ [2, 119]) HT_ HW_ hHeld ?_
      refine tq_ 2 94 (bm_ [3, 118]) HT_ HW_ hHeld ?_
      refine tq_ 4 96 (bm_ [3, 1, 1, 116]) HT_ HW_ hHeld ?_
      refine tq_ 5 97 (bm_ [3, 1, 2, 115]) HT_ HW_ hHeld ?_
      refine oq_ 3 (some 95) (bm_ [6, 115]) HT_ (fun K hK => ?_)
      refine gq_ Try.func34 #[.agg #[.int .i64 t112, .int .i64 t113, .bool t114], .agg #[.int .i64 t116, .int .i64 t117, .bool t118]] ?_
      with_reducible refine (bound_Add_api_Fix.calls kj58 t112 t113 t114 t116 t117 t118 t140 t141 t142 _ A116.out).mono ?_
      rintro e w165 ⟨rfl, hb⟩
      refine ⟨_, rfl, ?_⟩
      replace BK110 := bkb_ BK110 hb rfl
      replace BK111 := bkb_ BK111 hb rfl
      replace BK120 := bkb_ BK120 hb rfl
      replace BK121 := bkb_ BK121 hb rfl
      replace BK131 := bkb_ BK131 hb rfl
      replace BK136 := bkb_ BK136 hb rfl
      replace HB := hbs_ HB hb rfl rfl rfl rfl
      (try clear hb)
      refine hK.out _ _ ⟨bc_ BK120 0 rfl, bc_ BK120 1 rfl, bc_ BK120 2 rfl, bc_ BK121 0 rfl, bc_ BK121 1 rfl, bc_ BK121 2 rfl, bc_ BK110 0 rfl, bc_ BK110 1 rfl, bc_ BK110 2 rfl, bc_ BK111 0 rfl, bc_ BK111 1 rfl, bc_ BK111 2 rfl⟩ (fun hHeld => ?_)
      clear hK K
      refine nq_ 95 ?_
      refine oq_ 6 (some 98) (bm_ [7, 114]) HT_ (fun K hK => ?_)
      refine gq_ Try.func34 #[.agg #[.int .i64 t102, .int .i64 t103, .bool t104], .agg #[.int .i64 t106, .int .i64 t107, .bool t108]] ?_
      with_reducible refine (bound_Add_api_Fix.calls kj58 t102 t103 t104 t106 t107 t108 t143 t144 t145 _ A117.out).mono ?_
      rintro e w166 ⟨rfl, hb⟩
      refine ⟨_, rfl, ?_⟩
      replace BK110 := bkb_ BK110 hb rfl
      replace BK111 := bkb_ BK111 hb rfl
      replace BK120 := bkb_ BK120 hb rfl
      replace BK121 := bkb_ BK121 hb rfl
      replace BK131 := bkb_ BK131 hb rfl
      replace BK136 := bkb_ BK136 hb rfl
      replace HB := hbs_ HB hb rfl rfl rfl rfl
      (try clear hb)
      refine hK.out _ _ ⟨bc_ BK120 0 rfl, bc_ BK120 1 rfl, bc_ BK120 2 rfl, bc_ BK121 0 rfl, bc_ BK121 1 rfl, bc_ BK121 2 rfl, bc_ BK110 0 rfl, bc_ BK110 1 rfl, bc_ BK110 2 rfl, bc_ BK111 0 rfl, bc_ BK111 1 rfl, bc_ BK111 2 rfl⟩ (fun hHeld => ?_)
      clear hK K
      refine nq_ 98 ?_
      refine oq_ 7 (some 99) (bm_ [8, 113]) HT_ (fun K hK => ?_)
      refine goesv_ Try.func30 (by kernel_rfl) rfl #[.agg #[.int .i64 t140, .int .i64 t141, .bool t142], .agg #[.int .i64 t143, .int .i64 t144, .bool t145]] (by rfl) rfl rfl (by first | rfl | (simp [Act.eval, Act.put] <;> rfl)) (by (try simp only [List.map_toArray, List.map_cons, List.map_nil]); first | done | rfl | (simp only [List.length_drop, List.length_take]; rfl)) ?_
      with_reducible refine (bound_Inside_api_Fix.calls kj58 t140 t141 t142 t143 t144 t145 true _ A118.out).mono ?_
      rintro e w167 ⟨rfl, hb⟩
      refine ⟨_, rfl, ?_⟩
      replace BK110 := bkb_ BK110 hb rfl
      replace BK111 := bkb_ BK111 hb rfl
      replace BK120 := bkb_ BK120 hb rfl
      replace BK121 := bkb_ BK121 hb rfl
      replace BK131 := bkb_ BK131 hb rfl
      replace BK136 := bkb_ BK136 hb rfl
      replace HB := hbs_ HB hb rfl rfl rfl rfl
      (try clear hb)
      refine hK.out _ _ ⟨bc_ BK120 0 rfl, bc_ BK120 1 rfl, bc_ BK120 2 rfl, bc_ BK121 0 rfl, bc_ BK121 1 rfl, bc_ BK121 2 rfl, bc_ BK110 0 rfl, bc_ BK110 1 rfl, bc_ BK110 2 rfl, bc_ BK111 0 rfl, bc_ BK111 1 rfl, bc_ BK111 2 rfl⟩ (fun hHeld => ?_)
      clear hK K
      refine nq_ 99 ?_
      refine pq_ 8 100 (bm_ [9, 112]) HT_ ?_
      refine pq_ 9 101 (bm_ [10, 111]) HT_ ?_
      refine tq_ 10 102 (bm_ [11, 110]) HT_ HW_ hHeld ?_
      refine tq_ 11 103 (bm_ [12, 109]) HT_ HW_ hHeld ?_
      refine tq_ 13 105 (bm_ [12, 1, 1, 107]) HT_ HW_ hHeld ?_
      refine tq_ 14 106 (bm_ [12, 1, 2, 106]) HT_ HW_ hHeld ?_
      refine oq_ 12 (some 104) (bm_ [15, 106]) HT_ (fun K hK => ?_)
      refine gq_ Try.func35 #[.agg #[.int .i64 t112, .int .i64 t113, .bool t114], .agg #[.int .i64 t116, .int .i64 t117, .bool t118]] ?_
      with_reducible refine (bound_Sub_api_Fix.calls kj58 t112 t113 t114 t116 t117 t118 t147 t148 t149 _ A120.out).mono ?_
      rintro e w168 ⟨rfl, hb⟩
      refine ⟨_, rfl, ?_⟩
      replace BK110 := bkb_ BK110 hb rfl
      replace BK111 := bkb_ BK111 hb rfl
      replace BK120 := bkb_ BK120 hb rfl
      replace BK121 := bkb_ BK121 hb rfl
      replace BK131 := bkb_ BK131 hb rfl
      replace BK136 := bkb_ BK136 hb rfl
      replace HB := hbs_ HB hb rfl rfl rfl rfl
      (try clear hb)
      refine hK.out _ _ ⟨bc_ BK120 0 rfl, bc_ BK120 1 rfl, bc_ BK120 2 rfl, bc_ BK121 0 rfl, bc_ BK121 1 rfl, bc_ BK121 2 rfl, bc_ BK110 0 rfl, bc_ BK110 1 rfl, bc_ BK110 2 rfl, bc_ BK111 0 rfl, bc_ BK111 1 rfl, bc_ BK111 2 rfl⟩ (fun hHeld => ?_)
      clear hK K
      refine nq_ 104 ?_
      refine oq_ 15 (some 107) (bm_ [16, 105]) HT_ (fun K hK => ?_)
      refine gq_ Try.func35 #[.agg #[.int .i64 t102, .int .i64 t103, .bool t104], .agg #[.int .i64 t106, .int .i64 t107, .bool t108]] ?_
      with_reducible refine (bound_Sub_api_Fix.calls kj58 t102 t103 t104 t106 t107 t108 t150 t151 t152 _ A121.out).mono ?_
      rintro e w169 ⟨rfl, hb⟩
      refine ⟨_, rfl, ?_⟩
      replace BK110 := bkb_ BK110 hb rfl
      replace BK111 := bkb_ BK111 hb rfl
      replace BK120 := bkb_ BK120 hb rfl
      replace BK121 := bkb_ BK121 hb rfl
      replace BK131 := bkb_ BK131 hb rfl
      replace BK136 := bkb_ BK136 hb rfl
      replace HB := hbs_ HB hb rfl rfl rfl rfl
      (try clear hb)
      refine hK.out _ _ ⟨bc_ BK120 0 rfl, bc_ BK120 1 rfl, bc_ BK120 2 rfl, bc_ BK121 0 rfl, bc_ BK121 1 rfl, bc_ BK121 2 rfl, bc_ BK110 0 rfl, bc_ BK110 1 rfl, bc_ BK110 2 rfl, bc_ BK111 0 rfl, bc_ BK111 1 rfl, bc_ BK111 2 rfl⟩ (fun hHeld => ?_)
      clear hK K
      refine nq_ 107 ?_
      as_aux_lemma =>
       refine oq_ 16 (some 108) (bm_ [17, 104]) HT_ (fun K hK => ?_)
       refine goesv_ Try.func30 (by kernel_rfl) rfl #[.agg #[.int .i64 t147, .int .i64 t148, .bool t149], .agg #[.int .i64 t150, .int .i64 t151, .bool t152]] (by rfl) rfl rfl (by first | rfl | (simp [Act.eval, Act.put] <;> rfl)) (by (try simp only [List.map_toArray, List.map_cons, List.map_nil]); first | done | rfl | (simp only [List.length_drop, List.length_take]; rfl)) ?_
       with_reducible refine (bound_Inside_api_Fix.calls kj58 t147 t148 t149 t150 t151 t152 true _ A122.out).mono ?_
       rintro e w170 ⟨rfl, hb⟩
       refine ⟨_, rfl, ?_⟩
       replace BK110 := bkb_ BK110 hb rfl
       replace BK111 := bkb_ BK111 hb rfl
       replace BK120 := bkb_ BK120 hb rfl
       replace BK121 := bkb_ BK121 hb rfl
       replace BK131 := bkb_ BK131 hb rfl
       replace BK136 := bkb_ BK136 hb rfl
       replace HB := hbs_ HB hb rfl rfl rfl rfl
       (try clear hb)
       refine hK.out _ _ ⟨bc_ BK120 0 rfl, bc_ BK120 1 rfl, bc_ BK120 2 rfl, bc_ BK121 0 rfl, bc_ BK121 1 rfl, bc_ BK121 2 rfl, bc_ BK110 0 rfl, bc_ BK110 1 rfl, bc_ BK110 2 rfl, bc_ BK111 0 rfl, bc_ BK111 1 rfl, bc_ BK111 2 rfl⟩ (fun hHeld => ?_)
       clear hK K
       refine nq_ 108 ?_
       refine pq_ 17 109 (bm_ [18, 103]) HT_ ?_
       refine pq_ 18 110 (bm_ [19, 102]) HT_ ?_
       refine pq_ 19 111 (bm_ [20, 101]) HT_ ?_
       refine tq_ 20 112 (bm_ [21, 100]) HT_ HW_ hHeld ?_
       refine tq_ 22 114 (bm_ [21, 1, 1, 98]) HT_ HW_ hHeld ?_
       refine oq_ 21 (some 113) (bm_ [23, 98]) HT_ (fun K hK => ?_)
       refine gq_ Try.func36 #[.agg #[.int .i64 t112, .int .i64 t113, .bool t114]] ?_
       with_reducible refine (bound_Neg_api_Fix.calls kj58 t112 t113 t114 t154 t155 t156 _ A124.out).mono ?_
       rintro e w171 ⟨rfl, hb⟩
       refine ⟨_, rfl, ?_⟩
       replace BK110 := bkb_ BK110 hb rfl
       replace BK111 := bkb_ BK111 hb rfl
       replace BK120 := bkb_ BK120 hb rfl
       replace BK121 := bkb_ BK121 hb rfl
       replace BK131 := bkb_ BK131 hb rfl
       replace BK136 := bkb_ BK136 hb rfl
       replace HB := hbs_ HB hb rfl rfl rfl rfl
       (try clear hb)
       refine hK.out _ _ ⟨bc_ BK120 0 rfl, bc_ BK120 1 rfl, bc_ BK120 2 rfl, bc_ BK121 0 rfl, bc_ BK121 1 rfl, bc_ BK121 2 rfl, bc_ BK110 0 rfl, bc_ BK110 1 rfl, bc_ BK110 2 rfl, bc_ BK111 0 rfl, bc_ BK111 1 rfl, bc_ BK111 2 rfl⟩ (fun hHeld => ?_)
       clear hK K
       refine nq_ 113 ?_
       refine oq_ 23 (some 115) (bm_ [24, 97]) HT_ (fun K hK => ?_)
       refine gq_ Try.func36 #[.agg #[.int .i64 t102, .int .i64 t103, .bool t104]] ?_
       with_reducible refine (bound_Neg_api_Fix.calls kj58 t102 t103 t104 t157 t158 t159 _ A125.out).mono ?_
       rintro e w172 ⟨rfl, hb⟩
       refine ⟨_, rfl, ?_⟩
       replace BK110 := bkb_ BK110 hb rfl
       replace BK111 := bkb_ BK111 hb rfl
       replace BK120 := bkb_ BK120 hb rfl
       replace BK121 := bkb_ BK121 hb rfl
       replace BK131 := bkb_ BK131 hb rfl
       replace BK136 := bkb_ BK136 hb rfl
       replace HB := hbs_ HB hb rfl rfl rfl rfl
       (try clear hb)
       refine hK.out _ _ ⟨bc_ BK120 0 rfl, bc_ BK120 1 rfl, bc_ BK120 2 rfl, bc_ BK121 0 rfl, bc_ BK121 1 rfl, bc_ BK121 2 rfl, bc_ BK110 0 rfl, bc_ BK110 1 rfl, bc_ BK110 2 rfl, bc_ BK111 0 rfl, bc_ BK111 1 rfl, bc_ BK111 2 rfl⟩ (fun hHeld => ?_)
       clear hK K
       refine nq_ 115 ?_
       refine oq_ 24 (some 116) (bm_ [25, 96]) HT_ (fun K hK => ?_)
       refine goesv_ Try.func30 (by kernel_rfl) rfl #[.agg #[.int .i64 t154, .int .i64 t155, .bool t156], .agg #[.int .i64 t157, .int .i64 t158, .bool t159]] (by rfl) rfl rfl (by first | rfl | (simp [Act.eval, Act.put] <;> rfl)) (by (try simp only [List.map_toArray, List.map_cons, List.map_nil]); first | done | rfl | (simp only [List.length_drop, List.length_take]; rfl)) ?_
       with_reducible refine (bound_Inside_api_Fix.calls kj58 t154 t155 t156 t157 t158 t159 true _ A126.out).mono ?_
       rintro e w173 ⟨rfl, hb⟩
       refine ⟨_, rfl, ?_⟩
       replace BK110 := bkb_ BK110 hb rfl
       replace BK111 := bkb_ BK111 hb rfl
       replace BK120 := bkb_ BK120 hb rfl
       replace BK121 := bkb_ BK121 hb rfl
       replace BK131 := bkb_ BK131 hb rfl
       replace BK136 := bkb_ BK136 hb rfl
       replace HB := hbs_ HB hb rfl rfl rfl rfl
       (try clear hb)
       refine hK.out _ _ ⟨bc_ BK120 0 rfl, bc_ BK120 1 rfl, bc_ BK120 2 rfl, bc_ BK121 0 rfl, bc_ BK121 1 rfl, bc_ BK121 2 rfl, bc_ BK110 0 rfl, bc_ BK110 1 rfl, bc_ BK110 2 rfl, bc_ BK111 0 rfl, bc_ BK111 1 rfl, bc_ BK111 2 rfl⟩ (fun hHeld => ?_)
       clear hK K
       refine nq_ 116 ?_
       refine pq_ 25 117 (bm_ [26, 95]) HT_ ?_
       refine pq_ 26 118 (bm_ [27, 94]) HT_ ?_
       refine pq_ 27 119 (bm_ [28, 93]) HT_ ?_
       refine tq_ 28 120 (bm_ [29, 92]) HT_ HW_ hHeld ?_
       refine tq_ 30 122 (bm_ [29, 1, 1, 90]) HT_ HW_ hHeld ?_
       refine oq_ 29 (some 121) (bm_ [31, 90]) HT_ (fun K hK => ?_)
       refine gq_ Try.func37 #[.agg #[.int .i64 t112, .int .i64 t113, .bool t114]] ?_
       with_reducible refine (bound_Abs_api_Fix.calls kj58 t112 t113 t114 t161 t162 t163 _ A128.out).mono ?_
       rintro e w174 ⟨rfl, hb⟩
       refine ⟨_, rfl, ?_⟩
       replace BK110 := bkb_ BK110 hb rfl
       replace BK111 := bkb_ BK111 hb rfl
       replace BK120 := bkb_ BK120 hb rfl
       replace BK121 := bkb_ BK121 hb rfl
       replace BK131 := bkb_ BK131 hb rfl
       replace BK136 := bkb_ BK136 hb rfl
       replace HB := hbs_ HB hb rfl rfl rfl rfl
       (try clear hb)
       refine hK.out _ _ ⟨bc_ BK120 0 rfl, bc_ BK120 1 rfl, bc_ BK120 2 rfl, bc_ BK121 0 rfl, bc_ BK121 1 rfl, bc_ BK121 2 rfl, bc_ BK110 0 rfl, bc_ BK110 1 rfl, bc_ BK110 2 rfl, bc_ BK111 0 rfl, bc_ BK111 1 rfl, bc_ BK111 2 rfl⟩ (fun hHeld => ?_)
       clear hK K
       refine nq_ 121 ?_
       refine oq_ 31 (some 123) (bm_ [32, 89]) HT_ (fun K hK => ?_)
       refine gq_ Try.func37 #[.agg #[.int .i64 t102, .int .i64 t103, .bool t104]] ?_
       with_reducible refine (bound_Abs_api_Fix.calls kj58 t102 t103 t104 t164 t165 t166 _ A129.out).mono ?_
       rintro e w175 ⟨rfl, hb⟩
       refine ⟨_, rfl, ?_⟩
       replace BK110 := bkb_ BK110 hb rfl
       replace BK111 := bkb_ BK111 hb rfl
       replace BK120 := bkb_ BK120 hb rfl
       replace BK121 := bkb_ BK121 hb rfl
       replace BK131 := bkb_ BK131 hb rfl
       replace BK136 := bkb_ BK136 hb rfl
       replace HB := hbs_ HB hb rfl rfl rfl rfl
       (try clear hb)
       refine hK.out _ _ ⟨bc_ BK120 0 rfl, bc_ BK120 1 rfl, bc_ BK120 2 rfl, bc_ BK121 0 rfl, bc_ BK121 1 rfl, bc_ BK121 2 rfl, bc_ BK110 0 rfl, bc_ BK110 1 rfl, bc_ BK110 2 rfl, bc_ BK111 0 rfl, bc_ BK111 1 rfl, bc_ BK111 2 rfl⟩ (fun hHeld => ?_)
       clear hK K
       refine nq_ 123 ?_
       as_aux_lemma =>
        refine oq_ 32 (some 124) (bm_ [33, 88]) HT_ (fun K hK => ?_)
        refine goesv_ Try.func30 (by kernel_rfl) rfl #[.agg #[.int .i64 t161, .int .i64 t162, .bool t163], .agg #[.int .i64 t164, .int .i64 t165, .bool t166]] (by rfl) rfl rfl (by first | rfl | (simp [Act.eval, Act.put] <;> rfl)) (by (try simp only [List.map_toArray, List.map_cons, List.map_nil]); first | done | rfl | (simp only [List.length_drop, List.length_take]; rfl)) ?_
        with_reducible refine (bound_Inside_api_Fix.calls kj58 t161 t162 t163 t164 t165 t166 true _ A130.out).mono ?_
        rintro e w176 ⟨rfl, hb⟩
        refine ⟨_, rfl, ?_⟩
        replace BK110 := bkb_ BK110 hb rfl
        replace BK111 := bkb_ BK111 hb rfl
        replace BK120 := bkb_ BK120 hb rfl
        replace BK121 := bkb_ BK121 hb rfl
        replace BK131 := bkb_ BK131 hb rfl
        replace BK136 := bkb_ BK136 hb rfl
        replace HB := hbs_ HB hb rfl rfl rfl rfl
        (try clear hb)
        refine hK.out _ _ ⟨bc_ BK120 0 rfl, bc_ BK120 1 rfl, bc_ BK120 2 rfl, bc_ BK121 0 rfl, bc_ BK121 1 rfl, bc_ BK121 2 rfl, bc_ BK110 0 rfl, bc_ BK110 1 rfl, bc_ BK110 2 rfl, bc_ BK111 0 rfl, bc_ BK111 1 rfl, bc_ BK111 2 rfl⟩ (fun hHeld => ?_)
        clear hK K
        refine nq_ 124 ?_
        refine pq_ 33 125 (bm_ [34, 87]) HT_ ?_
        refine pq_ 34 126 (bm_ [35, 86]) HT_ ?_
        refine pq_ 35 127 (bm_ [36, 85]) HT_ ?_
        refine tq_ 36 128 (bm_ [37, 84]) HT_ HW_ hHeld ?_
        refine tq_ 37 129 (bm_ [38, 83]) HT_ HW_ hHeld ?_
        refine tq_ 39 131 (bm_ [38, 1, 1, 81]) HT_ HW_ hHeld ?_
        refine tq_ 40 132 (bm_ [38, 1, 2, 80]) HT_ HW_ hHeld ?_
        refine oq_ 38 (some 130) (bm_ [41, 80]) HT_ (fun K hK => ?_)
        refine gq_ Try.func38 #[.agg #[.int .i64 t112, .int .i64 t113, .bool t114], .agg #[.int .i64 t116, .int .i64 t117, .bool t118]] ?_
        with_reducible refine (bound_Min_api_Fix.calls kj58 t112 t113 t114 t116 t117 t118 t168 t169 t170 _ A132.out).mono ?_
        rintro e w177 ⟨rfl, hb⟩
        refine ⟨_, rfl, ?_⟩
        replace BK110 := bkb_ BK110 hb rfl
        replace BK111 := bkb_ BK111 hb rfl
        replace BK120 := bkb_ BK120 hb rfl
        replace BK121 := bkb_ BK121 hb rfl
        replace BK131 := bkb_ BK131 hb rfl
        replace BK136 := bkb_ BK136 hb rfl
        replace HB := hbs_ HB hb rfl rfl rfl rfl
        (try clear hb)
        refine hK.out _ _ ⟨bc_ BK120 0 rfl, bc_ BK120 1 rfl, bc_ BK120 2 rfl, bc_ BK121 0 rfl, bc_ BK121 1 rfl, bc_ BK121 2 rfl, bc_ BK110 0 rfl, bc_ BK110 1 rfl, bc_ BK110 2 rfl, bc_ BK111 0 rfl, bc_ BK111 1 rfl, bc_ BK111 2 rfl⟩ (fun hHeld => ?_)
        clear hK K
        refine nq_ 130 ?_
        refine oq_ 41 (some 133) (bm_ [42, 79]) HT_ (fun K hK => ?_)
        refine gq_ Try.func38 #[.agg #[.int .i64 t102, .int .i64 t103, .bool t104], .agg #[.int .i64 t106, .int .i64 t107, .bool t108]] ?_
        with_reducible refine (bound_Min_api_Fix.calls kj58 t102 t103 t104 t106 t107 t108 t171 t172 t173 _ A133.out).mono ?_
        rintro e w178 ⟨rfl, hb⟩
        refine ⟨_, rfl, ?_⟩
        replace BK110 := bkb_ BK110 hb rfl
        replace BK111 := bkb_ BK111 hb rfl
        replace BK120 := bkb_ BK120 hb rfl
        replace BK121 := bkb_ BK121 hb rfl
        replace BK131 := bkb_ BK131 hb rfl
        replace BK136 := bkb_ BK136 hb rfl
        replace HB := hbs_ HB hb rfl rfl rfl rfl
        (try clear hb)
        refine hK.out _ _ ⟨bc_ BK120 0 rfl, bc_ BK120 1 rfl, bc_ BK120 2 rfl, bc_ BK121 0 rfl, bc_ BK121 1 rfl, bc_ BK121 2 rfl, bc_ BK110 0 rfl, bc_ BK110 1 rfl, bc_ BK110 2 rfl, bc_ BK111 0 rfl, bc_ BK111 1 rfl, bc_ BK111 2 rfl⟩ (fun hHeld => ?_)
        clear hK K
        refine nq_ 133 ?_
        refine oq_ 42 (some 134) (bm_ [43, 78]) HT_ (fun K hK => ?_)
        refine goesv_ Try.func30 (by kernel_rfl) rfl #[.agg #[.int .i64 t168, .int .i64 t169, .bool t170], .agg #[.int .i64 t171, .int .i64 t172, .bool t173]] (by rfl) rfl rfl (by first | rfl | (simp [Act.eval, Act.put] <;> rfl)) (by (try simp only [List.map_toArray, List.map_cons, List.map_nil]); first | done | rfl | (simp only [List.length_drop, List.length_take]; rfl)) ?_
        with_reducible refine (bound_Inside_api_Fix.calls kj58 t168 t169 t170 t171 t172 t173 true _ A134.out).mono ?_
        rintro e w179 ⟨rfl, hb⟩
        refine ⟨_, rfl, ?_⟩
        replace BK110 := bkb_ BK110 hb rfl
        replace BK111 := bkb_ BK111 hb rfl
        replace BK120 := bkb_ BK120 hb rfl
        replace BK121 := bkb_ BK121 hb rfl
        replace BK131 := bkb_ BK131 hb rfl
        replace BK136 := bkb_ BK136 hb rfl
        replace HB := hbs_ HB hb rfl rfl rfl rfl
        (try clear hb)
        refine hK.out _ _ ⟨bc_ BK120 0 rfl, bc_ BK120 1 rfl, bc_ BK120 2 rfl, bc_ BK121 0 rfl, bc_ BK121 1 rfl, bc_ BK121 2 rfl, bc_ BK110 0 rfl, bc_ BK110 1 rfl, bc_ BK110 2 rfl, bc_ BK111 0 rfl, bc_ BK111 1 rfl, bc_ BK111 2 rfl⟩ (fun hHeld => ?_)
        clear hK K
        refine nq_ 134 ?_
        refine pq_ 43 135 (bm_ [44, 77]) HT_ ?_
        refine pq_ 44 136 (bm_ [45, 76]) HT_ ?_
        refine pq_ 45 137 (bm_ [46, 75]) HT_ ?_
        refine tq_ 46 138 (bm_ [47, 74]) HT_ HW_ hHeld ?_
        refine tq_ 47 139 (bm_ [48, 73]) HT_ HW_ hHeld ?_
        refine tq_ 49 141 (bm_ [48, 1, 1, 71]) HT_ HW_ hHeld ?_
        refine tq_ 50 142 (bm_ [48, 1, 2, 70]) HT_ HW_ hHeld ?_
        refine oq_ 48 (some 140) (bm_ [51, 70]) HT_ (fun K hK => ?_)
        refine gq_ Try.func39 #[.agg #[.int .i64 t112, .int .i64 t113, .bool t114], .agg #[.int .i64 t116, .int .i64 t117, .bool t118]] ?_
        with_reducible refine (bound_Max_api_Fix.calls kj58 t112 t113 t114 t116 t117 t118 t175 t176 t177 _ A136.out).mono ?_
        rintro e w180 ⟨rfl, hb⟩
        refine ⟨_, rfl, ?_⟩
        replace BK110 := bkb_ BK110 hb rfl
        replace BK111 := bkb_ BK111 hb rfl
        replace BK120 := bkb_ BK120 hb rfl
        replace BK121 := bkb_ BK121 hb rfl
        replace BK131 := bkb_ BK131 hb rfl
        replace BK136 := bkb_ BK136 hb rfl
        replace HB := hbs_ HB hb rfl rfl rfl rfl
        (try clear hb)
        refine hK.out _ _ ⟨bc_ BK120 0 rfl, bc_ BK120 1 rfl, bc_ BK120 2 rfl, bc_ BK121 0 rfl, bc_ BK121 1 rfl, bc_ BK121 2 rfl, bc_ BK110 0 rfl, bc_ BK110 1 rfl, bc_ BK110 2 rfl, bc_ BK111 0 rfl, bc_ BK111 1 rfl, bc_ BK111 2 rfl⟩ (fun hHeld => ?_)
        clear hK K
        refine nq_ 140 ?_
        refine oq_ 51 (some 143) (bm_ [52, 69]) HT_ (fun K hK => ?_)
        refine gq_ Try.func39 #[.agg #[.int .i64 t102, .int .i64 t103, .bool t104], .agg #[.int .i64 t106, .int .i64 t107, .bool t108]] ?_
        with_reducible refine (bound_Max_api_Fix.calls kj58 t102 t103 t104 t106 t107 t108 t178 t179 t180 _ A137.out).mono ?_
        rintro e w181 ⟨rfl, hb⟩
        refine ⟨_, rfl, ?_⟩
        replace BK110 := bkb_ BK110 hb rfl
        replace BK111 := bkb_ BK111 hb rfl
        replace BK120 := bkb_ BK120 hb rfl
        replace BK121 := bkb_ BK121 hb rfl
        replace BK131 := bkb_ BK131 hb rfl
        replace BK136 := bkb_ BK136 hb rfl
        replace HB := hbs_ HB hb rfl rfl rfl rfl
        (try clear hb)
        refine hK.out _ _ ⟨bc_ BK120 0 rfl, bc_ BK120 1 rfl, bc_ BK120 2 rfl, bc_ BK121 0 rfl, bc_ BK121 1 rfl, bc_ BK121 2 rfl, bc_ BK110 0 rfl, bc_ BK110 1 rfl, bc_ BK110 2 rfl, bc_ BK111 0 rfl, bc_ BK111 1 rfl, bc_ BK111 2 rfl⟩ (fun hHeld => ?_)
        clear hK K
        refine nq_ 143 ?_
        as_aux_lemma =>
         refine oq_ 52 (some 144) (bm_ [53, 68]) HT_ (fun K hK => ?_)
         refine goesv_ Try.func30 (by kernel_rfl) rfl #[.agg #[.int .i64 t175, .int .i64 t176, .bool t177], .agg #[.int .i64 t178, .int .i64 t179, .bool t180]] (by rfl) rfl rfl (by first | rfl | (simp [Act.eval, Act.put] <;> rfl)) (by (try simp only [List.map_toArray, List.map_cons, List.map_nil]); first | done | rfl | (simp only [List.length_drop, List.length_take]; rfl)) ?_
         with_reducible refine (bound_Inside_api_Fix.calls kj58 t175 t176 t177 t178 t179 t180 true _ A138.out).mono ?_
         rintro e w182 ⟨rfl, hb⟩
         refine ⟨_, rfl, ?_⟩
         replace BK110 := bkb_ BK110 hb rfl
         replace BK111 := bkb_ BK111 hb rfl
         replace BK120 := bkb_ BK120 hb rfl
         replace BK121 := bkb_ BK121 hb rfl
         replace BK131 := bkb_ BK131 hb rfl
         replace BK136 := bkb_ BK136 hb rfl
         replace HB := hbs_ HB hb rfl rfl rfl rfl
         (try clear hb)
         refine hK.out _ _ ⟨bc_ BK120 0 rfl, bc_ BK120 1 rfl, bc_ BK120 2 rfl, bc_ BK121 0 rfl, bc_ BK121 1 rfl, bc_ BK121 2 rfl, bc_ BK110 0 rfl, bc_ BK110 1 rfl, bc_ BK110 2 rfl, bc_ BK111 0 rfl, bc_ BK111 1 rfl, bc_ BK111 2 rfl⟩ (fun hHeld => ?_)
         clear hK K
         refine nq_ 144 ?_
         refine pq_ 53 145 (bm_ [54, 67]) HT_ ?_
         refine pq_ 54 146 (bm_ [55, 66]) HT_ ?_
         refine pq_ 55 147 (bm_ [56, 65]) HT_ ?_
         refine tq_ 56 148 (bm_ [57, 64]) HT_ HW_ hHeld ?_
         refine tq_ 57 149 (bm_ [58, 63]) HT_ HW_ hHeld ?_
         refine tq_ 59 151 (bm_ [58, 1, 1, 61]) HT_ HW_ hHeld ?_
         refine tq_ 60 152 (bm_ [58, 1, 2, 60]) HT_ HW_ hHeld ?_
         refine oq_ 58 (some 150) (bm_ [61, 60]) HT_ (fun K hK => ?_)
         refine gq_ Try.func40 #[.agg #[.int .i64 t112, .int .i64 t113, .bool t114], .agg #[.int .i64 t116, .int .i64 t117, .bool t118]] ?_
         with_reducible refine (bound_Hull_api_Fix.calls kj58 t112 t113 t114 t116 t117 t118 t182 t183 t184 _ A140.out).mono ?_
         rintro e w183 ⟨rfl, hb⟩
         refine ⟨_, rfl, ?_⟩
         replace BK110 := bkb_ BK110 hb rfl
         replace BK111 := bkb_ BK111 hb rfl
         replace BK120 := bkb_ BK120 hb rfl
         replace BK121 := bkb_ BK121 hb rfl
         replace BK131 := bkb_ BK131 hb rfl
         replace BK136 := bkb_ BK136 hb rfl
         replace HB := hbs_ HB hb rfl rfl rfl rfl
         (try clear hb)
         refine hK.out _ _ ⟨bc_ BK120 0 rfl, bc_ BK120 1 rfl, bc_ BK120 2 rfl, bc_ BK121 0 rfl, bc_ BK121 1 rfl, bc_ BK121 2 rfl, bc_ BK110 0 rfl, bc_ BK110 1 rfl, bc_ BK110 2 rfl, bc_ BK111 0 rfl, bc_ BK111 1 rfl, bc_ BK111 2 rfl⟩ (fun hHeld => ?_)
         clear hK K
         refine nq_ 150 ?_
         refine oq_ 61 (some 153) (bm_ [62, 59]) HT_ (fun K hK => ?_)
         refine gq_ Try.func40 #[.agg #[.int .i64 t102, .int .i64 t103, .bool t104], .agg #[.int .i64 t106, .int .i64 t107, .bool t108]] ?_
         with_reducible refine (bound_Hull_api_Fix.calls kj58 t102 t103 t104 t106 t107 t108 t185 t186 t187 _ A141.out).mono ?_
         rintro e w184 ⟨rfl, hb⟩
         refine ⟨_, rfl, ?_⟩
         replace BK110 := bkb_ BK110 hb rfl
         replace BK111 := bkb_ BK111 hb rfl
         replace BK120 := bkb_ BK120 hb rfl
         replace BK121 := bkb_ BK121 hb rfl
         replace BK131 := bkb_ BK131 hb rfl
         replace BK136 := bkb_ BK136 hb rfl
         replace HB := hbs_ HB hb rfl rfl rfl rfl
         (try clear hb)
         refine hK.out _ _ ⟨bc_ BK120 0 rfl, bc_ BK120 1 rfl, bc_ BK120 2 rfl, bc_ BK121 0 rfl, bc_ BK121 1 rfl, bc_ BK121 2 rfl, bc_ BK110 0 rfl, bc_ BK110 1 rfl, bc_ BK110 2 rfl, bc_ BK111 0 rfl, bc_ BK111 1 rfl, bc_ BK111 2 rfl⟩ (fun hHeld => ?_)
         clear hK K
         refine nq_ 153 ?_
         refine oq_ 62 (some 154) (bm_ [63, 58]) HT_ (fun K hK => ?_)
         refine goesv_ Try.func30 (by kernel_rfl) rfl #[.agg #[.int .i64 t182, .int .i64 t183, .bool t184], .agg #[.int .i64 t185, .int .i64 t186, .bool t187]] (by rfl) rfl rfl (by first | rfl | (simp [Act.eval, Act.put] <;> rfl)) (by (try simp only [List.map_toArray, List.map_cons, List.map_nil]); first | done | rfl | (simp only [List.length_drop, List.length_take]; rfl)) ?_
         with_reducible refine (bound_Inside_api_Fix.calls kj58 t182 t183 t184 t185 t186 t187 true _ A142.out).mono ?_
         rintro e w185 ⟨rfl, hb⟩
         refine ⟨_, rfl, ?_⟩
         replace BK110 := bkb_ BK110 hb rfl
         replace BK111 := bkb_ BK111 hb rfl
         replace BK120 := bkb_ BK120 hb rfl
         replace BK121 := bkb_ BK121 hb rfl
         replace BK131 := bkb_ BK131 hb rfl
         replace BK136 := bkb_ BK136 hb rfl
         replace HB := hbs_ HB hb rfl rfl rfl rfl
         (try clear hb)
         refine hK.out _ _ ⟨bc_ BK120 0 rfl, bc_ BK120 1 rfl, bc_ BK120 2 rfl, bc_ BK121 0 rfl, bc_ BK121 1 rfl, bc_ BK121 2 rfl, bc_ BK110 0 rfl, bc_ BK110 1 rfl, bc_ BK110 2 rfl, bc_ BK111 0 rfl, bc_ BK111 1 rfl, bc_ BK111 2 rfl⟩ (fun hHeld => ?_)
         clear hK K
         refine nq_ 154 ?_
         refine pq_ 63 155 (bm_ [64, 57]) HT_ ?_
         refine pq_ 64 156 (bm_ [65, 56]) HT_ ?_
         refine pq_ 65 157 (bm_ [66, 55]) HT_ ?_
         refine pq_ 68 160 (bm_ [66, 2, 1, 52]) HT_ ?_
         refine pq_ 72 164 (bm_ [66, 2, 1, 3, 1, 48]) HT_ ?_
         refine tq_ 66 158 (bm_ [67, 1, 1, 3, 1, 48]) HT_ HW_ hHeld ?_
         refine tq_ 67 159 (bm_ [69, 3, 1, 48]) HT_ HW_ hHeld ?_
         refine tq_ 70 162 (bm_ [69, 1, 1, 1, 1, 48]) HT_ HW_ hHeld ?_
         refine tq_ 71 163 (bm_ [69, 1, 3, 48]) HT_ HW_ hHeld ?_
         refine oq_ 69 (some 161) (bm_ [73, 48]) HT_ (fun K hK => ?_)
         refine gq_ Try.func41 #[.agg #[.int .i64 t112, .int .i64 t113, .bool t114], .agg #[.int .i64 t116, .int .i64 t117, .bool t118], .int .i64 (wrap64 (1 + t122))] ?_
         with_reducible refine (bound_Mul_api_Fix.calls kj58 t112 t113 t114 t116 t117 t118 (wrap64 (1 + t122)) t189 t190 t191 _ A144.out).mono ?_
         rintro e w186 ⟨rfl, hb⟩
         refine ⟨_, rfl, ?_⟩
         replace BK110 := bkb_ BK110 hb rfl
         replace BK111 := bkb_ BK111 hb rfl
         replace BK120 := bkb_ BK120 hb rfl
         replace BK121 := bkb_ BK121 hb rfl
         replace BK131 := bkb_ BK131 hb rfl
         replace BK136 := bkb_ BK136 hb rfl
         replace HB := hbs_ HB hb rfl rfl rfl rfl
         (try clear hb)
         refine hK.out _ _ ⟨bc_ BK120 0 rfl, bc_ BK120 1 rfl, bc_ BK120 2 rfl, bc_ BK121 0 rfl, bc_ BK121 1 rfl, bc_ BK121 2 rfl, bc_ BK110 0 rfl, bc_ BK110 1 rfl, bc_ BK110 2 rfl, bc_ BK111 0 rfl, bc_ BK111 1 rfl, bc_ BK111 2 rfl⟩ (fun hHeld => ?_)
         clear hK K
         refine nq_ 161 ?_
         refine oq_ 73 (some 165) (bm_ [74, 47]) HT_ (fun K hK => ?_)
         refine gq_ Try.func41 #[.agg #[.int .i64 t102, .int .i64 t103, .bool t104], .agg #[.int .i64 t106, .int .i64 t107, .bool t108], .int .i64 (wrap64 (1 + t122))] ?_
         with_reducible refine (bound_Mul_api_Fix.calls kj58 t102 t103 t104 t106 t107 t108 (wrap64 (1 + t122)) t192 t193 t194 _ A145.out).mono ?_
         rintro e w187 ⟨rfl, hb⟩
         refine ⟨_, rfl, ?_⟩
         replace BK110 := bkb_ BK110 hb rfl
         replace BK111 := bkb_ BK111 hb rfl
         replace BK120 := bkb_ BK120 hb rfl
         replace BK121 := bkb_ BK121 hb rfl
         replace BK131 := bkb_ BK131 hb rfl
         replace BK136 := bkb_ BK136 hb rfl
         replace HB := hbs_ HB hb rfl rfl rfl rfl
         (try clear hb)
         refine hK.out _ _ ⟨bc_ BK120 0 rfl, bc_ BK120 1 rfl, bc_ BK120 2 rfl, bc_ BK121 0 rfl, bc_ BK121 1 rfl, bc_ BK121 2 rfl, bc_ BK110 0 rfl, bc_ BK110 1 rfl, bc_ BK110 2 rfl, bc_ BK111 0 rfl, bc_ BK111 1 rfl, bc_ BK111 2 rfl⟩ (fun hHeld => ?_)
         clear hK K
         refine nq_ 165 ?_
         as_aux_lemma =>
          refine oq_ 74 (some 166) (bm_ [75, 46]) HT_ (fun K hK => ?_)
          refine goesv_ Try.func30 (by kernel_rfl) rfl #[.agg #[.int .i64 t189, .int .i64 t190, .bool t191], .agg #[.int .i64 t192, .int .i64 t193, .bool t194]] (by rfl) rfl rfl (by first | rfl | (simp [Act.eval, Act.put] <;> rfl)) (by (try simp only [List.map_toArray, List.map_cons, List.map_nil]); first | done | rfl | (simp only [List.length_drop, List.length_take]; rfl)) ?_
          with_reducible refine (bound_Inside_api_Fix.calls kj58 t189 t190 t191 t192 t193 t194 true _ A146.out).mono ?_
          rintro e w188 ⟨rfl, hb⟩
          refine ⟨_, rfl, ?_⟩
          replace BK110 := bkb_ BK110 hb rfl
          replace BK111 := bkb_ BK111 hb rfl
          replace BK120 := bkb_ BK120 hb rfl
          replace BK121 := bkb_ BK121 hb rfl
          replace BK131 := bkb_ BK131 hb rfl
          replace BK136 := bkb_ BK136 hb rfl
          replace HB := hbs_ HB hb rfl rfl rfl rfl
          (try clear hb)
          refine hK.out _ _ ⟨bc_ BK120 0 rfl, bc_ BK120 1 rfl, bc_ BK120 2 rfl, bc_ BK121 0 rfl, bc_ BK121 1 rfl, bc_ BK121 2 rfl, bc_ BK110 0 rfl, bc_ BK110 1 rfl, bc_ BK110 2 rfl, bc_ BK111 0 rfl, bc_ BK111 1 rfl, bc_ BK111 2 rfl⟩ (fun hHeld => ?_)
          clear hK K
          refine nq_ 166 ?_
          refine pq_ 75 167 (bm_ [76, 45]) HT_ ?_
          refine pq_ 76 168 (bm_ [77, 44]) HT_ ?_
          refine pq_ 77 169 (bm_ [78, 43]) HT_ ?_
          refine pq_ 80 172 (bm_ [78, 2, 1, 40]) HT_ ?_
          refine pq_ 84 176 (bm_ [78, 2, 1, 3, 1, 36]) HT_ ?_
          refine tq_ 78 170 (bm_ [79, 1, 1, 3, 1, 36]) HT_ HW_ hHeld ?_
          refine tq_ 79 171 (bm_ [81, 3, 1, 36]) HT_ HW_ hHeld ?_
          refine tq_ 82 174 (bm_ [81, 1, 1, 1, 1, 36]) HT_ HW_ hHeld ?_
          refine tq_ 83 175 (bm_ [81, 1, 3, 36]) HT_ HW_ hHeld ?_
          refine oq_ 81 (some 173) (bm_ [85, 36]) HT_ (fun K hK => ?_)
          refine gq_ Try.func42 #[.agg #[.int .i64 t112, .int .i64 t113, .bool t114], .agg #[.int .i64 t116, .int .i64 t117, .bool t118], .int .i64 (wrap64 (1 + t122))] ?_
          with_reducible refine (bound_Div_api_Fix.calls kj58 t112 t113 t114 t116 t117 t118 (wrap64 (1 + t122)) t196 t197 t198 _ A148.out).mono ?_
          rintro e w189 ⟨rfl, hb⟩
          refine ⟨_, rfl, ?_⟩
          replace BK110 := bkb_ BK110 hb rfl
          replace BK111 := bkb_ BK111 hb rfl
          replace BK120 := bkb_ BK120 hb rfl
          replace BK121 := bkb_ BK121 hb rfl
          replace BK131 := bkb_ BK131 hb rfl
          replace BK136 := bkb_ BK136 hb rfl
          replace HB := hbs_ HB hb rfl rfl rfl rfl
          (try clear hb)
          refine hK.out _ _ ⟨bc_ BK120 0 rfl, bc_ BK120 1 rfl, bc_ BK120 2 rfl, bc_ BK121 0 rfl, bc_ BK121 1 rfl, bc_ BK121 2 rfl, bc_ BK110 0 rfl, bc_ BK110 1 rfl, bc_ BK110 2 rfl, bc_ BK111 0 rfl, bc_ BK111 1 rfl, bc_ BK111 2 rfl⟩ (fun hHeld => ?_)
          clear hK K
          refine nq_ 173 ?_
          refine oq_ 85 (some 177) (bm_ [86, 35]) HT_ (fun K hK => ?_)
          refine gq_ Try.func42 #[.agg #[.int .i64 t102, .int .i64 t103, .bool t104], .agg #[.int .i64 t106, .int .i64 t107, .bool t108], .int .i64 (wrap64 (1 + t122))] ?_
          with_reducible refine (bound_Div_api_Fix.calls kj58 t102 t103 t104 t106 t107 t108 (wrap64 (1 + t122)) t199 t200 t201 _ A149.out).mono ?_
          rintro e w190 ⟨rfl, hb⟩
          refine ⟨_, rfl, ?_⟩
          replace BK110 := bkb_ BK110 hb rfl
          replace BK111 := bkb_ BK111 hb rfl
          replace BK120 := bkb_ BK120 hb rfl
          replace BK121 := bkb_ BK121 hb rfl
          replace BK131 := bkb_ BK131 hb rfl
          replace BK136 := bkb_ BK136 hb rfl
          replace HB := hbs_ HB hb rfl rfl rfl rfl
          (try clear hb)
          refine hK.out _ _ ⟨bc_ BK120 0 rfl, bc_ BK120 1 rfl, bc_ BK120 2 rfl, bc_ BK121 0 rfl, bc_ BK121 1 rfl, bc_ BK121 2 rfl, bc_ BK110 0 rfl, bc_ BK110 1 rfl, bc_ BK110 2 rfl, bc_ BK111 0 rfl, bc_ BK111 1 rfl, bc_ BK111 2 rfl⟩ (fun hHeld => ?_)
          clear hK K
          refine nq_ 177 ?_
          refine oq_ 86 (some 178) (bm_ [87, 34]) HT_ (fun K hK => ?_)
          refine goesv_ Try.func30 (by kernel_rfl) rfl #[.agg #[.int .i64 t196, .int .i64 t197, .bool t198], .agg #[.int .i64 t199, .int .i64 t200, .bool t201]] (by rfl) rfl rfl (by first | rfl | (simp [Act.eval, Act.put] <;> rfl)) (by (try simp only [List.map_toArray, List.map_cons, List.map_nil]); first | done | rfl | (simp only [List.length_drop, List.length_take]; rfl)) ?_
          with_reducible refine (bound_Inside_api_Fix.calls kj58 t196 t197 t198 t199 t200 t201 true _ A150.out).mono ?_
          rintro e w191 ⟨rfl, hb⟩
          refine ⟨_, rfl, ?_⟩
          replace BK110 := bkb_ BK110 hb rfl
          replace BK111 := bkb_ BK111 hb rfl
          replace BK120 := bkb_ BK120 hb rfl
          replace BK121 := bkb_ BK121 hb rfl
          replace BK131 := bkb_ BK131 hb rfl
          replace BK136 := bkb_ BK136 hb rfl
          replace HB := hbs_ HB hb rfl rfl rfl rfl
          (try clear hb)
          refine hK.out _ _ ⟨bc_ BK120 0 rfl, bc_ BK120 1 rfl, bc_ BK120 2 rfl, bc_ BK121 0 rfl, bc_ BK121 1 rfl, bc_ BK121 2 rfl, bc_ BK110 0 rfl, bc_ BK110 1 rfl, bc_ BK110 2 rfl, bc_ BK111 0 rfl, bc_ BK111 1 rfl, bc_ BK111 2 rfl⟩ (fun hHeld => ?_)
          clear hK K
          refine nq_ 178 ?_
          refine pq_ 87 179 (bm_ [88, 33]) HT_ ?_
          refine pq_ 88 180 (bm_ [89, 32]) HT_ ?_
          refine pq_ 89 181 (bm_ [90, 31]) HT_ ?_
          refine pq_ 91 183 (bm_ [90, 1, 1, 29]) HT_ ?_
          refine pq_ 92 184 (bm_ [90, 1, 2, 28]) HT_ ?_
          refine pq_ 95 187 (bm_ [90, 1, 2, 2, 1, 25]) HT_ ?_
          refine pq_ 96 188 (bm_ [90, 1, 2, 2, 2, 24]) HT_ ?_
          refine tq_ 90 182 (bm_ [93, 2, 2, 24]) HT_ HW_ hHeld ?_
          refine tq_ 94 186 (bm_ [93, 1, 3, 24]) HT_ HW_ hHeld ?_
          refine oq_ 93 (some 185) (bm_ [97, 24]) HT_ (fun K hK => ?_)
          refine gq_ Try.func43 #[.agg #[.int .i64 t112, .int .i64 t113, .bool t114], .int .i64 (wrap64 (t123 - 1000)), .int .i64 (wrap64 (1 + t122))] ?_
          with_reducible refine (bound_Scale_api_Fix.calls kj58 t112 t113 t114 (wrap64 (t123 - 1000)) (wrap64 (1 + t122)) t203 t204 t205 _ A152.out).mono ?_
          rintro e w192 ⟨rfl, hb⟩
          refine ⟨_, rfl, ?_⟩
          replace BK110 := bkb_ BK110 hb rfl
          replace BK111 := bkb_ BK111 hb rfl
          replace BK120 := bkb_ BK120 hb rfl
          replace BK121 := bkb_ BK121 hb rfl
          replace BK131 := bkb_ BK131 hb rfl
          replace BK136 := bkb_ BK136 hb rfl
          replace HB := hbs_ HB hb rfl rfl rfl rfl
          (try clear hb)
          refine hK.out _ _ ⟨bc_ BK120 0 rfl, bc_ BK120 1 rfl, bc_ BK120 2 rfl, bc_ BK121 0 rfl, bc_ BK121 1 rfl, bc_ BK121 2 rfl, bc_ BK110 0 rfl, bc_ BK110 1 rfl, bc_ BK110 2 rfl, bc_ BK111 0 rfl, bc_ BK111 1 rfl, bc_ BK111 2 rfl⟩ (fun hHeld => ?_)
          clear hK K
          refine nq_ 185 ?_
          refine oq_ 97 (some 189) (bm_ [98, 23]) HT_ (fun K hK => ?_)
          refine gq_ Try.func43 #[.agg #[.int .i64 t102, .int .i64 t103, .bool t104], .int .i64 (wrap64 (t123 - 1000)), .int .i64 (wrap64 (1 + t122))] ?_
          with_reducible refine (bound_Scale_api_Fix.calls kj58 t102 t103 t104 (wrap64 (t123 - 1000)) (wrap64 (1 + t122)) t206 t207 t208 _ A153.out).mono ?_
          rintro e w193 ⟨rfl, hb⟩
          refine ⟨_, rfl, ?_⟩
          replace BK110 := bkb_ BK110 hb rfl
          replace BK111 := bkb_ BK111 hb rfl
          replace BK120 := bkb_ BK120 hb rfl
          replace BK121 := bkb_ BK121 hb rfl
          replace BK131 := bkb_ BK131 hb rfl
          replace BK136 := bkb_ BK136 hb rfl
          replace HB := hbs_ HB hb rfl rfl rfl rfl
          (try clear hb)
          refine hK.out _ _ ⟨bc_ BK120 0 rfl, bc_ BK120 1 rfl, bc_ BK120 2 rfl, bc_ BK121 0 rfl, bc_ BK121 1 rfl, bc_ BK121 2 rfl, bc_ BK110 0 rfl, bc_ BK110 1 rfl, bc_ BK110 2 rfl, bc_ BK111 0 rfl, bc_ BK111 1 rfl, bc_ BK111 2 rfl⟩ (fun hHeld => ?_)
          clear hK K
          refine nq_ 189 ?_
          as_aux_lemma =>
           refine oq_ 98 (some 190) (bm_ [99, 22]) HT_ (fun K hK => ?_)
           refine goesv_ Try.func30 (by kernel_rfl) rfl #[.agg #[.int .i64 t203, .int .i64 t204, .bool t205], .agg #[.int .i64 t206, .int .i64 t207, .bool t208]] (by rfl) rfl rfl (by first | rfl | (simp [Act.eval, Act.put] <;> rfl)) (by (try simp only [List.map_toArray, List.map_cons, List.map_nil]); first | done | rfl | (simp only [List.length_drop, List.length_take]; rfl)) ?_
           with_reducible refine (bound_Inside_api_Fix.calls kj58 t203 t204 t205 t206 t207 t208 true _ A154.out).mono ?_
           rintro e w194 ⟨rfl, hb⟩
           refine ⟨_, rfl, ?_⟩
           replace BK110 := bkb_ BK110 hb rfl
           replace BK111 := bkb_ BK111 hb rfl
           replace BK120 := bkb_ BK120 hb rfl
           replace BK121 := bkb_ BK121 hb rfl
           replace BK131 := bkb_ BK131 hb rfl
           replace BK136 := bkb_ BK136 hb rfl
           replace HB := hbs_ HB hb rfl rfl rfl rfl
           (try clear hb)
           refine hK.out _ _ ⟨bc_ BK120 0 rfl, bc_ BK120 1 rfl, bc_ BK120 2 rfl, bc_ BK121 0 rfl, bc_ BK121 1 rfl, bc_ BK121 2 rfl, bc_ BK110 0 rfl, bc_ BK110 1 rfl, bc_ BK110 2 rfl, bc_ BK111 0 rfl, bc_ BK111 1 rfl, bc_ BK111 2 rfl⟩ (fun hHeld => ?_)
           clear hK K
           refine nq_ 190 ?_
           refine pq_ 99 191 (bm_ [100, 21]) HT_ ?_
           refine pq_ 100 192 (bm_ [101, 20]) HT_ ?_
           refine pq_ 101 193 (bm_ [102, 19]) HT_ ?_
           refine pq_ 104 196 (bm_ [102, 2, 1, 16]) HT_ ?_
           refine pq_ 108 200 (bm_ [102, 2, 1, 3, 1, 12]) HT_ ?_
           refine tq_ 102 194 (bm_ [103, 1, 1, 3, 1, 12]) HT_ HW_ hHeld ?_
           refine tq_ 106 198 (bm_ [103, 1, 1, 1, 1, 1, 1, 12]) HT_ HW_ hHeld ?_
           refine oq_ 103 (some 195) (bm_ [105, 1, 1, 1, 1, 12]) HT_ (fun K hK => ?_)
           refine gq_ Try.func37 #[.agg #[.int .i64 t112, .int .i64 t113, .bool t114]] ?_
           with_reducible refine (bound_Abs_api_Fix.calls kj58 t112 t113 t114 t161 t162 t163 _ A156.out).mono ?_
           rintro e w195 ⟨rfl, hb⟩
           refine ⟨_, rfl, ?_⟩
           replace BK110 := bkb_ BK110 hb rfl
           replace BK111 := bkb_ BK111 hb rfl
           replace BK120 := bkb_ BK120 hb rfl
           replace BK121 := bkb_ BK121 hb rfl
           replace BK131 := bkb_ BK131 hb rfl
           replace BK136 := bkb_ BK136 hb rfl
           replace HB := hbs_ HB hb rfl rfl rfl rfl
           (try clear hb)
           refine hK.out _ _ ⟨bc_ BK120 0 rfl, bc_ BK120 1 rfl, bc_ BK120 2 rfl, bc_ BK121 0 rfl, bc_ BK121 1 rfl, bc_ BK121 2 rfl, bc_ BK110 0 rfl, bc_ BK110 1 rfl, bc_ BK110 2 rfl, bc_ BK111 0 rfl, bc_ BK111 1 rfl, bc_ BK111 2 rfl⟩ (fun hHeld => ?_)
           clear hK K
           refine nq_ 195 ?_
           refine oq_ 105 (some 197) (bm_ [107, 1, 1, 12]) HT_ (fun K hK => ?_)
           refine gq_ Try.func44 #[.agg #[.int .i64 t161, .int .i64 t162, .bool t163], .int .i64 (wrap64 (1 + t122))] ?_
           with_reducible refine (bound_Root_api_Fix.calls kj58 t161 t162 t163 (wrap64 (1 + t122)) t213 t214 t215 _ A157.out).mono ?_
           rintro e w196 ⟨rfl, hb⟩
           refine ⟨_, rfl, ?_⟩
           replace BK110 := bkb_ BK110 hb rfl
           replace BK111 := bkb_ BK111 hb rfl
           replace BK120 := bkb_ BK120 hb rfl
           replace BK121 := bkb_ BK121 hb rfl
           replace BK131 := bkb_ BK131 hb rfl
           replace BK136 := bkb_ BK136 hb rfl
           replace HB := hbs_ HB hb rfl rfl rfl rfl
           (try clear hb)
           refine hK.out _ _ ⟨bc_ BK120 0 rfl, bc_ BK120 1 rfl, bc_ BK120 2 rfl, bc_ BK121 0 rfl, bc_ BK121 1 rfl, bc_ BK121 2 rfl, bc_ BK110 0 rfl, bc_ BK110 1 rfl, bc_ BK110 2 rfl, bc_ BK111 0 rfl, bc_ BK111 1 rfl, bc_ BK111 2 rfl⟩ (fun hHeld => ?_)
           clear hK K
           refine nq_ 197 ?_
           refine oq_ 107 (some 199) (bm_ [109, 12]) HT_ (fun K hK => ?_)
           refine gq_ Try.func37 #[.agg #[.int .i64 t102, .int .i64 t103, .bool t104]] ?_
           with_reducible refine (bound_Abs_api_Fix.calls kj58 t102 t103 t104 t164 t165 t166 _ A158.out).mono ?_
           rintro e w197 ⟨rfl, hb⟩
           refine ⟨_, rfl, ?_⟩
           replace BK110 := bkb_ BK110 hb rfl
           replace BK111 := bkb_ BK111 hb rfl
           replace BK120 := bkb_ BK120 hb rfl
           replace BK121 := bkb_ BK121 hb rfl
           replace BK131 := bkb_ BK131 hb rfl
           replace BK136 := bkb_ BK136 hb rfl
           replace HB := hbs_ HB hb rfl rfl rfl rfl
           (try clear hb)
           refine hK.out _ _ ⟨bc_ BK120 0 rfl, bc_ BK120 1 rfl, bc_ BK120 2 rfl, bc_ BK121 0 rfl, bc_ BK121 1 rfl, bc_ BK121 2 rfl, bc_ BK110 0 rfl, bc_ BK110 1 rfl, bc_ BK110 2 rfl, bc_ BK111 0 rfl, bc_ BK111 1 rfl, bc_ BK111 2 rfl⟩ (fun hHeld => ?_)
           clear hK K
           refine nq_ 199 ?_
           refine oq_ 109 (some 201) (bm_ [110, 11]) HT_ (fun K hK => ?_)
           refine gq_ Try.func44 #[.agg #[.int .i64 t164, .int .i64 t165, .bool t166], .int .i64 (wrap64 (1 + t122))] ?_
           with_reducible refine (bound_Root_api_Fix.calls kj58 t164 t165 t166 (wrap64 (1 + t122)) t219 t220 t221 _ A159.out).mono ?_
           rintro e w198 ⟨rfl, hb⟩
           refine ⟨_, rfl, ?_⟩
           replace BK110 := bkb_ BK110 hb rfl
           replace BK111 := bkb_ BK111 hb rfl
           replace BK120 := bkb_ BK120 hb rfl
           replace BK121 := bkb_ BK121 hb rfl
           replace BK131 := bkb_ BK131 hb rfl
           replace BK136 := bkb_ BK136 hb rfl
           replace HB := hbs_ HB hb rfl rfl rfl rfl
           (try clear hb)
           refine hK.out _ _ ⟨bc_ BK120 0 rfl, bc_ BK120 1 rfl, bc_ BK120 2 rfl, bc_ BK121 0 rfl, bc_ BK121 1 rfl, bc_ BK121 2 rfl, bc_ BK110 0 rfl, bc_ BK110 1 rfl, bc_ BK110 2 rfl, bc_ BK111 0 rfl, bc_ BK111 1 rfl, bc_ BK111 2 rfl⟩ (fun hHeld => ?_)
           clear hK K
           refine nq_ 201 ?_
           refine oq_ 110 (some 202) (bm_ [111, 10]) HT_ (fun K hK => ?_)
           refine goesv_ Try.func30 (by kernel_rfl) rfl #[.agg #[.int .i64 t213, .int .i64 t214, .bool t215], .agg #[.int .i64 t219, .int .i64 t220, .bool t221]] (by rfl) rfl rfl (by first | rfl | (simp [Act.eval, Act.put] <;> rfl)) (by (try simp only [List.map_toArray, List.map_cons, List.map_nil]); first | done | rfl | (simp only [List.length_drop, List.length_take]; rfl)) ?_
           with_reducible refine (bound_Inside_api_Fix.calls kj58 t213 t214 t215 t219 t220 t221 true _ A160.out).mono ?_
           rintro e w199 ⟨rfl, hb⟩
           refine ⟨_, rfl, ?_⟩
           replace BK110 := bkb_ BK110 hb rfl
           replace BK111 := bkb_ BK111 hb rfl
           replace BK120 := bkb_ BK120 hb rfl
           replace BK121 := bkb_ BK121 hb rfl
           replace BK131 := bkb_ BK131 hb rfl
           replace BK136 := bkb_ BK136 hb rfl
           replace HB := hbs_ HB hb rfl rfl rfl rfl
           (try clear hb)
           refine hK.out _ _ ⟨bc_ BK120 0 rfl, bc_ BK120 1 rfl, bc_ BK120 2 rfl, bc_ BK121 0 rfl, bc_ BK121 1 rfl, bc_ BK121 2 rfl, bc_ BK110 0 rfl, bc_ BK110 1 rfl, bc_ BK110 2 rfl, bc_ BK111 0 rfl, bc_ BK111 1 rfl, bc_ BK111 2 rfl⟩ (fun hHeld => ?_)
           clear hK K
           refine nq_ 202 ?_
           refine pq_ 111 203 (bm_ [112, 9]) HT_ ?_
           refine pq_ 112 204 (bm_ [113, 8]) HT_ ?_
           refine pq_ 113 205 (bm_ [114, 7]) HT_ ?_
           refine tq_ 114 206 (bm_ [115, 6]) HT_ HW_ hHeld ?_
           refine tq_ 115 207 (bm_ [116, 5]) HT_ HW_ hHeld ?_
           refine tq_ 116 208 (bm_ [117, 4]) HT_ HW_ hHeld ?_
           as_aux_lemma =>
            refine oq_ 117 (some 209) (bm_ [118, 3]) HT_ (fun K hK => ?_)
            refine gq_ Try.func40 #[.agg #[.int .i64 t112, .int .i64 t113, .bool t114], .agg #[.int .i64 t116, .int .i64 t117, .bool t118]] ?_
            with_reducible refine (bound_Hull_api_Fix.calls kj58 t112 t113 t114 t116 t117 t118 t182 t183 t184 _ A162.out).mono ?_
            rintro e w200 ⟨rfl, hb⟩
            refine ⟨_, rfl, ?_⟩
            replace BK110 := bkb_ BK110 hb rfl
            replace BK111 := bkb_ BK111 hb rfl
            replace BK120 := bkb_ BK120 hb rfl
            replace BK121 := bkb_ BK121 hb rfl
            replace BK131 := bkb_ BK131 hb rfl
            replace BK136 := bkb_ BK136 hb rfl
            replace HB := hbs_ HB hb rfl rfl rfl rfl
            (try clear hb)
            refine hK.out _ _ ⟨bc_ BK120 0 rfl, bc_ BK120 1 rfl, bc_ BK120 2 rfl, bc_ BK121 0 rfl, bc_ BK121 1 rfl, bc_ BK121 2 rfl, bc_ BK110 0 rfl, bc_ BK110 1 rfl, bc_ BK110 2 rfl, bc_ BK111 0 rfl, bc_ BK111 1 rfl, bc_ BK111 2 rfl⟩ (fun hHeld => ?_)
            clear hK K
            refine nq_ 209 ?_
            refine oq_ 118 (some 210) (bm_ [119, 2]) HT_ (fun K hK => ?_)
            refine goesv_ Try.func30 (by kernel_rfl) rfl #[.agg #[.int .i64 t112, .int .i64 t113, .bool t114], .agg #[.int .i64 t182, .int .i64 t183, .bool t184]] (by rfl) rfl rfl (by first | rfl | (simp [Act.eval, Act.put] <;> rfl)) (by (try simp only [List.map_toArray, List.map_cons, List.map_nil]); first | done | rfl | (simp only [List.length_drop, List.length_take]; rfl)) ?_
            with_reducible refine (bound_Inside_api_Fix.calls kj58 t112 t113 t114 t182 t183 t184 t226 _ A163.out).mono ?_
            rintro e w201 ⟨rfl, hb⟩
            refine ⟨_, rfl, ?_⟩
            replace BK110 := bkb_ BK110 hb rfl
            replace BK111 := bkb_ BK111 hb rfl
            replace BK120 := bkb_ BK120 hb rfl
            replace BK121 := bkb_ BK121 hb rfl
            replace BK131 := bkb_ BK131 hb rfl
            replace BK136 := bkb_ BK136 hb rfl
            replace HB := hbs_ HB hb rfl rfl rfl rfl
            (try clear hb)
            refine hK.out _ _ ⟨bc_ BK120 0 rfl, bc_ BK120 1 rfl, bc_ BK120 2 rfl, bc_ BK121 0 rfl, bc_ BK121 1 rfl, bc_ BK121 2 rfl, bc_ BK110 0 rfl, bc_ BK110 1 rfl, bc_ BK110 2 rfl, bc_ BK111 0 rfl, bc_ BK111 1 rfl, bc_ BK111 2 rfl⟩ (fun hHeld => ?_)
            clear hK K
            refine nq_ 210 ?_
            refine pq_ 119 211 (bm_ [120, 1]) HT_ ?_
            refine pq_ 120 6 (bm_ [121]) HT_ ?_
            refine done_ (done_of HT_.out (by kernel_rfl)) ?_
            try go_wp2
            go_ret
            exact ⟨by first | rfl | (simp [errW_none, errW_some] <;> rfl) | (simp [*, errW_none, errW_some] <;> rfl), by repeat (first | (with_reducible first | exact HB.out | apply below_alloc | apply pw_below_drewN | apply below_drew1 | refine below_set ?_ GE110.out | refine below_set ?_ GE111.out | refine below_set ?_ GE120.out | refine below_set ?_ GE121.out | refine below_set ?_ GE131.out | refine below_set ?_ GE136.out) | exact HB.out)⟩
/-- THE ONE PURE STATEMENT of spykeep1_BoundIsotone: yours. -/
def spykeep1_BoundIsotone.Pure : Prop := ∀ (l0 : List Int) (a1 : Int) (a2 : Int), l0.length ≤ maxLen → l0.length * 8 ≤ 140737488351232 → (∀ x ∈ l0, (Lit.int .i64 x).wf = true) → (Lit.int .i64 a1).wf = true → (Lit.int .i64 a2).wf = true → ∃ k, spykeep1_BoundIsotone.f k l0 a1 a2 = some true
theorem spykeep1_BoundIsotone.walk (P : spykeep1_BoundIsotone.Pure) (a0 : Option Addr) (len0 cap0 : Nat) (z0 : List Int) (a1 : Int) (a2 : Int) (w : World) (w0 : (a0 = none ∧ len0 = 0 ∧ cap0 = 0 ∧ z0 = []) ∨ ∃ x, a0 = some x ∧ len0 ≤ cap0 ∧ cap0 ≤ maxLen ∧ z0.length = cap0 ∧ (∀ i, i < z0.length → w.cell? (x.add i) = some (.int .i64 (z0.getD i 0))) ∧ ∀ n ∈ z0, (Lit.int .i64 n).wf = true) (y0 : len0 * 8 ≤ 140737488351232) (w1 : (Lit.int .i64 a1).wf = true) (w2 : (Lit.int .i64 a2).wf = true) :
 Calls Try.prog 6 #[.slice a0 len0 cap0, .int .i64 a1, .int .i64 a2] w fun e w' => e = .returned (.bool true) ∧ Below w.heap.size w w' := by
 obtain ⟨l0, rfl, hr0, hm0, hw0, hc0⟩ := ReadsInt.ofRowC w0
 obtain ⟨k, h⟩ := P l0 a1 a2 hm0 y0 hw0 w1 w2
 refine (spykeep1_BoundIsotone.calls k _ _ l0 a1 a2 true w (Kd.C_of_reads (d := (0 : Int)) (h1 := fun _ => rfl) hr0) hc0 h).mono ?_
 rintro e w' ⟨rfl, hd⟩
 exact ⟨rfl, hd⟩

end Go.Proofs.Ytpophefonhpnmaa.Q
