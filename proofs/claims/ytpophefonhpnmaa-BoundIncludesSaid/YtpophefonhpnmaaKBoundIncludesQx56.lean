/- Contracts of Go functions of the seat, one by one: each call returns what the Lean function of the same name says, wherever that is 'some'; no other condition. Written by a program of this session. -/
import Derived.Test.YtpophefonhpnmaaKBoundIncludesQx0
import Derived.Test.YtpophefonhpnmaaKBoundIncludesQx7
import Derived.Test.YtpophefonhpnmaaKBoundIncludesQx14
import Derived.Test.YtpophefonhpnmaaKBoundIncludesQx22
import Derived.Test.YtpophefonhpnmaaKBoundIncludesQx23
import Derived.Test.YtpophefonhpnmaaKBoundIncludesQx24
import Derived.Test.YtpophefonhpnmaaKBoundIncludesQx42
import Derived.Test.YtpophefonhpnmaaKBoundIncludesQx43
import Derived.Test.YtpophefonhpnmaaKBoundIncludesQx51
import Derived.Test.YtpophefonhpnmaaKBoundIncludesQx54
import Derived.Test.YtpophefonhpnmaaKBoundIncludesQx55
namespace Go.Proofs.Ytpophefonhpnmaa.Q
open Go.RowKit Go.Proofs.YtpophefonhpnmaaW.PrintWords Go.Proofs.YtpophefonhpnmaaW.PrintLast Go.Proofs.YtpophefonhpnmaaW.PrintMore
attribute [local go_sem] max2_int min2_int max_two min_two max_three min_three max_four min_four   -- for this text's walks alone
set_option linter.unusedVariables false
set_option linter.unusedSimpArgs false

/-! ### spykeep1_BoundIncludes: function 7 -/
mutual
def spykeep1_BoundIncludes.j0 : Nat → Int → Int → Int → Bool → Int → Int → Bool → Int → Int → Bool → Option (Bool)
 | 0, _, _, _, _, _, _, _, _, _, _ => none
 | k + 1, x8, x9, x10, x133, x111000, x111001, x111002, x112000, x112001, x112002 => if x133 = true then (none) else ((bound_Mul_api_Fix.f k x111000 x111001 x111002 x112000 x112001 x112002 x10).bind fun bt161 => ((bound_Scale_api_Fix.f k x111000 x111001 x111002 x9 x10).bind fun bt165 => ((num_FloorDiv.f (wrap64 (x8 * x9)) x10).bind fun t169 => ((spykeep1_BoundIncludes_1.f k bt161.1 bt161.2.1 bt161.2.2 t169).bind fun t170 => (if t170 = true then ((num_CeilDiv.f (wrap64 (x8 * x9)) x10).bind fun t171 => ((spykeep1_BoundIncludes_1.f k bt161.1 bt161.2.1 bt161.2.2 t171).bind fun t172 => (if t172 = true then ((num_FloorDiv.f (wrap64 (x8 * x9)) x10).bind fun t173 => ((spykeep1_BoundIncludes_1.f k bt165.1 bt165.2.1 bt165.2.2 t169).bind fun t174 => (if t174 = true then ((num_CeilDiv.f (wrap64 (x8 * x9)) x10).bind fun t175 => ((spykeep1_BoundIncludes_1.f k bt165.1 bt165.2.1 bt165.2.2 t171).bind fun t176 => (spykeep1_BoundIncludes.j1 k x8 x9 x10 (!t176) x111000 x111001 x111002 x112000 x112001 x112002))) else (none)))) else (none)))) else (none))))))
def spykeep1_BoundIncludes.j1 : Nat → Int → Int → Int → Bool → Int → Int → Bool → Int → Int → Bool → Option (Bool)
 | 0, _, _, _, _, _, _, _, _, _, _ => none
 | k + 1, x8, x9, x10, x183, x111000, x111001, x111002, x112000, x112001, x112002 => if x183 = true then (none) else ((bound_Div_api_Fix.f k x111000 x111001 x111002 x112000 x112001 x112002 x10).bind fun bt177 => (if x9 < 0 then (spykeep1_BoundIncludes.j2 k (wrap64 (-x8)) (wrap64 (-x9)) x10 x111000 x111001 x111002 bt177.1 bt177.2.1 bt177.2.2) else (spykeep1_BoundIncludes.j2 k x8 x9 x10 x111000 x111001 x111002 bt177.1 bt177.2.1 bt177.2.2)))
def spykeep1_BoundIncludes.j2 : Nat → Int → Int → Int → Int → Int → Bool → Int → Int → Bool → Option (Bool)
 | 0, _, _, _, _, _, _, _, _, _ => none
 | k + 1, x8, x9, x10, x111000, x111001, x111002, x181000, x181001, x181002 => if x9 > 0 then ((num_FloorDiv.f (wrap64 (x8 * x10)) x9).bind fun t181 => ((spykeep1_BoundIncludes_1.f k x181000 x181001 x181002 t181).bind fun t182 => (if t182 = true then ((num_CeilDiv.f (wrap64 (x8 * x10)) x9).bind fun t183 => ((spykeep1_BoundIncludes_1.f k x181000 x181001 x181002 t183).bind fun t184 => (spykeep1_BoundIncludes.j3 k x8 x10 (!t184) x111000 x111001 x111002))) else (none)))) else (spykeep1_BoundIncludes.j3 k x8 x10 false x111000 x111001 x111002)
def spykeep1_BoundIncludes.j3 : Nat → Int → Int → Bool → Int → Int → Bool → Option (Bool)
 | 0, _, _, _, _, _, _ => none
 | k + 1, x8, x10, x217, x111000, x111001, x111002 => if x217 = true then (none) else ((bound_Abs_api_Fix.f k x111000 x111001 x111002).bind fun bt185 => ((bound_Root_api_Fix.f k bt185.1 bt185.2.1 bt185.2.2 x10).bind fun bt188 => ((num_SqrtMul.f k (mx x8 (wrap64 (-x8))) x10).bind fun t192 => ((spykeep1_BoundIncludes_1.f k bt188.1 bt188.2.1 bt188.2.2 t192).bind fun t193 => (if t193 = true then (if (wrap64 (t192 * t192)) = (wrap64 ((mx x8 (wrap64 (-x8))) * x10)) then (some true) else ((spykeep1_BoundIncludes_1.f k bt188.1 bt188.2.1 bt188.2.2 (wrap64 (t192 + 1))).bind fun t194 => (some t194))) else (none))))))
end
def spykeep1_BoundIncludes.f (k : Nat) (l0 : List Int) (a1 : Int) : Option (Bool) := (spymake_Bound_api_Fix.f l0 0 1048576).bind fun bt102 => ((spymake_Bound_api_Fix.f l0 bt102.2.2.2 1024).bind fun bt106 => ((spymake_Within_api_Fix.f l0 bt106.2.2.2 bt102.1 bt102.2.1 bt102.2.2.1).bind fun bt112 => ((spymake_Within_api_Fix.f l0 bt112.2.2.2 bt106.1 bt106.2.1 bt106.2.2.1).bind fun bt116 => ((spymake_Below.f a1 1000).bind fun t120 => ((spykeep1_boundFact.f k).bind fun t121 => (if t121 = true then ((bound_Add_api_Fix.f k bt102.1 bt102.2.1 bt102.2.2.1 bt106.1 bt106.2.1 bt106.2.2.1).bind fun bt122 => ((spykeep1_BoundIncludes_1.f k bt122.1 bt122.2.1 bt122.2.2 (wrap64 (bt112.1 + bt116.1))).bind fun t125 => (if t125 = true then ((bound_Sub_api_Fix.f k bt102.1 bt102.2.1 bt102.2.2.1 bt106.1 bt106.2.1 bt106.2.2.1).bind fun bt126 => ((spykeep1_BoundIncludes_1.f k bt126.1 bt126.2.1 bt126.2.2 (wrap64 (bt112.1 - bt116.1))).bind fun t129 => (if t129 = true then ((bound_Neg_api_Fix.f k bt102.1 bt102.2.1 bt102.2.2.1).bind fun bt130 => ((spykeep1_BoundIncludes_1.f k bt130.1 bt130.2.1 bt130.2.2 (wrap64 (-bt112.1))).bind fun t133 => (if t133 = true then ((bound_Abs_api_Fix.f k bt102.1 bt102.2.1 bt102.2.2.1).bind fun bt134 => ((spykeep1_BoundIncludes_1.f k bt134.1 bt134.2.1 bt134.2.2 (mx bt112.1 (wrap64 (-bt112.1)))).bind fun t137 => (if t137 = true then ((bound_Min_api_Fix.f k bt102.1 bt102.2.1 bt102.2.2.1 bt106.1 bt106.2.1 bt106.2.2.1).bind fun bt138 => ((spykeep1_BoundIncludes_1.f k bt138.1 bt138.2.1 bt138.2.2 (mn bt112.1 bt116.1)).bind fun t141 => (if t141 = true then ((bound_Max_api_Fix.f k bt102.1 bt102.2.1 bt102.2.2.1 bt106.1 bt106.2.1 bt106.2.2.1).bind fun bt142 => ((spykeep1_BoundIncludes_1.f k bt142.1 bt142.2.1 bt142.2.2 (mx bt112.1 bt116.1)).bind fun t145 => (if t145 = true then ((bound_Hull_api_Fix.f k bt102.1 bt102.2.1 bt102.2.2.1 bt106.1 bt106.2.1 bt106.2.2.1).bind fun bt146 => ((spykeep1_BoundIncludes_1.f k bt146.1 bt146.2.1 bt146.2.2 bt112.1).bind fun t149 => (if t149 = true then ((bound_Hull_api_Fix.f k bt102.1 bt102.2.1 bt102.2.2.1 bt106.1 bt106.2.1 bt106.2.2.1).bind fun bt150 => ((spykeep1_BoundIncludes_1.f k bt146.1 bt146.2.1 bt146.2.2 bt116.1).bind fun t153 => (if t153 = true then ((bound_Sum_api_Fix.f (([(⟨bt102.1, bt102.2.1, bt102.2.2.1⟩ : S56), (⟨bt106.1, bt106.2.1, bt106.2.2.1⟩ : S56), (⟨bt102.1, bt102.2.1, bt102.2.2.1⟩ : S56)] : List (S56)))).bind fun bt157 => ((spykeep1_BoundIncludes_1.f k bt157.1 bt157.2.1 bt157.2.2 (wrap64 ((wrap64 (bt112.1 + bt116.1)) + bt112.1))).bind fun t160 => (spykeep1_BoundIncludes.j0 k bt112.1 bt116.1 (wrap64 (1 + t120)) (!t160) bt102.1 bt102.2.1 bt102.2.2.1 bt106.1 bt106.2.1 bt106.2.2.1))) else (none)))) else (none)))) else (none)))) else (none)))) else (none)))) else (none)))) else (none)))) else (none)))) else (none)))))))
theorem spykeep1_BoundIncludes.mono_l : ∀ k, (∀ y0 y1 y2 y3 y4 y5 y6 y7 y8 y9, LeO (spykeep1_BoundIncludes.j0 k y0 y1 y2 y3 y4 y5 y6 y7 y8 y9) (spykeep1_BoundIncludes.j0 (k + 1) y0 y1 y2 y3 y4 y5 y6 y7 y8 y9)) ∧ (∀ y0 y1 y2 y3 y4 y5 y6 y7 y8 y9, LeO (spykeep1_BoundIncludes.j1 k y0 y1 y2 y3 y4 y5 y6 y7 y8 y9) (spykeep1_BoundIncludes.j1 (k + 1) y0 y1 y2 y3 y4 y5 y6 y7 y8 y9)) ∧ (∀ y0 y1 y2 y3 y4 y5 y6 y7 y8, LeO (spykeep1_BoundIncludes.j2 k y0 y1 y2 y3 y4 y5 y6 y7 y8) (spykeep1_BoundIncludes.j2 (k + 1) y0 y1 y2 y3 y4 y5 y6 y7 y8)) ∧ (∀ y0 y1 y2 y3 y4 y5, LeO (spykeep1_BoundIncludes.j3 k y0 y1 y2 y3 y4 y5) (spykeep1_BoundIncludes.j3 (k + 1) y0 y1 y2 y3 y4 y5))
 | 0 => ⟨fun _ _ _ _ _ _ _ _ _ _ r h => by simp [spykeep1_BoundIncludes.j0] at h, fun _ _ _ _ _ _ _ _ _ _ r h => by simp [spykeep1_BoundIncludes.j1] at h, fun _ _ _ _ _ _ _ _ _ r h => by simp [spykeep1_BoundIncludes.j2] at h, fun _ _ _ _ _ _ r h => by simp [spykeep1_BoundIncludes.j3] at h⟩
 | k + 1 => by
  obtain ⟨ih0, ih1, ih2, ih3⟩ := spykeep1_BoundIncludes.mono_l k
  refine ⟨?_, ?_, ?_, ?_⟩
  · intro y0 y1 y2 y3 y4 y5 y6 y7 y8 y9
    unfold spykeep1_BoundIncludes.j0
    repeat' first
    | (with_reducible exact ih0 _ _ _ _ _ _ _ _ _ _)
    | (with_reducible exact ih1 _ _ _ _ _ _ _ _ _ _)
    | (with_reducible exact ih2 _ _ _ _ _ _ _ _ _)
    | (with_reducible exact ih3 _ _ _ _ _ _)
    | (with_reducible exact bound_Abs_api_Fix.mono _ _ _ _)
    | (with_reducible exact bound_Add_api_Fix.mono _ _ _ _ _ _ _)
    | (with_reducible exact bound_Div_api_Fix.mono _ _ _ _ _ _ _ _)
    | (with_reducible exact bound_Hull_api_Fix.mono _ _ _ _ _ _ _)
    | (with_reducible exact bound_Max_api_Fix.mono _ _ _ _ _ _ _)
    | (with_reducible exact bound_Min_api_Fix.mono _ _ _ _ _ _ _)
    | (with_reducible exact bound_Mul_api_Fix.mono _ _ _ _ _ _ _ _)
    | (with_reducible exact bound_Neg_api_Fix.mono _ _ _ _)
    | (with_reducible exact bound_Root_api_Fix.mono _ _ _ _ _)
    | (with_reducible exact bound_Scale_api_Fix.mono _ _ _ _ _ _)
    | (with_reducible exact bound_Sub_api_Fix.mono _ _ _ _ _ _ _)
    | (with_reducible exact num_SqrtMul.mono _ _ _)
    | (with_reducible exact spykeep1_BoundIncludes_1.mono _ _ _ _ _)
    | (with_reducible exact spykeep1_boundFact.mono _)
    | (with_reducible exact LeO.refl _)
    | (with_reducible exact LeO.none _)
    | (with_reducible refine LeO.ite ?_ ?_)
    | (with_reducible refine LeO.bind ?_ (fun _ => ?_))
    | exact ih0 _ _ _ _ _ _ _ _ _ _
    | exact ih1 _ _ _ _ _ _ _ _ _ _
    | exact ih2 _ _ _ _ _ _ _ _ _
    | exact ih3 _ _ _ _ _ _
    | exact bound_Abs_api_Fix.mono _ _ _ _
    | exact bound_Add_api_Fix.mono _ _ _ _ _ _ _
    | exact bound_Div_api_Fix.mono _ _ _ _ _ _ _ _
    | exact bound_Hull_api_Fix.mono _ _ _ _ _ _ _
    | exact bound_Max_api_Fix.mono _ _ _ _ _ _ _
    | exact bound_Min_api_Fix.mono _ _ _ _ _ _ _
    | exact bound_Mul_api_Fix.mono _ _ _ _ _ _ _ _
    | exact bound_Neg_api_Fix.mono _ _ _ _
    | exact bound_Root_api_Fix.mono _ _ _ _ _
    | exact bound_Scale_api_Fix.mono _ _ _ _ _ _
    | exact bound_Sub_api_Fix.mono _ _ _ _ _ _ _
    | exact num_SqrtMul.mono _ _ _
    | exact spykeep1_BoundIncludes_1.mono _ _ _ _ _
    | exact spykeep1_boundFact.mono _
    | exact LeO.none _
    | refine LeO.ite ?_ ?_
    | refine LeO.bind ?_ (fun _ => ?_)
  · intro y0 y1 y2 y3 y4 y5 y6 y7 y8 y9
    unfold spykeep1_BoundIncludes.j1
    repeat' first
    | (with_reducible exact ih0 _ _ _ _ _ _ _ _ _ _)
    | (with_reducible exact ih1 _ _ _ _ _ _ _ _ _ _)
    | (with_reducible exact ih2 _ _ _ _ _ _ _ _ _)
    | (with_reducible exact ih3 _ _ _ _ _ _)
    | (with_reducible exact bound_Abs_api_Fix.mono _ _ _ _)
    | (with_reducible exact bound_Add_api_Fix.mono _ _ _ _ _ _ _)
    | (with_reducible exact bound_Div_api_Fix.mono _ _ _ _ _ _ _ _)
    | (with_reducible exact bound_Hull_api_Fix.mono _ _ _ _ _ _ _)
    | (with_reducible exact bound_Max_api_Fix.mono _ _ _ _ _ _ _)
    | (with_reducible exact bound_Min_api_Fix.mono _ _ _ _ _ _ _)
    | (with_reducible exact bound_Mul_api_Fix.mono _ _ _ _ _ _ _ _)
    | (with_reducible exact bound_Neg_api_Fix.mono _ _ _ _)
    | (with_reducible exact bound_Root_api_Fix.mono _ _ _ _ _)
    | (with_reducible exact bound_Scale_api_Fix.mono _ _ _ _ _ _)
    | (with_reducible exact bound_Sub_api_Fix.mono _ _ _ _ _ _ _)
    | (with_reducible exact num_SqrtMul.mono _ _ _)
    | (with_reducible exact spykeep1_BoundIncludes_1.mono _ _ _ _ _)
    | (with_reducible exact spykeep1_boundFact.mono _)
    | (with_reducible exact LeO.refl _)
    | (with_reducible exact LeO.none _)
    | (with_reducible refine LeO.ite ?_ ?_)
    | (with_reducible refine LeO.bind ?_ (fun _ => ?_))
    | exact ih0 _ _ _ _ _ _ _ _ _ _
    | exact ih1 _ _ _ _ _ _ _ _ _ _
    | exact ih2 _ _ _ _ _ _ _ _ _
    | exact ih3 _ _ _ _ _ _
    | exact bound_Abs_api_Fix.mono _ _ _ _
    | exact bound_Add_api_Fix.mono _ _ _ _ _ _ _
    | exact bound_Div_api_Fix.mono _ _ _ _ _ _ _ _
    | exact bound_Hull_api_Fix.mono _ _ _ _ _ _ _
    | exact bound_Max_api_Fix.mono _ _ _ _ _ _ _
    | exact bound_Min_api_Fix.mono _ _ _ _ _ _ _
    | exact bound_Mul_api_Fix.mono _ _ _ _ _ _ _ _
    | exact bound_Neg_api_Fix.mono _ _ _ _
    | exact bound_Root_api_Fix.mono _ _ _ _ _
    | exact bound_Scale_api_Fix.mono _ _ _ _ _ _
    | exact bound_Sub_api_Fix.mono _ _ _ _ _ _ _
    | exact num_SqrtMul.mono _ _ _
    | exact spykeep1_BoundIncludes_1.mono _ _ _ _ _
    | exact spykeep1_boundFact.mono _
    | exact LeO.none _
    | refine LeO.ite ?_ ?_
    | refine LeO.bind ?_ (fun _ => ?_)
  · intro y0 y1 y2 y3 y4 y5 y6 y7 y8
    unfold spykeep1_BoundIncludes.j2
    repeat' first
    | (with_reducible exact ih0 _ _ _ _ _ _ _ _ _ _)
    | (with_reducible exact ih1 _ _ _ _ _ _ _ _ _ _)
    | (with_reducible exact ih2 _ _ _ _ _ _ _ _ _)
    | (with_reducible exact ih3 _ _ _ _ _ _)
    | (with_reducible exact bound_Abs_api_Fix.mono _ _ _ _)
    | (with_reducible exact bound_Add_api_Fix.mono _ _ _ _ _ _ _)
    | (with_reducible exact bound_Div_api_Fix.mono _ _ _ _ _ _ _ _)
    | (with_reducible exact bound_Hull_api_Fix.mono _ _ _ _ _ _ _)
    | (with_reducible exact bound_Max_api_Fix.mono _ _ _ _ _ _ _)
    | (with_reducible exact bound_Min_api_Fix.mono _ _ _ _ _ _ _)
    | (with_reducible exact bound_Mul_api_Fix.mono _ _ _ _ _ _ _ _)
    | (with_reducible exact bound_Neg_api_Fix.mono _ _ _ _)
    | (with_reducible exact bound_Root_api_Fix.mono _ _ _ _ _)
    | (with_reducible exact bound_Scale_api_Fix.mono _ _ _ _ _ _)
    | (with_reducible exact bound_Sub_api_Fix.mono _ _ _ _ _ _ _)
    | (with_reducible exact num_SqrtMul.mono _ _ _)
    | (with_reducible exact spykeep1_BoundIncludes_1.mono _ _ _ _ _)
    | (with_reducible exact spykeep1_boundFact.mono _)
    | (with_reducible exact LeO.refl _)
    | (with_reducible exact LeO.none _)
    | (with_reducible refine LeO.ite ?_ ?_)
    | (with_reducible refine LeO.bind ?_ (fun _ => ?_))
    | exact ih0 _ _ _ _ _ _ _ _ _ _
    | exact ih1 _ _ _ _ _ _ _ _ _ _
    | exact ih2 _ _ _ _ _ _ _ _ _
    | exact ih3 _ _ _ _ _ _
    | exact bound_Abs_api_Fix.mono _ _ _ _
    | exact bound_Add_api_Fix.mono _ _ _ _ _ _ _
    | exact bound_Div_api_Fix.mono _ _ _ _ _ _ _ _
    | exact bound_Hull_api_Fix.mono _ _ _ _ _ _ _
    | exact bound_Max_api_Fix.mono _ _ _ _ _ _ _
    | exact bound_Min_api_Fix.mono _ _ _ _ _ _ _
    | exact bound_Mul_api_Fix.mono _ _ _ _ _ _ _ _
    | exact bound_Neg_api_Fix.mono _ _ _ _
    | exact bound_Root_api_Fix.mono _ _ _ _ _
    | exact bound_Scale_api_Fix.mono _ _ _ _ _ _
    | exact bound_Sub_api_Fix.mono _ _ _ _ _ _ _
    | exact num_SqrtMul.mono _ _ _
    | exact spykeep1_BoundIncludes_1.mono _ _ _ _ _
    | exact spykeep1_boundFact.mono _
    | exact LeO.none _
    | refine LeO.ite ?_ ?_
    | refine LeO.bind ?_ (fun _ => ?_)
  · intro y0 y1 y2 y3 y4 y5
    unfold spykeep1_BoundIncludes.j3
    repeat' first
    | (with_reducible exact ih0 _ _ _ _ _ _ _ _ _ _)
    | (with_reducible exact ih1 _ _ _ _ _ _ _ _ _ _)
    | (with_reducible exact ih2 _ _ _ _ _ _ _ _ _)
    | (with_reducible exact ih3 _ _ _ _ _ _)
    | (with_reducible exact bound_Abs_api_Fix.mono _ _ _ _)
    | (with_reducible exact bound_Add_api_Fix.mono _ _ _ _ _ _ _)
    | (with_reducible exact bound_Div_api_Fix.mono _ _ _ _ _ _ _ _)
    | (with_reducible exact bound_Hull_api_Fix.mono _ _ _ _ _ _ _)
    | (with_reducible exact bound_Max_api_Fix.mono _ _ _ _ _ _ _)
    | (with_reducible exact bound_Min_api_Fix.mono _ _ _ _ _ _ _)
    | (with_reducible exact bound_Mul_api_Fix.mono _ _ _ _ _ _ _ _)
    | (with_reducible exact bound_Neg_api_Fix.mono _ _ _ _)
    | (with_reducible exact bound_Root_api_Fix.mono _ _ _ _ _)
    | (with_reducible exact bound_Scale_api_Fix.mono _ _ _ _ _ _)
    | (with_reducible exact bound_Sub_api_Fix.mono _ _ _ _ _ _ _)
    | (with_reducible exact num_SqrtMul.mono _ _ _)
    | (with_reducible exact spykeep1_BoundIncludes_1.mono _ _ _ _ _)
    | (with_reducible exact spykeep1_boundFact.mono _)
    | (with_reducible exact LeO.refl _)
    | (with_reducible exact LeO.none _)
    | (with_reducible refine LeO.ite ?_ ?_)
    | (with_reducible refine LeO.bind ?_ (fun _ => ?_))
    | exact ih0 _ _ _ _ _ _ _ _ _ _
    | exact ih1 _ _ _ _ _ _ _ _ _ _
    | exact ih2 _ _ _ _ _ _ _ _ _
    | exact ih3 _ _ _ _ _ _
    | exact bound_Abs_api_Fix.mono _ _ _ _
    | exact bound_Add_api_Fix.mono _ _ _ _ _ _ _
    | exact bound_Div_api_Fix.mono _ _ _ _ _ _ _ _
    | exact bound_Hull_api_Fix.mono _ _ _ _ _ _ _
    | exact bound_Max_api_Fix.mono _ _ _ _ _ _ _
    | exact bound_Min_api_Fix.mono _ _ _ _ _ _ _
    | exact bound_Mul_api_Fix.mono _ _ _ _ _ _ _ _
    | exact bound_Neg_api_Fix.mono _ _ _ _
    | exact bound_Root_api_Fix.mono _ _ _ _ _
    | exact bound_Scale_api_Fix.mono _ _ _ _ _ _
    | exact bound_Sub_api_Fix.mono _ _ _ _ _ _ _
    | exact num_SqrtMul.mono _ _ _
    | exact spykeep1_BoundIncludes_1.mono _ _ _ _ _
    | exact spykeep1_boundFact.mono _
    | exact LeO.none _
    | refine LeO.ite ?_ ?_
    | refine LeO.bind ?_ (fun _ => ?_)
theorem spykeep1_BoundIncludes.mono : ∀ a0 a1 k, LeO (spykeep1_BoundIncludes.f k a0 a1) (spykeep1_BoundIncludes.f (k + 1) a0 a1) := by
 intro a0 a1 k
 obtain ⟨ih0, ih1, ih2, ih3⟩ := spykeep1_BoundIncludes.mono_l k
 unfold spykeep1_BoundIncludes.f
 repeat' first
  | (with_reducible exact ih0 _ _ _ _ _ _ _ _ _ _)
  | (with_reducible exact ih1 _ _ _ _ _ _ _ _ _ _)
  | (with_reducible exact ih2 _ _ _ _ _ _ _ _ _)
  | (with_reducible exact ih3 _ _ _ _ _ _)
  | (with_reducible exact bound_Abs_api_Fix.mono _ _ _ _)
  | (with_reducible exact bound_Add_api_Fix.mono _ _ _ _ _ _ _)
  | (with_reducible exact bound_Div_api_Fix.mono _ _ _ _ _ _ _ _)
  | (with_reducible exact bound_Hull_api_Fix.mono _ _ _ _ _ _ _)
  | (with_reducible exact bound_Max_api_Fix.mono _ _ _ _ _ _ _)
  | (with_reducible exact bound_Min_api_Fix.mono _ _ _ _ _ _ _)
  | (with_reducible exact bound_Mul_api_Fix.mono _ _ _ _ _ _ _ _)
  | (with_reducible exact bound_Neg_api_Fix.mono _ _ _ _)
  | (with_reducible exact bound_Root_api_Fix.mono _ _ _ _ _)
  | (with_reducible exact bound_Scale_api_Fix.mono _ _ _ _ _ _)
  | (with_reducible exact bound_Sub_api_Fix.mono _ _ _ _ _ _ _)
  | (with_reducible exact num_SqrtMul.mono _ _ _)
  | (with_reducible exact spykeep1_BoundIncludes_1.mono _ _ _ _ _)
  | (with_reducible exact spykeep1_boundFact.mono _)
  | (with_reducible exact LeO.refl _)
  | (with_reducible exact LeO.none _)
  | (with_reducible refine LeO.ite ?_ ?_)
  | (with_reducible refine LeO.bind ?_ (fun _ => ?_))
  | exact ih0 _ _ _ _ _ _ _ _ _ _
  | exact ih1 _ _ _ _ _ _ _ _ _ _
  | exact ih2 _ _ _ _ _ _ _ _ _
  | exact ih3 _ _ _ _ _ _
  | exact bound_Abs_api_Fix.mono _ _ _ _
  | exact bound_Add_api_Fix.mono _ _ _ _ _ _ _
  | exact bound_Div_api_Fix.mono _ _ _ _ _ _ _ _
  | exact bound_Hull_api_Fix.mono _ _ _ _ _ _ _
  | exact bound_Max_api_Fix.mono _ _ _ _ _ _ _
  | exact bound_Min_api_Fix.mono _ _ _ _ _ _ _
  | exact bound_Mul_api_Fix.mono _ _ _ _ _ _ _ _
  | exact bound_Neg_api_Fix.mono _ _ _ _
  | exact bound_Root_api_Fix.mono _ _ _ _ _
  | exact bound_Scale_api_Fix.mono _ _ _ _ _ _
  | exact bound_Sub_api_Fix.mono _ _ _ _ _ _ _
  | exact num_SqrtMul.mono _ _ _
  | exact spykeep1_BoundIncludes_1.mono _ _ _ _ _
  | exact spykeep1_boundFact.mono _
  | exact LeO.none _
  | refine LeO.ite ?_ ?_
  | refine LeO.bind ?_ (fun _ => ?_)
def spykeep1_BoundIncludes.T3 : Bool × List (List Nat × List Nat) := (true, [([], []), ([], []), ([0, 1], [0, 1]), ([2], [2]), ([], []), ([], []), ([4, 5, 2], [4, 5]), ([6], [6]), ([3, 6, 0, 1, 2, 3], [3]), ([7, 8, 0, 1, 2, 3, 4, 5, 6, 7, 8], [7])])
def spykeep1_BoundIncludes.B3 : List Nat := [0, 0, 3, 7, 0, 0, 55, 119, 127, 511]
theorem spykeep1_BoundIncludes.tab3 : rtab .any (opsOf Try.f7 3) = spykeep1_BoundIncludes.T3 := by kernel_rfl
theorem spykeep1_BoundIncludes.bits3 : waitsOk spykeep1_BoundIncludes.T3.2 spykeep1_BoundIncludes.B3 = true := by kernel_rfl
def spykeep1_BoundIncludes.T10 : Bool × List (List Nat × List Nat) := (true, [([], []), ([], []), ([], []), ([], []), ([2, 3], [2, 3]), ([], []), ([4, 5], [4, 5]), ([0, 1, 6, 6], [0, 1, 6]), ([7], [7]), ([8, 7], [8]), ([9], [9]), ([9], [9]), ([9], [9]), ([9], [9]), ([12, 13, 9], [9, 12, 13]), ([9], [9]), ([14, 15, 9, 9], [9, 14, 15]), ([10, 11, 16, 16, 9], [9, 10, 11, 16]), ([17, 9], [9, 17]), ([9, 18], [9, 18]), ([19, 17], [19]), ([20], [20]), ([20], [20]), ([20], [20]), ([20], [20]), ([23, 24, 20], [20, 23, 24]), ([20], [20]), ([25, 26, 20, 20], [20, 25, 26]), ([21, 22, 27, 27, 20], [20, 21, 22, 27]), ([28, 20], [20, 28]), ([20, 29], [20, 29]), ([30, 28], [30]), ([31], [31]), ([31], [31]), ([31], [31]), ([31], [31]), ([34, 35, 31], [31, 34, 35]), ([31], [31]), ([36, 37, 31, 31], [31, 36, 37]), ([32, 33, 38, 38, 31], [31, 32, 33, 38]), ([39, 31], [31, 39]), ([31, 40], [31, 40])])
def spykeep1_BoundIncludes.B10 : List Nat := [0, 0, 0, 0, 12, 0, 60, 127, 255, 511, 1023, 1023, 1023, 1023, 13311, 1023, 62463, 131071, 262143, 524287, 1048575, 2097151, 2097151, 2097151, 2097151, 27262975, 2097151, 127926271, 268435455, 536870911, 1073741823, 2147483647, 4294967295, 4294967295, 4294967295, 4294967295, 55834574847, 4294967295, 261993005055, 549755813887, 1099511627775, 2199023255551]
theorem spykeep1_BoundIncludes.tab10 : rtab .any (opsOf Try.f7 10) = spykeep1_BoundIncludes.T10 := by kernel_rfl
theorem spykeep1_BoundIncludes.bits10 : waitsOk spykeep1_BoundIncludes.T10.2 spykeep1_BoundIncludes.B10 = true := by kernel_rfl
def spykeep1_BoundIncludes.T15 : Bool × List (List Nat × List Nat) := (true, [([], []), ([0], [0]), ([1], [1]), ([2], [2]), ([2], [2]), ([2], [2]), ([2], [2]), ([5, 6, 2], [2, 5, 6]), ([2], [2]), ([7, 8, 2, 2], [2, 7, 8]), ([3, 4, 9, 9, 2], [2, 3, 4, 9]), ([10, 2], [2, 10]), ([11, 10, 2], [2, 11]), ([12], [12]), ([12], [12]), ([12], [12]), ([12], [12]), ([15, 16, 12], [12, 15, 16]), ([12], [12]), ([17, 18, 12, 12], [12, 17, 18]), ([13, 14, 19, 19, 12], [12, 13, 14, 19]), ([20, 12], [12, 20]), ([12, 21, 2], [2, 12, 21]), ([2, 22], [2, 22])])
def spykeep1_BoundIncludes.B15 : List Nat := [0, 1, 3, 7, 7, 7, 7, 103, 7, 487, 1023, 2047, 4095, 8191, 8191, 8191, 8191, 106495, 8191, 499711, 1048575, 2097151, 4194303, 8388607]
theorem spykeep1_BoundIncludes.tab15 : rtab .any (opsOf Try.f7 15) = spykeep1_BoundIncludes.T15 := by kernel_rfl
theorem spykeep1_BoundIncludes.bits15 : waitsOk spykeep1_BoundIncludes.T15.2 spykeep1_BoundIncludes.B15 = true := by kernel_rfl
/-- A row of literals is built: its run, out of what its places hold. -/
theorem bsl_ {P : Program} {a : Act} {o : Oper} {W W' : World} {t len : Nat} {parts : Array (Nat × Operand)} {v : Value} (vs : Array (Nat × Value)) (ho : o.op = .buildSlice t len parts) (hv : parts.map (fun p => (p.1, a.eval p.2)) = vs)
    (h : (Instr.buildSlice t len vs).run P W = .ok v W') : (execOp a.eval o).run P W = .ok (.value v) W' := by
  subst hv
  have e : execOp a.eval o = (Instr.buildSlice t len (parts.map (fun p => (p.1, a.eval p.2))) >>= fun x => pure (.value x)) := by unfold execOp; rw [ho]
  rw [e, Sem.run_bind, h]
  rfl
theorem bl3_ (x0 x1 y0 y1 z0 z1 : Int) (x2 y2 z2 : Bool) (W : World) : (Instr.buildSlice 54 3 #[(0, .agg #[.int .i64 x0, .int .i64 x1, .bool x2]), (1, .agg #[.int .i64 y0, .int .i64 y1, .bool y2]), (2, .agg #[.int .i64 z0, .int .i64 z1, .bool z2])]).run Try.prog W = .ok (.slice (some ⟨W.heap.size, 0, none⟩) 3 3) (W.alloc (.cells #[.int .i64 x0, .int .i64 x1, .bool x2, .int .i64 y0, .int .i64 y1, .bool y2, .int .i64 z0, .int .i64 z1, .bool z2] 56)) := by
  have hu56 := Try.underlying56
  first | (go_simp; done) | (go_simp; rfl)
set_option maxHeartbeats 80000000 in
set_option maxRecDepth 100000 in
theorem spykeep1_BoundIncludes.calls (k : Nat) (A0 : Option Addr) (c0 : Nat) (l0 : List Int) (a1 : Int) (r : Bool) (w : World) (hr0 : Kd.C (Kd.int .i64) w A0 l0.length l0) (hc0 : l0.length ≤ c0) (h : spykeep1_BoundIncludes.f k l0 a1 = some r) :
 Calls Try.prog 7 #[.slice A0 l0.length c0, .int .i64 a1] w fun e w' => e = .returned (.bool r) ∧ Below w.heap.size w w' := by
  have hu25 := Try.underlying25
  have hu56 := Try.underlying56
  have hfld56_0 := fld56_0
  have HR0 := Aside0.mk hr0
  have HC0 := Aside0.mk hc0
  clear hr0 hc0
  have HB := Aside0.mk (Below.refl w.heap.size w)
  have H : ((spymake_Bound_api_Fix.f l0 0 1048576).bind fun bt102 => ((spymake_Bound_api_Fix.f l0 bt102.2.2.2 1024).bind fun bt106 => ((spymake_Within_api_Fix.f l0 bt106.2.2.2 bt102.1 bt102.2.1 bt102.2.2.1).bind fun bt112 => ((spymake_Within_api_Fix.f l0 bt112.2.2.2 bt106.1 bt106.2.1 bt106.2.2.1).bind fun bt116 => ((spymake_Below.f a1 1000).bind fun t120 => ((spykeep1_boundFact.f k).bind fun t121 => (if t121 = true then ((bound_Add_api_Fix.f k bt102.1 bt102.2.1 bt102.2.2.1 bt106.1 bt106.2.1 bt106.2.2.1).bind fun bt122 => ((spykeep1_BoundIncludes_1.f k bt122.1 bt122.2.1 bt122.2.2 (wrap64 (bt112.1 + bt116.1))).bind fun t125 => (if t125 = true then ((bound_Sub_api_Fix.f k bt102.1 bt102.2.1 bt102.2.2.1 bt106.1 bt106.2.1 bt106.2.2.1).bind fun bt126 => ((spykeep1_BoundIncludes_1.f k bt126.1 bt126.2.1 bt126.2.2 (wrap64 (bt112.1 - bt116.1))).bind fun t129 => (if t129 = true then ((bound_Neg_api_Fix.f k bt102.1 bt102.2.1 bt102.2.2.1).bind fun bt130 => ((spykeep1_BoundIncludes_1.f k bt130.1 bt130.2.1 bt130.2.2 (wrap64 (-bt112.1))).bind fun t133 => (if t133 = true then ((bound_Abs_api_Fix.f k bt102.1 bt102.2.1 bt102.2.2.1).bind fun bt134 => ((spykeep1_BoundIncludes_1.f k bt134.1 bt134.2.1 bt134.2.2 (mx bt112.1 (wrap64 (-bt112.1)))).bind fun t137 => (if t137 = true then ((bound_Min_api_Fix.f k bt102.1 bt102.2.1 bt102.2.2.1 bt106.1 bt106.2.1 bt106.2.2.1).bind fun bt138 => ((spykeep1_BoundIncludes_1.f k bt138.1 bt138.2.1 bt138.2.2 (mn bt112.1 bt116.1)).bind fun t141 => (if t141 = true then ((bound_Max_api_Fix.f k bt102.1 bt102.2.1 bt102.2.2.1 bt106.1 bt106.2.1 bt106.2.2.1).bind fun bt142 => ((spykeep1_BoundIncludes_1.f k bt142.1 bt142.2.1 bt142.2.2 (mx bt112.1 bt116.1)).bind fun t145 => (if t145 = true then ((bound_Hull_api_Fix.f k bt102.1 bt102.2.1 bt102.2.2.1 bt106.1 bt106.2.1 bt106.2.2.1).bind fun bt146 => ((spykeep1_BoundIncludes_1.f k bt146.1 bt146.2.1 bt146.2.2 bt112.1).bind fun t149 => (if t149 = true then ((bound_Hull_api_Fix.f k bt102.1 bt102.2.1 bt102.2.2.1 bt106.1 bt106.2.1 bt106.2.2.1).bind fun bt150 => ((spykeep1_BoundIncludes_1.f k bt146.1 bt146.2.1 bt146.2.2 bt116.1).bind fun t153 => (if t153 = true then ((bound_Sum_api_Fix.f (([(⟨bt102.1, bt102.2.1, bt102.2.2.1⟩ : S56), (⟨bt106.1, bt106.2.1, bt106.2.2.1⟩ : S56), (⟨bt102.1, bt102.2.1, bt102.2.2.1⟩ : S56)] : List (S56)))).bind fun bt157 => ((spykeep1_BoundIncludes_1.f k bt157.1 bt157.2.1 bt157.2.2 (wrap64 ((wrap64 (bt112.1 + bt116.1)) + bt112.1))).bind fun t160 => (spykeep1_BoundIncludes.j0 k bt112.1 bt116.1 (wrap64 (1 + t120)) (!t160) bt102.1 bt102.2.1 bt102.2.2.1 bt106.1 bt106.2.1 bt106.2.2.1))) else (none)))) else (none)))) else (none)))) else (none)))) else (none)))) else (none)))) else (none)))) else (none)))) else (none)))))))) = some r := h
  clear h
  replace H := Option.bind_eq_some_iff.mp H
  obtain ⟨⟨t102, t103, t104, t105⟩, A30, H⟩ := H
  try dsimp -simprocs only at H
  have A3 := Aside0.mk A30
  clear A30
  replace H := Option.bind_eq_some_iff.mp H
  obtain ⟨⟨t106, t107, t108, t109⟩, A40, H⟩ := H
  try dsimp -simprocs only at H
  have A4 := Aside0.mk A40
  clear A40
  replace H := Option.bind_eq_some_iff.mp H
  obtain ⟨⟨t112, t113, t114, t115⟩, A50, H⟩ := H
  try dsimp -simprocs only at H
  have A5 := Aside0.mk A50
  clear A50
  replace H := Option.bind_eq_some_iff.mp H
  obtain ⟨⟨t116, t117, t118, t119⟩, A60, H⟩ := H
  try dsimp -simprocs only at H
  have A6 := Aside0.mk A60
  clear A60
  replace H := Option.bind_eq_some_iff.mp H
  obtain ⟨t120, A70, H⟩ := H
  try dsimp -simprocs only at H
  have A7 := Aside0.mk A70
  clear A70
  have HC8 := Aside0.mk H
  clear H
  go_enter Try.func7, Try.ntmps7
  try go_wp2_with (first | ((with_reducible refine gate_dst (N := 19) rfl ?_); (try (refine gate_guard (by rfl) ?_; dsimp only)); refine bxq_ 19 #[.slice A0 l0.length c0, .int .i64 0] 25 ?_; intro gb101 hg w9 hbox hb; have HI101 := Aside0.mk ((show IsS25 w _ gb101 l0 0 from ⟨_, _, hbox, (by rw [hg]; exact (below_size (by repeat (first | (with_reducible first | exact HB.out | apply below_alloc | apply pw_below_drewN | apply below_drew1) | exact HB.out))) : w.heap.size ≤ gb101), HR0.out⟩)); have GW101 := Aside0.mk ((by rw [hg]; exact (below_size (by repeat (first | (with_reducible first | exact HB.out | apply below_alloc | apply pw_below_drewN | apply below_drew1) | exact HB.out))) : w.heap.size ≤ gb101)); have GE101 := GW101; replace HB := Aside0.mk (below_step (by repeat (first | (with_reducible first | exact HB.out | apply below_alloc | apply pw_below_drewN | apply below_drew1) | exact HB.out)) hb); clear hb hbox hg) | ((with_reducible refine gate_callee (f := 31) rfl ?_); refine glq_ (some 21) Try.func31 #[.pointer (some ⟨gb101, 0, none⟩), .int .i64 1048576] ?_; (with_reducible refine (spymake_Bound_api_Fix.calls gb101 l0 0 1048576 t102 t103 t104 t105 w _ ?side1 ?side2 A3.out).mono ?_); (case side1 => repeat (first | (with_reducible first | exact HI101.out | apply IsS25.alloc | apply IsS25.drewN | apply IsS25.drew | apply IsS25.set_1) | exact HI101.out)); (case side2 => repeat (first | (with_reducible first | exact HB.out | apply below_alloc | apply pw_below_drewN | apply below_drew1 | refine below_set ?_ (IsS25.ge HI101.out)) | exact HB.out)); rintro e w10 ⟨rfl, hi, hb, hk⟩; refine ⟨_, rfl, ?_⟩; replace HB := Aside0.mk (hb); replace HI101 := Aside0.mk (hi); (try clear hb hk hi)) | ((with_reducible refine gate_callee (f := 31) rfl ?_); refine glq_ (some 23) Try.func31 #[.pointer (some ⟨gb101, 0, none⟩), .int .i64 1024] ?_; (with_reducible refine (spymake_Bound_api_Fix.calls gb101 l0 t105 1024 t106 t107 t108 t109 w _ ?side1 ?side2 A4.out).mono ?_); (case side1 => repeat (first | (with_reducible first | exact HI101.out | apply IsS25.alloc | apply IsS25.drewN | apply IsS25.drew | apply IsS25.set_1) | exact HI101.out)); (case side2 => repeat (first | (with_reducible first | exact HB.out | apply below_alloc | apply pw_below_drewN | apply below_drew1 | refine below_set ?_ (IsS25.ge HI101.out)) | exact HB.out)); rintro e w11 ⟨rfl, hi, hb, hk⟩; refine ⟨_, rfl, ?_⟩; replace HB := Aside0.mk (hb); replace HI101 := Aside0.mk (hi); (try clear hb hk hi)) | ((with_reducible refine gate_dst (N := 6) rfl ?_); (try (refine gate_guard (by rfl) ?_; dsimp only)); refine bxq_ 6 #[.int .i64 0, .int .i64 0, .bool false] 56 ?_; intro gb110 hg w12 hbox hb; have n0_ := Aside0.mk (IsS25.below (by repeat (first | (with_reducible first | exact HI101.out | apply IsS25.alloc | apply IsS25.drewN | apply IsS25.drew | apply IsS25.set_1) | exact HI101.out)) hb); have n1_ := Aside0.mk (below_step (by repeat (first | (with_reducible first | exact HB.out | apply below_alloc | apply pw_below_drewN | apply below_drew1 | refine below_set ?_ (IsS25.ge HI101.out)) | exact HB.out)) hb); have n2_ := Aside0.mk (hbox); have n3_ := Aside0.mk ((by rw [hg]; exact (below_size (by repeat (first | (with_reducible first | exact HB.out | apply below_alloc | apply pw_below_drewN | apply below_drew1 | refine below_set ?_ (IsS25.ge HI101.out)) | exact HB.out))) : w.heap.size ≤ gb110)); have n4_ := n3_; have n5_ := Aside0.mk ((by rw [hg]; exact Nat.ne_of_lt (IsS25.lt (show IsS25 w _ gb101 l0 t109 from by repeat (first | (with_reducible first | exact HI101.out | apply IsS25.alloc | apply IsS25.drewN | apply IsS25.drew | apply IsS25.set_1) | exact HI101.out))) : gb101 ≠ gb110)); have n6_ := Aside0.mk ((by rw [hg]; exact Nat.ne_of_gt (IsS25.lt (show IsS25 w _ gb101 l0 t109 from by repeat (first | (with_reducible first | exact HI101.out | apply IsS25.alloc | apply IsS25.drewN | apply IsS25.drew | apply IsS25.set_1) | exact HI101.out))) : gb110 ≠ gb101)); clear HI101; clear HB; have HI101 := n0_; have HB := n1_; have BK110 := n2_; have GW110 := n3_; have GE110 := n4_; have NB101_110 := n5_; have NB110_101 := n6_; clear n0_ n1_ n2_ n3_ n4_ n5_ n6_; clear hb hbox hg) | ((with_reducible refine gate_dst (N := 7) rfl ?_); (try (refine gate_guard (by rfl) ?_; dsimp only)); refine bxq_ 7 #[.int .i64 0, .int .i64 0, .bool false] 56 ?_; intro gb111 hg w13 hbox hb; have n0_ := Aside0.mk (IsS25.below (by repeat (first | (with_reducible first | exact HI101.out | apply IsS25.alloc | apply IsS25.drewN | apply IsS25.drew | apply IsS25.set_1 | refine IsS25.far ?_ NB101_110.out _) | exact HI101.out)) hb); have n1_ := bkb_ BK110 hb rfl; have n2_ := Aside0.mk (below_step (by repeat (first | (with_reducible first | exact HB.out | apply below_alloc | apply pw_below_drewN | apply below_drew1 | refine below_set ?_ (IsS25.ge HI101.out) | refine below_set ?_ GE110.out) | exact HB.out)) hb); have n3_ := Aside0.mk (hbox); have n4_ := Aside0.mk ((by rw [hg]; exact (below_size (by repeat (first | (with_reducible first | exact HB.out | apply below_alloc | apply pw_below_drewN | apply below_drew1 | refine below_set ?_ (IsS25.ge HI101.out) | refine below_set ?_ GE110.out) | exact HB.out))) : w.heap.size ≤ gb111)); have n5_ := n4_; have n6_ := nbl_ BK110 hg rfl; have n7_ := nbg_ BK110 hg rfl; have n8_ := Aside0.mk ((by rw [hg]; exact Nat.ne_of_lt (IsS25.lt (show IsS25 w _ gb101 l0 t109 from by repeat (first | (with_reducible first | exact HI101.out | apply IsS25.alloc | apply IsS25.drewN | apply IsS25.drew | apply IsS25.set_1 | refine IsS25.far ?_ NB101_110.out _) | exact HI101.out))) : gb101 ≠ gb111)); have n9_ := Aside0.mk ((by rw [hg]; exact Nat.ne_of_gt (IsS25.lt (show IsS25 w _ gb101 l0 t109 from by repeat (first | (with_reducible first | exact HI101.out | apply IsS25.alloc | apply IsS25.drewN | apply IsS25.drew | apply IsS25.set_1 | refine IsS25.far ?_ NB101_110.out _) | exact HI101.out))) : gb111 ≠ gb101)); clear HI101; clear BK110; clear HB; have HI101 := n0_; have BK110 := n1_; have HB := n2_; have BK111 := n3_; have GW111 := n4_; have GE111 := n5_; have NB110_111 := n6_; have NB111_110 := n7_; have NB101_111 := n8_; have NB111_101 := n9_; clear n0_ n1_ n2_ n3_ n4_ n5_ n6_ n7_ n8_ n9_; clear hb hbox hg; have hnb14 := NB110_111.out; have hnc14 := NB111_110.out; have hnb15 := NB110_101.out; have hnc15 := NB101_110.out; have hcz16_0 := bc_ BK110 0 rfl; have hcz16_1 := bc_ BK110 1 rfl; have hcz16_2 := bc_ BK110 2 rfl; have hfz16_0 := blk_frozen BK110.out 0; have hfz16_1 := blk_frozen BK110.out 1; have hfz16_2 := blk_frozen BK110.out 2; have hnb17 := NB111_101.out; have hnc17 := NB101_111.out; have hcz18_0 := bc_ BK111 0 rfl; have hcz18_1 := bc_ BK111 1 rfl; have hcz18_2 := bc_ BK111 2 rfl; have hfz18_0 := blk_frozen BK111.out 0; have hfz18_1 := blk_frozen BK111.out 1; have hfz18_2 := blk_frozen BK111.out 2))
  have n0_ : Aside0 (((((((w13.setCell ⟨gb110, 0, none⟩ (.int .i64 t102)).setCell ⟨gb110, 1, none⟩ (.int .i64 t103)).setCell ⟨gb110, 2, none⟩ (.bool t104)).setCell ⟨gb111, 0, none⟩ (.int .i64 t106)).setCell ⟨gb111, 1, none⟩ (.int .i64 t107)).setCell ⟨gb111, 2, none⟩ (.bool t108)).heap[gb110]? = some (.cells #[.int .i64 t102, .int .i64 t103, .bool t104] 56 (0, 0))) := ⟨by (with_reducible repeat (first | refine blk_drewN ?_ _ | refine blk_drew ?_ | refine blk_alloc ?_ _)); refine blk_far ?_ NB110_111.out _; (with_reducible repeat (first | refine blk_drewN ?_ _ | refine blk_drew ?_ | refine blk_alloc ?_ _)); refine blk_far ?_ NB110_111.out _; (with_reducible repeat (first | refine blk_drewN ?_ _ | refine blk_drew ?_ | refine blk_alloc ?_ _)); refine blk_far ?_ NB110_111.out _; (with_reducible repeat (first | refine blk_drewN ?_ _ | refine blk_drew ?_ | refine blk_alloc ?_ _)); refine blk_put (cs := #[.int .i64 t102, .int .i64 t103, .bool false]) ?_ 2 _ rfl; (with_reducible repeat (first | refine blk_drewN ?_ _ | refine blk_drew ?_ | refine blk_alloc ?_ _)); refine blk_put (cs := #[.int .i64 t102, .int .i64 0, .bool false]) ?_ 1 _ rfl; (with_reducible repeat (first | refine blk_drewN ?_ _ | refine blk_drew ?_ | refine blk_alloc ?_ _)); refine blk_put (cs := #[.int .i64 0, .int .i64 0, .bool false]) ?_ 0 _ rfl; (with_reducible repeat (first | refine blk_drewN ?_ _ | refine blk_drew ?_ | refine blk_alloc ?_ _)); exact BK110.out⟩
  have n1_ : Aside0 (((((((w13.setCell ⟨gb110, 0, none⟩ (.int .i64 t102)).setCell ⟨gb110, 1, none⟩ (.int .i64 t103)).setCell ⟨gb110, 2, none⟩ (.bool t104)).setCell ⟨gb111, 0, none⟩ (.int .i64 t106)).setCell ⟨gb111, 1, none⟩ (.int .i64 t107)).setCell ⟨gb111, 2, none⟩ (.bool t108)).heap[gb111]? = some (.cells #[.int .i64 t106, .int .i64 t107, .bool t108] 56 (0, 0))) := ⟨by (with_reducible repeat (first | refine blk_drewN ?_ _ | refine blk_drew ?_ | refine blk_alloc ?_ _)); refine blk_put (cs := #[.int .i64 t106, .int .i64 t107, .bool false]) ?_ 2 _ rfl; (with_reducible repeat (first | refine blk_drewN ?_ _ | refine blk_drew ?_ | refine blk_alloc ?_ _)); refine blk_put (cs := #[.int .i64 t106, .int .i64 0, .bool false]) ?_ 1 _ rfl; (with_reducible repeat (first | refine blk_drewN ?_ _ | refine blk_drew ?_ | refine blk_alloc ?_ _)); refine blk_put (cs := #[.int .i64 0, .int .i64 0, .bool false]) ?_ 0 _ rfl; (with_reducible repeat (first | refine blk_drewN ?_ _ | refine blk_drew ?_ | refine blk_alloc ?_ _)); refine blk_far ?_ NB111_110.out _; (with_reducible repeat (first | refine blk_drewN ?_ _ | refine blk_drew ?_ | refine blk_alloc ?_ _)); refine blk_far ?_ NB111_110.out _; (with_reducible repeat (first | refine blk_drewN ?_ _ | refine blk_drew ?_ | refine blk_alloc ?_ _)); refine blk_far ?_ NB111_110.out _; (with_reducible repeat (first | refine blk_drewN ?_ _ | refine blk_drew ?_ | refine blk_alloc ?_ _)); exact BK111.out⟩
  have n2_ : Aside0 (IsS25 w ((((((w13.setCell ⟨gb110, 0, none⟩ (.int .i64 t102)).setCell ⟨gb110, 1, none⟩ (.int .i64 t103)).setCell ⟨gb110, 2, none⟩ (.bool t104)).setCell ⟨gb111, 0, none⟩ (.int .i64 t106)).setCell ⟨gb111, 1, none⟩ (.int .i64 t107)).setCell ⟨gb111, 2, none⟩ (.bool t108)) gb101 l0 t109) := ⟨by repeat (first | (with_reducible first | exact HI101.out | apply IsS25.alloc | apply IsS25.drewN | apply IsS25.drew | apply IsS25.set_1 | refine IsS25.far ?_ NB101_110.out _ | refine IsS25.far ?_ NB101_111.out _) | exact HI101.out)⟩
  have n3_ : Aside0 (Below w.heap.size w ((((((w13.setCell ⟨gb110, 0, none⟩ (.int .i64 t102)).setCell ⟨gb110, 1, none⟩ (.int .i64 t103)).setCell ⟨gb110, 2, none⟩ (.bool t104)).setCell ⟨gb111, 0, none⟩ (.int .i64 t106)).setCell ⟨gb111, 1, none⟩ (.int .i64 t107)).setCell ⟨gb111, 2, none⟩ (.bool t108))) := ⟨by repeat (first | (with_reducible first | exact HB.out | apply below_alloc | apply pw_below_drewN | apply below_drew1 | refine below_set ?_ (IsS25.ge HI101.out) | refine below_set ?_ GE110.out | refine below_set ?_ GE111.out) | exact HB.out)⟩
  (try clear BK110)
  (try clear BK111)
  (try clear HI101)
  (try clear HB)
  generalize ((((((w13.setCell ⟨gb110, 0, none⟩ (.int .i64 t102)).setCell ⟨gb110, 1, none⟩ (.int .i64 t103)).setCell ⟨gb110, 2, none⟩ (.bool t104)).setCell ⟨gb111, 0, none⟩ (.int .i64 t106)).setCell ⟨gb111, 1, none⟩ (.int .i64 t107)).setCell ⟨gb111, 2, none⟩ (.bool t108)) = w19 at n0_ n1_ n2_ n3_ ⊢
  have BK110 := n0_
  have BK111 := n1_
  have HI101 := n2_
  have HB := n3_
  clear n0_ n1_ n2_ n3_
  replace BK110 := Aside0.mk (blk_drew BK110.out)
  replace BK111 := Aside0.mk (blk_drew BK111.out)
  replace HI101 := Aside0.mk (IsS25.drew HI101.out)
  replace HB := Aside0.mk (below_drew1 HB.out)
  refine start_ (n := 10) (S := fun w' => w'.cell? ⟨gb110, 0, none⟩ = some (.int .i64 t102) ∧ w'.cell? ⟨gb110, 1, none⟩ = some (.int .i64 t103) ∧ w'.cell? ⟨gb110, 2, none⟩ = some (.bool t104) ∧ w'.cell? ⟨gb111, 0, none⟩ = some (.int .i64 t106) ∧ w'.cell? ⟨gb111, 1, none⟩ = some (.int .i64 t107) ∧ w'.cell? ⟨gb111, 2, none⟩ = some (.bool t108)) (ds := []) (bm_ [0, 10]) (by kernel_rfl) rfl rfl ⟨bc_ BK110 0 rfl, bc_ BK110 1 rfl, bc_ BK110 2 rfl, bc_ BK111 0 rfl, bc_ BK111 1 rfl, bc_ BK111 2 rfl⟩ (fun hHeld => ?_); refine with_tabW spykeep1_BoundIncludes.tab3 spykeep1_BoundIncludes.bits3 (fun HT_ HW_ => ?_)
  generalize w19.drew = w20 at BK110 BK111 HI101 HB hHeld ⊢
  refine pq_ 0 24 (bm_ [1, 9]) HT_ ?_
  refine pq_ 4 28 (bm_ [1, 3, 1, 5]) HT_ ?_
  refine tq_ 1 25 (bm_ [2, 2, 1, 5]) HT_ HW_ hHeld ?_
  refine tq_ 5 29 (bm_ [2, 2, 2, 4]) HT_ HW_ hHeld ?_
  refine oq_ 2 (some 26) (bm_ [3, 1, 2, 4]) HT_ (fun K hK => ?_)
  refine gq_ Try.func32 #[.pointer (some ⟨gb101, 0, none⟩), .agg #[.int .i64 t102, .int .i64 t103, .bool t104]] ?_
  with_reducible refine (spymake_Within_api_Fix.calls gb101 l0 t109 t102 t103 t104 t112 t113 t114 t115 w _ ?side1 ?side2 A5.out).mono ?_
  (case side1 => exact HI101.out)
  (case side2 => exact HB.out)
  rintro e w21 ⟨rfl, hi, hb, hk⟩
  refine ⟨_, rfl, ?_⟩
  replace BK110 := Aside0.mk (KeepBut.blk hk (g' := gb110) (o := .cells #[.int .i64 t102, .int .i64 t103, .bool t104] 56 (0, 0)) BK110.out NB110_101.out (by simp))
  replace BK111 := Aside0.mk (KeepBut.blk hk (g' := gb111) (o := .cells #[.int .i64 t106, .int .i64 t107, .bool t108] 56 (0, 0)) BK111.out NB111_101.out (by simp))
  replace HB := Aside0.mk (hb)
  replace HI101 := Aside0.mk (hi)
  (try clear hb hk hi)
  refine hK.out _ _ ⟨bc_ BK110 0 rfl, bc_ BK110 1 rfl, bc_ BK110 2 rfl, bc_ BK111 0 rfl, bc_ BK111 1 rfl, bc_ BK111 2 rfl⟩ (fun hHeld => ?_)
  clear hK K
  refine nq_ 26 ?_
  refine pq_ 3 27 (bm_ [6, 4]) HT_ ?_
  refine oq_ 6 (some 30) (bm_ [7, 3]) HT_ (fun K hK => ?_)
  refine gq_ Try.func32 #[.pointer (some ⟨gb101, 0, none⟩), .agg #[.int .i64 t106, .int .i64 t107, .bool t108]] ?_
  with_reducible refine (spymake_Within_api_Fix.calls gb101 l0 t115 t106 t107 t108 t116 t117 t118 t119 w _ ?side1 ?side2 A6.out).mono ?_
  (case side1 => exact HI101.out)
  (case side2 => exact HB.out)
  rintro e w22 ⟨rfl, hi, hb, hk⟩
  refine ⟨_, rfl, ?_⟩
  replace BK110 := Aside0.mk (KeepBut.blk hk (g' := gb110) (o := .cells #[.int .i64 t102, .int .i64 t103, .bool t104] 56 (0, 0)) BK110.out NB110_101.out (by simp))
  replace BK111 := Aside0.mk (KeepBut.blk hk (g' := gb111) (o := .cells #[.int .i64 t106, .int .i64 t107, .bool t108] 56 (0, 0)) BK111.out NB111_101.out (by simp))
  replace HB := Aside0.mk (hb)
  replace HI101 := Aside0.mk (hi)
  (try clear hb hk hi)
  refine hK.out _ _ ⟨bc_ BK110 0 rfl, bc_ BK110 1 rfl, bc_ BK110 2 rfl, bc_ BK111 0 rfl, bc_ BK111 1 rfl, bc_ BK111 2 rfl⟩ (fun hHeld => ?_)
  clear hK K
  refine nq_ 30 ?_
  refine pq_ 7 31 (bm_ [8, 2]) HT_ ?_
  refine pq_ 8 8 (bm_ [9, 1]) HT_ ?_
  refine pq_ 9 9 (bm_ [10]) HT_ ?_
  refine done_ (done_of HT_.out (by kernel_rfl)) ?_
  go_upto_region 6 with (first | ((with_reducible refine gate_callee (f := 21) rfl ?_); refine glq_ (some 33) Try.func21 #[.int .i64 a1, .int .i64 1000] ?_; (with_reducible refine (spymake_Below.calls a1 1000 t120 _ A7.out).mono ?_); rintro e w' ⟨rfl, ⟨nd, rfl⟩⟩; refine ⟨_, rfl, ?_⟩))
  (try simp only [Act.put, List.setIfInBounds_toArray, List.set_cons_zero, List.set_cons_succ])
  go_cut [133] (fun v133 wc => ∃ (kq : Nat) (x133_7 : Bool), v133 = .bool x133_7 ∧ Aside0 (spykeep1_BoundIncludes.j0 kq t112 t116 (wrap64 (1 + t120)) x133_7 t102 t103 t104 t106 t107 t108 = some r) ∧ Aside0 (kq ≤ k) ∧ Aside0 (wc.heap[gb110]? = some (.cells #[.int .i64 t102, .int .i64 t103, .bool t104] 56 (0, 0))) ∧ Aside0 (wc.heap[gb111]? = some (.cells #[.int .i64 t106, .int .i64 t107, .bool t108] 56 (0, 0))) ∧ Aside0 (Below w.heap.size w wc))
  case first => as_aux_lemma =>
   have H := HC8.out
   clear HC8
   replace H := Option.bind_eq_some_iff.mp H
   obtain ⟨t121, A230, H⟩ := H
   try dsimp -simprocs only at H
   have A23 := Aside0.mk A230
   clear A230
   by_cases c24 : t121 = true
   rotate_left
   · replace c24 := Bool.eq_false_iff.mpr c24
     subst c24
     rw [if_neg (show ¬ (false = true) by decide)] at H
     exact absurd H (by simp)
   subst c24
   rw [if_pos rfl] at H
   replace H := Option.bind_eq_some_iff.mp H
   obtain ⟨⟨t122, t123, t124⟩, A250, H⟩ := H
   try dsimp -simprocs only at H
   have A25 := Aside0.mk A250
   clear A250
   replace H := Option.bind_eq_some_iff.mp H
   obtain ⟨t125, A260, H⟩ := H
   try dsimp -simprocs only at H
   have A26 := Aside0.mk A260
   clear A260
   by_cases c27 : t125 = true
   rotate_left
   · replace c27 := Bool.eq_false_iff.mpr c27
     subst c27
     rw [if_neg (show ¬ (false = true) by decide)] at H
     exact absurd H (by simp)
   subst c27
   rw [if_pos rfl] at H
   replace H := Option.bind_eq_some_iff.mp H
   obtain ⟨⟨t126, t127, t128⟩, A280, H⟩ := H
   try dsimp -simprocs only at H
   have A28 := Aside0.mk A280
   clear A280
   replace H := Option.bind_eq_some_iff.mp H
   obtain ⟨t129, A290, H⟩ := H
   try dsimp -simprocs only at H
   have A29 := Aside0.mk A290
   clear A290
   by_cases c30 : t129 = true
   rotate_left
   · replace c30 := Bool.eq_false_iff.mpr c30
     subst c30
     rw [if_neg (show ¬ (false = true) by decide)] at H
     exact absurd H (by simp)
   subst c30
   rw [if_pos rfl] at H
   replace H := Option.bind_eq_some_iff.mp H
   obtain ⟨⟨t130, t131, t132⟩, A310, H⟩ := H
   try dsimp -simprocs only at H
   have A31 := Aside0.mk A310
   clear A310
   replace H := Option.bind_eq_some_iff.mp H
   obtain ⟨t133, A320, H⟩ := H
   try dsimp -simprocs only at H
   have A32 := Aside0.mk A320
   clear A320
   by_cases c33 : t133 = true
   rotate_left
   · replace c33 := Bool.eq_false_iff.mpr c33
     subst c33
     rw [if_neg (show ¬ (false = true) by decide)] at H
     exact absurd H (by simp)
   subst c33
   rw [if_pos rfl] at H
   replace H := Option.bind_eq_some_iff.mp H
   obtain ⟨⟨t134, t135, t136⟩, A340, H⟩ := H
   try dsimp -simprocs only at H
   have A34 := Aside0.mk A340
   clear A340
   obtain ⟨ji35, hji35⟩ : ∃ j_ : Int, (mx t112 (wrap64 (-t112))) = j_ := ⟨_, rfl⟩
   replace H : ((spykeep1_BoundIncludes_1.f k t134 t135 t136 (ji35)).bind fun t137 => (if t137 = true then ((bound_Min_api_Fix.f k t102 t103 t104 t106 t107 t108).bind fun bt138 => ((spykeep1_BoundIncludes_1.f k bt138.1 bt138.2.1 bt138.2.2 (mn t112 t116)).bind fun t141 => (if t141 = true then ((bound_Max_api_Fix.f k t102 t103 t104 t106 t107 t108).bind fun bt142 => ((spykeep1_BoundIncludes_1.f k bt142.1 bt142.2.1 bt142.2.2 (mx t112 t116)).bind fun t145 => (if t145 = true then ((bound_Hull_api_Fix.f k t102 t103 t104 t106 t107 t108).bind fun bt146 => ((spykeep1_BoundIncludes_1.f k bt146.1 bt146.2.1 bt146.2.2 t112).bind fun t149 => (if t149 = true then ((bound_Hull_api_Fix.f k t102 t103 t104 t106 t107 t108).bind fun bt150 => ((spykeep1_BoundIncludes_1.f k bt146.1 bt146.2.1 bt146.2.2 t116).bind fun t153 => (if t153 = true then ((bound_Sum_api_Fix.f (([(⟨t102, t103, t104⟩ : S56), (⟨t106, t107, t108⟩ : S56), (⟨t102, t103, t104⟩ : S56)] : List (S56)))).bind fun bt157 => ((spykeep1_BoundIncludes_1.f k bt157.1 bt157.2.1 bt157.2.2 (wrap64 ((wrap64 (t112 + t116)) + t112))).bind fun t160 => (spykeep1_BoundIncludes.j0 k t112 t116 (wrap64 (1 + t120)) (!t160) t102 t103 t104 t106 t107 t108))) else (none)))) else (none)))) else (none)))) else (none)))) else (none))) = some r := by first | (rw [hji35] at H; exact H) | (simp only [hji35] at H ⊢; exact H)
   (try rw [hji35] at A23)
   (try rw [hji35] at A25)
   (try rw [hji35] at A26)
   (try rw [hji35] at A28)
   (try rw [hji35] at A29)
   (try rw [hji35] at A31)
   (try rw [hji35] at A32)
   (try rw [hji35] at A34)
   have hji35_ : (if t112 < (wrap64 (-t112)) then (wrap64 (-t112)) else t112) = ji35 := hji35
   replace H := Option.bind_eq_some_iff.mp H
   obtain ⟨t137, A360, H⟩ := H
   try dsimp -simprocs only at H
   have A36 := Aside0.mk A360
   clear A360
   by_cases c37 : t137 = true
   rotate_left
   · replace c37 := Bool.eq_false_iff.mpr c37
     subst c37
     rw [if_neg (show ¬ (false = true) by decide)] at H
     exact absurd H (by simp)
   subst c37
   rw [if_pos rfl] at H
   replace H := Option.bind_eq_some_iff.mp H
   obtain ⟨⟨t138, t139, t140⟩, A380, H⟩ := H
   try dsimp -simprocs only at H
   have A38 := Aside0.mk A380
   clear A380
   obtain ⟨ji39, hji39⟩ : ∃ j_ : Int, (mn t112 t116) = j_ := ⟨_, rfl⟩
   replace H : ((spykeep1_BoundIncludes_1.f k t138 t139 t140 (ji39)).bind fun t141 => (if t141 = true then ((bound_Max_api_Fix.f k t102 t103 t104 t106 t107 t108).bind fun bt142 => ((spykeep1_BoundIncludes_1.f k bt142.1 bt142.2.1 bt142.2.2 (mx t112 t116)).bind fun t145 => (if t145 = true then ((bound_Hull_api_Fix.f k t102 t103 t104 t106 t107 t108).bind fun bt146 => ((spykeep1_BoundIncludes_1.f k bt146.1 bt146.2.1 bt146.2.2 t112).bind fun t149 => (if t149 = true then ((bound_Hull_api_Fix.f k t102 t103 t104 t106 t107 t108).bind fun bt150 => ((spykeep1_BoundIncludes_1.f k bt146.1 bt146.2.1 bt146.2.2 t116).bind fun t153 => (if t153 = true then ((bound_Sum_api_Fix.f (([(⟨t102, t103, t104⟩ : S56), (⟨t106, t107, t108⟩ : S56), (⟨t102, t103, t104⟩ : S56)] : List (S56)))).bind fun bt157 => ((spykeep1_BoundIncludes_1.f k bt157.1 bt157.2.1 bt157.2.2 (wrap64 ((wrap64 (t112 + t116)) + t112))).bind fun t160 => (spykeep1_BoundIncludes.j0 k t112 t116 (wrap64 (1 + t120)) (!t160) t102 t103 t104 t106 t107 t108))) else (none)))) else (none)))) else (none)))) else (none))) = some r := by first | (rw [hji39] at H; exact H) | (simp only [hji39] at H ⊢; exact H)
   (try rw [hji39] at A23)
   (try rw [hji39] at A25)
   (try rw [hji39] at A26)
   (try rw [hji39] at A28)
   (try rw [hji39] at A29)
   (try rw [hji39] at A31)
   (try rw [hji39] at A32)
   (try rw [hji39] at A34)
   (try rw [hji39] at A36)
   (try rw [hji39] at A38)
   have hji39_ : (if t116 < t112 then t116 else t112) = ji39 := hji39
   replace H := Option.bind_eq_some_iff.mp H
   obtain ⟨t141, A400, H⟩ := H
   try dsimp -simprocs only at H
   have A40 := Aside0.mk A400
   clear A400
   by_cases c41 : t141 = true
   rotate_left
   · replace c41 := Bool.eq_false_iff.mpr c41
     subst c41
     rw [if_neg (show ¬ (false = true) by decide)] at H
     exact absurd H (by simp)
   subst c41
   rw [if_pos rfl] at H
   replace H := Option.bind_eq_some_iff.mp H
   obtain ⟨⟨t142, t143, t144⟩, A420, H⟩ := H
   try dsimp -simprocs only at H
   have A42 := Aside0.mk A420
   clear A420
   obtain ⟨ji43, hji43⟩ : ∃ j_ : Int, (mx t112 t116) = j_ := ⟨_, rfl⟩
   replace H : ((spykeep1_BoundIncludes_1.f k t142 t143 t144 (ji43)).bind fun t145 => (if t145 = true then ((bound_Hull_api_Fix.f k t102 t103 t104 t106 t107 t108).bind fun bt146 => ((spykeep1_BoundIncludes_1.f k bt146.1 bt146.2.1 bt146.2.2 t112).bind fun t149 => (if t149 = true then ((bound_Hull_api_Fix.f k t102 t103 t104 t106 t107 t108).bind fun bt150 => ((spykeep1_BoundIncludes_1.f k bt146.1 bt146.2.1 bt146.2.2 t116).bind fun t153 => (if t153 = true then ((bound_Sum_api_Fix.f (([(⟨t102, t103, t104⟩ : S56), (⟨t106, t107, t108⟩ : S56), (⟨t102, t103, t104⟩ : S56)] : List (S56)))).bind fun bt157 => ((spykeep1_BoundIncludes_1.f k bt157.1 bt157.2.1 bt157.2.2 (wrap64 ((wrap64 (t112 + t116)) + t112))).bind fun t160 => (spykeep1_BoundIncludes.j0 k t112 t116 (wrap64 (1 + t120)) (!t160) t102 t103 t104 t106 t107 t108))) else (none)))) else (none)))) else (none))) = some r := by first | (rw [hji43] at H; exact H) | (simp only [hji43] at H ⊢; exact H)
   (try rw [hji43] at A23)
   (try rw [hji43] at A25)
   (try rw [hji43] at A26)
   (try rw [hji43] at A28)
   (try rw [hji43] at A29)
   (try rw [hji43] at A31)
   (try rw [hji43] at A32)
   (try rw [hji43] at A34)
   (try rw [hji43] at A36)
   (try rw [hji43] at A38)
   (try rw [hji43] at A40)
   (try rw [hji43] at A42)
   have hji43_ : (if t112 < t116 then t116 else t112) = ji43 := hji43
   replace H := Option.bind_eq_some_iff.mp H
   obtain ⟨t145, A440, H⟩ := H
   try dsimp -simprocs only at H
   have A44 := Aside0.mk A440
   clear A440
   by_cases c45 : t145 = true
   rotate_left
   · replace c45 := Bool.eq_false_iff.mpr c45
     subst c45
     rw [if_neg (show ¬ (false = true) by decide)] at H
     exact absurd H (by simp)
   subst c45
   rw [if_pos rfl] at H
   replace H := Option.bind_eq_some_iff.mp H
   obtain ⟨⟨t146, t147, t148⟩, A460, H⟩ := H
   try dsimp -simprocs only at H
   have A46 := Aside0.mk A460
   clear A460
   replace H := Option.bind_eq_some_iff.mp H
   obtain ⟨t149, A470, H⟩ := H
   try dsimp -simprocs only at H
   have A47 := Aside0.mk A470
   clear A470
   by_cases c48 : t149 = true
   rotate_left
   · replace c48 := Bool.eq_false_iff.mpr c48
     subst c48
     rw [if_neg (show ¬ (false = true) by decide)] at H
     exact absurd H (by simp)
   subst c48
   rw [if_pos rfl] at H
   replace H := Option.bind_eq_some_iff.mp H
   obtain ⟨⟨t150, t151, t152⟩, A490, H⟩ := H
   try dsimp -simprocs only at H
   have E_ := Option.some.inj (A46.out.symm.trans A490)
   simp only [Prod.mk.injEq] at E_
   obtain ⟨E0_, E1_, E2_⟩ := E_
   subst E0_
   subst E1_
   subst E2_
   have A49 := Aside0.mk A490
   clear A490
   replace H := Option.bind_eq_some_iff.mp H
   obtain ⟨t153, A500, H⟩ := H
   try dsimp -simprocs only at H
   have A50 := Aside0.mk A500
   clear A500
   by_cases c51 : t153 = true
   · subst c51
     rw [if_pos rfl] at H
     obtain ⟨y154, hy154⟩ : ∃ y_ : List (S56), y_ = (([(⟨t102, t103, t104⟩ : S56), (⟨t106, t107, t108⟩ : S56), (⟨t102, t103, t104⟩ : S56)] : List (S56))) := ⟨_, rfl⟩
     replace H : ((bound_Sum_api_Fix.f y154).bind fun bt157 => ((spykeep1_BoundIncludes_1.f k bt157.1 bt157.2.1 bt157.2.2 (wrap64 ((wrap64 (t112 + t116)) + t112))).bind fun t160 => (spykeep1_BoundIncludes.j0 k t112 t116 (wrap64 (1 + t120)) (!t160) t102 t103 t104 t106 t107 t108))) = some r := by first | (rw [hy154]; with_reducible exact H) | (have H2_ := (Option.bind_some _ _).symm.trans H; rw [hy154]; with_reducible exact H2_) | (have H2_ := (Option.bind_some _ _).symm.trans H; with_reducible exact H2_) | with_reducible exact H | (rw [hy154]; exact H) | exact H
     have Ny154 := Aside0.mk hy154
     clear hy154
     replace H := Option.bind_eq_some_iff.mp H
     obtain ⟨⟨t157, t158, t159⟩, A520, H⟩ := H
     try dsimp -simprocs only at H
     have A52 := Aside0.mk A520
     clear A520
     replace H := Option.bind_eq_some_iff.mp H
     obtain ⟨t160, A530, H⟩ := H
     try dsimp -simprocs only at H
     have A53 := Aside0.mk A530
     clear A530
     have H' := Aside0.mk H
     clear H
     go_step
     simp only [List.append_eq, List.cons_append, List.nil_append]
     refine wl_tail_ 14 ?_
     intro L2 hL2
     replace hL2 := Aside0.mk hL2
     simp only [List.take_succ_cons, List.take_zero, List.cons_append, List.nil_append]
     go_wp2_with (first | ((with_reducible refine gate_callee (f := 25) rfl ?_); refine glq_ (some 35) Try.func25 #[] ?_; (with_reducible refine (spykeep1_boundFact.calls k  true _ A23.out).mono ?_); rintro e w54 ⟨rfl, hb⟩; refine ⟨_, rfl, ?_⟩; have n0_ := Aside0.mk (IsS25.below (by repeat (first | (with_reducible first | exact HI101.out | apply IsS25.alloc | apply IsS25.drewN | apply IsS25.drew | apply IsS25.set_1 | refine IsS25.far ?_ NB101_110.out _ | refine IsS25.far ?_ NB101_111.out _) | exact HI101.out)) hb); have n1_ := bkb_ BK110 hb rfl; have n2_ := bkb_ BK111 hb rfl; have n3_ := Aside0.mk (below_step (by repeat (first | (with_reducible first | exact HB.out | apply below_alloc | apply pw_below_drewN | apply below_drew1 | refine below_set ?_ (IsS25.ge HI101.out) | refine below_set ?_ GE110.out | refine below_set ?_ GE111.out) | exact HB.out)) hb); clear HI101; clear BK110; clear BK111; clear HB; have HI101 := n0_; have BK110 := n1_; have BK111 := n2_; have HB := n3_; clear n0_ n1_ n2_ n3_; (try clear hb); have hnb55 := NB110_111.out; have hnc55 := NB111_110.out; have hnb56 := NB110_101.out; have hnc56 := NB101_110.out; have hcz57_0 := bc_ BK110 0 rfl; have hcz57_1 := bc_ BK110 1 rfl; have hcz57_2 := bc_ BK110 2 rfl; have hfz57_0 := blk_frozen BK110.out 0; have hfz57_1 := blk_frozen BK110.out 1; have hfz57_2 := blk_frozen BK110.out 2; have hnb58 := NB111_101.out; have hnc58 := NB101_111.out; have hcz59_0 := bc_ BK111 0 rfl; have hcz59_1 := bc_ BK111 1 rfl; have hcz59_2 := bc_ BK111 2 rfl; have hfz59_0 := blk_frozen BK111.out 0; have hfz59_1 := blk_frozen BK111.out 1; have hfz59_2 := blk_frozen BK111.out 2) | (go_at_call 34; (with_reducible refine (bound_Add_api_Fix.calls k t102 t103 t104 t106 t107 t108 t122 t123 t124 _ A25.out).mono ?_); rintro e w60 ⟨rfl, hb⟩; have n0_ := Aside0.mk (IsS25.below (by repeat (first | (with_reducible first | exact HI101.out | apply IsS25.alloc | apply IsS25.drewN | apply IsS25.drew | apply IsS25.set_1 | refine IsS25.far ?_ NB101_110.out _ | refine IsS25.far ?_ NB101_111.out _) | exact HI101.out)) hb); have n1_ := bkb_ BK110 hb rfl; have n2_ := bkb_ BK111 hb rfl; have n3_ := Aside0.mk (below_step (by repeat (first | (with_reducible first | exact HB.out | apply below_alloc | apply pw_below_drewN | apply below_drew1 | refine below_set ?_ (IsS25.ge HI101.out) | refine below_set ?_ GE110.out | refine below_set ?_ GE111.out) | exact HB.out)) hb); clear HI101; clear BK110; clear BK111; clear HB; have HI101 := n0_; have BK110 := n1_; have BK111 := n2_; have HB := n3_; clear n0_ n1_ n2_ n3_; (try clear hb)) | (go_at_call 45; (with_reducible refine (spykeep1_BoundIncludes_1.calls k t122 t123 t124 (wrap64 (t112 + t116)) true _ A26.out).mono ?_); rintro e w61 ⟨rfl, hb⟩; have n0_ := Aside0.mk (IsS25.below (by repeat (first | (with_reducible first | exact HI101.out | apply IsS25.alloc | apply IsS25.drewN | apply IsS25.drew | apply IsS25.set_1 | refine IsS25.far ?_ NB101_110.out _ | refine IsS25.far ?_ NB101_111.out _) | exact HI101.out)) hb); have n1_ := bkb_ BK110 hb rfl; have n2_ := bkb_ BK111 hb rfl; have n3_ := Aside0.mk (below_step (by repeat (first | (with_reducible first | exact HB.out | apply below_alloc | apply pw_below_drewN | apply below_drew1 | refine below_set ?_ (IsS25.ge HI101.out) | refine below_set ?_ GE110.out | refine below_set ?_ GE111.out) | exact HB.out)) hb); clear HI101; clear BK110; clear BK111; clear HB; have HI101 := n0_; have BK110 := n1_; have BK111 := n2_; have HB := n3_; clear n0_ n1_ n2_ n3_; (try clear hb); have hcz62_0 := bc_ BK110 0 rfl; have hcz62_1 := bc_ BK110 1 rfl; have hcz62_2 := bc_ BK110 2 rfl; have hfz62_0 := blk_frozen BK110.out 0; have hfz62_1 := blk_frozen BK110.out 1; have hfz62_2 := blk_frozen BK110.out 2; have hcz63_0 := bc_ BK111 0 rfl; have hcz63_1 := bc_ BK111 1 rfl; have hcz63_2 := bc_ BK111 2 rfl; have hfz63_0 := blk_frozen BK111.out 0; have hfz63_1 := blk_frozen BK111.out 1; have hfz63_2 := blk_frozen BK111.out 2))
     obtain rfl := hL2.out
     clear hL2
     simp only [List.drop_succ_cons, List.drop_zero]
     refine wl_tail_ 11 ?_
     intro L2 hL2
     replace hL2 := Aside0.mk hL2
     simp only [List.take_succ_cons, List.take_zero, List.cons_append, List.nil_append]
     go_wp2_with (first | (go_at_call 35; (with_reducible refine (bound_Sub_api_Fix.calls k t102 t103 t104 t106 t107 t108 t126 t127 t128 _ A28.out).mono ?_); rintro e w64 ⟨rfl, hb⟩; have n0_ := Aside0.mk (IsS25.below (by repeat (first | (with_reducible first | exact HI101.out | apply IsS25.alloc | apply IsS25.drewN | apply IsS25.drew | apply IsS25.set_1 | refine IsS25.far ?_ NB101_110.out _ | refine IsS25.far ?_ NB101_111.out _) | exact HI101.out)) hb); have n1_ := bkb_ BK110 hb rfl; have n2_ := bkb_ BK111 hb rfl; have n3_ := Aside0.mk (below_step (by repeat (first | (with_reducible first | exact HB.out | apply below_alloc | apply pw_below_drewN | apply below_drew1 | refine below_set ?_ (IsS25.ge HI101.out) | refine below_set ?_ GE110.out | refine below_set ?_ GE111.out) | exact HB.out)) hb); clear HI101; clear BK110; clear BK111; clear HB; have HI101 := n0_; have BK110 := n1_; have BK111 := n2_; have HB := n3_; clear n0_ n1_ n2_ n3_; (try clear hb)) | (go_at_call 45; (with_reducible refine (spykeep1_BoundIncludes_1.calls k t126 t127 t128 (wrap64 (t112 - t116)) true _ A29.out).mono ?_); rintro e w65 ⟨rfl, hb⟩; have n0_ := Aside0.mk (IsS25.below (by repeat (first | (with_reducible first | exact HI101.out | apply IsS25.alloc | apply IsS25.drewN | apply IsS25.drew | apply IsS25.set_1 | refine IsS25.far ?_ NB101_110.out _ | refine IsS25.far ?_ NB101_111.out _) | exact HI101.out)) hb); have n1_ := bkb_ BK110 hb rfl; have n2_ := bkb_ BK111 hb rfl; have n3_ := Aside0.mk (below_step (by repeat (first | (with_reducible first | exact HB.out | apply below_alloc | apply pw_below_drewN | apply below_drew1 | refine below_set ?_ (IsS25.ge HI101.out) | refine below_set ?_ GE110.out | refine below_set ?_ GE111.out) | exact HB.out)) hb); clear HI101; clear BK110; clear BK111; clear HB; have HI101 := n0_; have BK110 := n1_; have BK111 := n2_; have HB := n3_; clear n0_ n1_ n2_ n3_; (try clear hb); have hcz66_0 := bc_ BK110 0 rfl; have hcz66_1 := bc_ BK110 1 rfl; have hcz66_2 := bc_ BK110 2 rfl; have hfz66_0 := blk_frozen BK110.out 0; have hfz66_1 := blk_frozen BK110.out 1; have hfz66_2 := blk_frozen BK110.out 2))
     obtain rfl := hL2.out
     clear hL2
     simp only [List.drop_succ_cons, List.drop_zero]
     refine wl_tail_ 9 ?_
     intro L2 hL2
     replace hL2 := Aside0.mk hL2
     simp only [List.take_succ_cons, List.take_zero, List.cons_append, List.nil_append]
     go_wp2_with (first | (go_at_call 36; (with_reducible refine (bound_Neg_api_Fix.calls k t102 t103 t104 t130 t131 t132 _ A31.out).mono ?_); rintro e w67 ⟨rfl, hb⟩; have n0_ := Aside0.mk (IsS25.below (by repeat (first | (with_reducible first | exact HI101.out | apply IsS25.alloc | apply IsS25.drewN | apply IsS25.drew | apply IsS25.set_1 | refine IsS25.far ?_ NB101_110.out _ | refine IsS25.far ?_ NB101_111.out _) | exact HI101.out)) hb); have n1_ := bkb_ BK110 hb rfl; have n2_ := bkb_ BK111 hb rfl; have n3_ := Aside0.mk (below_step (by repeat (first | (with_reducible first | exact HB.out | apply below_alloc | apply pw_below_drewN | apply below_drew1 | refine below_set ?_ (IsS25.ge HI101.out) | refine below_set ?_ GE110.out | refine below_set ?_ GE111.out) | exact HB.out)) hb); clear HI101; clear BK110; clear BK111; clear HB; have HI101 := n0_; have BK110 := n1_; have BK111 := n2_; have HB := n3_; clear n0_ n1_ n2_ n3_; (try clear hb)) | (go_at_call 45; (with_reducible refine (spykeep1_BoundIncludes_1.calls k t130 t131 t132 (wrap64 (-t112)) true _ A32.out).mono ?_); rintro e w68 ⟨rfl, hb⟩; have n0_ := Aside0.mk (IsS25.below (by repeat (first | (with_reducible first | exact HI101.out | apply IsS25.alloc | apply IsS25.drewN | apply IsS25.drew | apply IsS25.set_1 | refine IsS25.far ?_ NB101_110.out _ | refine IsS25.far ?_ NB101_111.out _) | exact HI101.out)) hb); have n1_ := bkb_ BK110 hb rfl; have n2_ := bkb_ BK111 hb rfl; have n3_ := Aside0.mk (below_step (by repeat (first | (with_reducible first | exact HB.out | apply below_alloc | apply pw_below_drewN | apply below_drew1 | refine below_set ?_ (IsS25.ge HI101.out) | refine below_set ?_ GE110.out | refine below_set ?_ GE111.out) | exact HB.out)) hb); clear HI101; clear BK110; clear BK111; clear HB; have HI101 := n0_; have BK110 := n1_; have BK111 := n2_; have HB := n3_; clear n0_ n1_ n2_ n3_; (try clear hb); have hcz69_0 := bc_ BK110 0 rfl; have hcz69_1 := bc_ BK110 1 rfl; have hcz69_2 := bc_ BK110 2 rfl; have hfz69_0 := blk_frozen BK110.out 0; have hfz69_1 := blk_frozen BK110.out 1; have hfz69_2 := blk_frozen BK110.out 2))
     obtain rfl := hL2.out
     clear hL2
     simp only [List.drop_succ_cons, List.drop_zero]
     refine wl_tail_ 11 ?_
     intro L2 hL2
     replace hL2 := Aside0.mk hL2
     simp only [List.take_succ_cons, List.take_zero, List.cons_append, List.nil_append]
     go_wp2_with (first | (go_at_call 37; (with_reducible refine (bound_Abs_api_Fix.calls k t102 t103 t104 t134 t135 t136 _ A34.out).mono ?_); rintro e w70 ⟨rfl, hb⟩; have n0_ := Aside0.mk (IsS25.below (by repeat (first | (with_reducible first | exact HI101.out | apply IsS25.alloc | apply IsS25.drewN | apply IsS25.drew | apply IsS25.set_1 | refine IsS25.far ?_ NB101_110.out _ | refine IsS25.far ?_ NB101_111.out _) | exact HI101.out)) hb); have n1_ := bkb_ BK110 hb rfl; have n2_ := bkb_ BK111 hb rfl; have n3_ := Aside0.mk (below_step (by repeat (first | (with_reducible first | exact HB.out | apply below_alloc | apply pw_below_drewN | apply below_drew1 | refine below_set ?_ (IsS25.ge HI101.out) | refine below_set ?_ GE110.out | refine below_set ?_ GE111.out) | exact HB.out)) hb); clear HI101; clear BK110; clear BK111; clear HB; have HI101 := n0_; have BK110 := n1_; have BK111 := n2_; have HB := n3_; clear n0_ n1_ n2_ n3_; (try clear hb)) | (go_at_call 45; (with_reducible refine (spykeep1_BoundIncludes_1.calls k t134 t135 t136 ji35 true _ A36.out).mono ?_); rintro e w71 ⟨rfl, hb⟩; have n0_ := Aside0.mk (IsS25.below (by repeat (first | (with_reducible first | exact HI101.out | apply IsS25.alloc | apply IsS25.drewN | apply IsS25.drew | apply IsS25.set_1 | refine IsS25.far ?_ NB101_110.out _ | refine IsS25.far ?_ NB101_111.out _) | exact HI101.out)) hb); have n1_ := bkb_ BK110 hb rfl; have n2_ := bkb_ BK111 hb rfl; have n3_ := Aside0.mk (below_step (by repeat (first | (with_reducible first | exact HB.out | apply below_alloc | apply pw_below_drewN | apply below_drew1 | refine below_set ?_ (IsS25.ge HI101.out) | refine below_set ?_ GE110.out | refine below_set ?_ GE111.out) | exact HB.out)) hb); clear HI101; clear BK110; clear BK111; clear HB; have HI101 := n0_; have BK110 := n1_; have BK111 := n2_; have HB := n3_; clear n0_ n1_ n2_ n3_; (try clear hb); have hcz72_0 := bc_ BK110 0 rfl; have hcz72_1 := bc_ BK110 1 rfl; have hcz72_2 := bc_ BK110 2 rfl; have hfz72_0 := blk_frozen BK110.out 0; have hfz72_1 := blk_frozen BK110.out 1; have hfz72_2 := blk_frozen BK110.out 2; have hcz73_0 := bc_ BK111 0 rfl; have hcz73_1 := bc_ BK111 1 rfl; have hcz73_2 := bc_ BK111 2 rfl; have hfz73_0 := blk_frozen BK111.out 0; have hfz73_1 := blk_frozen BK111.out 1; have hfz73_2 := blk_frozen BK111.out 2))
     obtain rfl := hL2.out
     clear hL2
     simp only [List.drop_succ_cons, List.drop_zero]
     refine wl_tail_ 11 ?_
     intro L2 hL2
     replace hL2 := Aside0.mk hL2
     simp only [List.take_succ_cons, List.take_zero, List.cons_append, List.nil_append]
     go_wp2_with (first | (go_at_call 38; (with_reducible refine (bound_Min_api_Fix.calls k t102 t103 t104 t106 t107 t108 t138 t139 t140 _ A38.out).mono ?_); rintro e w74 ⟨rfl, hb⟩; have n0_ := Aside0.mk (IsS25.below (by repeat (first | (with_reducible first | exact HI101.out | apply IsS25.alloc | apply IsS25.drewN | apply IsS25.drew | apply IsS25.set_1 | refine IsS25.far ?_ NB101_110.out _ | refine IsS25.far ?_ NB101_111.out _) | exact HI101.out)) hb); have n1_ := bkb_ BK110 hb rfl; have n2_ := bkb_ BK111 hb rfl; have n3_ := Aside0.mk (below_step (by repeat (first | (with_reducible first | exact HB.out | apply below_alloc | apply pw_below_drewN | apply below_drew1 | refine below_set ?_ (IsS25.ge HI101.out) | refine below_set ?_ GE110.out | refine below_set ?_ GE111.out) | exact HB.out)) hb); clear HI101; clear BK110; clear BK111; clear HB; have HI101 := n0_; have BK110 := n1_; have BK111 := n2_; have HB := n3_; clear n0_ n1_ n2_ n3_; (try clear hb)) | (go_at_call 45; (with_reducible refine (spykeep1_BoundIncludes_1.calls k t138 t139 t140 ji39 true _ A40.out).mono ?_); rintro e w75 ⟨rfl, hb⟩; have n0_ := Aside0.mk (IsS25.below (by repeat (first | (with_reducible first | exact HI101.out | apply IsS25.alloc | apply IsS25.drewN | apply IsS25.drew | apply IsS25.set_1 | refine IsS25.far ?_ NB101_110.out _ | refine IsS25.far ?_ NB101_111.out _) | exact HI101.out)) hb); have n1_ := bkb_ BK110 hb rfl; have n2_ := bkb_ BK111 hb rfl; have n3_ := Aside0.mk (below_step (by repeat (first | (with_reducible first | exact HB.out | apply below_alloc | apply pw_below_drewN | apply below_drew1 | refine below_set ?_ (IsS25.ge HI101.out) | refine below_set ?_ GE110.out | refine below_set ?_ GE111.out) | exact HB.out)) hb); clear HI101; clear BK110; clear BK111; clear HB; have HI101 := n0_; have BK110 := n1_; have BK111 := n2_; have HB := n3_; clear n0_ n1_ n2_ n3_; (try clear hb); have hcz76_0 := bc_ BK110 0 rfl; have hcz76_1 := bc_ BK110 1 rfl; have hcz76_2 := bc_ BK110 2 rfl; have hfz76_0 := blk_frozen BK110.out 0; have hfz76_1 := blk_frozen BK110.out 1; have hfz76_2 := blk_frozen BK110.out 2; have hcz77_0 := bc_ BK111 0 rfl; have hcz77_1 := bc_ BK111 1 rfl; have hcz77_2 := bc_ BK111 2 rfl; have hfz77_0 := blk_frozen BK111.out 0; have hfz77_1 := blk_frozen BK111.out 1; have hfz77_2 := blk_frozen BK111.out 2))
     obtain rfl := hL2.out
     clear hL2
     simp only [List.drop_succ_cons, List.drop_zero]
     refine wl_tail_ 11 ?_
     intro L2 hL2
     replace hL2 := Aside0.mk hL2
     simp only [List.take_succ_cons, List.take_zero, List.cons_append, List.nil_append]
     go_wp2_with (first | (go_at_call 39; (with_reducible refine (bound_Max_api_Fix.calls k t102 t103 t104 t106 t107 t108 t142 t143 t144 _ A42.out).mono ?_); rintro e w78 ⟨rfl, hb⟩; have n0_ := Aside0.mk (IsS25.below (by repeat (first | (with_reducible first | exact HI101.out | apply IsS25.alloc | apply IsS25.drewN | apply IsS25.drew | apply IsS25.set_1 | refine IsS25.far ?_ NB101_110.out _ | refine IsS25.far ?_ NB101_111.out _) | exact HI101.out)) hb); have n1_ := bkb_ BK110 hb rfl; have n2_ := bkb_ BK111 hb rfl; have n3_ := Aside0.mk (below_step (by repeat (first | (with_reducible first | exact HB.out | apply below_alloc | apply pw_below_drewN | apply below_drew1 | refine below_set ?_ (IsS25.ge HI101.out) | refine below_set ?_ GE110.out | refine below_set ?_ GE111.out) | exact HB.out)) hb); clear HI101; clear BK110; clear BK111; clear HB; have HI101 := n0_; have BK110 := n1_; have BK111 := n2_; have HB := n3_; clear n0_ n1_ n2_ n3_; (try clear hb)) | (go_at_call 45; (with_reducible refine (spykeep1_BoundIncludes_1.calls k t142 t143 t144 ji43 true _ A44.out).mono ?_); rintro e w79 ⟨rfl, hb⟩; have n0_ := Aside0.mk (IsS25.below (by repeat (first | (with_reducible first | exact HI101.out | apply IsS25.alloc | apply IsS25.drewN | apply IsS25.drew | apply IsS25.set_1 | refine IsS25.far ?_ NB101_110.out _ | refine IsS25.far ?_ NB101_111.out _) | exact HI101.out)) hb); have n1_ := bkb_ BK110 hb rfl; have n2_ := bkb_ BK111 hb rfl; have n3_ := Aside0.mk (below_step (by repeat (first | (with_reducible first | exact HB.out | apply below_alloc | apply pw_below_drewN | apply below_drew1 | refine below_set ?_ (IsS25.ge HI101.out) | refine below_set ?_ GE110.out | refine below_set ?_ GE111.out) | exact HB.out)) hb); clear HI101; clear BK110; clear BK111; clear HB; have HI101 := n0_; have BK110 := n1_; have BK111 := n2_; have HB := n3_; clear n0_ n1_ n2_ n3_; (try clear hb); have hcz80_0 := bc_ BK110 0 rfl; have hcz80_1 := bc_ BK110 1 rfl; have hcz80_2 := bc_ BK110 2 rfl; have hfz80_0 := blk_frozen BK110.out 0; have hfz80_1 := blk_frozen BK110.out 1; have hfz80_2 := blk_frozen BK110.out 2; have hcz81_0 := bc_ BK111 0 rfl; have hcz81_1 := bc_ BK111 1 rfl; have hcz81_2 := bc_ BK111 2 rfl; have hfz81_0 := blk_frozen BK111.out 0; have hfz81_1 := blk_frozen BK111.out 1; have hfz81_2 := blk_frozen BK111.out 2))
     obtain rfl := hL2.out
     clear hL2
     simp only [List.drop_succ_cons, List.drop_zero]
     refine wl_tail_ 9 ?_
     intro L2 hL2
     replace hL2 := Aside0.mk hL2
     simp only [List.take_succ_cons, List.take_zero, List.cons_append, List.nil_append]
     go_wp2_with (first | (go_at_call 40; (with_reducible refine (bound_Hull_api_Fix.calls k t102 t103 t104 t106 t107 t108 t146 t147 t148 _ A46.out).mono ?_); rintro e w82 ⟨rfl, hb⟩; have n0_ := Aside0.mk (IsS25.below (by repeat (first | (with_reducible first | exact HI101.out | apply IsS25.alloc | apply IsS25.drewN | apply IsS25.drew | apply IsS25.set_1 | refine IsS25.far ?_ NB101_110.out _ | refine IsS25.far ?_ NB101_111.out _) | exact HI101.out)) hb); have n1_ := bkb_ BK110 hb rfl; have n2_ := bkb_ BK111 hb rfl; have n3_ := Aside0.mk (below_step (by repeat (first | (with_reducible first | exact HB.out | apply below_alloc | apply pw_below_drewN | apply below_drew1 | refine below_set ?_ (IsS25.ge HI101.out) | refine below_set ?_ GE110.out | refine below_set ?_ GE111.out) | exact HB.out)) hb); clear HI101; clear BK110; clear BK111; clear HB; have HI101 := n0_; have BK110 := n1_; have BK111 := n2_; have HB := n3_; clear n0_ n1_ n2_ n3_; (try clear hb)) | (go_at_call 45; (with_reducible refine (spykeep1_BoundIncludes_1.calls k t146 t147 t148 t112 true _ A47.out).mono ?_); rintro e w83 ⟨rfl, hb⟩; have n0_ := Aside0.mk (IsS25.below (by repeat (first | (with_reducible first | exact HI101.out | apply IsS25.alloc | apply IsS25.drewN | apply IsS25.drew | apply IsS25.set_1 | refine IsS25.far ?_ NB101_110.out _ | refine IsS25.far ?_ NB101_111.out _) | exact HI101.out)) hb); have n1_ := bkb_ BK110 hb rfl; have n2_ := bkb_ BK111 hb rfl; have n3_ := Aside0.mk (below_step (by repeat (first | (with_reducible first | exact HB.out | apply below_alloc | apply pw_below_drewN | apply below_drew1 | refine below_set ?_ (IsS25.ge HI101.out) | refine below_set ?_ GE110.out | refine below_set ?_ GE111.out) | exact HB.out)) hb); clear HI101; clear BK110; clear BK111; clear HB; have HI101 := n0_; have BK110 := n1_; have BK111 := n2_; have HB := n3_; clear n0_ n1_ n2_ n3_; (try clear hb); have hcz84_0 := bc_ BK110 0 rfl; have hcz84_1 := bc_ BK110 1 rfl; have hcz84_2 := bc_ BK110 2 rfl; have hfz84_0 := blk_frozen BK110.out 0; have hfz84_1 := blk_frozen BK110.out 1; have hfz84_2 := blk_frozen BK110.out 2; have hcz85_0 := bc_ BK111 0 rfl; have hcz85_1 := bc_ BK111 1 rfl; have hcz85_2 := bc_ BK111 2 rfl; have hfz85_0 := blk_frozen BK111.out 0; have hfz85_1 := blk_frozen BK111.out 1; have hfz85_2 := blk_frozen BK111.out 2))
     obtain rfl := hL2.out
     clear hL2
     simp only [List.drop_succ_cons, List.drop_zero]
     refine wl_tail_ 9 ?_
     intro L2 hL2
     replace hL2 := Aside0.mk hL2
     simp only [List.take_succ_cons, List.take_zero, List.cons_append, List.nil_append]
     go_wp2_with (first | (go_at_call 40; (with_reducible refine (bound_Hull_api_Fix.calls k t102 t103 t104 t106 t107 t108 t146 t147 t148 _ A49.out).mono ?_); rintro e w86 ⟨rfl, hb⟩; have n0_ := Aside0.mk (IsS25.below (by repeat (first | (with_reducible first | exact HI101.out | apply IsS25.alloc | apply IsS25.drewN | apply IsS25.drew | apply IsS25.set_1 | refine IsS25.far ?_ NB101_110.out _ | refine IsS25.far ?_ NB101_111.out _) | exact HI101.out)) hb); have n1_ := bkb_ BK110 hb rfl; have n2_ := bkb_ BK111 hb rfl; have n3_ := Aside0.mk (below_step (by repeat (first | (with_reducible first | exact HB.out | apply below_alloc | apply pw_below_drewN | apply below_drew1 | refine below_set ?_ (IsS25.ge HI101.out) | refine below_set ?_ GE110.out | refine below_set ?_ GE111.out) | exact HB.out)) hb); clear HI101; clear BK110; clear BK111; clear HB; have HI101 := n0_; have BK110 := n1_; have BK111 := n2_; have HB := n3_; clear n0_ n1_ n2_ n3_; (try clear hb)) | (go_at_call 45; (with_reducible refine (spykeep1_BoundIncludes_1.calls k t146 t147 t148 t116 true _ A50.out).mono ?_); rintro e w87 ⟨rfl, hb⟩; have n0_ := Aside0.mk (IsS25.below (by repeat (first | (with_reducible first | exact HI101.out | apply IsS25.alloc | apply IsS25.drewN | apply IsS25.drew | apply IsS25.set_1 | refine IsS25.far ?_ NB101_110.out _ | refine IsS25.far ?_ NB101_111.out _) | exact HI101.out)) hb); have n1_ := bkb_ BK110 hb rfl; have n2_ := bkb_ BK111 hb rfl; have n3_ := Aside0.mk (below_step (by repeat (first | (with_reducible first | exact HB.out | apply below_alloc | apply pw_below_drewN | apply below_drew1 | refine below_set ?_ (IsS25.ge HI101.out) | refine below_set ?_ GE110.out | refine below_set ?_ GE111.out) | exact HB.out)) hb); clear HI101; clear BK110; clear BK111; clear HB; have HI101 := n0_; have BK110 := n1_; have BK111 := n2_; have HB := n3_; clear n0_ n1_ n2_ n3_; (try clear hb); have hcz88_0 := bc_ BK110 0 rfl; have hcz88_1 := bc_ BK110 1 rfl; have hcz88_2 := bc_ BK110 2 rfl; have hfz88_0 := blk_frozen BK110.out 0; have hfz88_1 := blk_frozen BK110.out 1; have hfz88_2 := blk_frozen BK110.out 2; have hcz89_0 := bc_ BK111 0 rfl; have hcz89_1 := bc_ BK111 1 rfl; have hcz89_2 := bc_ BK111 2 rfl; have hfz89_0 := blk_frozen BK111.out 0; have hfz89_1 := blk_frozen BK111.out 1; have hfz89_2 := blk_frozen BK111.out 2))
     obtain rfl := hL2.out
     clear hL2
     simp only [List.drop_succ_cons, List.drop_zero]
     go_wp2_with (first | ((with_reducible refine gate_dst (N := 124) rfl ?_); (try (refine gate_guard (by rfl) ?_; dsimp only)); refine Kd.R_lit k56 _ 56 ?hg (N := 124) ?hd (xs := ([(⟨t102, t103, t104⟩ : S56), (⟨t106, t107, t108⟩ : S56), (⟨t102, t103, t104⟩ : S56)] : List (S56))) (inner := [.int .i64 t102, .int .i64 t103, .bool t104, .int .i64 t106, .int .i64 t107, .bool t108, .int .i64 t102, .int .i64 t103, .bool t104]) (ok := fun _ => True) (okp := fun _ => True) ?hr ?hp (fun _ hk => hk) trivial (Below.refl _ _) (Nat.le_refl _) (by simp) ?_; (case hd => rfl); (case hg => rfl); (case hr => exact bsl_ #[(0, .agg #[.int .i64 t102, .int .i64 t103, .bool t104]), (1, .agg #[.int .i64 t106, .int .i64 t107, .bool t108]), (2, .agg #[.int .i64 t102, .int .i64 t103, .bool t104])] rfl (by simp only [List.map_toArray, List.map_cons, List.map_nil]; rfl) (bl3_ _ _ _ _ _ _ _ _ _ _)); (case hp => exact (Reps.c3 (show Kd.M k56 _ _ _ (⟨t102, t103, t104⟩ : S56) [.int .i64 t102, .int .i64 t103, .bool t104] from (k56_mkM _ _ _ (⟨t102, t103, t104⟩ : S56) )) (Reps.c3 (show Kd.M k56 _ _ _ (⟨t106, t107, t108⟩ : S56) [.int .i64 t106, .int .i64 t107, .bool t108] from (k56_mkM _ _ _ (⟨t106, t107, t108⟩ : S56) )) (Reps.c3 (show Kd.M k56 _ _ _ (⟨t102, t103, t104⟩ : S56) [.int .i64 t102, .int .i64 t103, .bool t104] from (k56_mkM _ _ _ (⟨t102, t103, t104⟩ : S56) )) (Reps.none _ _))))); intro v155 w90 ho91 hb hg_ hnew_; clear hg_ hnew_; (first | rw [← Ny154.out] at ho91 | (simp only [Int.reduceToNat] at ho91; rw [← Ny154.out] at ho91)); have n0_ := Aside0.mk (Kd.R_lower (Kd.R_newB (Kd.R_newB ho91 (g := gb110) (o := .cells #[.int .i64 t102, .int .i64 t103, .bool t104] 56 (0, 0)) BK110.out) (g := gb111) (o := .cells #[.int .i64 t106, .int .i64 t107, .bool t108] 56 (0, 0)) BK111.out) (below_size (by repeat (first | (with_reducible first | exact HB.out | apply below_alloc | apply pw_below_drewN | apply below_drew1 | refine below_set ?_ (IsS25.ge HI101.out) | refine below_set ?_ GE110.out | refine below_set ?_ GE111.out) | exact HB.out)))); have n1_ := Aside0.mk (IsS25.below (by repeat (first | (with_reducible first | exact HI101.out | apply IsS25.alloc | apply IsS25.drewN | apply IsS25.drew | apply IsS25.set_1 | refine IsS25.far ?_ NB101_110.out _ | refine IsS25.far ?_ NB101_111.out _) | exact HI101.out)) hb); have n2_ := bkb_ BK110 hb rfl; have n3_ := bkb_ BK111 hb rfl; have n4_ := Aside0.mk (below_step (by repeat (first | (with_reducible first | exact HB.out | apply below_alloc | apply pw_below_drewN | apply below_drew1 | refine below_set ?_ (IsS25.ge HI101.out) | refine below_set ?_ GE110.out | refine below_set ?_ GE111.out) | exact HB.out)) hb); clear HI101; clear BK110; clear BK111; clear HB; have HO156 := n0_; have HI101 := n1_; have BK110 := n2_; have BK111 := n3_; have HB := n4_; clear n0_ n1_ n2_ n3_ n4_; clear hb ho91; obtain ⟨Ao92, co92, eo92⟩ := Kd.R_slice HO156.out; subst eo92) | (go_at_call 46; (with_reducible refine (bound_Sum_api_Fix.calls _ _ y154 t157 t158 t159 _ ?side1 ?side2 A52.out).mono ?_); (case side1 => repeat (first | exact (Kd.R_reads' HO156.out).2.2 | (with_reducible refine Kd.C_alloc ?_ _) | (with_reducible refine Kd.C_drewN ?_ _) | (with_reducible refine Kd.C_drew ?_))); (case side2 => exact (Kd.R_reads' HO156.out).2.1); rintro e w93 ⟨rfl, hb⟩; have n0_ := Aside0.mk (Kd.R_below (by (with_reducible repeat (first | apply Kd.R_alloc | apply Kd.R_drewN | apply Kd.R_drew)); exact HO156.out) hb); have n1_ := Aside0.mk (IsS25.below (by repeat (first | (with_reducible first | exact HI101.out | apply IsS25.alloc | apply IsS25.drewN | apply IsS25.drew | apply IsS25.set_1 | refine IsS25.far ?_ NB101_110.out _ | refine IsS25.far ?_ NB101_111.out _) | exact HI101.out)) hb); have n2_ := bkb_ BK110 hb rfl; have n3_ := bkb_ BK111 hb rfl; have n4_ := Aside0.mk (below_step (by repeat (first | (with_reducible first | exact HB.out | apply below_alloc | apply pw_below_drewN | apply below_drew1 | refine below_set ?_ (IsS25.ge HI101.out) | refine below_set ?_ GE110.out | refine below_set ?_ GE111.out) | exact HB.out)) hb); clear HO156; clear HI101; clear BK110; clear BK111; clear HB; have HO156 := n0_; have HI101 := n1_; have BK110 := n2_; have BK111 := n3_; have HB := n4_; clear n0_ n1_ n2_ n3_ n4_; (try clear hb)) | (go_at_call 45; (with_reducible refine (spykeep1_BoundIncludes_1.calls k t157 t158 t159 (wrap64 ((wrap64 (t112 + t116)) + t112)) t160 _ A53.out).mono ?_); rintro e w94 ⟨rfl, hb⟩; have n0_ := Aside0.mk (Kd.R_below (by (with_reducible repeat (first | apply Kd.R_alloc | apply Kd.R_drewN | apply Kd.R_drew)); exact HO156.out) hb); have n1_ := Aside0.mk (IsS25.below (by repeat (first | (with_reducible first | exact HI101.out | apply IsS25.alloc | apply IsS25.drewN | apply IsS25.drew | apply IsS25.set_1 | refine IsS25.far ?_ NB101_110.out _ | refine IsS25.far ?_ NB101_111.out _) | exact HI101.out)) hb); have n2_ := bkb_ BK110 hb rfl; have n3_ := bkb_ BK111 hb rfl; have n4_ := Aside0.mk (below_step (by repeat (first | (with_reducible first | exact HB.out | apply below_alloc | apply pw_below_drewN | apply below_drew1 | refine below_set ?_ (IsS25.ge HI101.out) | refine below_set ?_ GE110.out | refine below_set ?_ GE111.out) | exact HB.out)) hb); clear HO156; clear HI101; clear BK110; clear BK111; clear HB; have HO156 := n0_; have HI101 := n1_; have BK110 := n2_; have BK111 := n3_; have HB := n4_; clear n0_ n1_ n2_ n3_ n4_; (try clear hb)))
     go_meet
     case rel => exact ⟨_, (!t160), (by first | rfl | (simp; done) | (simp [*]; done)), H', ⟨by first | omega | exact Nat.le_refl _⟩, ⟨by (with_reducible repeat (first | refine blk_drewN ?_ _ | refine blk_drew ?_ | refine blk_alloc ?_ _)); exact BK110.out⟩, ⟨by (with_reducible repeat (first | refine blk_drewN ?_ _ | refine blk_drew ?_ | refine blk_alloc ?_ _)); exact BK111.out⟩, ⟨by repeat (first | (with_reducible first | exact HB.out | apply below_alloc | apply pw_below_drewN | apply below_drew1 | refine below_set ?_ (IsS25.ge HI101.out) | refine below_set ?_ GE110.out | refine below_set ?_ GE111.out) | exact HB.out)⟩⟩
   replace c51 := Bool.eq_false_iff.mpr c51
   subst c51
   rw [if_neg (show ¬ (false = true) by decide)] at H
   exact absurd H (by simp)
  case rest => as_aux_lemma =>
   clear HC8
   obtain ⟨kq, x133_7, rfl, HA, HJ7, BK110, BK111, HB⟩ := hcut
   cases kq with
   | zero => exact absurd HA.out (by simp [spykeep1_BoundIncludes.j0])
   | succ kj7 =>
    have H := HA.out
    clear HA
    simp only [spykeep1_BoundIncludes.j0] at H
    by_cases c95 : x133_7 = true
    · subst c95
      rw [if_pos rfl] at H
      exact absurd H (by simp)
    replace c95 := Bool.eq_false_iff.mpr c95
    subst c95
    rw [if_neg (show ¬ (false = true) by decide)] at H
    replace H := Option.bind_eq_some_iff.mp H
    obtain ⟨⟨t161, t162, t163⟩, A960, H⟩ := H
    try dsimp -simprocs only at H
    have A96 := Aside0.mk A960
    clear A960
    replace H := Option.bind_eq_some_iff.mp H
    obtain ⟨⟨t165, t166, t167⟩, A970, H⟩ := H
    try dsimp -simprocs only at H
    have A97 := Aside0.mk A970
    clear A970
    have HC98 := Aside0.mk H
    clear H
    have hnb99 := NB110_111.out
    have hnc99 := NB111_110.out
    have hcz100_0 := bc_ BK110 0 rfl
    have hcz100_1 := bc_ BK110 1 rfl
    have hcz100_2 := bc_ BK110 2 rfl
    have hfz100_0 := blk_frozen BK110.out 0
    have hfz100_1 := blk_frozen BK110.out 1
    have hfz100_2 := blk_frozen BK110.out 2
    have hcz101_0 := bc_ BK111 0 rfl
    have hcz101_1 := bc_ BK111 1 rfl
    have hcz101_2 := bc_ BK111 2 rfl
    have hfz101_0 := blk_frozen BK111.out 0
    have hfz101_1 := blk_frozen BK111.out 1
    have hfz101_2 := blk_frozen BK111.out 2
    go_upto_region 10 with (first | ((with_reducible refine gate_callee (f := 41) rfl ?_); refine glq_ (some 137) Try.func41 #[.agg #[.int .i64 t102, .int .i64 t103, .bool t104], .agg #[.int .i64 t106, .int .i64 t107, .bool t108], .int .i64 (wrap64 (1 + t120))] ?_; (with_reducible refine (bound_Mul_api_Fix.calls kj7 t102 t103 t104 t106 t107 t108 (wrap64 (1 + t120)) t161 t162 t163 _ A96.out).mono ?_); rintro e w102 ⟨rfl, hb⟩; refine ⟨_, rfl, ?_⟩; replace BK110 := bkb_ BK110 hb rfl; replace BK111 := bkb_ BK111 hb rfl; replace HB := hbs_ HB hb rfl rfl rfl rfl; (try clear hb)) | ((with_reducible refine gate_dst (N := 12) rfl ?_); (try (refine gate_guard (by rfl) ?_; dsimp only)); refine bxq_ 12 #[.int .i64 0, .int .i64 0, .bool false] 56 ?_; intro gb164 hg w103 hbox hb; have BK164 := Aside0.mk (hbox); have GW164 := gwq_ HB hg rfl; have GE164 := GW164; have NB110_164 := nbl_ BK110 hg rfl; have NB164_110 := nbg_ BK110 hg rfl; have NB111_164 := nbl_ BK111 hg rfl; have NB164_111 := nbg_ BK111 hg rfl; replace BK110 := bkb_ BK110 hb rfl; replace BK111 := bkb_ BK111 hb rfl; replace HB := hbs_ HB hb rfl rfl rfl rfl; clear hb hbox hg; have hnb104 := NB164_110.out; have hnc104 := NB110_164.out; have hnb105 := NB164_111.out; have hnc105 := NB111_164.out; have hcz106_0 := bc_ BK164 0 rfl; have hcz106_1 := bc_ BK164 1 rfl; have hcz106_2 := bc_ BK164 2 rfl; have hfz106_0 := blk_frozen BK164.out 0; have hfz106_1 := blk_frozen BK164.out 1; have hfz106_2 := blk_frozen BK164.out 2; have hcz107_0 := bc_ BK110 0 rfl; have hcz107_1 := bc_ BK110 1 rfl; have hcz107_2 := bc_ BK110 2 rfl; have hfz107_0 := blk_frozen BK110.out 0; have hfz107_1 := blk_frozen BK110.out 1; have hfz107_2 := blk_frozen BK110.out 2) | ((with_reducible refine gate_callee (f := 43) rfl ?_); refine glq_ (some 141) Try.func43 #[.agg #[.int .i64 t102, .int .i64 t103, .bool t104], .int .i64 t116, .int .i64 (wrap64 (1 + t120))] ?_; (with_reducible refine (bound_Scale_api_Fix.calls kj7 t102 t103 t104 t116 (wrap64 (1 + t120)) t165 t166 t167 _ A97.out).mono ?_); rintro e w108 ⟨rfl, hb⟩; refine ⟨_, rfl, ?_⟩; replace BK110 := Aside0.mk (blk_below (g := gb110) (o := .cells #[.int .i64 t102, .int .i64 t103, .bool t104] 56 (0, 0)) (by (with_reducible repeat (first | refine blk_drewN ?_ _ | refine blk_drew ?_ | refine blk_alloc ?_ _)); refine blk_far ?_ NB110_164.out _; (with_reducible repeat (first | refine blk_drewN ?_ _ | refine blk_drew ?_ | refine blk_alloc ?_ _)); refine blk_far ?_ NB110_164.out _; (with_reducible repeat (first | refine blk_drewN ?_ _ | refine blk_drew ?_ | refine blk_alloc ?_ _)); refine blk_far ?_ NB110_164.out _; (with_reducible repeat (first | refine blk_drewN ?_ _ | refine blk_drew ?_ | refine blk_alloc ?_ _)); exact BK110.out) hb); replace BK111 := Aside0.mk (blk_below (g := gb111) (o := .cells #[.int .i64 t106, .int .i64 t107, .bool t108] 56 (0, 0)) (by (with_reducible repeat (first | refine blk_drewN ?_ _ | refine blk_drew ?_ | refine blk_alloc ?_ _)); refine blk_far ?_ NB111_164.out _; (with_reducible repeat (first | refine blk_drewN ?_ _ | refine blk_drew ?_ | refine blk_alloc ?_ _)); refine blk_far ?_ NB111_164.out _; (with_reducible repeat (first | refine blk_drewN ?_ _ | refine blk_drew ?_ | refine blk_alloc ?_ _)); refine blk_far ?_ NB111_164.out _; (with_reducible repeat (first | refine blk_drewN ?_ _ | refine blk_drew ?_ | refine blk_alloc ?_ _)); exact BK111.out) hb); replace BK164 := Aside0.mk (blk_below (g := gb164) (o := .cells #[.int .i64 t161, .int .i64 t162, .bool t163] 56 (0, 0)) (by (with_reducible repeat (first | refine blk_drewN ?_ _ | refine blk_drew ?_ | refine blk_alloc ?_ _)); refine blk_put (cs := #[.int .i64 t161, .int .i64 t162, .bool false]) ?_ 2 _ rfl; (with_reducible repeat (first | refine blk_drewN ?_ _ | refine blk_drew ?_ | refine blk_alloc ?_ _)); refine blk_put (cs := #[.int .i64 t161, .int .i64 0, .bool false]) ?_ 1 _ rfl; (with_reducible repeat (first | refine blk_drewN ?_ _ | refine blk_drew ?_ | refine blk_alloc ?_ _)); refine blk_put (cs := #[.int .i64 0, .int .i64 0, .bool false]) ?_ 0 _ rfl; (with_reducible repeat (first | refine blk_drewN ?_ _ | refine blk_drew ?_ | refine blk_alloc ?_ _)); exact BK164.out) hb); replace HB := Aside0.mk (below_step (by repeat (first | (with_reducible first | exact HB.out | apply below_alloc | apply pw_below_drewN | apply below_drew1 | refine below_set ?_ GE110.out | refine below_set ?_ GE111.out | refine below_set ?_ GE164.out) | exact HB.out)) hb); (try clear hb)) | ((with_reducible refine gate_dst (N := 13) rfl ?_); (try (refine gate_guard (by rfl) ?_; dsimp only)); refine bxq_ 13 #[.int .i64 0, .int .i64 0, .bool false] 56 ?_; intro gb168 hg w109 hbox hb; have BK168 := Aside0.mk (hbox); have GW168 := gwq_ HB hg rfl; have GE168 := GW168; have NB110_168 := nbl_ BK110 hg rfl; have NB168_110 := nbg_ BK110 hg rfl; have NB111_168 := nbl_ BK111 hg rfl; have NB168_111 := nbg_ BK111 hg rfl; have NB164_168 := nbl_ BK164 hg rfl; have NB168_164 := nbg_ BK164 hg rfl; replace BK110 := bkb_ BK110 hb rfl; replace BK111 := bkb_ BK111 hb rfl; replace BK164 := bkb_ BK164 hb rfl; replace HB := hbs_ HB hb rfl rfl rfl rfl; clear hb hbox hg; have hnb110 := NB168_110.out; have hnc110 := NB110_168.out; have hnb111 := NB168_111.out; have hnc111 := NB111_168.out; have hnb112 := NB168_164.out; have hnc112 := NB164_168.out; have hcz113_0 := bc_ BK168 0 rfl; have hcz113_1 := bc_ BK168 1 rfl; have hcz113_2 := bc_ BK168 2 rfl; have hfz113_0 := blk_frozen BK168.out 0; have hfz113_1 := blk_frozen BK168.out 1; have hfz113_2 := blk_frozen BK168.out 2))
    (try simp only [Act.put, List.setIfInBounds_toArray, List.set_cons_zero, List.set_cons_succ])
    go_cut [183] (fun v183 wc => ∃ (kq : Nat) (x183_97 : Bool), v183 = .bool x183_97 ∧ Aside0 (spykeep1_BoundIncludes.j1 kq t112 t116 (wrap64 (1 + t120)) x183_97 t102 t103 t104 t106 t107 t108 = some r) ∧ Aside0 (kq ≤ kj7) ∧ Aside0 (wc.heap[gb110]? = some (.cells #[.int .i64 t102, .int .i64 t103, .bool t104] 56 (0, 0))) ∧ Aside0 (wc.heap[gb111]? = some (.cells #[.int .i64 t106, .int .i64 t107, .bool t108] 56 (0, 0))) ∧ Aside0 (wc.heap[gb164]? = some (.cells #[.int .i64 t161, .int .i64 t162, .bool t163] 56 (0, 0))) ∧ Aside0 (wc.heap[gb168]? = some (.cells #[.int .i64 t165, .int .i64 t166, .bool t167] 56 (0, 0))) ∧ Aside0 (Below w.heap.size w wc))
    case first => as_aux_lemma =>
     have H := HC98.out
     clear HC98
     replace H := Option.bind_eq_some_iff.mp H
     obtain ⟨t169, A1140, H⟩ := H
     try dsimp -simprocs only at H
     have A114 := Aside0.mk A1140
     clear A1140
     replace H := Option.bind_eq_some_iff.mp H
     obtain ⟨t170, A1150, H⟩ := H
     try dsimp -simprocs only at H
     have A115 := Aside0.mk A1150
     clear A1150
     by_cases c116 : t170 = true
     rotate_left
     · replace c116 := Bool.eq_false_iff.mpr c116
       subst c116
       rw [if_neg (show ¬ (false = true) by decide)] at H
       exact absurd H (by simp)
     subst c116
     rw [if_pos rfl] at H
     replace H := Option.bind_eq_some_iff.mp H
     obtain ⟨t171, A1170, H⟩ := H
     try dsimp -simprocs only at H
     have A117 := Aside0.mk A1170
     clear A1170
     replace H := Option.bind_eq_some_iff.mp H
     obtain ⟨t172, A1180, H⟩ := H
     try dsimp -simprocs only at H
     have A118 := Aside0.mk A1180
     clear A1180
     by_cases c119 : t172 = true
     rotate_left
     · replace c119 := Bool.eq_false_iff.mpr c119
       subst c119
       rw [if_neg (show ¬ (false = true) by decide)] at H
       exact absurd H (by simp)
     subst c119
     rw [if_pos rfl] at H
     replace H := Option.bind_eq_some_iff.mp H
     obtain ⟨t173, A1200, H⟩ := H
     try dsimp -simprocs only at H
     have E_ := Option.some.inj (A114.out.symm.trans A1200)
     subst E_
     have A120 := Aside0.mk A1200
     clear A1200
     replace H := Option.bind_eq_some_iff.mp H
     obtain ⟨t174, A1210, H⟩ := H
     try dsimp -simprocs only at H
     have A121 := Aside0.mk A1210
     clear A1210
     by_cases c122 : t174 = true
     rotate_left
     · replace c122 := Bool.eq_false_iff.mpr c122
       subst c122
       rw [if_neg (show ¬ (false = true) by decide)] at H
       exact absurd H (by simp)
     subst c122
     rw [if_pos rfl] at H
     replace H := Option.bind_eq_some_iff.mp H
     obtain ⟨t175, A1230, H⟩ := H
     try dsimp -simprocs only at H
     have E_ := Option.some.inj (A117.out.symm.trans A1230)
     subst E_
     have A123 := Aside0.mk A1230
     clear A1230
     replace H := Option.bind_eq_some_iff.mp H
     obtain ⟨t176, A1240, H⟩ := H
     try dsimp -simprocs only at H
     have A124 := Aside0.mk A1240
     clear A1240
     have H' := Aside0.mk H
     clear H
     try go_wp2
     have n0_ : Aside0 ((((w109.setCell ⟨gb168, 0, none⟩ (.int .i64 t165)).setCell ⟨gb168, 1, none⟩ (.int .i64 t166)).setCell ⟨gb168, 2, none⟩ (.bool t167)).heap[gb110]? = some (.cells #[.int .i64 t102, .int .i64 t103, .bool t104] 56 (0, 0))) := ⟨by (with_reducible repeat (first | refine blk_drewN ?_ _ | refine blk_drew ?_ | refine blk_alloc ?_ _)); refine blk_far ?_ NB110_168.out _; (with_reducible repeat (first | refine blk_drewN ?_ _ | refine blk_drew ?_ | refine blk_alloc ?_ _)); refine blk_far ?_ NB110_168.out _; (with_reducible repeat (first | refine blk_drewN ?_ _ | refine blk_drew ?_ | refine blk_alloc ?_ _)); refine blk_far ?_ NB110_168.out _; (with_reducible repeat (first | refine blk_drewN ?_ _ | refine blk_drew ?_ | refine blk_alloc ?_ _)); exact BK110.out⟩
     have n1_ : Aside0 ((((w109.setCell ⟨gb168, 0, none⟩ (.int .i64 t165)).setCell ⟨gb168, 1, none⟩ (.int .i64 t166)).setCell ⟨gb168, 2, none⟩ (.bool t167)).heap[gb111]? = some (.cells #[.int .i64 t106, .int .i64 t107, .bool t108] 56 (0, 0))) := ⟨by (with_reducible repeat (first | refine blk_drewN ?_ _ | refine blk_drew ?_ | refine blk_alloc ?_ _)); refine blk_far ?_ NB111_168.out _; (with_reducible repeat (first | refine blk_drewN ?_ _ | refine blk_drew ?_ | refine blk_alloc ?_ _)); refine blk_far ?_ NB111_168.out _; (with_reducible repeat (first | refine blk_drewN ?_ _ | refine blk_drew ?_ | refine blk_alloc ?_ _)); refine blk_far ?_ NB111_168.out _; (with_reducible repeat (first | refine blk_drewN ?_ _ | refine blk_drew ?_ | refine blk_alloc ?_ _)); exact BK111.out⟩
     have n2_ : Aside0 ((((w109.setCell ⟨gb168, 0, none⟩ (.int .i64 t165)).setCell ⟨gb168, 1, none⟩ (.int .i64 t166)).setCell ⟨gb168, 2, none⟩ (.bool t167)).heap[gb164]? = some (.cells #[.int .i64 t161, .int .i64 t162, .bool t163] 56 (0, 0))) := ⟨by (with_reducible repeat (first | refine blk_drewN ?_ _ | refine blk_drew ?_ | refine blk_alloc ?_ _)); refine blk_far ?_ NB164_168.out _; (with_reducible repeat (first | refine blk_drewN ?_ _ | refine blk_drew ?_ | refine blk_alloc ?_ _)); refine blk_far ?_ NB164_168.out _; (with_reducible repeat (first | refine blk_drewN ?_ _ | refine blk_drew ?_ | refine blk_alloc ?_ _)); refine blk_far ?_ NB164_168.out _; (with_reducible repeat (first | refine blk_drewN ?_ _ | refine blk_drew ?_ | refine blk_alloc ?_ _)); exact BK164.out⟩
     have n3_ : Aside0 ((((w109.setCell ⟨gb168, 0, none⟩ (.int .i64 t165)).setCell ⟨gb168, 1, none⟩ (.int .i64 t166)).setCell ⟨gb168, 2, none⟩ (.bool t167)).heap[gb168]? = some (.cells #[.int .i64 t165, .int .i64 t166, .bool t167] 56 (0, 0))) := ⟨by (with_reducible repeat (first | refine blk_drewN ?_ _ | refine blk_drew ?_ | refine blk_alloc ?_ _)); refine blk_put (cs := #[.int .i64 t165, .int .i64 t166, .bool false]) ?_ 2 _ rfl; (with_reducible repeat (first | refine blk_drewN ?_ _ | refine blk_drew ?_ | refine blk_alloc ?_ _)); refine blk_put (cs := #[.int .i64 t165, .int .i64 0, .bool false]) ?_ 1 _ rfl; (with_reducible repeat (first | refine blk_drewN ?_ _ | refine blk_drew ?_ | refine blk_alloc ?_ _)); refine blk_put (cs := #[.int .i64 0, .int .i64 0, .bool false]) ?_ 0 _ rfl; (with_reducible repeat (first | refine blk_drewN ?_ _ | refine blk_drew ?_ | refine blk_alloc ?_ _)); exact BK168.out⟩
     have n4_ : Aside0 (Below w.heap.size w (((w109.setCell ⟨gb168, 0, none⟩ (.int .i64 t165)).setCell ⟨gb168, 1, none⟩ (.int .i64 t166)).setCell ⟨gb168, 2, none⟩ (.bool t167))) := ⟨by repeat (first | (with_reducible first | exact HB.out | apply below_alloc | apply pw_below_drewN | apply below_drew1 | refine below_set ?_ GE110.out | refine below_set ?_ GE111.out | refine below_set ?_ GE164.out | refine below_set ?_ GE168.out) | exact HB.out)⟩
     (try clear BK110)
     (try clear BK111)
     (try clear BK164)
     (try clear BK168)
     (try clear HB)
     generalize (((w109.setCell ⟨gb168, 0, none⟩ (.int .i64 t165)).setCell ⟨gb168, 1, none⟩ (.int .i64 t166)).setCell ⟨gb168, 2, none⟩ (.bool t167)) = w125 at n0_ n1_ n2_ n3_ n4_ ⊢
     have BK110 := n0_
     have BK111 := n1_
     have BK164 := n2_
     have BK168 := n3_
     have HB := n4_
     clear n0_ n1_ n2_ n3_ n4_
     replace BK110 := Aside0.mk (blk_drew BK110.out)
     replace BK111 := Aside0.mk (blk_drew BK111.out)
     replace BK164 := Aside0.mk (blk_drew BK164.out)
     replace BK168 := Aside0.mk (blk_drew BK168.out)
     replace HB := Aside0.mk (below_drew1 HB.out)
     refine start_ (n := 42) (S := fun w' => w'.cell? ⟨gb164, 0, none⟩ = some (.int .i64 t161) ∧ w'.cell? ⟨gb164, 1, none⟩ = some (.int .i64 t162) ∧ w'.cell? ⟨gb164, 2, none⟩ = some (.bool t163) ∧ w'.cell? ⟨gb168, 0, none⟩ = some (.int .i64 t165) ∧ w'.cell? ⟨gb168, 1, none⟩ = some (.int .i64 t166) ∧ w'.cell? ⟨gb168, 2, none⟩ = some (.bool t167)) (ds := []) (bm_ [0, 42]) (by kernel_rfl) rfl rfl ⟨bc_ BK164 0 rfl, bc_ BK164 1 rfl, bc_ BK164 2 rfl, bc_ BK168 0 rfl, bc_ BK168 1 rfl, bc_ BK168 2 rfl⟩ (fun hHeld => ?_); refine with_tabW spykeep1_BoundIncludes.tab10 spykeep1_BoundIncludes.bits10 (fun HT_ HW_ => ?_)
     generalize w125.drew = w126 at BK110 BK111 BK164 BK168 HB hHeld ⊢
     refine pq_ 0 142 (bm_ [1, 41]) HT_ ?_
     refine pq_ 2 144 (bm_ [1, 1, 1, 39]) HT_ ?_
     refine pq_ 3 145 (bm_ [1, 1, 2, 38]) HT_ ?_
     refine pq_ 4 146 (bm_ [1, 1, 3, 37]) HT_ ?_
     refine pq_ 5 147 (bm_ [1, 1, 4, 36]) HT_ ?_
     refine tq_ 1 143 (bm_ [6, 36]) HT_ HW_ hHeld ?_
     refine oq_ 6 (some 148) (bm_ [7, 35]) HT_ (fun K hK => ?_)
     refine gq_ Try.func47 #[.int .i64 (wrap64 (t112 * t116)), .int .i64 (wrap64 (1 + t120))] ?_
     with_reducible refine (num_FloorDiv.calls (wrap64 (t112 * t116)) (wrap64 (1 + t120)) t169 _ A114.out).mono ?_
     rintro e w' ⟨rfl, ⟨nd, rfl⟩⟩
     refine ⟨_, rfl, ?_⟩
     refine hK.out _ _ ⟨bc_ BK164 0 rfl, bc_ BK164 1 rfl, bc_ BK164 2 rfl, bc_ BK168 0 rfl, bc_ BK168 1 rfl, bc_ BK168 2 rfl⟩ (fun hHeld => ?_)
     clear hK K
     refine nq_ 148 ?_
     refine oq_ 7 (some 149) (bm_ [8, 34]) HT_ (fun K hK => ?_)
     refine goesv_ Try.func45 (by kernel_rfl) rfl #[.agg #[.int .i64 t161, .int .i64 t162, .bool t163], .int .i64 t169] (by rfl) rfl rfl (by first | rfl | (simp [Act.eval, Act.put] <;> rfl)) (by (try simp only [List.map_toArray, List.map_cons, List.map_nil]); first | done | rfl | (simp only [List.length_drop, List.length_take]; rfl)) ?_
     with_reducible refine (spykeep1_BoundIncludes_1.calls kj7 t161 t162 t163 t169 true _ A115.out).mono ?_
     rintro e w127 ⟨rfl, hb⟩
     refine ⟨_, rfl, ?_⟩
     replace BK110 := bkb_ BK110 hb rfl
     replace BK111 := bkb_ BK111 hb rfl
     replace BK164 := bkb_ BK164 hb rfl
     replace BK168 := bkb_ BK168 hb rfl
     replace HB := hbs_ HB hb rfl rfl rfl rfl
     (try clear hb)
     refine hK.out _ _ ⟨bc_ BK164 0 rfl, bc_ BK164 1 rfl, bc_ BK164 2 rfl, bc_ BK168 0 rfl, bc_ BK168 1 rfl, bc_ BK168 2 rfl⟩ (fun hHeld => ?_)
     clear hK K
     refine nq_ 149 ?_
     refine pq_ 8 150 (bm_ [9, 33]) HT_ ?_
     refine pq_ 9 151 (bm_ [10, 32]) HT_ ?_
     refine pq_ 10 152 (bm_ [11, 31]) HT_ ?_
     refine pq_ 12 154 (bm_ [11, 1, 1, 29]) HT_ ?_
     refine pq_ 13 155 (bm_ [11, 1, 2, 28]) HT_ ?_
     refine pq_ 14 156 (bm_ [11, 1, 3, 27]) HT_ ?_
     refine pq_ 15 157 (bm_ [11, 1, 4, 26]) HT_ ?_
     refine tq_ 11 153 (bm_ [16, 26]) HT_ HW_ hHeld ?_
     refine oq_ 16 (some 158) (bm_ [17, 25]) HT_ (fun K hK => ?_)
     refine gq_ Try.func48 #[.int .i64 (wrap64 (t112 * t116)), .int .i64 (wrap64 (1 + t120))] ?_
     with_reducible refine (num_CeilDiv.calls (wrap64 (t112 * t116)) (wrap64 (1 + t120)) t171 _ A117.out).mono ?_
     rintro e w' ⟨rfl, ⟨nd, rfl⟩⟩
     refine ⟨_, rfl, ?_⟩
     refine hK.out _ _ ⟨bc_ BK164 0 rfl, bc_ BK164 1 rfl, bc_ BK164 2 rfl, bc_ BK168 0 rfl, bc_ BK168 1 rfl, bc_ BK168 2 rfl⟩ (fun hHeld => ?_)
     clear hK K
     refine nq_ 158 ?_
     refine oq_ 17 (some 159) (bm_ [18, 24]) HT_ (fun K hK => ?_)
     refine goesv_ Try.func45 (by kernel_rfl) rfl #[.agg #[.int .i64 t161, .int .i64 t162, .bool t163], .int .i64 t171] (by rfl) rfl rfl (by first | rfl | (simp [Act.eval, Act.put] <;> rfl)) (by (try simp only [List.map_toArray, List.map_cons, List.map_nil]); first | done | rfl | (simp only [List.length_drop, List.length_take]; rfl)) ?_
     with_reducible refine (spykeep1_BoundIncludes_1.calls kj7 t161 t162 t163 t171 true _ A118.out).mono ?_
     rintro e w128 ⟨rfl, hb⟩
     refine ⟨_, rfl, ?_⟩
     replace BK110 := bkb_ BK110 hb rfl
     replace BK111 := bkb_ BK111 hb rfl
     replace BK164 := bkb_ BK164 hb rfl
     replace BK168 := bkb_ BK168 hb rfl
     replace HB := hbs_ HB hb rfl rfl rfl rfl
     (try clear hb)
     refine hK.out _ _ ⟨bc_ BK164 0 rfl, bc_ BK164 1 rfl, bc_ BK164 2 rfl, bc_ BK168 0 rfl, bc_ BK168 1 rfl, bc_ BK168 2 rfl⟩ (fun hHeld => ?_)
     clear hK K
     refine nq_ 159 ?_
     refine pq_ 18 160 (bm_ [19, 23]) HT_ ?_
     refine pq_ 19 161 (bm_ [20, 22]) HT_ ?_
     refine pq_ 20 162 (bm_ [21, 21]) HT_ ?_
     refine pq_ 21 163 (bm_ [22, 20]) HT_ ?_
     refine pq_ 23 165 (bm_ [22, 1, 1, 18]) HT_ ?_
     refine pq_ 24 166 (bm_ [22, 1, 2, 17]) HT_ ?_
     refine pq_ 25 167 (bm_ [22, 1, 3, 16]) HT_ ?_
     refine pq_ 26 168 (bm_ [22, 1, 4, 15]) HT_ ?_
     refine tq_ 22 164 (bm_ [27, 15]) HT_ HW_ hHeld ?_
     refine oq_ 27 (some 169) (bm_ [28, 14]) HT_ (fun K hK => ?_)
     refine gq_ Try.func47 #[.int .i64 (wrap64 (t112 * t116)), .int .i64 (wrap64 (1 + t120))] ?_
     with_reducible refine (num_FloorDiv.calls (wrap64 (t112 * t116)) (wrap64 (1 + t120)) t169 _ A120.out).mono ?_
     rintro e w' ⟨rfl, ⟨nd, rfl⟩⟩
     refine ⟨_, rfl, ?_⟩
     refine hK.out _ _ ⟨bc_ BK164 0 rfl, bc_ BK164 1 rfl, bc_ BK164 2 rfl, bc_ BK168 0 rfl, bc_ BK168 1 rfl, bc_ BK168 2 rfl⟩ (fun hHeld => ?_)
     clear hK K
     refine nq_ 169 ?_
     as_aux_lemma =>
      refine oq_ 28 (some 170) (bm_ [29, 13]) HT_ (fun K hK => ?_)
      refine goesv_ Try.func45 (by kernel_rfl) rfl #[.agg #[.int .i64 t165, .int .i64 t166, .bool t167], .int .i64 t169] (by rfl) rfl rfl (by first | rfl | (simp [Act.eval, Act.put] <;> rfl)) (by (try simp only [List.map_toArray, List.map_cons, List.map_nil]); first | done | rfl | (simp only [List.length_drop, List.length_take]; rfl)) ?_
      with_reducible refine (spykeep1_BoundIncludes_1.calls kj7 t165 t166 t167 t169 true _ A121.out).mono ?_
      rintro e w129 ⟨rfl, hb⟩
      refine ⟨_, rfl, ?_⟩
      replace BK110 := bkb_ BK110 hb rfl
      replace BK111 := bkb_ BK111 hb rfl
      replace BK164 := bkb_ BK164 hb rfl
      replace BK168 := bkb_ BK168 hb rfl
      replace HB := hbs_ HB hb rfl rfl rfl rfl
      (try clear hb)
      refine hK.out _ _ ⟨bc_ BK164 0 rfl, bc_ BK164 1 rfl, bc_ BK164 2 rfl, bc_ BK168 0 rfl, bc_ BK168 1 rfl, bc_ BK168 2 rfl⟩ (fun hHeld => ?_)
      clear hK K
      refine nq_ 170 ?_
      refine pq_ 29 171 (bm_ [30, 12]) HT_ ?_
      refine pq_ 30 172 (bm_ [31, 11]) HT_ ?_
      refine pq_ 31 173 (bm_ [32, 10]) HT_ ?_
      refine pq_ 32 174 (bm_ [33, 9]) HT_ ?_
      refine pq_ 34 176 (bm_ [33, 1, 1, 7]) HT_ ?_
      refine pq_ 35 177 (bm_ [33, 1, 2, 6]) HT_ ?_
      refine pq_ 36 178 (bm_ [33, 1, 3, 5]) HT_ ?_
      refine pq_ 37 179 (bm_ [33, 1, 4, 4]) HT_ ?_
      refine tq_ 33 175 (bm_ [38, 4]) HT_ HW_ hHeld ?_
      refine oq_ 38 (some 180) (bm_ [39, 3]) HT_ (fun K hK => ?_)
      refine gq_ Try.func48 #[.int .i64 (wrap64 (t112 * t116)), .int .i64 (wrap64 (1 + t120))] ?_
      with_reducible refine (num_CeilDiv.calls (wrap64 (t112 * t116)) (wrap64 (1 + t120)) t171 _ A123.out).mono ?_
      rintro e w' ⟨rfl, ⟨nd, rfl⟩⟩
      refine ⟨_, rfl, ?_⟩
      refine hK.out _ _ ⟨bc_ BK164 0 rfl, bc_ BK164 1 rfl, bc_ BK164 2 rfl, bc_ BK168 0 rfl, bc_ BK168 1 rfl, bc_ BK168 2 rfl⟩ (fun hHeld => ?_)
      clear hK K
      refine nq_ 180 ?_
      refine oq_ 39 (some 181) (bm_ [40, 2]) HT_ (fun K hK => ?_)
      refine goesv_ Try.func45 (by kernel_rfl) rfl #[.agg #[.int .i64 t165, .int .i64 t166, .bool t167], .int .i64 t171] (by rfl) rfl rfl (by first | rfl | (simp [Act.eval, Act.put] <;> rfl)) (by (try simp only [List.map_toArray, List.map_cons, List.map_nil]); first | done | rfl | (simp only [List.length_drop, List.length_take]; rfl)) ?_
      with_reducible refine (spykeep1_BoundIncludes_1.calls kj7 t165 t166 t167 t171 t176 _ A124.out).mono ?_
      rintro e w130 ⟨rfl, hb⟩
      refine ⟨_, rfl, ?_⟩
      replace BK110 := bkb_ BK110 hb rfl
      replace BK111 := bkb_ BK111 hb rfl
      replace BK164 := bkb_ BK164 hb rfl
      replace BK168 := bkb_ BK168 hb rfl
      replace HB := hbs_ HB hb rfl rfl rfl rfl
      (try clear hb)
      refine hK.out _ _ ⟨bc_ BK164 0 rfl, bc_ BK164 1 rfl, bc_ BK164 2 rfl, bc_ BK168 0 rfl, bc_ BK168 1 rfl, bc_ BK168 2 rfl⟩ (fun hHeld => ?_)
      clear hK K
      refine nq_ 181 ?_
      refine pq_ 40 182 (bm_ [41, 1]) HT_ ?_
      refine pq_ 41 183 (bm_ [42]) HT_ ?_
      refine done_ (done_of HT_.out (by kernel_rfl)) ?_
      try go_wp2
      go_meet
      case rel => exact ⟨_, (!t176), (by first | rfl | (simp; done) | (simp [*]; done)), H', ⟨by have := HJ7.out; first | omega | exact Nat.le_refl _⟩, ⟨by (with_reducible repeat (first | refine blk_drewN ?_ _ | refine blk_drew ?_ | refine blk_alloc ?_ _)); exact BK110.out⟩, ⟨by (with_reducible repeat (first | refine blk_drewN ?_ _ | refine blk_drew ?_ | refine blk_alloc ?_ _)); exact BK111.out⟩, ⟨by (with_reducible repeat (first | refine blk_drewN ?_ _ | refine blk_drew ?_ | refine blk_alloc ?_ _)); exact BK164.out⟩, ⟨by (with_reducible repeat (first | refine blk_drewN ?_ _ | refine blk_drew ?_ | refine blk_alloc ?_ _)); exact BK168.out⟩, ⟨by repeat (first | (with_reducible first | exact HB.out | apply below_alloc | apply pw_below_drewN | apply below_drew1 | refine below_set ?_ GE110.out | refine below_set ?_ GE111.out | refine below_set ?_ GE164.out | refine below_set ?_ GE168.out) | exact HB.out)⟩⟩
    case rest => as_aux_lemma =>
     clear HC98
     obtain ⟨kq, x183_97, rfl, HA, HJ97, BK110, BK111, BK164, BK168, HB⟩ := hcut
     cases kq with
     | zero => exact absurd HA.out (by simp [spykeep1_BoundIncludes.j1])
     | succ kj97 =>
      have H := HA.out
      clear HA
      simp only [spykeep1_BoundIncludes.j1] at H
      by_cases c131 : x183_97 = true
      · subst c131
        rw [if_pos rfl] at H
        exact absurd H (by simp)
      replace c131 := Bool.eq_false_iff.mpr c131
      subst c131
      rw [if_neg (show ¬ (false = true) by decide)] at H
      replace H := Option.bind_eq_some_iff.mp H
      obtain ⟨⟨t177, t178, t179⟩, A1320, H⟩ := H
      try dsimp -simprocs only at H
      have A132 := Aside0.mk A1320
      clear A1320
      have HC133 := Aside0.mk H
      clear H
      have hnb134 := NB110_111.out
      have hnc134 := NB111_110.out
      have hnb135 := NB110_164.out
      have hnc135 := NB164_110.out
      have hnb136 := NB110_168.out
      have hnc136 := NB168_110.out
      have hcz137_0 := bc_ BK110 0 rfl
      have hcz137_1 := bc_ BK110 1 rfl
      have hcz137_2 := bc_ BK110 2 rfl
      have hfz137_0 := blk_frozen BK110.out 0
      have hfz137_1 := blk_frozen BK110.out 1
      have hfz137_2 := blk_frozen BK110.out 2
      have hnb138 := NB111_164.out
      have hnc138 := NB164_111.out
      have hnb139 := NB111_168.out
      have hnc139 := NB168_111.out
      have hcz140_0 := bc_ BK111 0 rfl
      have hcz140_1 := bc_ BK111 1 rfl
      have hcz140_2 := bc_ BK111 2 rfl
      have hfz140_0 := blk_frozen BK111.out 0
      have hfz140_1 := blk_frozen BK111.out 1
      have hfz140_2 := blk_frozen BK111.out 2
      go_upto_if 189 with (first | ((with_reducible refine gate_callee (f := 42) rfl ?_); refine glq_ (some 187) Try.func42 #[.agg #[.int .i64 t102, .int .i64 t103, .bool t104], .agg #[.int .i64 t106, .int .i64 t107, .bool t108], .int .i64 (wrap64 (1 + t120))] ?_; (with_reducible refine (bound_Div_api_Fix.calls kj97 t102 t103 t104 t106 t107 t108 (wrap64 (1 + t120)) t177 t178 t179 _ A132.out).mono ?_); rintro e w141 ⟨rfl, hb⟩; refine ⟨_, rfl, ?_⟩; replace BK110 := bkb_ BK110 hb rfl; replace BK111 := bkb_ BK111 hb rfl; replace BK164 := bkb_ BK164 hb rfl; replace BK168 := bkb_ BK168 hb rfl; replace HB := hbs_ HB hb rfl rfl rfl rfl; (try clear hb)) | ((with_reducible refine gate_dst (N := 14) rfl ?_); (try (refine gate_guard (by rfl) ?_; dsimp only)); refine bxq_ 14 #[.int .i64 0, .int .i64 0, .bool false] 56 ?_; intro gb180 hg w142 hbox hb; have BK180 := Aside0.mk (hbox); have GW180 := gwq_ HB hg rfl; have GE180 := GW180; have NB110_180 := nbl_ BK110 hg rfl; have NB180_110 := nbg_ BK110 hg rfl; have NB111_180 := nbl_ BK111 hg rfl; have NB180_111 := nbg_ BK111 hg rfl; have NB164_180 := nbl_ BK164 hg rfl; have NB180_164 := nbg_ BK164 hg rfl; have NB168_180 := nbl_ BK168 hg rfl; have NB180_168 := nbg_ BK168 hg rfl; replace BK110 := bkb_ BK110 hb rfl; replace BK111 := bkb_ BK111 hb rfl; replace BK164 := bkb_ BK164 hb rfl; replace BK168 := bkb_ BK168 hb rfl; replace HB := hbs_ HB hb rfl rfl rfl rfl; clear hb hbox hg; have hnb143 := NB180_110.out; have hnc143 := NB110_180.out; have hnb144 := NB180_111.out; have hnc144 := NB111_180.out; have hnb145 := NB180_164.out; have hnc145 := NB164_180.out; have hnb146 := NB180_168.out; have hnc146 := NB168_180.out; have hcz147_0 := bc_ BK180 0 rfl; have hcz147_1 := bc_ BK180 1 rfl; have hcz147_2 := bc_ BK180 2 rfl; have hfz147_0 := blk_frozen BK180.out 0; have hfz147_1 := blk_frozen BK180.out 1; have hfz147_2 := blk_frozen BK180.out 2))
      (try simp only [Act.put, List.setIfInBounds_toArray, List.set_cons_zero, List.set_cons_succ])
      go_cut [8, 9] (fun v8 v9 wc => ∃ (kq : Nat) (x8_132 : Int) (x9_132 : Int), v8 = .int .i64 x8_132 ∧ v9 = .int .i64 x9_132 ∧ Aside0 (spykeep1_BoundIncludes.j2 kq x8_132 x9_132 (wrap64 (1 + t120)) t102 t103 t104 t177 t178 t179 = some r) ∧ Aside0 (kq ≤ kj97) ∧ Aside0 (wc.heap[gb110]? = some (.cells #[.int .i64 t102, .int .i64 t103, .bool t104] 56 (0, 0))) ∧ Aside0 (wc.heap[gb111]? = some (.cells #[.int .i64 t106, .int .i64 t107, .bool t108] 56 (0, 0))) ∧ Aside0 (wc.heap[gb164]? = some (.cells #[.int .i64 t161, .int .i64 t162, .bool t163] 56 (0, 0))) ∧ Aside0 (wc.heap[gb168]? = some (.cells #[.int .i64 t165, .int .i64 t166, .bool t167] 56 (0, 0))) ∧ Aside0 (wc.heap[gb180]? = some (.cells #[.int .i64 t177, .int .i64 t178, .bool t179] 56 (0, 0))) ∧ Aside0 (Below w.heap.size w wc))
      case first => as_aux_lemma =>
       have H := HC133.out
       clear HC133
       by_cases c148 : t116 < 0
       · rw [if_pos c148] at H
         have c148b0 : decide (t116 < 0) = true := decide_eq_true c148
         clear c148
         (first | rw [c148b0] | (simp only [i64_w, i32_w]; rw [c148b0]) | skip)
         have H' := Aside0.mk H
         clear H
         go_wp2
         go_meet
         case rel => exact ⟨_, (wrap64 (-t112)), (wrap64 (-t116)), (by first | rfl | (simp; done) | (simp [*]; done)), (by first | rfl | (simp; done) | (simp [*]; done)), H', ⟨by have := HJ7.out; have := HJ97.out; first | omega | exact Nat.le_refl _⟩, ⟨by (with_reducible repeat (first | refine blk_drewN ?_ _ | refine blk_drew ?_ | refine blk_alloc ?_ _)); refine blk_far ?_ NB110_180.out _; (with_reducible repeat (first | refine blk_drewN ?_ _ | refine blk_drew ?_ | refine blk_alloc ?_ _)); refine blk_far ?_ NB110_180.out _; (with_reducible repeat (first | refine blk_drewN ?_ _ | refine blk_drew ?_ | refine blk_alloc ?_ _)); refine blk_far ?_ NB110_180.out _; (with_reducible repeat (first | refine blk_drewN ?_ _ | refine blk_drew ?_ | refine blk_alloc ?_ _)); exact BK110.out⟩, ⟨by (with_reducible repeat (first | refine blk_drewN ?_ _ | refine blk_drew ?_ | refine blk_alloc ?_ _)); refine blk_far ?_ NB111_180.out _; (with_reducible repeat (first | refine blk_drewN ?_ _ | refine blk_drew ?_ | refine blk_alloc ?_ _)); refine blk_far ?_ NB111_180.out _; (with_reducible repeat (first | refine blk_drewN ?_ _ | refine blk_drew ?_ | refine blk_alloc ?_ _)); refine blk_far ?_ NB111_180.out _; (with_reducible repeat (first | refine blk_drewN ?_ _ | refine blk_drew ?_ | refine blk_alloc ?_ _)); exact BK111.out⟩, ⟨by (with_reducible repeat (first | refine blk_drewN ?_ _ | refine blk_drew ?_ | refine blk_alloc ?_ _)); refine blk_far ?_ NB164_180.out _; (with_reducible repeat (first | refine blk_drewN ?_ _ | refine blk_drew ?_ | refine blk_alloc ?_ _)); refine blk_far ?_ NB164_180.out _; (with_reducible repeat (first | refine blk_drewN ?_ _ | refine blk_drew ?_ | refine blk_alloc ?_ _)); refine blk_far ?_ NB164_180.out _; (with_reducible repeat (first | refine blk_drewN ?_ _ | refine blk_drew ?_ | refine blk_alloc ?_ _)); exact BK164.out⟩, ⟨by (with_reducible repeat (first | refine blk_drewN ?_ _ | refine blk_drew ?_ | refine blk_alloc ?_ _)); refine blk_far ?_ NB168_180.out _; (with_reducible repeat (first | refine blk_drewN ?_ _ | refine blk_drew ?_ | refine blk_alloc ?_ _)); refine blk_far ?_ NB168_180.out _; (with_reducible repeat (first | refine blk_drewN ?_ _ | refine blk_drew ?_ | refine blk_alloc ?_ _)); refine blk_far ?_ NB168_180.out _; (with_reducible repeat (first | refine blk_drewN ?_ _ | refine blk_drew ?_ | refine blk_alloc ?_ _)); exact BK168.out⟩, ⟨by (with_reducible repeat (first | refine blk_drewN ?_ _ | refine blk_drew ?_ | refine blk_alloc ?_ _)); refine blk_put (cs := #[.int .i64 t177, .int .i64 t178, .bool false]) ?_ 2 _ rfl; (with_reducible repeat (first | refine blk_drewN ?_ _ | refine blk_drew ?_ | refine blk_alloc ?_ _)); refine blk_put (cs := #[.int .i64 t177, .int .i64 0, .bool false]) ?_ 1 _ rfl; (with_reducible repeat (first | refine blk_drewN ?_ _ | refine blk_drew ?_ | refine blk_alloc ?_ _)); refine blk_put (cs := #[.int .i64 0, .int .i64 0, .bool false]) ?_ 0 _ rfl; (with_reducible repeat (first | refine blk_drewN ?_ _ | refine blk_drew ?_ | refine blk_alloc ?_ _)); exact BK180.out⟩, ⟨by repeat (first | (with_reducible first | exact HB.out | apply below_alloc | apply pw_below_drewN | apply below_drew1 | refine below_set ?_ GE110.out | refine below_set ?_ GE111.out | refine below_set ?_ GE164.out | refine below_set ?_ GE168.out | refine below_set ?_ GE180.out) | exact HB.out)⟩⟩
       rw [if_neg c148] at H
       have c148b0 : decide (t116 < 0) = false := decide_eq_false c148
       clear c148
       (first | rw [c148b0] | (simp only [i64_w, i32_w]; rw [c148b0]) | skip)
       have H' := Aside0.mk H
       clear H
       go_wp2
       go_meet
       case rel => exact ⟨_, (t112), (t116), (by first | rfl | (simp; done) | (simp [*]; done)), (by first | rfl | (simp; done) | (simp [*]; done)), H', ⟨by have := HJ7.out; have := HJ97.out; first | omega | exact Nat.le_refl _⟩, ⟨by (with_reducible repeat (first | refine blk_drewN ?_ _ | refine blk_drew ?_ | refine blk_alloc ?_ _)); refine blk_far ?_ NB110_180.out _; (with_reducible repeat (first | refine blk_drewN ?_ _ | refine blk_drew ?_ | refine blk_alloc ?_ _)); refine blk_far ?_ NB110_180.out _; (with_reducible repeat (first | refine blk_drewN ?_ _ | refine blk_drew ?_ | refine blk_alloc ?_ _)); refine blk_far ?_ NB110_180.out _; (with_reducible repeat (first | refine blk_drewN ?_ _ | refine blk_drew ?_ | refine blk_alloc ?_ _)); exact BK110.out⟩, ⟨by (with_reducible repeat (first | refine blk_drewN ?_ _ | refine blk_drew ?_ | refine blk_alloc ?_ _)); refine blk_far ?_ NB111_180.out _; (with_reducible repeat (first | refine blk_drewN ?_ _ | refine blk_drew ?_ | refine blk_alloc ?_ _)); refine blk_far ?_ NB111_180.out _; (with_reducible repeat (first | refine blk_drewN ?_ _ | refine blk_drew ?_ | refine blk_alloc ?_ _)); refine blk_far ?_ NB111_180.out _; (with_reducible repeat (first | refine blk_drewN ?_ _ | refine blk_drew ?_ | refine blk_alloc ?_ _)); exact BK111.out⟩, ⟨by (with_reducible repeat (first | refine blk_drewN ?_ _ | refine blk_drew ?_ | refine blk_alloc ?_ _)); refine blk_far ?_ NB164_180.out _; (with_reducible repeat (first | refine blk_drewN ?_ _ | refine blk_drew ?_ | refine blk_alloc ?_ _)); refine blk_far ?_ NB164_180.out _; (with_reducible repeat (first | refine blk_drewN ?_ _ | refine blk_drew ?_ | refine blk_alloc ?_ _)); refine blk_far ?_ NB164_180.out _; (with_reducible repeat (first | refine blk_drewN ?_ _ | refine blk_drew ?_ | refine blk_alloc ?_ _)); exact BK164.out⟩, ⟨by (with_reducible repeat (first | refine blk_drewN ?_ _ | refine blk_drew ?_ | refine blk_alloc ?_ _)); refine blk_far ?_ NB168_180.out _; (with_reducible repeat (first | refine blk_drewN ?_ _ | refine blk_drew ?_ | refine blk_alloc ?_ _)); refine blk_far ?_ NB168_180.out _; (with_reducible repeat (first | refine blk_drewN ?_ _ | refine blk_drew ?_ | refine blk_alloc ?_ _)); refine blk_far ?_ NB168_180.out _; (with_reducible repeat (first | refine blk_drewN ?_ _ | refine blk_drew ?_ | refine blk_alloc ?_ _)); exact BK168.out⟩, ⟨by (with_reducible repeat (first | refine blk_drewN ?_ _ | refine blk_drew ?_ | refine blk_alloc ?_ _)); refine blk_put (cs := #[.int .i64 t177, .int .i64 t178, .bool false]) ?_ 2 _ rfl; (with_reducible repeat (first | refine blk_drewN ?_ _ | refine blk_drew ?_ | refine blk_alloc ?_ _)); refine blk_put (cs := #[.int .i64 t177, .int .i64 0, .bool false]) ?_ 1 _ rfl; (with_reducible repeat (first | refine blk_drewN ?_ _ | refine blk_drew ?_ | refine blk_alloc ?_ _)); refine blk_put (cs := #[.int .i64 0, .int .i64 0, .bool false]) ?_ 0 _ rfl; (with_reducible repeat (first | refine blk_drewN ?_ _ | refine blk_drew ?_ | refine blk_alloc ?_ _)); exact BK180.out⟩, ⟨by repeat (first | (with_reducible first | exact HB.out | apply below_alloc | apply pw_below_drewN | apply below_drew1 | refine below_set ?_ GE110.out | refine below_set ?_ GE111.out | refine below_set ?_ GE164.out | refine below_set ?_ GE168.out | refine below_set ?_ GE180.out) | exact HB.out)⟩⟩
      case rest => as_aux_lemma =>
       clear HC133
       obtain ⟨kq, x8_132, x9_132, rfl, rfl, HA, HJ132, BK110, BK111, BK164, BK168, BK180, HB⟩ := hcut
       cases kq with
       | zero => exact absurd HA.out (by simp [spykeep1_BoundIncludes.j2])
       | succ kj132 =>
        have H := HA.out
        clear HA
        simp only [spykeep1_BoundIncludes.j2] at H
        have HC149 := Aside0.mk H
        clear H
        go_upto_region 15 with (fail)
        go_cut [217] (fun v217 wc => ∃ (kq : Nat) (x217_148 : Bool), v217 = .bool x217_148 ∧ Aside0 (spykeep1_BoundIncludes.j3 kq x8_132 (wrap64 (1 + t120)) x217_148 t102 t103 t104 = some r) ∧ Aside0 (kq ≤ kj132) ∧ Aside0 (wc.heap[gb110]? = some (.cells #[.int .i64 t102, .int .i64 t103, .bool t104] 56 (0, 0))) ∧ Aside0 (wc.heap[gb111]? = some (.cells #[.int .i64 t106, .int .i64 t107, .bool t108] 56 (0, 0))) ∧ Aside0 (wc.heap[gb164]? = some (.cells #[.int .i64 t161, .int .i64 t162, .bool t163] 56 (0, 0))) ∧ Aside0 (wc.heap[gb168]? = some (.cells #[.int .i64 t165, .int .i64 t166, .bool t167] 56 (0, 0))) ∧ Aside0 (wc.heap[gb180]? = some (.cells #[.int .i64 t177, .int .i64 t178, .bool t179] 56 (0, 0))) ∧ Aside0 (Below w.heap.size w wc))
        case first => as_aux_lemma =>
         have H := HC149.out
         clear HC149
         by_cases c150 : x9_132 > 0
         · rw [if_pos c150] at H
           have c150b0 : decide (0 < x9_132) = true := decide_eq_true c150
           clear c150
           (first | rw [c150b0] | (simp only [i64_w, i32_w]; rw [c150b0]) | skip)
           replace H := Option.bind_eq_some_iff.mp H
           obtain ⟨t181, A1510, H⟩ := H
           try dsimp -simprocs only at H
           have A151 := Aside0.mk A1510
           clear A1510
           replace H := Option.bind_eq_some_iff.mp H
           obtain ⟨t182, A1520, H⟩ := H
           try dsimp -simprocs only at H
           have A152 := Aside0.mk A1520
           clear A1520
           by_cases c153 : t182 = true
           rotate_left
           · replace c153 := Bool.eq_false_iff.mpr c153
             subst c153
             rw [if_neg (show ¬ (false = true) by decide)] at H
             exact absurd H (by simp)
           subst c153
           rw [if_pos rfl] at H
           replace H := Option.bind_eq_some_iff.mp H
           obtain ⟨t183, A1540, H⟩ := H
           try dsimp -simprocs only at H
           have A154 := Aside0.mk A1540
           clear A1540
           replace H := Option.bind_eq_some_iff.mp H
           obtain ⟨t184, A1550, H⟩ := H
           try dsimp -simprocs only at H
           have A155 := Aside0.mk A1550
           clear A1550
           have H' := Aside0.mk H
           clear H
           try go_wp2
           replace BK110 := Aside0.mk (blk_drew BK110.out)
           replace BK111 := Aside0.mk (blk_drew BK111.out)
           replace BK164 := Aside0.mk (blk_drew BK164.out)
           replace BK168 := Aside0.mk (blk_drew BK168.out)
           replace BK180 := Aside0.mk (blk_drew BK180.out)
           replace HB := Aside0.mk (below_drew1 HB.out)
           refine start_ (n := 24) (S := fun w' => w'.cell? ⟨gb180, 0, none⟩ = some (.int .i64 t177) ∧ w'.cell? ⟨gb180, 1, none⟩ = some (.int .i64 t178) ∧ w'.cell? ⟨gb180, 2, none⟩ = some (.bool t179)) (ds := []) (bm_ [0, 24]) (by kernel_rfl) rfl rfl ⟨bc_ BK180 0 rfl, bc_ BK180 1 rfl, bc_ BK180 2 rfl⟩ (fun hHeld => ?_); refine with_tabW spykeep1_BoundIncludes.tab15 spykeep1_BoundIncludes.bits15 (fun HT_ HW_ => ?_)
           generalize wc.drew = w156 at BK110 BK111 BK164 BK168 BK180 HB hHeld ⊢
           refine pq_ 0 194 (bm_ [1, 23]) HT_ ?_
           refine pq_ 1 195 (bm_ [2, 22]) HT_ ?_
           refine pq_ 2 196 (bm_ [3, 21]) HT_ ?_
           refine pq_ 3 197 (bm_ [4, 20]) HT_ ?_
           refine pq_ 5 199 (bm_ [4, 1, 1, 18]) HT_ ?_
           refine pq_ 6 200 (bm_ [4, 1, 2, 17]) HT_ ?_
           refine pq_ 7 201 (bm_ [4, 1, 3, 16]) HT_ ?_
           refine pq_ 8 202 (bm_ [4, 1, 4, 15]) HT_ ?_
           refine tq_ 4 198 (bm_ [9, 15]) HT_ HW_ hHeld ?_
           refine oq_ 9 (some 203) (bm_ [10, 14]) HT_ (fun K hK => ?_)
           refine gq_ Try.func47 #[.int .i64 (wrap64 (x8_132 * (wrap64 (1 + t120)))), .int .i64 x9_132] ?_
           with_reducible refine (num_FloorDiv.calls (wrap64 (x8_132 * (wrap64 (1 + t120)))) x9_132 t181 _ A151.out).mono ?_
           rintro e w' ⟨rfl, ⟨nd, rfl⟩⟩
           refine ⟨_, rfl, ?_⟩
           refine hK.out _ _ ⟨bc_ BK180 0 rfl, bc_ BK180 1 rfl, bc_ BK180 2 rfl⟩ (fun hHeld => ?_)
           clear hK K
           refine nq_ 203 ?_
           refine oq_ 10 (some 204) (bm_ [11, 13]) HT_ (fun K hK => ?_)
           refine goesv_ Try.func45 (by kernel_rfl) rfl #[.agg #[.int .i64 t177, .int .i64 t178, .bool t179], .int .i64 t181] (by rfl) rfl rfl (by first | rfl | (simp [Act.eval, Act.put] <;> rfl)) (by (try simp only [List.map_toArray, List.map_cons, List.map_nil]); first | done | rfl | (simp only [List.length_drop, List.length_take]; rfl)) ?_
           with_reducible refine (spykeep1_BoundIncludes_1.calls kj132 t177 t178 t179 t181 true _ A152.out).mono ?_
           rintro e w157 ⟨rfl, hb⟩
           refine ⟨_, rfl, ?_⟩
           replace BK110 := bkb_ BK110 hb rfl
           replace BK111 := bkb_ BK111 hb rfl
           replace BK164 := bkb_ BK164 hb rfl
           replace BK168 := bkb_ BK168 hb rfl
           replace BK180 := bkb_ BK180 hb rfl
           replace HB := hbs_ HB hb rfl rfl rfl rfl
           (try clear hb)
           refine hK.out _ _ ⟨bc_ BK180 0 rfl, bc_ BK180 1 rfl, bc_ BK180 2 rfl⟩ (fun hHeld => ?_)
           clear hK K
           refine nq_ 204 ?_
           refine pq_ 11 205 (bm_ [12, 12]) HT_ ?_
           refine pq_ 12 206 (bm_ [13, 11]) HT_ ?_
           refine pq_ 13 207 (bm_ [14, 10]) HT_ ?_
           refine pq_ 15 209 (bm_ [14, 1, 1, 8]) HT_ ?_
           refine pq_ 16 210 (bm_ [14, 1, 2, 7]) HT_ ?_
           refine pq_ 17 211 (bm_ [14, 1, 3, 6]) HT_ ?_
           refine pq_ 18 212 (bm_ [14, 1, 4, 5]) HT_ ?_
           refine tq_ 14 208 (bm_ [19, 5]) HT_ HW_ hHeld ?_
           refine oq_ 19 (some 213) (bm_ [20, 4]) HT_ (fun K hK => ?_)
           refine gq_ Try.func48 #[.int .i64 (wrap64 (x8_132 * (wrap64 (1 + t120)))), .int .i64 x9_132] ?_
           with_reducible refine (num_CeilDiv.calls (wrap64 (x8_132 * (wrap64 (1 + t120)))) x9_132 t183 _ A154.out).mono ?_
           rintro e w' ⟨rfl, ⟨nd, rfl⟩⟩
           refine ⟨_, rfl, ?_⟩
           refine hK.out _ _ ⟨bc_ BK180 0 rfl, bc_ BK180 1 rfl, bc_ BK180 2 rfl⟩ (fun hHeld => ?_)
           clear hK K
           refine nq_ 213 ?_
           refine oq_ 20 (some 214) (bm_ [21, 3]) HT_ (fun K hK => ?_)
           refine goesv_ Try.func45 (by kernel_rfl) rfl #[.agg #[.int .i64 t177, .int .i64 t178, .bool t179], .int .i64 t183] (by rfl) rfl rfl (by first | rfl | (simp [Act.eval, Act.put] <;> rfl)) (by (try simp only [List.map_toArray, List.map_cons, List.map_nil]); first | done | rfl | (simp only [List.length_drop, List.length_take]; rfl)) ?_
           with_reducible refine (spykeep1_BoundIncludes_1.calls kj132 t177 t178 t179 t183 t184 _ A155.out).mono ?_
           rintro e w158 ⟨rfl, hb⟩
           refine ⟨_, rfl, ?_⟩
           replace BK110 := bkb_ BK110 hb rfl
           replace BK111 := bkb_ BK111 hb rfl
           replace BK164 := bkb_ BK164 hb rfl
           replace BK168 := bkb_ BK168 hb rfl
           replace BK180 := bkb_ BK180 hb rfl
           replace HB := hbs_ HB hb rfl rfl rfl rfl
           (try clear hb)
           refine hK.out _ _ ⟨bc_ BK180 0 rfl, bc_ BK180 1 rfl, bc_ BK180 2 rfl⟩ (fun hHeld => ?_)
           clear hK K
           refine nq_ 214 ?_
           refine pq_ 21 215 (bm_ [22, 2]) HT_ ?_
           refine pq_ 22 216 (bm_ [23, 1]) HT_ ?_
           refine pq_ 23 217 (bm_ [24]) HT_ ?_
           refine done_ (done_of HT_.out (by kernel_rfl)) ?_
           try go_wp2
           go_meet
           case rel => exact ⟨_, (!t184), (by first | rfl | (simp; done) | (simp [*]; done)), H', ⟨by have := HJ7.out; have := HJ97.out; have := HJ132.out; first | omega | exact Nat.le_refl _⟩, ⟨by (with_reducible repeat (first | refine blk_drewN ?_ _ | refine blk_drew ?_ | refine blk_alloc ?_ _)); exact BK110.out⟩, ⟨by (with_reducible repeat (first | refine blk_drewN ?_ _ | refine blk_drew ?_ | refine blk_alloc ?_ _)); exact BK111.out⟩, ⟨by (with_reducible repeat (first | refine blk_drewN ?_ _ | refine blk_drew ?_ | refine blk_alloc ?_ _)); exact BK164.out⟩, ⟨by (with_reducible repeat (first | refine blk_drewN ?_ _ | refine blk_drew ?_ | refine blk_alloc ?_ _)); exact BK168.out⟩, ⟨by (with_reducible repeat (first | refine blk_drewN ?_ _ | refine blk_drew ?_ | refine blk_alloc ?_ _)); exact BK180.out⟩, ⟨by repeat (first | (with_reducible first | exact HB.out | apply below_alloc | apply pw_below_drewN | apply below_drew1 | refine below_set ?_ GE110.out | refine below_set ?_ GE111.out | refine below_set ?_ GE164.out | refine below_set ?_ GE168.out | refine below_set ?_ GE180.out) | exact HB.out)⟩⟩
         rw [if_neg c150] at H
         have c150b0 : decide (0 < x9_132) = false := decide_eq_false c150
         clear c150
         (first | rw [c150b0] | (simp only [i64_w, i32_w]; rw [c150b0]) | skip)
         have H' := Aside0.mk H
         clear H
         try go_wp2
         replace BK110 := Aside0.mk (blk_drew BK110.out)
         replace BK111 := Aside0.mk (blk_drew BK111.out)
         replace BK164 := Aside0.mk (blk_drew BK164.out)
         replace BK168 := Aside0.mk (blk_drew BK168.out)
         replace BK180 := Aside0.mk (blk_drew BK180.out)
         replace HB := Aside0.mk (below_drew1 HB.out)
         refine start_ (n := 24) (S := fun w' => True) (ds := []) (bm_ [0, 24]) (by kernel_rfl) rfl rfl trivial (fun hHeld => ?_); refine with_tabW spykeep1_BoundIncludes.tab15 spykeep1_BoundIncludes.bits15 (fun HT_ HW_ => ?_)
         generalize wc.drew = w159 at BK110 BK111 BK164 BK168 BK180 HB hHeld ⊢
         refine pq_ 0 194 (bm_ [1, 23]) HT_ ?_
         refine pq_ 1 195 (bm_ [2, 22]) HT_ ?_
         refine pq_ 2 196 (bm_ [3, 21]) HT_ ?_
         refine pure_ (i := 3) (N := some 197) (v := undef) (a' := ?_) (bm_ [4, 20]) rfl rfl (any_of HT_.out (by kernel_rfl)) (fun _ _ _ h => h) (Or.inr ⟨by rfl, rfl⟩) ?_ ?_
         rotate_left
         · simp only [Act.put, List.setIfInBounds_toArray, List.set_cons_zero, List.set_cons_succ, i64_w, i32_w]
           rfl
         refine pure_ (i := 4) (N := some 198) (v := undef) (a' := ?_) (bm_ [5, 19]) rfl rfl (any_of HT_.out (by kernel_rfl)) (fun _ _ _ h => h) (Or.inr ⟨by rfl, rfl⟩) ?_ ?_
         rotate_left
         · simp only [Act.put, List.setIfInBounds_toArray, List.set_cons_zero, List.set_cons_succ, i64_w, i32_w]
           rfl
         refine pure_ (i := 5) (N := some 199) (v := undef) (a' := ?_) (bm_ [6, 18]) rfl rfl (any_of HT_.out (by kernel_rfl)) (fun _ _ _ h => h) (Or.inr ⟨by rfl, rfl⟩) ?_ ?_
         rotate_left
         · simp only [Act.put, List.setIfInBounds_toArray, List.set_cons_zero, List.set_cons_succ, i64_w, i32_w]
           rfl
         refine pure_ (i := 6) (N := some 200) (v := undef) (a' := ?_) (bm_ [7, 17]) rfl rfl (any_of HT_.out (by kernel_rfl)) (fun _ _ _ h => h) (Or.inr ⟨by rfl, rfl⟩) ?_ ?_
         rotate_left
         · simp only [Act.put, List.setIfInBounds_toArray, List.set_cons_zero, List.set_cons_succ, i64_w, i32_w]
           rfl
         refine pure_ (i := 7) (N := some 201) (v := undef) (a' := ?_) (bm_ [8, 16]) rfl rfl (any_of HT_.out (by kernel_rfl)) (fun _ _ _ h => h) (Or.inr ⟨by rfl, rfl⟩) ?_ ?_
         rotate_left
         · simp only [Act.put, List.setIfInBounds_toArray, List.set_cons_zero, List.set_cons_succ, i64_w, i32_w]
           rfl
         refine pure_ (i := 8) (N := some 202) (v := undef) (a' := ?_) (bm_ [9, 15]) rfl rfl (any_of HT_.out (by kernel_rfl)) (fun _ _ _ h => h) (Or.inr ⟨by rfl, rfl⟩) ?_ ?_
         rotate_left
         · simp only [Act.put, List.setIfInBounds_toArray, List.set_cons_zero, List.set_cons_succ, i64_w, i32_w]
           rfl
         refine pure_ (i := 9) (N := some 203) (v := undef) (a' := ?_) (bm_ [10, 14]) rfl rfl (any_of HT_.out (by kernel_rfl)) (fun _ _ _ h => h) (Or.inr ⟨by rfl, rfl⟩) ?_ ?_
         rotate_left
         · simp only [Act.put, List.setIfInBounds_toArray, List.set_cons_zero, List.set_cons_succ, i64_w, i32_w]
           rfl
         refine pure_ (i := 10) (N := some 204) (v := undef) (a' := ?_) (bm_ [11, 13]) rfl rfl (any_of HT_.out (by kernel_rfl)) (fun _ _ _ h => h) (Or.inr ⟨by rfl, rfl⟩) ?_ ?_
         rotate_left
         · simp only [Act.put, List.setIfInBounds_toArray, List.set_cons_zero, List.set_cons_succ, i64_w, i32_w]
           rfl
         refine pure_ (i := 11) (N := some 205) (v := undef) (a' := ?_) (bm_ [12, 12]) rfl rfl (any_of HT_.out (by kernel_rfl)) (fun _ _ _ h => h) (Or.inr ⟨by rfl, rfl⟩) ?_ ?_
         rotate_left
         · simp only [Act.put, List.setIfInBounds_toArray, List.set_cons_zero, List.set_cons_succ, i64_w, i32_w]
           rfl
         refine pure_ (i := 12) (N := some 206) (v := undef) (a' := ?_) (bm_ [13, 11]) rfl rfl (any_of HT_.out (by kernel_rfl)) (fun _ _ _ h => h) (Or.inr ⟨by rfl, rfl⟩) ?_ ?_
         rotate_left
         · simp only [Act.put, List.setIfInBounds_toArray, List.set_cons_zero, List.set_cons_succ, i64_w, i32_w]
           rfl
         refine pure_ (i := 13) (N := some 207) (v := undef) (a' := ?_) (bm_ [14, 10]) rfl rfl (any_of HT_.out (by kernel_rfl)) (fun _ _ _ h => h) (Or.inr ⟨by rfl, rfl⟩) ?_ ?_
         rotate_left
         · simp only [Act.put, List.setIfInBounds_toArray, List.set_cons_zero, List.set_cons_succ, i64_w, i32_w]
           rfl
         refine pure_ (i := 14) (N := some 208) (v := undef) (a' := ?_) (bm_ [15, 9]) rfl rfl (any_of HT_.out (by kernel_rfl)) (fun _ _ _ h => h) (Or.inr ⟨by rfl, rfl⟩) ?_ ?_
         rotate_left
         · simp only [Act.put, List.setIfInBounds_toArray, List.set_cons_zero, List.set_cons_succ, i64_w, i32_w]
           rfl
         refine pure_ (i := 15) (N := some 209) (v := undef) (a' := ?_) (bm_ [16, 8]) rfl rfl (any_of HT_.out (by kernel_rfl)) (fun _ _ _ h => h) (Or.inr ⟨by rfl, rfl⟩) ?_ ?_
         rotate_left
         · simp only [Act.put, List.setIfInBounds_toArray, List.set_cons_zero, List.set_cons_succ, i64_w, i32_w]
           rfl
         refine pure_ (i := 16) (N := some 210) (v := undef) (a' := ?_) (bm_ [17, 7]) rfl rfl (any_of HT_.out (by kernel_rfl)) (fun _ _ _ h => h) (Or.inr ⟨by rfl, rfl⟩) ?_ ?_
         rotate_left
         · simp only [Act.put, List.setIfInBounds_toArray, List.set_cons_zero, List.set_cons_succ, i64_w, i32_w]
           rfl
         refine pure_ (i := 17) (N := some 211) (v := undef) (a' := ?_) (bm_ [18, 6]) rfl rfl (any_of HT_.out (by kernel_rfl)) (fun _ _ _ h => h) (Or.inr ⟨by rfl, rfl⟩) ?_ ?_
         rotate_left
         · simp only [Act.put, List.setIfInBounds_toArray, List.set_cons_zero, List.set_cons_succ, i64_w, i32_w]
           rfl
         refine pure_ (i := 18) (N := some 212) (v := undef) (a' := ?_) (bm_ [19, 5]) rfl rfl (any_of HT_.out (by kernel_rfl)) (fun _ _ _ h => h) (Or.inr ⟨by rfl, rfl⟩) ?_ ?_
         rotate_left
         · simp only [Act.put, List.setIfInBounds_toArray, List.set_cons_zero, List.set_cons_succ, i64_w, i32_w]
           rfl
         refine pure_ (i := 19) (N := some 213) (v := undef) (a' := ?_) (bm_ [20, 4]) rfl rfl (any_of HT_.out (by kernel_rfl)) (fun _ _ _ h => h) (Or.inr ⟨by rfl, rfl⟩) ?_ ?_
         rotate_left
         · simp only [Act.put, List.setIfInBounds_toArray, List.set_cons_zero, List.set_cons_succ, i64_w, i32_w]
           rfl
         refine pure_ (i := 20) (N := some 214) (v := undef) (a' := ?_) (bm_ [21, 3]) rfl rfl (any_of HT_.out (by kernel_rfl)) (fun _ _ _ h => h) (Or.inr ⟨by rfl, rfl⟩) ?_ ?_
         rotate_left
         · simp only [Act.put, List.setIfInBounds_toArray, List.set_cons_zero, List.set_cons_succ, i64_w, i32_w]
           rfl
         refine pure_ (i := 21) (N := some 215) (v := undef) (a' := ?_) (bm_ [22, 2]) rfl rfl (any_of HT_.out (by kernel_rfl)) (fun _ _ _ h => h) (Or.inr ⟨by rfl, rfl⟩) ?_ ?_
         rotate_left
         · simp only [Act.put, List.setIfInBounds_toArray, List.set_cons_zero, List.set_cons_succ, i64_w, i32_w]
           rfl
         refine pure_ (i := 22) (N := some 216) (v := undef) (a' := ?_) (bm_ [23, 1]) rfl rfl (any_of HT_.out (by kernel_rfl)) (fun _ _ _ h => h) (Or.inr ⟨by rfl, rfl⟩) ?_ ?_
         rotate_left
         · simp only [Act.put, List.setIfInBounds_toArray, List.set_cons_zero, List.set_cons_succ, i64_w, i32_w]
           rfl
         refine pq_ 23 217 (bm_ [24]) HT_ ?_
         refine done_ (done_of HT_.out (by kernel_rfl)) ?_
         try go_wp2
         go_meet
         case rel => exact ⟨_, (false), (by first | rfl | (simp; done) | (simp [*]; done)), H', ⟨by have := HJ7.out; have := HJ97.out; have := HJ132.out; first | omega | exact Nat.le_refl _⟩, ⟨by (with_reducible repeat (first | refine blk_drewN ?_ _ | refine blk_drew ?_ | refine blk_alloc ?_ _)); exact BK110.out⟩, ⟨by (with_reducible repeat (first | refine blk_drewN ?_ _ | refine blk_drew ?_ | refine blk_alloc ?_ _)); exact BK111.out⟩, ⟨by (with_reducible repeat (first | refine blk_drewN ?_ _ | refine blk_drew ?_ | refine blk_alloc ?_ _)); exact BK164.out⟩, ⟨by (with_reducible repeat (first | refine blk_drewN ?_ _ | refine blk_drew ?_ | refine blk_alloc ?_ _)); exact BK168.out⟩, ⟨by (with_reducible repeat (first | refine blk_drewN ?_ _ | refine blk_drew ?_ | refine blk_alloc ?_ _)); exact BK180.out⟩, ⟨by repeat (first | (with_reducible first | exact HB.out | apply below_alloc | apply pw_below_drewN | apply below_drew1 | refine below_set ?_ GE110.out | refine below_set ?_ GE111.out | refine below_set ?_ GE164.out | refine below_set ?_ GE168.out | refine below_set ?_ GE180.out) | exact HB.out)⟩⟩
        case rest => as_aux_lemma =>
         clear HC149
         obtain ⟨kq, x217_148, rfl, HA, HJ148, BK110, BK111, BK164, BK168, BK180, HB⟩ := hcut
         cases kq with
         | zero => exact absurd HA.out (by simp [spykeep1_BoundIncludes.j3])
         | succ kj148 =>
          have H := HA.out
          clear HA
          simp only [spykeep1_BoundIncludes.j3] at H
          by_cases c160 : x217_148 = true
          · subst c160
            rw [if_pos rfl] at H
            exact absurd H (by simp)
          replace c160 := Bool.eq_false_iff.mpr c160
          subst c160
          rw [if_neg (show ¬ (false = true) by decide)] at H
          replace H := Option.bind_eq_some_iff.mp H
          obtain ⟨⟨t185, t186, t187⟩, A1610, H⟩ := H
          try dsimp -simprocs only at H
          have A161 := Aside0.mk A1610
          clear A1610
          replace H := Option.bind_eq_some_iff.mp H
          obtain ⟨⟨t188, t189, t190⟩, A1620, H⟩ := H
          try dsimp -simprocs only at H
          have A162 := Aside0.mk A1620
          clear A1620
          obtain ⟨ji163, hji163⟩ : ∃ j_ : Int, (mx x8_132 (wrap64 (-x8_132))) = j_ := ⟨_, rfl⟩
          replace H : ((num_SqrtMul.f kj148 (ji163) (wrap64 (1 + t120))).bind fun t192 => ((spykeep1_BoundIncludes_1.f kj148 t188 t189 t190 t192).bind fun t193 => (if t193 = true then (if (wrap64 (t192 * t192)) = (wrap64 ((ji163) * (wrap64 (1 + t120)))) then (some true) else ((spykeep1_BoundIncludes_1.f kj148 t188 t189 t190 (wrap64 (t192 + 1))).bind fun t194 => (some t194))) else (none)))) = some r := by first | (rw [hji163] at H; exact H) | (simp only [hji163] at H ⊢; exact H)
          (try rw [hji163] at A161)
          (try rw [hji163] at A162)
          have hji163_ : (if x8_132 < (wrap64 (-x8_132)) then (wrap64 (-x8_132)) else x8_132) = ji163 := hji163
          replace H := Option.bind_eq_some_iff.mp H
          obtain ⟨t192, A1640, H⟩ := H
          try dsimp -simprocs only at H
          have A164 := Aside0.mk A1640
          clear A1640
          replace H := Option.bind_eq_some_iff.mp H
          obtain ⟨t193, A1650, H⟩ := H
          try dsimp -simprocs only at H
          have A165 := Aside0.mk A1650
          clear A1650
          by_cases c166 : t193 = true
          rotate_left
          · replace c166 := Bool.eq_false_iff.mpr c166
            subst c166
            rw [if_neg (show ¬ (false = true) by decide)] at H
            exact absurd H (by simp)
          subst c166
          rw [if_pos rfl] at H
          by_cases c167 : (wrap64 (t192 * t192)) = (wrap64 ((ji163) * (wrap64 (1 + t120))))
          · rw [if_pos c167] at H
            have c167b0 : ((wrap64 (t192 * t192)) == (wrap64 ((ji163) * (wrap64 (1 + t120))))) = true := beq_iff_eq.mpr c167
            have c167b1 : ((wrap64 (t192 * t192)) != (wrap64 ((ji163) * (wrap64 (1 + t120))))) = false := bne_eq_false_iff_eq.mpr c167
            clear c167
            obtain rfl := Option.some.inj H
            have hnb168 := NB110_111.out
            have hnc168 := NB111_110.out
            have hnb169 := NB110_164.out
            have hnc169 := NB164_110.out
            have hnb170 := NB110_168.out
            have hnc170 := NB168_110.out
            have hnb171 := NB110_180.out
            have hnc171 := NB180_110.out
            have hcz172_0 := bc_ BK110 0 rfl
            have hcz172_1 := bc_ BK110 1 rfl
            have hcz172_2 := bc_ BK110 2 rfl
            have hfz172_0 := blk_frozen BK110.out 0
            have hfz172_1 := blk_frozen BK110.out 1
            have hfz172_2 := blk_frozen BK110.out 2
            go_wp2_with (first | ((with_reducible refine gate_callee (f := 37) rfl ?_); refine glq_ (some 219) Try.func37 #[.agg #[.int .i64 t102, .int .i64 t103, .bool t104]] ?_; (with_reducible refine (bound_Abs_api_Fix.calls kj148 t102 t103 t104 t185 t186 t187 _ A161.out).mono ?_); rintro e w173 ⟨rfl, hb⟩; refine ⟨_, rfl, ?_⟩; replace BK110 := bkb_ BK110 hb rfl; replace BK111 := bkb_ BK111 hb rfl; replace BK164 := bkb_ BK164 hb rfl; replace BK168 := bkb_ BK168 hb rfl; replace BK180 := bkb_ BK180 hb rfl; replace HB := hbs_ HB hb rfl rfl rfl rfl; (try clear hb)) | ((with_reducible refine gate_callee (f := 44) rfl ?_); refine glq_ (some 221) Try.func44 #[.agg #[.int .i64 t185, .int .i64 t186, .bool t187], .int .i64 (wrap64 (1 + t120))] ?_; (with_reducible refine (bound_Root_api_Fix.calls kj148 t185 t186 t187 (wrap64 (1 + t120)) t188 t189 t190 _ A162.out).mono ?_); rintro e w174 ⟨rfl, hb⟩; refine ⟨_, rfl, ?_⟩; replace BK110 := bkb_ BK110 hb rfl; replace BK111 := bkb_ BK111 hb rfl; replace BK164 := bkb_ BK164 hb rfl; replace BK168 := bkb_ BK168 hb rfl; replace BK180 := bkb_ BK180 hb rfl; replace HB := hbs_ HB hb rfl rfl rfl rfl; (try clear hb)) | ((with_reducible refine gate_dst (N := 15) rfl ?_); (try (refine gate_guard (by rfl) ?_; dsimp only)); refine bxq_ 15 #[.int .i64 0, .int .i64 0, .bool false] 56 ?_; intro gb191 hg w175 hbox hb; have BK191 := Aside0.mk (hbox); have GW191 := gwq_ HB hg rfl; have GE191 := GW191; have NB110_191 := nbl_ BK110 hg rfl; have NB191_110 := nbg_ BK110 hg rfl; have NB111_191 := nbl_ BK111 hg rfl; have NB191_111 := nbg_ BK111 hg rfl; have NB164_191 := nbl_ BK164 hg rfl; have NB191_164 := nbg_ BK164 hg rfl; have NB168_191 := nbl_ BK168 hg rfl; have NB191_168 := nbg_ BK168 hg rfl; have NB180_191 := nbl_ BK180 hg rfl; have NB191_180 := nbg_ BK180 hg rfl; replace BK110 := bkb_ BK110 hb rfl; replace BK111 := bkb_ BK111 hb rfl; replace BK164 := bkb_ BK164 hb rfl; replace BK168 := bkb_ BK168 hb rfl; replace BK180 := bkb_ BK180 hb rfl; replace HB := hbs_ HB hb rfl rfl rfl rfl; clear hb hbox hg; have hnb176 := NB191_110.out; have hnc176 := NB110_191.out; have hnb177 := NB191_111.out; have hnc177 := NB111_191.out; have hnb178 := NB191_164.out; have hnc178 := NB164_191.out; have hnb179 := NB191_168.out; have hnc179 := NB168_191.out; have hnb180 := NB191_180.out; have hnc180 := NB180_191.out; have hcz181_0 := bc_ BK191 0 rfl; have hcz181_1 := bc_ BK191 1 rfl; have hcz181_2 := bc_ BK191 2 rfl; have hfz181_0 := blk_frozen BK191.out 0; have hfz181_1 := blk_frozen BK191.out 1; have hfz181_2 := blk_frozen BK191.out 2) | ((with_reducible refine gate_callee (f := 49) rfl ?_); refine goesL_ (some 227) rfl rfl Try.func49 (by kernel_rfl) rfl #[.int .i64 ji163, .int .i64 (wrap64 (1 + t120))] rfl (by (try simp only [List.map_toArray, List.map_cons, List.map_nil]); first | done | (simp only [hji163]; rfl) | rfl | (simp only [List.length_drop, List.length_take]; rfl)) ?_; (with_reducible refine (num_SqrtMul.calls kj148 ji163 (wrap64 (1 + t120)) t192 _ A164.out).mono ?_); rintro e w' ⟨rfl, ⟨nd, rfl⟩⟩; refine ⟨_, rfl, ?_⟩) | ((with_reducible refine gatev_ (t := 228) rfl ?_); refine goesvL_ (some 231) rfl rfl Try.func45 (by kernel_rfl) rfl #[.agg #[.int .i64 t188, .int .i64 t189, .bool t190], .int .i64 t192] rfl (by first | rfl | (simp [Act.eval, Act.put] <;> rfl)) (by (try simp only [List.map_toArray, List.map_cons, List.map_nil]); first | done | rfl | (simp only [List.length_drop, List.length_take]; rfl)) ?_; (with_reducible refine (spykeep1_BoundIncludes_1.calls kj148 t188 t189 t190 t192 true _ A165.out).mono ?_); rintro e w182 ⟨rfl, hb⟩; refine ⟨_, rfl, ?_⟩; have n0_ := Aside0.mk (blk_below (g := gb110) (o := .cells #[.int .i64 t102, .int .i64 t103, .bool t104] 56 (0, 0)) (by (with_reducible repeat (first | refine blk_drewN ?_ _ | refine blk_drew ?_ | refine blk_alloc ?_ _)); refine blk_far ?_ NB110_191.out _; (with_reducible repeat (first | refine blk_drewN ?_ _ | refine blk_drew ?_ | refine blk_alloc ?_ _)); refine blk_far ?_ NB110_191.out _; (with_reducible repeat (first | refine blk_drewN ?_ _ | refine blk_drew ?_ | refine blk_alloc ?_ _)); refine blk_far ?_ NB110_191.out _; (with_reducible repeat (first | refine blk_drewN ?_ _ | refine blk_drew ?_ | refine blk_alloc ?_ _)); exact BK110.out) hb); have n1_ := Aside0.mk (blk_below (g := gb111) (o := .cells #[.int .i64 t106, .int .i64 t107, .bool t108] 56 (0, 0)) (by (with_reducible repeat (first | refine blk_drewN ?_ _ | refine blk_drew ?_ | refine blk_alloc ?_ _)); refine blk_far ?_ NB111_191.out _; (with_reducible repeat (first | refine blk_drewN ?_ _ | refine blk_drew ?_ | refine blk_alloc ?_ _)); refine blk_far ?_ NB111_191.out _; (with_reducible repeat (first | refine blk_drewN ?_ _ | refine blk_drew ?_ | refine blk_alloc ?_ _)); refine blk_far ?_ NB111_191.out _; (with_reducible repeat (first | refine blk_drewN ?_ _ | refine blk_drew ?_ | refine blk_alloc ?_ _)); exact BK111.out) hb); have n2_ := Aside0.mk (blk_below (g := gb164) (o := .cells #[.int .i64 t161, .int .i64 t162, .bool t163] 56 (0, 0)) (by (with_reducible repeat (first | refine blk_drewN ?_ _ | refine blk_drew ?_ | refine blk_alloc ?_ _)); refine blk_far ?_ NB164_191.out _; (with_reducible repeat (first | refine blk_drewN ?_ _ | refine blk_drew ?_ | refine blk_alloc ?_ _)); refine blk_far ?_ NB164_191.out _; (with_reducible repeat (first | refine blk_drewN ?_ _ | refine blk_drew ?_ | refine blk_alloc ?_ _)); refine blk_far ?_ NB164_191.out _; (with_reducible repeat (first | refine blk_drewN ?_ _ | refine blk_drew ?_ | refine blk_alloc ?_ _)); exact BK164.out) hb); have n3_ := Aside0.mk (blk_below (g := gb168) (o := .cells #[.int .i64 t165, .int .i64 t166, .bool t167] 56 (0, 0)) (by (with_reducible repeat (first | refine blk_drewN ?_ _ | refine blk_drew ?_ | refine blk_alloc ?_ _)); refine blk_far ?_ NB168_191.out _; (with_reducible repeat (first | refine blk_drewN ?_ _ | refine blk_drew ?_ | refine blk_alloc ?_ _)); refine blk_far ?_ NB168_191.out _; (with_reducible repeat (first | refine blk_drewN ?_ _ | refine blk_drew ?_ | refine blk_alloc ?_ _)); refine blk_far ?_ NB168_191.out _; (with_reducible repeat (first | refine blk_drewN ?_ _ | refine blk_drew ?_ | refine blk_alloc ?_ _)); exact BK168.out) hb); have n4_ := Aside0.mk (blk_below (g := gb180) (o := .cells #[.int .i64 t177, .int .i64 t178, .bool t179] 56 (0, 0)) (by (with_reducible repeat (first | refine blk_drewN ?_ _ | refine blk_drew ?_ | refine blk_alloc ?_ _)); refine blk_far ?_ NB180_191.out _; (with_reducible repeat (first | refine blk_drewN ?_ _ | refine blk_drew ?_ | refine blk_alloc ?_ _)); refine blk_far ?_ NB180_191.out _; (with_reducible repeat (first | refine blk_drewN ?_ _ | refine blk_drew ?_ | refine blk_alloc ?_ _)); refine blk_far ?_ NB180_191.out _; (with_reducible repeat (first | refine blk_drewN ?_ _ | refine blk_drew ?_ | refine blk_alloc ?_ _)); exact BK180.out) hb); have n5_ := Aside0.mk (blk_below (g := gb191) (o := .cells #[.int .i64 t188, .int .i64 t189, .bool t190] 56 (0, 0)) (by (with_reducible repeat (first | refine blk_drewN ?_ _ | refine blk_drew ?_ | refine blk_alloc ?_ _)); refine blk_put (cs := #[.int .i64 t188, .int .i64 t189, .bool false]) ?_ 2 _ rfl; (with_reducible repeat (first | refine blk_drewN ?_ _ | refine blk_drew ?_ | refine blk_alloc ?_ _)); refine blk_put (cs := #[.int .i64 t188, .int .i64 0, .bool false]) ?_ 1 _ rfl; (with_reducible repeat (first | refine blk_drewN ?_ _ | refine blk_drew ?_ | refine blk_alloc ?_ _)); refine blk_put (cs := #[.int .i64 0, .int .i64 0, .bool false]) ?_ 0 _ rfl; (with_reducible repeat (first | refine blk_drewN ?_ _ | refine blk_drew ?_ | refine blk_alloc ?_ _)); exact BK191.out) hb); have n6_ := Aside0.mk (below_step (by repeat (first | (with_reducible first | exact HB.out | apply below_alloc | apply pw_below_drewN | apply below_drew1 | refine below_set ?_ GE110.out | refine below_set ?_ GE111.out | refine below_set ?_ GE164.out | refine below_set ?_ GE168.out | refine below_set ?_ GE180.out | refine below_set ?_ GE191.out) | exact HB.out)) hb); clear BK110; clear BK111; clear BK164; clear BK168; clear BK180; clear BK191; clear HB; have BK110 := n0_; have BK111 := n1_; have BK164 := n2_; have BK168 := n3_; have BK180 := n4_; have BK191 := n5_; have HB := n6_; clear n0_ n1_ n2_ n3_ n4_ n5_ n6_; (try clear hb); (try clear hb2); (try clear hk); (try clear hi)))
            go_ret
            exact ⟨by first | rfl | (simp [errW_none, errW_some] <;> rfl) | (simp only [← hji163]; first | rfl | (simp [errW_none, errW_some] <;> rfl)) | (simp [*, errW_none, errW_some] <;> rfl), by repeat (first | (with_reducible first | exact HB.out | apply below_alloc | apply pw_below_drewN | apply below_drew1 | refine below_set ?_ GE110.out | refine below_set ?_ GE111.out | refine below_set ?_ GE164.out | refine below_set ?_ GE168.out | refine below_set ?_ GE180.out | refine below_set ?_ GE191.out) | exact HB.out)⟩
          rw [if_neg c167] at H
          have c167b0 : ((wrap64 (t192 * t192)) == (wrap64 ((ji163) * (wrap64 (1 + t120))))) = false := beq_eq_false_iff_ne.mpr c167
          have c167b1 : ((wrap64 (t192 * t192)) != (wrap64 ((ji163) * (wrap64 (1 + t120))))) = true := bne_iff_ne.mpr c167
          replace H := Option.bind_eq_some_iff.mp H
          obtain ⟨t194, A1830, H⟩ := H
          try dsimp -simprocs only at H
          have A183 := Aside0.mk A1830
          clear A1830
          obtain rfl := Option.some.inj H
          have hnb184 := NB110_111.out
          have hnc184 := NB111_110.out
          have hnb185 := NB110_164.out
          have hnc185 := NB164_110.out
          have hnb186 := NB110_168.out
          have hnc186 := NB168_110.out
          have hnb187 := NB110_180.out
          have hnc187 := NB180_110.out
          have hcz188_0 := bc_ BK110 0 rfl
          have hcz188_1 := bc_ BK110 1 rfl
          have hcz188_2 := bc_ BK110 2 rfl
          have hfz188_0 := blk_frozen BK110.out 0
          have hfz188_1 := blk_frozen BK110.out 1
          have hfz188_2 := blk_frozen BK110.out 2
          go_wp2_with (first | ((with_reducible refine gate_callee (f := 37) rfl ?_); refine glq_ (some 219) Try.func37 #[.agg #[.int .i64 t102, .int .i64 t103, .bool t104]] ?_; (with_reducible refine (bound_Abs_api_Fix.calls kj148 t102 t103 t104 t185 t186 t187 _ A161.out).mono ?_); rintro e w189 ⟨rfl, hb⟩; refine ⟨_, rfl, ?_⟩; replace BK110 := bkb_ BK110 hb rfl; replace BK111 := bkb_ BK111 hb rfl; replace BK164 := bkb_ BK164 hb rfl; replace BK168 := bkb_ BK168 hb rfl; replace BK180 := bkb_ BK180 hb rfl; replace HB := hbs_ HB hb rfl rfl rfl rfl; (try clear hb)) | ((with_reducible refine gate_callee (f := 44) rfl ?_); refine glq_ (some 221) Try.func44 #[.agg #[.int .i64 t185, .int .i64 t186, .bool t187], .int .i64 (wrap64 (1 + t120))] ?_; (with_reducible refine (bound_Root_api_Fix.calls kj148 t185 t186 t187 (wrap64 (1 + t120)) t188 t189 t190 _ A162.out).mono ?_); rintro e w190 ⟨rfl, hb⟩; refine ⟨_, rfl, ?_⟩; replace BK110 := bkb_ BK110 hb rfl; replace BK111 := bkb_ BK111 hb rfl; replace BK164 := bkb_ BK164 hb rfl; replace BK168 := bkb_ BK168 hb rfl; replace BK180 := bkb_ BK180 hb rfl; replace HB := hbs_ HB hb rfl rfl rfl rfl; (try clear hb)) | ((with_reducible refine gate_dst (N := 15) rfl ?_); (try (refine gate_guard (by rfl) ?_; dsimp only)); refine bxq_ 15 #[.int .i64 0, .int .i64 0, .bool false] 56 ?_; intro gb191 hg w191 hbox hb; have BK191 := Aside0.mk (hbox); have GW191 := gwq_ HB hg rfl; have GE191 := GW191; have NB110_191 := nbl_ BK110 hg rfl; have NB191_110 := nbg_ BK110 hg rfl; have NB111_191 := nbl_ BK111 hg rfl; have NB191_111 := nbg_ BK111 hg rfl; have NB164_191 := nbl_ BK164 hg rfl; have NB191_164 := nbg_ BK164 hg rfl; have NB168_191 := nbl_ BK168 hg rfl; have NB191_168 := nbg_ BK168 hg rfl; have NB180_191 := nbl_ BK180 hg rfl; have NB191_180 := nbg_ BK180 hg rfl; replace BK110 := bkb_ BK110 hb rfl; replace BK111 := bkb_ BK111 hb rfl; replace BK164 := bkb_ BK164 hb rfl; replace BK168 := bkb_ BK168 hb rfl; replace BK180 := bkb_ BK180 hb rfl; replace HB := hbs_ HB hb rfl rfl rfl rfl; clear hb hbox hg; have hnb192 := NB191_110.out; have hnc192 := NB110_191.out; have hnb193 := NB191_111.out; have hnc193 := NB111_191.out; have hnb194 := NB191_164.out; have hnc194 := NB164_191.out; have hnb195 := NB191_168.out; have hnc195 := NB168_191.out; have hnb196 := NB191_180.out; have hnc196 := NB180_191.out; have hcz197_0 := bc_ BK191 0 rfl; have hcz197_1 := bc_ BK191 1 rfl; have hcz197_2 := bc_ BK191 2 rfl; have hfz197_0 := blk_frozen BK191.out 0; have hfz197_1 := blk_frozen BK191.out 1; have hfz197_2 := blk_frozen BK191.out 2) | ((with_reducible refine gate_callee (f := 49) rfl ?_); refine goesL_ (some 227) rfl rfl Try.func49 (by kernel_rfl) rfl #[.int .i64 ji163, .int .i64 (wrap64 (1 + t120))] rfl (by (try simp only [List.map_toArray, List.map_cons, List.map_nil]); first | done | (simp only [hji163]; rfl) | rfl | (simp only [List.length_drop, List.length_take]; rfl)) ?_; (with_reducible refine (num_SqrtMul.calls kj148 ji163 (wrap64 (1 + t120)) t192 _ A164.out).mono ?_); rintro e w' ⟨rfl, ⟨nd, rfl⟩⟩; refine ⟨_, rfl, ?_⟩) | ((with_reducible refine gatev_ (t := 228) rfl ?_); refine goesvL_ (some 231) rfl rfl Try.func45 (by kernel_rfl) rfl #[.agg #[.int .i64 t188, .int .i64 t189, .bool t190], .int .i64 t192] rfl (by first | rfl | (simp [Act.eval, Act.put] <;> rfl)) (by (try simp only [List.map_toArray, List.map_cons, List.map_nil]); first | done | rfl | (simp only [List.length_drop, List.length_take]; rfl)) ?_; (with_reducible refine (spykeep1_BoundIncludes_1.calls kj148 t188 t189 t190 t192 true _ A165.out).mono ?_); rintro e w198 ⟨rfl, hb⟩; refine ⟨_, rfl, ?_⟩; have n0_ := Aside0.mk (blk_below (g := gb110) (o := .cells #[.int .i64 t102, .int .i64 t103, .bool t104] 56 (0, 0)) (by (with_reducible repeat (first | refine blk_drewN ?_ _ | refine blk_drew ?_ | refine blk_alloc ?_ _)); refine blk_far ?_ NB110_191.out _; (with_reducible repeat (first | refine blk_drewN ?_ _ | refine blk_drew ?_ | refine blk_alloc ?_ _)); refine blk_far ?_ NB110_191.out _; (with_reducible repeat (first | refine blk_drewN ?_ _ | refine blk_drew ?_ | refine blk_alloc ?_ _)); refine blk_far ?_ NB110_191.out _; (with_reducible repeat (first | refine blk_drewN ?_ _ | refine blk_drew ?_ | refine blk_alloc ?_ _)); exact BK110.out) hb); have n1_ := Aside0.mk (blk_below (g := gb111) (o := .cells #[.int .i64 t106, .int .i64 t107, .bool t108] 56 (0, 0)) (by (with_reducible repeat (first | refine blk_drewN ?_ _ | refine blk_drew ?_ | refine blk_alloc ?_ _)); refine blk_far ?_ NB111_191.out _; (with_reducible repeat (first | refine blk_drewN ?_ _ | refine blk_drew ?_ | refine blk_alloc ?_ _)); refine blk_far ?_ NB111_191.out _; (with_reducible repeat (first | refine blk_drewN ?_ _ | refine blk_drew ?_ | refine blk_alloc ?_ _)); refine blk_far ?_ NB111_191.out _; (with_reducible repeat (first | refine blk_drewN ?_ _ | refine blk_drew ?_ | refine blk_alloc ?_ _)); exact BK111.out) hb); have n2_ := Aside0.mk (blk_below (g := gb164) (o := .cells #[.int .i64 t161, .int .i64 t162, .bool t163] 56 (0, 0)) (by (with_reducible repeat (first | refine blk_drewN ?_ _ | refine blk_drew ?_ | refine blk_alloc ?_ _)); refine blk_far ?_ NB164_191.out _; (with_reducible repeat (first | refine blk_drewN ?_ _ | refine blk_drew ?_ | refine blk_alloc ?_ _)); refine blk_far ?_ NB164_191.out _; (with_reducible repeat (first | refine blk_drewN ?_ _ | refine blk_drew ?_ | refine blk_alloc ?_ _)); refine blk_far ?_ NB164_191.out _; (with_reducible repeat (first | refine blk_drewN ?_ _ | refine blk_drew ?_ | refine blk_alloc ?_ _)); exact BK164.out) hb); have n3_ := Aside0.mk (blk_below (g := gb168) (o := .cells #[.int .i64 t165, .int .i64 t166, .bool t167] 56 (0, 0)) (by (with_reducible repeat (first | refine blk_drewN ?_ _ | refine blk_drew ?_ | refine blk_alloc ?_ _)); refine blk_far ?_ NB168_191.out _; (with_reducible repeat (first | refine blk_drewN ?_ _ | refine blk_drew ?_ | refine blk_alloc ?_ _)); refine blk_far ?_ NB168_191.out _; (with_reducible repeat (first | refine blk_drewN ?_ _ | refine blk_drew ?_ | refine blk_alloc ?_ _)); refine blk_far ?_ NB168_191.out _; (with_reducible repeat (first | refine blk_drewN ?_ _ | refine blk_drew ?_ | refine blk_alloc ?_ _)); exact BK168.out) hb); have n4_ := Aside0.mk (blk_below (g := gb180) (o := .cells #[.int .i64 t177, .int .i64 t178, .bool t179] 56 (0, 0)) (by (with_reducible repeat (first | refine blk_drewN ?_ _ | refine blk_drew ?_ | refine blk_alloc ?_ _)); refine blk_far ?_ NB180_191.out _; (with_reducible repeat (first | refine blk_drewN ?_ _ | refine blk_drew ?_ | refine blk_alloc ?_ _)); refine blk_far ?_ NB180_191.out _; (with_reducible repeat (first | refine blk_drewN ?_ _ | refine blk_drew ?_ | refine blk_alloc ?_ _)); refine blk_far ?_ NB180_191.out _; (with_reducible repeat (first | refine blk_drewN ?_ _ | refine blk_drew ?_ | refine blk_alloc ?_ _)); exact BK180.out) hb); have n5_ := Aside0.mk (blk_below (g := gb191) (o := .cells #[.int .i64 t188, .int .i64 t189, .bool t190] 56 (0, 0)) (by (with_reducible repeat (first | refine blk_drewN ?_ _ | refine blk_drew ?_ | refine blk_alloc ?_ _)); refine blk_put (cs := #[.int .i64 t188, .int .i64 t189, .bool false]) ?_ 2 _ rfl; (with_reducible repeat (first | refine blk_drewN ?_ _ | refine blk_drew ?_ | refine blk_alloc ?_ _)); refine blk_put (cs := #[.int .i64 t188, .int .i64 0, .bool false]) ?_ 1 _ rfl; (with_reducible repeat (first | refine blk_drewN ?_ _ | refine blk_drew ?_ | refine blk_alloc ?_ _)); refine blk_put (cs := #[.int .i64 0, .int .i64 0, .bool false]) ?_ 0 _ rfl; (with_reducible repeat (first | refine blk_drewN ?_ _ | refine blk_drew ?_ | refine blk_alloc ?_ _)); exact BK191.out) hb); have n6_ := Aside0.mk (below_step (by repeat (first | (with_reducible first | exact HB.out | apply below_alloc | apply pw_below_drewN | apply below_drew1 | refine below_set ?_ GE110.out | refine below_set ?_ GE111.out | refine below_set ?_ GE164.out | refine below_set ?_ GE168.out | refine below_set ?_ GE180.out | refine below_set ?_ GE191.out) | exact HB.out)) hb); clear BK110; clear BK111; clear BK164; clear BK168; clear BK180; clear BK191; clear HB; have BK110 := n0_; have BK111 := n1_; have BK164 := n2_; have BK168 := n3_; have BK180 := n4_; have BK191 := n5_; have HB := n6_; clear n0_ n1_ n2_ n3_ n4_ n5_ n6_; (try clear hb); (try clear hb2); (try clear hk); (try clear hi); have hcz199_0 : w198.cell? ⟨gb191, 0, none⟩ = some (.int .i64 t188) := bc_ BK191 0 rfl; have hcz199_1 : w198.cell? ⟨gb191, 1, none⟩ = some (.int .i64 t189) := bc_ BK191 1 rfl; have hcz199_2 : w198.cell? ⟨gb191, 2, none⟩ = some (.bool t190) := bc_ BK191 2 rfl; have hfz199_0 := blk_frozen BK191.out 0; have hfz199_1 := blk_frozen BK191.out 1; have hfz199_2 := blk_frozen BK191.out 2) | (go_at_call 45; (with_reducible refine (spykeep1_BoundIncludes_1.calls kj148 t188 t189 t190 (wrap64 (t192 + 1)) t194 _ A183.out).mono ?_); rintro e w200 ⟨rfl, hb⟩; replace BK110 := bkb_ BK110 hb rfl; replace BK111 := bkb_ BK111 hb rfl; replace BK164 := bkb_ BK164 hb rfl; replace BK168 := bkb_ BK168 hb rfl; replace BK180 := bkb_ BK180 hb rfl; replace BK191 := bkb_ BK191 hb rfl; replace HB := hbs_ HB hb rfl rfl rfl rfl; (try clear hb)))
          go_ret
          exact ⟨by first | rfl | (simp [errW_none, errW_some] <;> rfl) | (simp only [← hji163]; first | rfl | (simp [errW_none, errW_some] <;> rfl)) | (simp [*, errW_none, errW_some] <;> rfl), by repeat (first | (with_reducible first | exact HB.out | apply below_alloc | apply pw_below_drewN | apply below_drew1 | refine below_set ?_ GE110.out | refine below_set ?_ GE111.out | refine below_set ?_ GE164.out | refine below_set ?_ GE168.out | refine below_set ?_ GE180.out | refine below_set ?_ GE191.out) | exact HB.out)⟩
/-- THE ONE PURE STATEMENT of spykeep1_BoundIncludes: yours. -/
def spykeep1_BoundIncludes.Pure : Prop := ∀ (l0 : List Int) (a1 : Int), l0.length ≤ maxLen → l0.length * 8 ≤ 140737488351232 → (∀ x ∈ l0, (Lit.int .i64 x).wf = true) → (Lit.int .i64 a1).wf = true → ∃ k, spykeep1_BoundIncludes.f k l0 a1 = some true
theorem spykeep1_BoundIncludes.walk (P : spykeep1_BoundIncludes.Pure) (a0 : Option Addr) (len0 cap0 : Nat) (z0 : List Int) (a1 : Int) (w : World) (w0 : (a0 = none ∧ len0 = 0 ∧ cap0 = 0 ∧ z0 = []) ∨ ∃ x, a0 = some x ∧ len0 ≤ cap0 ∧ cap0 ≤ maxLen ∧ z0.length = cap0 ∧ (∀ i, i < z0.length → w.cell? (x.add i) = some (.int .i64 (z0.getD i 0))) ∧ ∀ n ∈ z0, (Lit.int .i64 n).wf = true) (y0 : len0 * 8 ≤ 140737488351232) (w1 : (Lit.int .i64 a1).wf = true) :
 Calls Try.prog 7 #[.slice a0 len0 cap0, .int .i64 a1] w fun e w' => e = .returned (.bool true) ∧ Below w.heap.size w w' := by
 obtain ⟨l0, rfl, hr0, hm0, hw0, hc0⟩ := ReadsInt.ofRowC w0
 obtain ⟨k, h⟩ := P l0 a1 hm0 y0 hw0 w1
 refine (spykeep1_BoundIncludes.calls k _ _ l0 a1 true w (Kd.C_of_reads (d := (0 : Int)) (h1 := fun _ => rfl) hr0) hc0 h).mono ?_
 rintro e w' ⟨rfl, hd⟩
 exact ⟨rfl, hd⟩

end Go.Proofs.Ytpophefonhpnmaa.Q
