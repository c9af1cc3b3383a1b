/- Contracts of Go functions of the seat, one by one: each call returns what the Lean function of the same name says, wherever that is 'some'; no other condition. Written by a program of this session. -/
import Derived.Test.YtpophefonhpnmaaKFracFieldQx0
import Derived.Test.YtpophefonhpnmaaKFracFieldQx1
import Derived.Test.YtpophefonhpnmaaKFracFieldQx2
import Derived.Test.YtpophefonhpnmaaKFracFieldQx3
import Derived.Test.YtpophefonhpnmaaKFracFieldQx4
import Derived.Test.YtpophefonhpnmaaKFracFieldQx5
import Derived.Test.YtpophefonhpnmaaKFracFieldQx6
import Derived.Test.YtpophefonhpnmaaKFracFieldQx12
namespace Go.Proofs.Ytpophefonhpnmaa.Q
open Go.RowKit Go.Proofs.YtpophefonhpnmaaW.PrintWords Go.Proofs.YtpophefonhpnmaaW.PrintLast Go.Proofs.YtpophefonhpnmaaW.PrintMore
attribute [local go_sem] max2_int min2_int max_two min_two max_three min_three max_four min_four   -- for this text's walks alone
set_option linter.unusedVariables false
set_option linter.unusedSimpArgs false

attribute [local go_sem high] eqA77
/-! ### spykeep1_FracField: function 9 -/
def d131_0 : Array Bool := #[false, false, false, false, false, false, false, false, false, false, false, false, false, false, false, false, false, false, false, false, false, false, false, false, false, false]
def d131_1 : Array Bool := #[true, false, false, false, false, false, false, false, false, false, false, false, false, false, false, false, false, false, false, false, false, false, false, false, false, false]
def d131_2 : Array Bool := #[true, true, false, false, false, false, false, false, false, false, false, false, false, false, false, false, false, false, false, false, false, false, false, false, false, false]
def d131_3 : Array Bool := #[true, true, true, false, false, false, false, false, false, false, false, false, false, false, false, false, false, false, false, false, false, false, false, false, false, false]
def d131_12 : Array Bool := #[true, true, true, true, true, true, true, true, false, false, false, false, false, false, false, false, false, false, false, false, false, false, false, false, false, false]
def d131_13 : Array Bool := #[true, true, true, true, true, true, true, true, true, false, false, false, false, false, false, false, false, false, false, false, false, false, false, false, false, false]
def d131_14 : Array Bool := #[true, true, true, true, true, true, true, true, true, true, false, false, false, false, false, false, false, false, false, false, false, false, false, false, false, false]
def d131_15 : Array Bool := #[true, true, true, true, true, true, true, true, true, true, true, false, false, false, false, false, false, false, false, false, false, false, false, false, false, false]
def d131_16 : Array Bool := #[true, true, true, true, true, true, true, true, true, true, true, true, false, false, false, false, false, false, false, false, false, false, false, false, false, false]
def d131_19 : Array Bool := #[true, true, true, true, true, true, true, true, true, true, true, true, true, true, false, false, false, false, false, false, false, false, false, false, false, false]
def d131_20 : Array Bool := #[true, true, true, true, true, true, true, true, true, true, true, true, true, true, true, false, false, false, false, false, false, false, false, false, false, false]
def d131_21 : Array Bool := #[true, true, true, true, true, true, true, true, true, true, true, true, true, true, true, true, false, false, false, false, false, false, false, false, false, false]
def d131_22 : Array Bool := #[true, true, true, true, true, true, true, true, true, true, true, true, true, true, true, true, true, false, false, false, false, false, false, false, false, false]
def d131_23 : Array Bool := #[true, true, true, true, true, true, true, true, true, true, true, true, true, true, true, true, true, true, false, false, false, false, false, false, false, false]
def d131_24 : Array Bool := #[true, true, true, true, true, true, true, true, true, true, true, true, true, true, true, true, true, true, true, false, false, false, false, false, false, false]
def d131_27 : Array Bool := #[true, true, true, true, true, true, true, true, true, true, true, true, true, true, true, true, true, true, true, true, true, false, false, false, false, false]
def d131_28 : Array Bool := #[true, true, true, true, true, true, true, true, true, true, true, true, true, true, true, true, true, true, true, true, true, true, false, false, false, false]
def d131_29 : Array Bool := #[true, true, true, true, true, true, true, true, true, true, true, true, true, true, true, true, true, true, true, true, true, true, true, false, false, false]
def d131_30 : Array Bool := #[true, true, true, true, true, true, true, true, true, true, true, true, true, true, true, true, true, true, true, true, true, true, true, true, false, false]
def d131_31 : Array Bool := #[true, true, true, true, true, true, true, true, true, true, true, true, true, true, true, true, true, true, true, true, true, true, true, true, true, false]
def d131_32 : Array Bool := #[true, true, true, true, true, true, true, true, true, true, true, true, true, true, true, true, true, true, true, true, true, true, true, true, true, true]
mutual
def spykeep1_FracField.j0 : Nat → Bool → Int → Int → Int → Int → Int → Int → Option (Bool)
 | 0, _, _, _, _, _, _, _ => none
 | k + 1, x64, x105000, x105001, x109000, x109001, x113000, x113001 => if x64 = true then ((spykeep1_fracFact.f k).bind fun t114 => (some t114)) else ((frac_Add.f k x105000 x105001 x109000 x109001).bind fun bt115 => (if bt115.2.2 = 0 then ((frac_Sub.f k bt115.1 bt115.2.1 x109000 x109001).bind fun bt119 => (if bt119.2.2 = 0 then (if (!(bt119.1 == x105000) || (!(bt119.2.1 == x105001))) = true then (none) else (spykeep1_FracField.j1 k bt115.2.2 x105000 x105001 x109000 x109001 x113000 x113001 bt115.1 bt115.2.1)) else (none))) else (spykeep1_FracField.j1 k bt115.2.2 x105000 x105001 x109000 x109001 x113000 x113001 bt115.1 bt115.2.1)))
def spykeep1_FracField.j1 : Nat → Int → Int → Int → Int → Int → Int → Int → Int → Int → Option (Bool)
 | 0, _, _, _, _, _, _, _, _, _ => none
 | k + 1, x14, x105000, x105001, x109000, x109001, x113000, x113001, x119000, x119001 => (frac_Mul.f k x105000 x105001 x109000 x109001).bind fun bt123 => (if bt123.2.2 = 0 then (spykeep1_FracField.j2 k x14 (x109000 != 0) x105000 x105001 x109000 x109001 x113000 x113001 x119000 x119001 bt123.1 bt123.2.1) else (spykeep1_FracField.j2 k x14 false x105000 x105001 x109000 x109001 x113000 x113001 x119000 x119001 bt123.1 bt123.2.1))
def spykeep1_FracField.j2 : Nat → Int → Bool → Int → Int → Int → Int → Int → Int → Int → Int → Int → Int → Option (Bool)
 | 0, _, _, _, _, _, _, _, _, _, _, _, _ => none
 | k + 1, x14, x99, x105000, x105001, x109000, x109001, x113000, x113001, x119000, x119001, x127000, x127001 => if x99 = true then ((frac_Div.f k x127000 x127001 x109000 x109001).bind fun bt127 => (if bt127.2.2 = 0 then (if (!(bt127.1 == x105000) || (!(bt127.2.1 == x105001))) = true then (none) else (spykeep1_FracField.j3 k x14 x105000 x105001 x109000 x109001 x113000 x113001 x119000 x119001)) else (none))) else (spykeep1_FracField.j3 k x14 x105000 x105001 x109000 x109001 x113000 x113001 x119000 x119001)
def spykeep1_FracField.j3 : Nat → Int → Int → Int → Int → Int → Int → Int → Int → Int → Option (Bool)
 | 0, _, _, _, _, _, _, _, _, _ => none
 | k + 1, x14, x105000, x105001, x109000, x109001, x113000, x113001, x119000, x119001 => (frac_Mul.f k x119000 x119001 x113000 x113001).bind fun bt131 => ((frac_Mul.f k x105000 x105001 x113000 x113001).bind fun bt135 => ((frac_Mul.f k x109000 x109001 x113000 x113001).bind fun bt139 => ((frac_Add.f k bt135.1 bt135.2.1 bt139.1 bt139.2.1).bind fun bt143 => (if x14 = 0 then (if bt131.2.2 = 0 then (if bt135.2.2 = 0 then (if bt139.2.2 = 0 then (if bt143.2.2 = 0 then (spykeep1_FracField.j4 k (!(bt131.1 == bt143.1) || (!(bt131.2.1 == bt143.2.1))) x105000 x105001 x109000 x109001) else (none)) else (spykeep1_FracField.j4 k false x105000 x105001 x109000 x109001)) else (spykeep1_FracField.j4 k false x105000 x105001 x109000 x109001)) else (spykeep1_FracField.j4 k false x105000 x105001 x109000 x109001)) else (spykeep1_FracField.j4 k false x105000 x105001 x109000 x109001)))))
def spykeep1_FracField.j4 : Nat → Bool → Int → Int → Int → Int → Option (Bool)
 | 0, _, _, _, _, _ => none
 | k + 1, x159, x105000, x105001, x109000, x109001 => if x159 = true then (none) else ((frac_Sub.f k x105000 x105001 x109000 x109001).bind fun bt147 => (if bt147.2.2 = 0 then ((frac_Cmp.f k x105000 x105001 x109000 x109001).bind fun t151 => ((frac_Cmp.f k bt147.1 bt147.2.1 0 1).bind fun t152 => (if t151 = t152 then ((frac_Floor.f k x105000 x105001).bind fun t153 => ((frac_Round.f k x105000 x105001).bind fun t154 => (if t153 ≤ t154 then ((frac_Round.f k x105000 x105001).bind fun t155 => ((frac_Ceil.f k x105000 x105001).bind fun t156 => (some (decide (t154 ≤ t156))))) else (none)))) else (none)))) else (some true)))
end
def spykeep1_FracField.f (k : Nat) (a0 : Int) (a1 : Int) (a2 : Int) (a3 : Int) (a4 : Int) (a5 : Int) : Option (Bool) := (frac_Make.f k a0 a1).bind fun bt101 => ((frac_Make.f k a2 a3).bind fun bt105 => ((frac_Make.f k a4 a5).bind fun bt109 => ((spykeep1_fracFact.f k).bind fun t113 => (if t113 = true then (if bt101.2.2 = 0 then (if bt105.2.2 = 0 then (spykeep1_FracField.j0 k (bt109.2.2 != 0) bt101.1 bt101.2.1 bt105.1 bt105.2.1 bt109.1 bt109.2.1) else (spykeep1_FracField.j0 k true bt101.1 bt101.2.1 bt105.1 bt105.2.1 bt109.1 bt109.2.1)) else (spykeep1_FracField.j0 k true bt101.1 bt101.2.1 bt105.1 bt105.2.1 bt109.1 bt109.2.1)) else (spykeep1_FracField.j0 k true bt101.1 bt101.2.1 bt105.1 bt105.2.1 bt109.1 bt109.2.1)))))
theorem spykeep1_FracField.mono_l : ∀ k, (∀ y0 y1 y2 y3 y4 y5 y6, LeO (spykeep1_FracField.j0 k y0 y1 y2 y3 y4 y5 y6) (spykeep1_FracField.j0 (k + 1) y0 y1 y2 y3 y4 y5 y6)) ∧ (∀ y0 y1 y2 y3 y4 y5 y6 y7 y8, LeO (spykeep1_FracField.j1 k y0 y1 y2 y3 y4 y5 y6 y7 y8) (spykeep1_FracField.j1 (k + 1) y0 y1 y2 y3 y4 y5 y6 y7 y8)) ∧ (∀ y0 y1 y2 y3 y4 y5 y6 y7 y8 y9 y10 y11, LeO (spykeep1_FracField.j2 k y0 y1 y2 y3 y4 y5 y6 y7 y8 y9 y10 y11) (spykeep1_FracField.j2 (k + 1) y0 y1 y2 y3 y4 y5 y6 y7 y8 y9 y10 y11)) ∧ (∀ y0 y1 y2 y3 y4 y5 y6 y7 y8, LeO (spykeep1_FracField.j3 k y0 y1 y2 y3 y4 y5 y6 y7 y8) (spykeep1_FracField.j3 (k + 1) y0 y1 y2 y3 y4 y5 y6 y7 y8)) ∧ (∀ y0 y1 y2 y3 y4, LeO (spykeep1_FracField.j4 k y0 y1 y2 y3 y4) (spykeep1_FracField.j4 (k + 1) y0 y1 y2 y3 y4))
 | 0 => ⟨fun _ _ _ _ _ _ _ r h => by simp [spykeep1_FracField.j0] at h, fun _ _ _ _ _ _ _ _ _ r h => by simp [spykeep1_FracField.j1] at h, fun _ _ _ _ _ _ _ _ _ _ _ _ r h => by simp [spykeep1_FracField.j2] at h, fun _ _ _ _ _ _ _ _ _ r h => by simp [spykeep1_FracField.j3] at h, fun _ _ _ _ _ r h => by simp [spykeep1_FracField.j4] at h⟩
 | k + 1 => by
  obtain ⟨ih0, ih1, ih2, ih3, ih4⟩ := spykeep1_FracField.mono_l k
  refine ⟨?_, ?_, ?_, ?_, ?_⟩
  · intro y0 y1 y2 y3 y4 y5 y6
    unfold spykeep1_FracField.j0
    repeat' first
    | (with_reducible exact ih0 _ _ _ _ _ _ _)
    | (with_reducible exact ih1 _ _ _ _ _ _ _ _ _)
    | (with_reducible exact ih2 _ _ _ _ _ _ _ _ _ _ _ _)
    | (with_reducible exact ih3 _ _ _ _ _ _ _ _ _)
    | (with_reducible exact ih4 _ _ _ _ _)
    | (with_reducible exact frac_Add.mono _ _ _ _ _)
    | (with_reducible exact frac_Ceil.mono _ _ _)
    | (with_reducible exact frac_Cmp.mono _ _ _ _ _)
    | (with_reducible exact frac_Div.mono _ _ _ _ _)
    | (with_reducible exact frac_Floor.mono _ _ _)
    | (with_reducible exact frac_Make.mono _ _ _)
    | (with_reducible exact frac_Mul.mono _ _ _ _ _)
    | (with_reducible exact frac_Round.mono _ _ _)
    | (with_reducible exact frac_Sub.mono _ _ _ _ _)
    | (with_reducible exact spykeep1_fracFact.mono _)
    | (with_reducible exact LeO.refl _)
    | (with_reducible exact LeO.none _)
    | (with_reducible refine LeO.ite ?_ ?_)
    | (with_reducible refine LeO.bind ?_ (fun _ => ?_))
    | exact ih0 _ _ _ _ _ _ _
    | exact ih1 _ _ _ _ _ _ _ _ _
    | exact ih2 _ _ _ _ _ _ _ _ _ _ _ _
    | exact ih3 _ _ _ _ _ _ _ _ _
    | exact ih4 _ _ _ _ _
    | exact frac_Add.mono _ _ _ _ _
    | exact frac_Ceil.mono _ _ _
    | exact frac_Cmp.mono _ _ _ _ _
    | exact frac_Div.mono _ _ _ _ _
    | exact frac_Floor.mono _ _ _
    | exact frac_Make.mono _ _ _
    | exact frac_Mul.mono _ _ _ _ _
    | exact frac_Round.mono _ _ _
    | exact frac_Sub.mono _ _ _ _ _
    | exact spykeep1_fracFact.mono _
    | exact LeO.none _
    | refine LeO.ite ?_ ?_
    | refine LeO.bind ?_ (fun _ => ?_)
  · intro y0 y1 y2 y3 y4 y5 y6 y7 y8
    unfold spykeep1_FracField.j1
    repeat' first
    | (with_reducible exact ih0 _ _ _ _ _ _ _)
    | (with_reducible exact ih1 _ _ _ _ _ _ _ _ _)
    | (with_reducible exact ih2 _ _ _ _ _ _ _ _ _ _ _ _)
    | (with_reducible exact ih3 _ _ _ _ _ _ _ _ _)
    | (with_reducible exact ih4 _ _ _ _ _)
    | (with_reducible exact frac_Add.mono _ _ _ _ _)
    | (with_reducible exact frac_Ceil.mono _ _ _)
    | (with_reducible exact frac_Cmp.mono _ _ _ _ _)
    | (with_reducible exact frac_Div.mono _ _ _ _ _)
    | (with_reducible exact frac_Floor.mono _ _ _)
    | (with_reducible exact frac_Make.mono _ _ _)
    | (with_reducible exact frac_Mul.mono _ _ _ _ _)
    | (with_reducible exact frac_Round.mono _ _ _)
    | (with_reducible exact frac_Sub.mono _ _ _ _ _)
    | (with_reducible exact spykeep1_fracFact.mono _)
    | (with_reducible exact LeO.refl _)
    | (with_reducible exact LeO.none _)
    | (with_reducible refine LeO.ite ?_ ?_)
    | (with_reducible refine LeO.bind ?_ (fun _ => ?_))
    | exact ih0 _ _ _ _ _ _ _
    | exact ih1 _ _ _ _ _ _ _ _ _
    | exact ih2 _ _ _ _ _ _ _ _ _ _ _ _
    | exact ih3 _ _ _ _ _ _ _ _ _
    | exact ih4 _ _ _ _ _
    | exact frac_Add.mono _ _ _ _ _
    | exact frac_Ceil.mono _ _ _
    | exact frac_Cmp.mono _ _ _ _ _
    | exact frac_Div.mono _ _ _ _ _
    | exact frac_Floor.mono _ _ _
    | exact frac_Make.mono _ _ _
    | exact frac_Mul.mono _ _ _ _ _
    | exact frac_Round.mono _ _ _
    | exact frac_Sub.mono _ _ _ _ _
    | exact spykeep1_fracFact.mono _
    | exact LeO.none _
    | refine LeO.ite ?_ ?_
    | refine LeO.bind ?_ (fun _ => ?_)
  · intro y0 y1 y2 y3 y4 y5 y6 y7 y8 y9 y10 y11
    unfold spykeep1_FracField.j2
    repeat' first
    | (with_reducible exact ih0 _ _ _ _ _ _ _)
    | (with_reducible exact ih1 _ _ _ _ _ _ _ _ _)
    | (with_reducible exact ih2 _ _ _ _ _ _ _ _ _ _ _ _)
    | (with_reducible exact ih3 _ _ _ _ _ _ _ _ _)
    | (with_reducible exact ih4 _ _ _ _ _)
    | (with_reducible exact frac_Add.mono _ _ _ _ _)
    | (with_reducible exact frac_Ceil.mono _ _ _)
    | (with_reducible exact frac_Cmp.mono _ _ _ _ _)
    | (with_reducible exact frac_Div.mono _ _ _ _ _)
    | (with_reducible exact frac_Floor.mono _ _ _)
    | (with_reducible exact frac_Make.mono _ _ _)
    | (with_reducible exact frac_Mul.mono _ _ _ _ _)
    | (with_reducible exact frac_Round.mono _ _ _)
    | (with_reducible exact frac_Sub.mono _ _ _ _ _)
    | (with_reducible exact spykeep1_fracFact.mono _)
    | (with_reducible exact LeO.refl _)
    | (with_reducible exact LeO.none _)
    | (with_reducible refine LeO.ite ?_ ?_)
    | (with_reducible refine LeO.bind ?_ (fun _ => ?_))
    | exact ih0 _ _ _ _ _ _ _
    | exact ih1 _ _ _ _ _ _ _ _ _
    | exact ih2 _ _ _ _ _ _ _ _ _ _ _ _
    | exact ih3 _ _ _ _ _ _ _ _ _
    | exact ih4 _ _ _ _ _
    | exact frac_Add.mono _ _ _ _ _
    | exact frac_Ceil.mono _ _ _
    | exact frac_Cmp.mono _ _ _ _ _
    | exact frac_Div.mono _ _ _ _ _
    | exact frac_Floor.mono _ _ _
    | exact frac_Make.mono _ _ _
    | exact frac_Mul.mono _ _ _ _ _
    | exact frac_Round.mono _ _ _
    | exact frac_Sub.mono _ _ _ _ _
    | exact spykeep1_fracFact.mono _
    | exact LeO.none _
    | refine LeO.ite ?_ ?_
    | refine LeO.bind ?_ (fun _ => ?_)
  · intro y0 y1 y2 y3 y4 y5 y6 y7 y8
    unfold spykeep1_FracField.j3
    repeat' first
    | (with_reducible exact ih0 _ _ _ _ _ _ _)
    | (with_reducible exact ih1 _ _ _ _ _ _ _ _ _)
    | (with_reducible exact ih2 _ _ _ _ _ _ _ _ _ _ _ _)
    | (with_reducible exact ih3 _ _ _ _ _ _ _ _ _)
    | (with_reducible exact ih4 _ _ _ _ _)
    | (with_reducible exact frac_Add.mono _ _ _ _ _)
    | (with_reducible exact frac_Ceil.mono _ _ _)
    | (with_reducible exact frac_Cmp.mono _ _ _ _ _)
    | (with_reducible exact frac_Div.mono _ _ _ _ _)
    | (with_reducible exact frac_Floor.mono _ _ _)
    | (with_reducible exact frac_Make.mono _ _ _)
    | (with_reducible exact frac_Mul.mono _ _ _ _ _)
    | (with_reducible exact frac_Round.mono _ _ _)
    | (with_reducible exact frac_Sub.mono _ _ _ _ _)
    | (with_reducible exact spykeep1_fracFact.mono _)
    | (with_reducible exact LeO.refl _)
    | (with_reducible exact LeO.none _)
    | (with_reducible refine LeO.ite ?_ ?_)
    | (with_reducible refine LeO.bind ?_ (fun _ => ?_))
    | exact ih0 _ _ _ _ _ _ _
    | exact ih1 _ _ _ _ _ _ _ _ _
    | exact ih2 _ _ _ _ _ _ _ _ _ _ _ _
    | exact ih3 _ _ _ _ _ _ _ _ _
    | exact ih4 _ _ _ _ _
    | exact frac_Add.mono _ _ _ _ _
    | exact frac_Ceil.mono _ _ _
    | exact frac_Cmp.mono _ _ _ _ _
    | exact frac_Div.mono _ _ _ _ _
    | exact frac_Floor.mono _ _ _
    | exact frac_Make.mono _ _ _
    | exact frac_Mul.mono _ _ _ _ _
    | exact frac_Round.mono _ _ _
    | exact frac_Sub.mono _ _ _ _ _
    | exact spykeep1_fracFact.mono _
    | exact LeO.none _
    | refine LeO.ite ?_ ?_
    | refine LeO.bind ?_ (fun _ => ?_)
  · intro y0 y1 y2 y3 y4
    unfold spykeep1_FracField.j4
    repeat' first
    | (with_reducible exact ih0 _ _ _ _ _ _ _)
    | (with_reducible exact ih1 _ _ _ _ _ _ _ _ _)
    | (with_reducible exact ih2 _ _ _ _ _ _ _ _ _ _ _ _)
    | (with_reducible exact ih3 _ _ _ _ _ _ _ _ _)
    | (with_reducible exact ih4 _ _ _ _ _)
    | (with_reducible exact frac_Add.mono _ _ _ _ _)
    | (with_reducible exact frac_Ceil.mono _ _ _)
    | (with_reducible exact frac_Cmp.mono _ _ _ _ _)
    | (with_reducible exact frac_Div.mono _ _ _ _ _)
    | (with_reducible exact frac_Floor.mono _ _ _)
    | (with_reducible exact frac_Make.mono _ _ _)
    | (with_reducible exact frac_Mul.mono _ _ _ _ _)
    | (with_reducible exact frac_Round.mono _ _ _)
    | (with_reducible exact frac_Sub.mono _ _ _ _ _)
    | (with_reducible exact spykeep1_fracFact.mono _)
    | (with_reducible exact LeO.refl _)
    | (with_reducible exact LeO.none _)
    | (with_reducible refine LeO.ite ?_ ?_)
    | (with_reducible refine LeO.bind ?_ (fun _ => ?_))
    | exact ih0 _ _ _ _ _ _ _
    | exact ih1 _ _ _ _ _ _ _ _ _
    | exact ih2 _ _ _ _ _ _ _ _ _ _ _ _
    | exact ih3 _ _ _ _ _ _ _ _ _
    | exact ih4 _ _ _ _ _
    | exact frac_Add.mono _ _ _ _ _
    | exact frac_Ceil.mono _ _ _
    | exact frac_Cmp.mono _ _ _ _ _
    | exact frac_Div.mono _ _ _ _ _
    | exact frac_Floor.mono _ _ _
    | exact frac_Make.mono _ _ _
    | exact frac_Mul.mono _ _ _ _ _
    | exact frac_Round.mono _ _ _
    | exact frac_Sub.mono _ _ _ _ _
    | exact spykeep1_fracFact.mono _
    | exact LeO.none _
    | refine LeO.ite ?_ ?_
    | refine LeO.bind ?_ (fun _ => ?_)
theorem spykeep1_FracField.mono : ∀ a0 a1 a2 a3 a4 a5 k, LeO (spykeep1_FracField.f k a0 a1 a2 a3 a4 a5) (spykeep1_FracField.f (k + 1) a0 a1 a2 a3 a4 a5) := by
 intro a0 a1 a2 a3 a4 a5 k
 obtain ⟨ih0, ih1, ih2, ih3, ih4⟩ := spykeep1_FracField.mono_l k
 unfold spykeep1_FracField.f
 repeat' first
  | (with_reducible exact ih0 _ _ _ _ _ _ _)
  | (with_reducible exact ih1 _ _ _ _ _ _ _ _ _)
  | (with_reducible exact ih2 _ _ _ _ _ _ _ _ _ _ _ _)
  | (with_reducible exact ih3 _ _ _ _ _ _ _ _ _)
  | (with_reducible exact ih4 _ _ _ _ _)
  | (with_reducible exact frac_Add.mono _ _ _ _ _)
  | (with_reducible exact frac_Ceil.mono _ _ _)
  | (with_reducible exact frac_Cmp.mono _ _ _ _ _)
  | (with_reducible exact frac_Div.mono _ _ _ _ _)
  | (with_reducible exact frac_Floor.mono _ _ _)
  | (with_reducible exact frac_Make.mono _ _ _)
  | (with_reducible exact frac_Mul.mono _ _ _ _ _)
  | (with_reducible exact frac_Round.mono _ _ _)
  | (with_reducible exact frac_Sub.mono _ _ _ _ _)
  | (with_reducible exact spykeep1_fracFact.mono _)
  | (with_reducible exact LeO.refl _)
  | (with_reducible exact LeO.none _)
  | (with_reducible refine LeO.ite ?_ ?_)
  | (with_reducible refine LeO.bind ?_ (fun _ => ?_))
  | exact ih0 _ _ _ _ _ _ _
  | exact ih1 _ _ _ _ _ _ _ _ _
  | exact ih2 _ _ _ _ _ _ _ _ _ _ _ _
  | exact ih3 _ _ _ _ _ _ _ _ _
  | exact ih4 _ _ _ _ _
  | exact frac_Add.mono _ _ _ _ _
  | exact frac_Ceil.mono _ _ _
  | exact frac_Cmp.mono _ _ _ _ _
  | exact frac_Div.mono _ _ _ _ _
  | exact frac_Floor.mono _ _ _
  | exact frac_Make.mono _ _ _
  | exact frac_Mul.mono _ _ _ _ _
  | exact frac_Round.mono _ _ _
  | exact frac_Sub.mono _ _ _ _ _
  | exact spykeep1_fracFact.mono _
  | exact LeO.none _
  | refine LeO.ite ?_ ?_
  | refine LeO.bind ?_ (fun _ => ?_)
def spykeep1_FracField.T23 : Bool × List (List Nat × List Nat) := (true, [([], []), ([0], [0]), ([1], [1]), ([2], [2]), ([2], [2]), ([3, 4, 2, 2], [2, 3, 4]), ([2], [2]), ([2], [2]), ([6, 7, 5, 2], [2, 6, 7]), ([5, 8, 2], [2, 5, 8]), ([9, 8, 2], [2, 9]), ([10], [10]), ([11, 10, 10], [10, 11]), ([10], [10]), ([13, 12, 10], [10, 13]), ([12, 14, 10], [10, 12, 14]), ([10, 15, 2], [2, 10, 15]), ([16, 14, 2], [2, 16]), ([17], [17]), ([18, 17, 17], [17, 18]), ([17], [17]), ([20, 19, 17], [17, 20]), ([19, 21, 17], [17, 19, 21]), ([17, 22, 2], [2, 17, 22]), ([2, 23], [2, 23]), ([24, 21, 0, 1, 2, 3, 4, 5, 6, 7, 8, 9, 10, 11, 12, 13, 14, 15, 16, 17, 18, 19, 20, 21, 22, 23, 24], [24])])
def spykeep1_FracField.B23 : List Nat := [0, 1, 3, 7, 7, 31, 7, 7, 255, 511, 1023, 2047, 4095, 2047, 16383, 32767, 65535, 131071, 262143, 524287, 262143, 2097151, 4194303, 8388607, 16777215, 33554431]
theorem spykeep1_FracField.tab23 : rtab .any (opsOf Try.f9 23) = spykeep1_FracField.T23 := by kernel_rfl
theorem spykeep1_FracField.bits23 : waitsOk spykeep1_FracField.T23.2 spykeep1_FracField.B23 = true := by kernel_rfl
set_option maxHeartbeats 8000000 in
set_option maxRecDepth 100000 in
theorem spykeep1_FracField.calls (k : Nat) (a0 : Int) (a1 : Int) (a2 : Int) (a3 : Int) (a4 : Int) (a5 : Int) (r : Bool) (w : World) (h : spykeep1_FracField.f k a0 a1 a2 a3 a4 a5 = some r) :
 Calls Try.prog 9 #[.int .i64 a0, .int .i64 a1, .int .i64 a2, .int .i64 a3, .int .i64 a4, .int .i64 a5] w fun e w' => e = .returned (.bool r) ∧ Below w.heap.size w w' := by
 have hu77 := Try.underlying77
 have HB := Aside0.mk (Below.refl w.heap.size w)
 have H : ((frac_Make.f k a0 a1).bind fun bt101 => ((frac_Make.f k a2 a3).bind fun bt105 => ((frac_Make.f k a4 a5).bind fun bt109 => ((spykeep1_fracFact.f k).bind fun t113 => (if t113 = true then (if bt101.2.2 = 0 then (if bt105.2.2 = 0 then (spykeep1_FracField.j0 k (bt109.2.2 != 0) bt101.1 bt101.2.1 bt105.1 bt105.2.1 bt109.1 bt109.2.1) else (spykeep1_FracField.j0 k true bt101.1 bt101.2.1 bt105.1 bt105.2.1 bt109.1 bt109.2.1)) else (spykeep1_FracField.j0 k true bt101.1 bt101.2.1 bt105.1 bt105.2.1 bt109.1 bt109.2.1)) else (spykeep1_FracField.j0 k true bt101.1 bt101.2.1 bt105.1 bt105.2.1 bt109.1 bt109.2.1)))))) = some r := h
 clear h
 replace H := Option.bind_eq_some_iff.mp H
 obtain ⟨⟨t101, t102, t103⟩, A70, H⟩ := H
 replace H : ((frac_Make.f k a2 a3).bind fun bt105 => ((frac_Make.f k a4 a5).bind fun bt109 => ((spykeep1_fracFact.f k).bind fun t113 => (if t113 = true then (if t103 = 0 then (if bt105.2.2 = 0 then (spykeep1_FracField.j0 k (bt109.2.2 != 0) t101 t102 bt105.1 bt105.2.1 bt109.1 bt109.2.1) else (spykeep1_FracField.j0 k true t101 t102 bt105.1 bt105.2.1 bt109.1 bt109.2.1)) else (spykeep1_FracField.j0 k true t101 t102 bt105.1 bt105.2.1 bt109.1 bt109.2.1)) else (spykeep1_FracField.j0 k true t101 t102 bt105.1 bt105.2.1 bt109.1 bt109.2.1))))) = some r := H
 have A7 := Aside0.mk A70
 clear A70
 replace H := Option.bind_eq_some_iff.mp H
 obtain ⟨⟨t105, t106, t107⟩, A80, H⟩ := H
 replace H : ((frac_Make.f k a4 a5).bind fun bt109 => ((spykeep1_fracFact.f k).bind fun t113 => (if t113 = true then (if t103 = 0 then (if t107 = 0 then (spykeep1_FracField.j0 k (bt109.2.2 != 0) t101 t102 t105 t106 bt109.1 bt109.2.1) else (spykeep1_FracField.j0 k true t101 t102 t105 t106 bt109.1 bt109.2.1)) else (spykeep1_FracField.j0 k true t101 t102 t105 t106 bt109.1 bt109.2.1)) else (spykeep1_FracField.j0 k true t101 t102 t105 t106 bt109.1 bt109.2.1)))) = some r := H
 have A8 := Aside0.mk A80
 clear A80
 replace H := Option.bind_eq_some_iff.mp H
 obtain ⟨⟨t109, t110, t111⟩, A90, H⟩ := H
 replace H : ((spykeep1_fracFact.f k).bind fun t113 => (if t113 = true then (if t103 = 0 then (if t107 = 0 then (spykeep1_FracField.j0 k (t111 != 0) t101 t102 t105 t106 t109 t110) else (spykeep1_FracField.j0 k true t101 t102 t105 t106 t109 t110)) else (spykeep1_FracField.j0 k true t101 t102 t105 t106 t109 t110)) else (spykeep1_FracField.j0 k true t101 t102 t105 t106 t109 t110))) = some r := H
 have A9 := Aside0.mk A90
 clear A90
 have HC10 := Aside0.mk H
 clear H
 go_enter Try.func9, Try.ntmps9
 go_upto_region 4 with (first | ((with_reducible refine gate_callee (f := 50) rfl ?_); refine goesL_ (some 36) rfl rfl Try.func50 (by kernel_rfl) rfl #[.int .i64 a0, .int .i64 a1] rfl (by (try simp only [List.map_toArray, List.map_cons, List.map_nil]); first | done | rfl | (simp only [List.length_drop, List.length_take]; rfl)) ?_; (with_reducible refine (frac_Make.calls k a0 a1 t101 t102 t103 _ A7.out).mono ?_); rintro e w11 ⟨rfl, hb⟩; refine ⟨_, rfl, ?_⟩; have n0_ := Aside0.mk (below_step (by repeat (first | (with_reducible first | exact HB.out | apply below_alloc | apply pw_below_drewN | apply below_drew1) | exact HB.out)) hb); clear HB; have HB := n0_; clear n0_; (try clear hb); (try clear hb2); (try clear hk); (try clear hi)) | ((with_reducible refine gate_dst (N := 13) rfl ?_); refine box_event ?hg (N := 13) ?hd (cs := #[.int .i64 0, .int .i64 0]) (t := 77) ?hr ?_; (case hd => rfl); (case hg => rfl); (case hr => first | (go_simp; done) | (go_simp; rfl)); intro gb104 hg w12 hbox hb; have n0_ := Aside0.mk (below_step (by repeat (first | (with_reducible first | exact HB.out | apply below_alloc | apply pw_below_drewN | apply below_drew1) | exact HB.out)) hb); have n1_ := Aside0.mk (hbox); have n2_ := Aside0.mk ((by rw [hg]; exact (below_size (by repeat (first | (with_reducible first | exact HB.out | apply below_alloc | apply pw_below_drewN | apply below_drew1) | exact HB.out))) : w.heap.size ≤ gb104)); have n3_ := n2_; clear HB; have HB := n0_; have BK104 := n1_; have GW104 := n2_; have GE104 := n3_; clear n0_ n1_ n2_ n3_; clear hb hbox hg; have hcz13_0 : w12.cell? ⟨gb104, 0, none⟩ = some (.int .i64 0) := (blk_cell BK104.out 0).trans rfl; have hcz13_1 : w12.cell? ⟨gb104, 1, none⟩ = some (.int .i64 0) := (blk_cell BK104.out 1).trans rfl; have hfz13_0 := blk_frozen BK104.out 0; have hfz13_1 := blk_frozen BK104.out 1) | ((with_reducible refine gate_callee (f := 50) rfl ?_); refine goesL_ (some 42) rfl rfl Try.func50 (by kernel_rfl) rfl #[.int .i64 a2, .int .i64 a3] rfl (by (try simp only [List.map_toArray, List.map_cons, List.map_nil]); first | done | rfl | (simp only [List.length_drop, List.length_take]; rfl)) ?_; (with_reducible refine (frac_Make.calls k a2 a3 t105 t106 t107 _ A8.out).mono ?_); rintro e w14 ⟨rfl, hb⟩; refine ⟨_, rfl, ?_⟩; have n0_ := Aside0.mk (blk_below (g := gb104) (o := .cells #[.int .i64 t101, .int .i64 t102] 77 (0, 0)) (by (with_reducible repeat (first | refine blk_drewN ?_ _ | refine blk_drew ?_ | refine blk_alloc ?_ _)); refine blk_put (cs := #[.int .i64 t101, .int .i64 0]) ?_ 1 _ rfl; (with_reducible repeat (first | refine blk_drewN ?_ _ | refine blk_drew ?_ | refine blk_alloc ?_ _)); refine blk_put (cs := #[.int .i64 0, .int .i64 0]) ?_ 0 _ rfl; (with_reducible repeat (first | refine blk_drewN ?_ _ | refine blk_drew ?_ | refine blk_alloc ?_ _)); exact BK104.out) hb); have n1_ := Aside0.mk (below_step (by repeat (first | (with_reducible first | exact HB.out | apply below_alloc | apply pw_below_drewN | apply below_drew1 | refine below_set ?_ GE104.out) | exact HB.out)) hb); clear BK104; clear HB; have BK104 := n0_; have HB := n1_; clear n0_ n1_; (try clear hb); (try clear hb2); (try clear hk); (try clear hi)) | ((with_reducible refine gate_dst (N := 15) rfl ?_); refine box_event ?hg (N := 15) ?hd (cs := #[.int .i64 0, .int .i64 0]) (t := 77) ?hr ?_; (case hd => rfl); (case hg => rfl); (case hr => first | (go_simp; done) | (go_simp; rfl)); intro gb108 hg w15 hbox hb; have n0_ := bkb_ BK104 hb rfl; have n1_ := hbs_ HB hb rfl rfl rfl rfl; have n2_ := Aside0.mk (hbox); have n3_ := Aside0.mk ((by rw [hg]; exact (below_size (by repeat (first | (with_reducible first | exact HB.out | apply below_alloc | apply pw_below_drewN | apply below_drew1 | refine below_set ?_ GE104.out) | exact HB.out))) : w.heap.size ≤ gb108)); have n4_ := n3_; have n5_ := nbl_ BK104 hg rfl; have n6_ := nbg_ BK104 hg rfl; clear BK104; clear HB; have BK104 := n0_; have HB := n1_; have BK108 := n2_; have GW108 := n3_; have GE108 := n4_; have NB104_108 := n5_; have NB108_104 := n6_; clear n0_ n1_ n2_ n3_ n4_ n5_ n6_; clear hb hbox hg; have hnb16 := NB108_104.out; have hnc16 := NB104_108.out; have hcz17_0 : w15.cell? ⟨gb108, 0, none⟩ = some (.int .i64 0) := (blk_cell BK108.out 0).trans rfl; have hcz17_1 : w15.cell? ⟨gb108, 1, none⟩ = some (.int .i64 0) := (blk_cell BK108.out 1).trans rfl; have hfz17_0 := blk_frozen BK108.out 0; have hfz17_1 := blk_frozen BK108.out 1) | ((with_reducible refine gate_callee (f := 50) rfl ?_); refine goesL_ (some 48) rfl rfl Try.func50 (by kernel_rfl) rfl #[.int .i64 a4, .int .i64 a5] rfl (by (try simp only [List.map_toArray, List.map_cons, List.map_nil]); first | done | rfl | (simp only [List.length_drop, List.length_take]; rfl)) ?_; (with_reducible refine (frac_Make.calls k a4 a5 t109 t110 t111 _ A9.out).mono ?_); rintro e w18 ⟨rfl, hb⟩; refine ⟨_, rfl, ?_⟩; have n0_ := Aside0.mk (blk_below (g := gb104) (o := .cells #[.int .i64 t101, .int .i64 t102] 77 (0, 0)) (by (with_reducible repeat (first | refine blk_drewN ?_ _ | refine blk_drew ?_ | refine blk_alloc ?_ _)); refine blk_far ?_ NB104_108.out _; (with_reducible repeat (first | refine blk_drewN ?_ _ | refine blk_drew ?_ | refine blk_alloc ?_ _)); refine blk_far ?_ NB104_108.out _; (with_reducible repeat (first | refine blk_drewN ?_ _ | refine blk_drew ?_ | refine blk_alloc ?_ _)); exact BK104.out) hb); have n1_ := Aside0.mk (blk_below (g := gb108) (o := .cells #[.int .i64 t105, .int .i64 t106] 77 (0, 0)) (by (with_reducible repeat (first | refine blk_drewN ?_ _ | refine blk_drew ?_ | refine blk_alloc ?_ _)); refine blk_put (cs := #[.int .i64 t105, .int .i64 0]) ?_ 1 _ rfl; (with_reducible repeat (first | refine blk_drewN ?_ _ | refine blk_drew ?_ | refine blk_alloc ?_ _)); refine blk_put (cs := #[.int .i64 0, .int .i64 0]) ?_ 0 _ rfl; (with_reducible repeat (first | refine blk_drewN ?_ _ | refine blk_drew ?_ | refine blk_alloc ?_ _)); exact BK108.out) hb); have n2_ := Aside0.mk (below_step (by repeat (first | (with_reducible first | exact HB.out | apply below_alloc | apply pw_below_drewN | apply below_drew1 | refine below_set ?_ GE104.out | refine below_set ?_ GE108.out) | exact HB.out)) hb); clear BK104; clear BK108; clear HB; have BK104 := n0_; have BK108 := n1_; have HB := n2_; clear n0_ n1_ n2_; (try clear hb); (try clear hb2); (try clear hk); (try clear hi)) | ((with_reducible refine gate_dst (N := 17) rfl ?_); refine box_event ?hg (N := 17) ?hd (cs := #[.int .i64 0, .int .i64 0]) (t := 77) ?hr ?_; (case hd => rfl); (case hg => rfl); (case hr => first | (go_simp; done) | (go_simp; rfl)); intro gb112 hg w19 hbox hb; have n0_ := bkb_ BK104 hb rfl; have n1_ := bkb_ BK108 hb rfl; have n2_ := hbs_ HB hb rfl rfl rfl rfl; have n3_ := Aside0.mk (hbox); have n4_ := Aside0.mk ((by rw [hg]; exact (below_size (by repeat (first | (with_reducible first | exact HB.out | apply below_alloc | apply pw_below_drewN | apply below_drew1 | refine below_set ?_ GE104.out | refine below_set ?_ GE108.out) | exact HB.out))) : w.heap.size ≤ gb112)); have n5_ := n4_; have n6_ := nbl_ BK104 hg rfl; have n7_ := nbg_ BK104 hg rfl; have n8_ := nbl_ BK108 hg rfl; have n9_ := nbg_ BK108 hg rfl; clear BK104; clear BK108; clear HB; have BK104 := n0_; have BK108 := n1_; have HB := n2_; have BK112 := n3_; have GW112 := n4_; have GE112 := n5_; have NB104_112 := n6_; have NB112_104 := n7_; have NB108_112 := n8_; have NB112_108 := n9_; clear n0_ n1_ n2_ n3_ n4_ n5_ n6_ n7_ n8_ n9_; clear hb hbox hg; have hnb20 := NB112_104.out; have hnc20 := NB104_112.out; have hnb21 := NB112_108.out; have hnc21 := NB108_112.out; have hcz22_0 : w19.cell? ⟨gb112, 0, none⟩ = some (.int .i64 0) := (blk_cell BK112.out 0).trans rfl; have hcz22_1 : w19.cell? ⟨gb112, 1, none⟩ = some (.int .i64 0) := (blk_cell BK112.out 1).trans rfl; have hfz22_0 := blk_frozen BK112.out 0; have hfz22_1 := blk_frozen BK112.out 1))
 (try simp only [Act.put, List.setIfInBounds_toArray, List.set_cons_zero, List.set_cons_succ])
 go_cut [64] (fun v64 wc => ∃ (kq : Nat) (x64_9 : Bool), v64 = .bool x64_9 ∧ Aside0 (spykeep1_FracField.j0 kq x64_9 t101 t102 t105 t106 t109 t110 = some r) ∧ Aside0 (kq ≤ k) ∧ Aside0 (wc.heap[gb104]? = some (.cells #[.int .i64 t101, .int .i64 t102] 77 (0, 0))) ∧ Aside0 (wc.heap[gb108]? = some (.cells #[.int .i64 t105, .int .i64 t106] 77 (0, 0))) ∧ Aside0 (wc.heap[gb112]? = some (.cells #[.int .i64 t109, .int .i64 t110] 77 (0, 0))) ∧ Aside0 (Below w.heap.size w wc))
 case first => as_aux_lemma =>
  have H := HC10.out
  clear HC10
  replace H := Option.bind_eq_some_iff.mp H
  obtain ⟨t113, A230, H⟩ := H
  replace H : (if t113 = true then (if t103 = 0 then (if t107 = 0 then (spykeep1_FracField.j0 k (t111 != 0) t101 t102 t105 t106 t109 t110) else (spykeep1_FracField.j0 k true t101 t102 t105 t106 t109 t110)) else (spykeep1_FracField.j0 k true t101 t102 t105 t106 t109 t110)) else (spykeep1_FracField.j0 k true t101 t102 t105 t106 t109 t110)) = some r := H
  have A23 := Aside0.mk A230
  clear A230
  by_cases c24 : t113 = true
  · subst c24
    have H1 : (if t103 = 0 then (if t107 = 0 then (spykeep1_FracField.j0 k (t111 != 0) t101 t102 t105 t106 t109 t110) else (spykeep1_FracField.j0 k true t101 t102 t105 t106 t109 t110)) else (spykeep1_FracField.j0 k true t101 t102 t105 t106 t109 t110)) = some r := by rw [if_pos rfl] at H; exact H
    clear H
    have H := H1
    clear H1
    by_cases c25 : t103 = 0
    · rw [if_pos c25] at H
      have c25b0 : (t103 == 0) = true := beq_iff_eq.mpr c25
      have c25b1 : (t103 != 0) = false := bne_eq_false_iff_eq.mpr c25
      clear c25
      (first | rw [c25b0] | (simp only [i64_w, i32_w]; rw [c25b0]) | skip)
      by_cases c26 : t107 = 0
      · rw [if_pos c26] at H
        have c26b0 : (t107 == 0) = true := beq_iff_eq.mpr c26
        have c26b1 : (t107 != 0) = false := bne_eq_false_iff_eq.mpr c26
        clear c26
        have H' := Aside0.mk H
        clear H
        go_wp2_with (first | ((with_reducible refine gate_callee (f := 51) rfl ?_); refine goesL_ (some 51) rfl rfl Try.func51 (by kernel_rfl) rfl #[] rfl (by (try simp only [List.map_toArray, List.map_cons, List.map_nil]); first | done | rfl | (simp only [List.length_drop, List.length_take]; rfl)) ?_; (with_reducible refine (spykeep1_fracFact.calls k  true _ A23.out).mono ?_); rintro e w27 ⟨rfl, hb⟩; refine ⟨_, rfl, ?_⟩; have n0_ := Aside0.mk (blk_below (g := gb104) (o := .cells #[.int .i64 t101, .int .i64 t102] 77 (0, 0)) (by (with_reducible repeat (first | refine blk_drewN ?_ _ | refine blk_drew ?_ | refine blk_alloc ?_ _)); refine blk_far ?_ NB104_112.out _; (with_reducible repeat (first | refine blk_drewN ?_ _ | refine blk_drew ?_ | refine blk_alloc ?_ _)); refine blk_far ?_ NB104_112.out _; (with_reducible repeat (first | refine blk_drewN ?_ _ | refine blk_drew ?_ | refine blk_alloc ?_ _)); exact BK104.out) hb); have n1_ := Aside0.mk (blk_below (g := gb108) (o := .cells #[.int .i64 t105, .int .i64 t106] 77 (0, 0)) (by (with_reducible repeat (first | refine blk_drewN ?_ _ | refine blk_drew ?_ | refine blk_alloc ?_ _)); refine blk_far ?_ NB108_112.out _; (with_reducible repeat (first | refine blk_drewN ?_ _ | refine blk_drew ?_ | refine blk_alloc ?_ _)); refine blk_far ?_ NB108_112.out _; (with_reducible repeat (first | refine blk_drewN ?_ _ | refine blk_drew ?_ | refine blk_alloc ?_ _)); exact BK108.out) hb); have n2_ := Aside0.mk (blk_below (g := gb112) (o := .cells #[.int .i64 t109, .int .i64 t110] 77 (0, 0)) (by (with_reducible repeat (first | refine blk_drewN ?_ _ | refine blk_drew ?_ | refine blk_alloc ?_ _)); refine blk_put (cs := #[.int .i64 t109, .int .i64 0]) ?_ 1 _ rfl; (with_reducible repeat (first | refine blk_drewN ?_ _ | refine blk_drew ?_ | refine blk_alloc ?_ _)); refine blk_put (cs := #[.int .i64 0, .int .i64 0]) ?_ 0 _ rfl; (with_reducible repeat (first | refine blk_drewN ?_ _ | refine blk_drew ?_ | refine blk_alloc ?_ _)); exact BK112.out) hb); have n3_ := Aside0.mk (below_step (by repeat (first | (with_reducible first | exact HB.out | apply below_alloc | apply pw_below_drewN | apply below_drew1 | refine below_set ?_ GE104.out | refine below_set ?_ GE108.out | refine below_set ?_ GE112.out) | exact HB.out)) hb); clear BK104; clear BK108; clear BK112; clear HB; have BK104 := n0_; have BK108 := n1_; have BK112 := n2_; have HB := n3_; clear n0_ n1_ n2_ n3_; (try clear hb); (try clear hb2); (try clear hk); (try clear hi)))
        go_meet
        case rel => exact ⟨_, ((t111 != 0)), (by first | rfl | (simp; done) | (simp [*]; done)), H', ⟨by first | omega | exact Nat.le_refl _⟩, ⟨by (with_reducible repeat (first | refine blk_drewN ?_ _ | refine blk_drew ?_ | refine blk_alloc ?_ _)); exact BK104.out⟩, ⟨by (with_reducible repeat (first | refine blk_drewN ?_ _ | refine blk_drew ?_ | refine blk_alloc ?_ _)); exact BK108.out⟩, ⟨by (with_reducible repeat (first | refine blk_drewN ?_ _ | refine blk_drew ?_ | refine blk_alloc ?_ _)); exact BK112.out⟩, ⟨by repeat (first | (with_reducible first | exact HB.out | apply below_alloc | apply pw_below_drewN | apply below_drew1 | refine below_set ?_ GE104.out | refine below_set ?_ GE108.out | refine below_set ?_ GE112.out) | exact HB.out)⟩⟩
      · rw [if_neg c26] at H
        have c26b0 : (t107 == 0) = false := beq_eq_false_iff_ne.mpr c26
        have c26b1 : (t107 != 0) = true := bne_iff_ne.mpr c26
        have H' := Aside0.mk H
        clear H
        go_wp2_with (first | ((with_reducible refine gate_callee (f := 51) rfl ?_); refine goesL_ (some 51) rfl rfl Try.func51 (by kernel_rfl) rfl #[] rfl (by (try simp only [List.map_toArray, List.map_cons, List.map_nil]); first | done | rfl | (simp only [List.length_drop, List.length_take]; rfl)) ?_; (with_reducible refine (spykeep1_fracFact.calls k  true _ A23.out).mono ?_); rintro e w28 ⟨rfl, hb⟩; refine ⟨_, rfl, ?_⟩; have n0_ := Aside0.mk (blk_below (g := gb104) (o := .cells #[.int .i64 t101, .int .i64 t102] 77 (0, 0)) (by (with_reducible repeat (first | refine blk_drewN ?_ _ | refine blk_drew ?_ | refine blk_alloc ?_ _)); refine blk_far ?_ NB104_112.out _; (with_reducible repeat (first | refine blk_drewN ?_ _ | refine blk_drew ?_ | refine blk_alloc ?_ _)); refine blk_far ?_ NB104_112.out _; (with_reducible repeat (first | refine blk_drewN ?_ _ | refine blk_drew ?_ | refine blk_alloc ?_ _)); exact BK104.out) hb); have n1_ := Aside0.mk (blk_below (g := gb108) (o := .cells #[.int .i64 t105, .int .i64 t106] 77 (0, 0)) (by (with_reducible repeat (first | refine blk_drewN ?_ _ | refine blk_drew ?_ | refine blk_alloc ?_ _)); refine blk_far ?_ NB108_112.out _; (with_reducible repeat (first | refine blk_drewN ?_ _ | refine blk_drew ?_ | refine blk_alloc ?_ _)); refine blk_far ?_ NB108_112.out _; (with_reducible repeat (first | refine blk_drewN ?_ _ | refine blk_drew ?_ | refine blk_alloc ?_ _)); exact BK108.out) hb); have n2_ := Aside0.mk (blk_below (g := gb112) (o := .cells #[.int .i64 t109, .int .i64 t110] 77 (0, 0)) (by (with_reducible repeat (first | refine blk_drewN ?_ _ | refine blk_drew ?_ | refine blk_alloc ?_ _)); refine blk_put (cs := #[.int .i64 t109, .int .i64 0]) ?_ 1 _ rfl; (with_reducible repeat (first | refine blk_drewN ?_ _ | refine blk_drew ?_ | refine blk_alloc ?_ _)); refine blk_put (cs := #[.int .i64 0, .int .i64 0]) ?_ 0 _ rfl; (with_reducible repeat (first | refine blk_drewN ?_ _ | refine blk_drew ?_ | refine blk_alloc ?_ _)); exact BK112.out) hb); have n3_ := Aside0.mk (below_step (by repeat (first | (with_reducible first | exact HB.out | apply below_alloc | apply pw_below_drewN | apply below_drew1 | refine below_set ?_ GE104.out | refine below_set ?_ GE108.out | refine below_set ?_ GE112.out) | exact HB.out)) hb); clear BK104; clear BK108; clear BK112; clear HB; have BK104 := n0_; have BK108 := n1_; have BK112 := n2_; have HB := n3_; clear n0_ n1_ n2_ n3_; (try clear hb); (try clear hb2); (try clear hk); (try clear hi)))
        go_meet
        case rel => exact ⟨_, (true), (by first | rfl | (simp; done) | (simp [*]; done)), H', ⟨by first | omega | exact Nat.le_refl _⟩, ⟨by (with_reducible repeat (first | refine blk_drewN ?_ _ | refine blk_drew ?_ | refine blk_alloc ?_ _)); exact BK104.out⟩, ⟨by (with_reducible repeat (first | refine blk_drewN ?_ _ | refine blk_drew ?_ | refine blk_alloc ?_ _)); exact BK108.out⟩, ⟨by (with_reducible repeat (first | refine blk_drewN ?_ _ | refine blk_drew ?_ | refine blk_alloc ?_ _)); exact BK112.out⟩, ⟨by repeat (first | (with_reducible first | exact HB.out | apply below_alloc | apply pw_below_drewN | apply below_drew1 | refine below_set ?_ GE104.out | refine below_set ?_ GE108.out | refine below_set ?_ GE112.out) | exact HB.out)⟩⟩
    · rw [if_neg c25] at H
      have c25b0 : (t103 == 0) = false := beq_eq_false_iff_ne.mpr c25
      have c25b1 : (t103 != 0) = true := bne_iff_ne.mpr c25
      (first | rw [c25b0] | (simp only [i64_w, i32_w]; rw [c25b0]) | skip)
      have H' := Aside0.mk H
      clear H
      go_wp2_with (first | ((with_reducible refine gate_callee (f := 51) rfl ?_); refine goesL_ (some 51) rfl rfl Try.func51 (by kernel_rfl) rfl #[] rfl (by (try simp only [List.map_toArray, List.map_cons, List.map_nil]); first | done | rfl | (simp only [List.length_drop, List.length_take]; rfl)) ?_; (with_reducible refine (spykeep1_fracFact.calls k  true _ A23.out).mono ?_); rintro e w29 ⟨rfl, hb⟩; refine ⟨_, rfl, ?_⟩; have n0_ := Aside0.mk (blk_below (g := gb104) (o := .cells #[.int .i64 t101, .int .i64 t102] 77 (0, 0)) (by (with_reducible repeat (first | refine blk_drewN ?_ _ | refine blk_drew ?_ | refine blk_alloc ?_ _)); refine blk_far ?_ NB104_112.out _; (with_reducible repeat (first | refine blk_drewN ?_ _ | refine blk_drew ?_ | refine blk_alloc ?_ _)); refine blk_far ?_ NB104_112.out _; (with_reducible repeat (first | refine blk_drewN ?_ _ | refine blk_drew ?_ | refine blk_alloc ?_ _)); exact BK104.out) hb); have n1_ := Aside0.mk (blk_below (g := gb108) (o := .cells #[.int .i64 t105, .int .i64 t106] 77 (0, 0)) (by (with_reducible repeat (first | refine blk_drewN ?_ _ | refine blk_drew ?_ | refine blk_alloc ?_ _)); refine blk_far ?_ NB108_112.out _; (with_reducible repeat (first | refine blk_drewN ?_ _ | refine blk_drew ?_ | refine blk_alloc ?_ _)); refine blk_far ?_ NB108_112.out _; (with_reducible repeat (first | refine blk_drewN ?_ _ | refine blk_drew ?_ | refine blk_alloc ?_ _)); exact BK108.out) hb); have n2_ := Aside0.mk (blk_below (g := gb112) (o := .cells #[.int .i64 t109, .int .i64 t110] 77 (0, 0)) (by (with_reducible repeat (first | refine blk_drewN ?_ _ | refine blk_drew ?_ | refine blk_alloc ?_ _)); refine blk_put (cs := #[.int .i64 t109, .int .i64 0]) ?_ 1 _ rfl; (with_reducible repeat (first | refine blk_drewN ?_ _ | refine blk_drew ?_ | refine blk_alloc ?_ _)); refine blk_put (cs := #[.int .i64 0, .int .i64 0]) ?_ 0 _ rfl; (with_reducible repeat (first | refine blk_drewN ?_ _ | refine blk_drew ?_ | refine blk_alloc ?_ _)); exact BK112.out) hb); have n3_ := Aside0.mk (below_step (by repeat (first | (with_reducible first | exact HB.out | apply below_alloc | apply pw_below_drewN | apply below_drew1 | refine below_set ?_ GE104.out | refine below_set ?_ GE108.out | refine below_set ?_ GE112.out) | exact HB.out)) hb); clear BK104; clear BK108; clear BK112; clear HB; have BK104 := n0_; have BK108 := n1_; have BK112 := n2_; have HB := n3_; clear n0_ n1_ n2_ n3_; (try clear hb); (try clear hb2); (try clear hk); (try clear hi)))
      go_meet
      case rel => exact ⟨_, (true), (by first | rfl | (simp; done) | (simp [*]; done)), H', ⟨by first | omega | exact Nat.le_refl _⟩, ⟨by (with_reducible repeat (first | refine blk_drewN ?_ _ | refine blk_drew ?_ | refine blk_alloc ?_ _)); exact BK104.out⟩, ⟨by (with_reducible repeat (first | refine blk_drewN ?_ _ | refine blk_drew ?_ | refine blk_alloc ?_ _)); exact BK108.out⟩, ⟨by (with_reducible repeat (first | refine blk_drewN ?_ _ | refine blk_drew ?_ | refine blk_alloc ?_ _)); exact BK112.out⟩, ⟨by repeat (first | (with_reducible first | exact HB.out | apply below_alloc | apply pw_below_drewN | apply below_drew1 | refine below_set ?_ GE104.out | refine below_set ?_ GE108.out | refine below_set ?_ GE112.out) | exact HB.out)⟩⟩
  · replace c24 := Bool.eq_false_iff.mpr c24
    subst c24
    have H1 : (spykeep1_FracField.j0 k true t101 t102 t105 t106 t109 t110) = some r := by rw [if_neg (show ¬ (false = true) by decide)] at H; exact H
    clear H
    have H := H1
    clear H1
    have H' := Aside0.mk H
    clear H
    go_wp2_with (first | ((with_reducible refine gate_callee (f := 51) rfl ?_); refine goesL_ (some 51) rfl rfl Try.func51 (by kernel_rfl) rfl #[] rfl (by (try simp only [List.map_toArray, List.map_cons, List.map_nil]); first | done | rfl | (simp only [List.length_drop, List.length_take]; rfl)) ?_; (with_reducible refine (spykeep1_fracFact.calls k  false _ A23.out).mono ?_); rintro e w30 ⟨rfl, hb⟩; refine ⟨_, rfl, ?_⟩; have n0_ := Aside0.mk (blk_below (g := gb104) (o := .cells #[.int .i64 t101, .int .i64 t102] 77 (0, 0)) (by (with_reducible repeat (first | refine blk_drewN ?_ _ | refine blk_drew ?_ | refine blk_alloc ?_ _)); refine blk_far ?_ NB104_112.out _; (with_reducible repeat (first | refine blk_drewN ?_ _ | refine blk_drew ?_ | refine blk_alloc ?_ _)); refine blk_far ?_ NB104_112.out _; (with_reducible repeat (first | refine blk_drewN ?_ _ | refine blk_drew ?_ | refine blk_alloc ?_ _)); exact BK104.out) hb); have n1_ := Aside0.mk (blk_below (g := gb108) (o := .cells #[.int .i64 t105, .int .i64 t106] 77 (0, 0)) (by (with_reducible repeat (first | refine blk_drewN ?_ _ | refine blk_drew ?_ | refine blk_alloc ?_ _)); refine blk_far ?_ NB108_112.out _; (with_reducible repeat (first | refine blk_drewN ?_ _ | refine blk_drew ?_ | refine blk_alloc ?_ _)); refine blk_far ?_ NB108_112.out _; (with_reducible repeat (first | refine blk_drewN ?_ _ | refine blk_drew ?_ | refine blk_alloc ?_ _)); exact BK108.out) hb); have n2_ := Aside0.mk (blk_below (g := gb112) (o := .cells #[.int .i64 t109, .int .i64 t110] 77 (0, 0)) (by (with_reducible repeat (first | refine blk_drewN ?_ _ | refine blk_drew ?_ | refine blk_alloc ?_ _)); refine blk_put (cs := #[.int .i64 t109, .int .i64 0]) ?_ 1 _ rfl; (with_reducible repeat (first | refine blk_drewN ?_ _ | refine blk_drew ?_ | refine blk_alloc ?_ _)); refine blk_put (cs := #[.int .i64 0, .int .i64 0]) ?_ 0 _ rfl; (with_reducible repeat (first | refine blk_drewN ?_ _ | refine blk_drew ?_ | refine blk_alloc ?_ _)); exact BK112.out) hb); have n3_ := Aside0.mk (below_step (by repeat (first | (with_reducible first | exact HB.out | apply below_alloc | apply pw_below_drewN | apply below_drew1 | refine below_set ?_ GE104.out | refine below_set ?_ GE108.out | refine below_set ?_ GE112.out) | exact HB.out)) hb); clear BK104; clear BK108; clear BK112; clear HB; have BK104 := n0_; have BK108 := n1_; have BK112 := n2_; have HB := n3_; clear n0_ n1_ n2_ n3_; (try clear hb); (try clear hb2); (try clear hk); (try clear hi)))
    go_meet
    case rel => exact ⟨_, (true), (by first | rfl | (simp; done) | (simp [*]; done)), H', ⟨by first | omega | exact Nat.le_refl _⟩, ⟨by (with_reducible repeat (first | refine blk_drewN ?_ _ | refine blk_drew ?_ | refine blk_alloc ?_ _)); exact BK104.out⟩, ⟨by (with_reducible repeat (first | refine blk_drewN ?_ _ | refine blk_drew ?_ | refine blk_alloc ?_ _)); exact BK108.out⟩, ⟨by (with_reducible repeat (first | refine blk_drewN ?_ _ | refine blk_drew ?_ | refine blk_alloc ?_ _)); exact BK112.out⟩, ⟨by repeat (first | (with_reducible first | exact HB.out | apply below_alloc | apply pw_below_drewN | apply below_drew1 | refine below_set ?_ GE104.out | refine below_set ?_ GE108.out | refine below_set ?_ GE112.out) | exact HB.out)⟩⟩
 case rest => as_aux_lemma =>
  clear HC10
  obtain ⟨kq, x64_9, rfl, HA, HJ9, BK104, BK108, BK112, HB⟩ := hcut
  cases kq with
  | zero => exact absurd HA.out (by simp [spykeep1_FracField.j0])
  | succ kj9 =>
   have H := HA.out
   clear HA
   simp only [spykeep1_FracField.j0] at H
   by_cases c31 : x64_9 = true
   · subst c31
     have H1 : ((spykeep1_fracFact.f kj9).bind fun t114 => (some t114)) = some r := by rw [if_pos rfl] at H; exact H
     clear H
     have H := H1
     clear H1
     replace H := Option.bind_eq_some_iff.mp H
     obtain ⟨t114, A320, H⟩ := H
     replace H : (some t114) = some r := H
     have A32 := Aside0.mk A320
     clear A320
     obtain rfl := Option.some.inj H
     go_wp2_with (first | ((with_reducible refine gate_callee (f := 51) rfl ?_); refine goesL_ (some 65) rfl rfl Try.func51 (by kernel_rfl) rfl #[] rfl (by (try simp only [List.map_toArray, List.map_cons, List.map_nil]); first | done | rfl | (simp only [List.length_drop, List.length_take]; rfl)) ?_; (with_reducible refine (spykeep1_fracFact.calls kj9  t114 _ A32.out).mono ?_); rintro e w33 ⟨rfl, hb⟩; refine ⟨_, rfl, ?_⟩; have n0_ := bkb_ BK104 hb rfl; have n1_ := bkb_ BK108 hb rfl; have n2_ := bkb_ BK112 hb rfl; have n3_ := hbs_ HB hb rfl rfl rfl rfl; clear BK104; clear BK108; clear BK112; clear HB; have BK104 := n0_; have BK108 := n1_; have BK112 := n2_; have HB := n3_; clear n0_ n1_ n2_ n3_; (try clear hb); (try clear hb2); (try clear hk); (try clear hi)))
     go_ret
     exact ⟨by first | rfl | (simp [errW_none, errW_some] <;> rfl) | (simp [*, errW_none, errW_some] <;> rfl), by repeat (first | (with_reducible first | exact HB.out | apply below_alloc | apply pw_below_drewN | apply below_drew1 | refine below_set ?_ GE104.out | refine below_set ?_ GE108.out | refine below_set ?_ GE112.out) | exact HB.out)⟩
   · replace c31 := Bool.eq_false_iff.mpr c31
     subst c31
     have H1 : ((frac_Add.f kj9 t101 t102 t105 t106).bind fun bt115 => (if bt115.2.2 = 0 then ((frac_Sub.f kj9 bt115.1 bt115.2.1 t105 t106).bind fun bt119 => (if bt119.2.2 = 0 then (if (!(bt119.1 == t101) || (!(bt119.2.1 == t102))) = true then (none) else (spykeep1_FracField.j1 kj9 bt115.2.2 t101 t102 t105 t106 t109 t110 bt115.1 bt115.2.1)) else (none))) else (spykeep1_FracField.j1 kj9 bt115.2.2 t101 t102 t105 t106 t109 t110 bt115.1 bt115.2.1))) = some r := by rw [if_neg (show ¬ (false = true) by decide)] at H; exact H
     clear H
     have H := H1
     clear H1
     replace H := Option.bind_eq_some_iff.mp H
     obtain ⟨⟨t115, t116, t117⟩, A340, H⟩ := H
     replace H : (if t117 = 0 then ((frac_Sub.f kj9 t115 t116 t105 t106).bind fun bt119 => (if bt119.2.2 = 0 then (if (!(bt119.1 == t101) || (!(bt119.2.1 == t102))) = true then (none) else (spykeep1_FracField.j1 kj9 t117 t101 t102 t105 t106 t109 t110 t115 t116)) else (none))) else (spykeep1_FracField.j1 kj9 t117 t101 t102 t105 t106 t109 t110 t115 t116)) = some r := H
     have A34 := Aside0.mk A340
     clear A340
     have HC35 := Aside0.mk H
     clear H
     have hnb36 := NB104_108.out
     have hnc36 := NB108_104.out
     have hnb37 := NB104_112.out
     have hnc37 := NB112_104.out
     have hcz38_0 : wc.cell? ⟨gb104, 0, none⟩ = some (.int .i64 t101) := (blk_cell BK104.out 0).trans rfl
     have hcz38_1 : wc.cell? ⟨gb104, 1, none⟩ = some (.int .i64 t102) := (blk_cell BK104.out 1).trans rfl
     have hfz38_0 := blk_frozen BK104.out 0
     have hfz38_1 := blk_frozen BK104.out 1
     have hnb39 := NB108_112.out
     have hnc39 := NB112_108.out
     have hcz40_0 : wc.cell? ⟨gb108, 0, none⟩ = some (.int .i64 t105) := (blk_cell BK108.out 0).trans rfl
     have hcz40_1 : wc.cell? ⟨gb108, 1, none⟩ = some (.int .i64 t106) := (blk_cell BK108.out 1).trans rfl
     have hfz40_0 := blk_frozen BK108.out 0
     have hfz40_1 := blk_frozen BK108.out 1
     go_upto_if 73 with (first | ((with_reducible refine gate_callee (f := 56) rfl ?_); refine goesL_ (some 69) rfl rfl Try.func56 (by kernel_rfl) rfl #[.agg #[.int .i64 t101, .int .i64 t102], .agg #[.int .i64 t105, .int .i64 t106]] rfl (by (try simp only [List.map_toArray, List.map_cons, List.map_nil]); first | done | rfl | (simp only [List.length_drop, List.length_take]; rfl)) ?_; (with_reducible refine (frac_Add.calls kj9 t101 t102 t105 t106 t115 t116 t117 _ A34.out).mono ?_); rintro e w41 ⟨rfl, hb⟩; refine ⟨_, rfl, ?_⟩; have n0_ := bkb_ BK104 hb rfl; have n1_ := bkb_ BK108 hb rfl; have n2_ := bkb_ BK112 hb rfl; have n3_ := hbs_ HB hb rfl rfl rfl rfl; clear BK104; clear BK108; clear BK112; clear HB; have BK104 := n0_; have BK108 := n1_; have BK112 := n2_; have HB := n3_; clear n0_ n1_ n2_ n3_; (try clear hb); (try clear hb2); (try clear hk); (try clear hi)) | ((with_reducible refine gate_dst (N := 19) rfl ?_); refine box_event ?hg (N := 19) ?hd (cs := #[.int .i64 0, .int .i64 0]) (t := 77) ?hr ?_; (case hd => rfl); (case hg => rfl); (case hr => first | (go_simp; done) | (go_simp; rfl)); intro gb118 hg w42 hbox hb; have n0_ := bkb_ BK104 hb rfl; have n1_ := bkb_ BK108 hb rfl; have n2_ := bkb_ BK112 hb rfl; have n3_ := hbs_ HB hb rfl rfl rfl rfl; have n4_ := Aside0.mk (hbox); have n5_ := Aside0.mk ((by rw [hg]; exact (below_size (by repeat (first | (with_reducible first | exact HB.out | apply below_alloc | apply pw_below_drewN | apply below_drew1 | refine below_set ?_ GE104.out | refine below_set ?_ GE108.out | refine below_set ?_ GE112.out) | exact HB.out))) : w.heap.size ≤ gb118)); have n6_ := n5_; have n7_ := nbl_ BK104 hg rfl; have n8_ := nbg_ BK104 hg rfl; have n9_ := nbl_ BK108 hg rfl; have n10_ := nbg_ BK108 hg rfl; have n11_ := nbl_ BK112 hg rfl; have n12_ := nbg_ BK112 hg rfl; clear BK104; clear BK108; clear BK112; clear HB; have BK104 := n0_; have BK108 := n1_; have BK112 := n2_; have HB := n3_; have BK118 := n4_; have GW118 := n5_; have GE118 := n6_; have NB104_118 := n7_; have NB118_104 := n8_; have NB108_118 := n9_; have NB118_108 := n10_; have NB112_118 := n11_; have NB118_112 := n12_; clear n0_ n1_ n2_ n3_ n4_ n5_ n6_ n7_ n8_ n9_ n10_ n11_ n12_; clear hb hbox hg; have hnb43 := NB118_104.out; have hnc43 := NB104_118.out; have hnb44 := NB118_108.out; have hnc44 := NB108_118.out; have hnb45 := NB118_112.out; have hnc45 := NB112_118.out; have hcz46_0 : w42.cell? ⟨gb118, 0, none⟩ = some (.int .i64 0) := (blk_cell BK118.out 0).trans rfl; have hcz46_1 : w42.cell? ⟨gb118, 1, none⟩ = some (.int .i64 0) := (blk_cell BK118.out 1).trans rfl; have hfz46_0 := blk_frozen BK118.out 0; have hfz46_1 := blk_frozen BK118.out 1))
     (try simp only [Act.put, List.setIfInBounds_toArray, List.set_cons_zero, List.set_cons_succ])
     go_cut [] (fun wc => ∃ (kq : Nat), Aside0 (spykeep1_FracField.j1 kq t117 t101 t102 t105 t106 t109 t110 t115 t116 = some r) ∧ Aside0 (kq ≤ kj9) ∧ Aside0 (wc.heap[gb104]? = some (.cells #[.int .i64 t101, .int .i64 t102] 77 (0, 0))) ∧ Aside0 (wc.heap[gb108]? = some (.cells #[.int .i64 t105, .int .i64 t106] 77 (0, 0))) ∧ Aside0 (wc.heap[gb112]? = some (.cells #[.int .i64 t109, .int .i64 t110] 77 (0, 0))) ∧ Aside0 (wc.heap[gb118]? = some (.cells #[.int .i64 t115, .int .i64 t116] 77 (0, 0))) ∧ Aside0 (Below w.heap.size w wc))
     case first => as_aux_lemma =>
      have H := HC35.out
      clear HC35
      by_cases c47 : t117 = 0
      · rw [if_pos c47] at H
        have c47b0 : (t117 == 0) = true := beq_iff_eq.mpr c47
        have c47b1 : (t117 != 0) = false := bne_eq_false_iff_eq.mpr c47
        clear c47
        (first | rw [c47b0] | (simp only [i64_w, i32_w]; rw [c47b0]) | skip)
        replace H := Option.bind_eq_some_iff.mp H
        obtain ⟨⟨t119, t120, t121⟩, A480, H⟩ := H
        replace H : (if t121 = 0 then (if (!(t119 == t101) || (!(t120 == t102))) = true then (none) else (spykeep1_FracField.j1 kj9 t117 t101 t102 t105 t106 t109 t110 t115 t116)) else (none)) = some r := H
        have A48 := Aside0.mk A480
        clear A480
        by_cases c49 : t121 = 0
        · rw [if_pos c49] at H
          have c49b0 : (t121 == 0) = true := beq_iff_eq.mpr c49
          have c49b1 : (t121 != 0) = false := bne_eq_false_iff_eq.mpr c49
          clear c49
          by_cases c50 : (!(t119 == t101) || (!(t120 == t102))) = true
          · rw [if_pos c50] at H
            exact absurd H (by simp)
          · rw [if_neg c50] at H
            have c50b0 : (!(t119 == t101) || (!(t120 == t102))) = false := by simpa using c50
            clear c50
            have H' := Aside0.mk H
            clear H
            have hnb51 := NB118_104.out
            have hnc51 := NB104_118.out
            have hnb52 := NB118_108.out
            have hnc52 := NB108_118.out
            have hnb53 := NB118_112.out
            have hnc53 := NB112_118.out
            have hcz54_0 : w42.cell? ⟨gb118, 0, none⟩ = some (.int .i64 0) := (blk_cell BK118.out 0).trans rfl
            have hcz54_1 : w42.cell? ⟨gb118, 1, none⟩ = some (.int .i64 0) := (blk_cell BK118.out 1).trans rfl
            have hfz54_0 := blk_frozen BK118.out 0
            have hfz54_1 := blk_frozen BK118.out 1
            have hnb55 := NB108_104.out
            have hnc55 := NB104_108.out
            have hnb56 := NB108_112.out
            have hnc56 := NB112_108.out
            have hcz57_0 : w42.cell? ⟨gb108, 0, none⟩ = some (.int .i64 t105) := (blk_cell BK108.out 0).trans rfl
            have hcz57_1 : w42.cell? ⟨gb108, 1, none⟩ = some (.int .i64 t106) := (blk_cell BK108.out 1).trans rfl
            have hfz57_0 := blk_frozen BK108.out 0
            have hfz57_1 := blk_frozen BK108.out 1
            go_wp2_with (first | ((with_reducible refine gate_callee (f := 54) rfl ?_); refine goesL_ (some 77) rfl rfl Try.func54 (by kernel_rfl) rfl #[.agg #[.int .i64 t115, .int .i64 t116], .agg #[.int .i64 t105, .int .i64 t106]] rfl (by (try simp only [List.map_toArray, List.map_cons, List.map_nil]); first | done | rfl | (simp only [List.length_drop, List.length_take]; rfl)) ?_; (with_reducible refine (frac_Sub.calls kj9 t115 t116 t105 t106 t119 t120 t121 _ A48.out).mono ?_); rintro e w58 ⟨rfl, hb⟩; refine ⟨_, rfl, ?_⟩; have n0_ := Aside0.mk (blk_below (g := gb104) (o := .cells #[.int .i64 t101, .int .i64 t102] 77 (0, 0)) (by (with_reducible repeat (first | refine blk_drewN ?_ _ | refine blk_drew ?_ | refine blk_alloc ?_ _)); refine blk_far ?_ NB104_118.out _; (with_reducible repeat (first | refine blk_drewN ?_ _ | refine blk_drew ?_ | refine blk_alloc ?_ _)); refine blk_far ?_ NB104_118.out _; (with_reducible repeat (first | refine blk_drewN ?_ _ | refine blk_drew ?_ | refine blk_alloc ?_ _)); exact BK104.out) hb); have n1_ := Aside0.mk (blk_below (g := gb108) (o := .cells #[.int .i64 t105, .int .i64 t106] 77 (0, 0)) (by (with_reducible repeat (first | refine blk_drewN ?_ _ | refine blk_drew ?_ | refine blk_alloc ?_ _)); refine blk_far ?_ NB108_118.out _; (with_reducible repeat (first | refine blk_drewN ?_ _ | refine blk_drew ?_ | refine blk_alloc ?_ _)); refine blk_far ?_ NB108_118.out _; (with_reducible repeat (first | refine blk_drewN ?_ _ | refine blk_drew ?_ | refine blk_alloc ?_ _)); exact BK108.out) hb); have n2_ := Aside0.mk (blk_below (g := gb112) (o := .cells #[.int .i64 t109, .int .i64 t110] 77 (0, 0)) (by (with_reducible repeat (first | refine blk_drewN ?_ _ | refine blk_drew ?_ | refine blk_alloc ?_ _)); refine blk_far ?_ NB112_118.out _; (with_reducible repeat (first | refine blk_drewN ?_ _ | refine blk_drew ?_ | refine blk_alloc ?_ _)); refine blk_far ?_ NB112_118.out _; (with_reducible repeat (first | refine blk_drewN ?_ _ | refine blk_drew ?_ | refine blk_alloc ?_ _)); exact BK112.out) hb); have n3_ := Aside0.mk (blk_below (g := gb118) (o := .cells #[.int .i64 t115, .int .i64 t116] 77 (0, 0)) (by (with_reducible repeat (first | refine blk_drewN ?_ _ | refine blk_drew ?_ | refine blk_alloc ?_ _)); refine blk_put (cs := #[.int .i64 t115, .int .i64 0]) ?_ 1 _ rfl; (with_reducible repeat (first | refine blk_drewN ?_ _ | refine blk_drew ?_ | refine blk_alloc ?_ _)); refine blk_put (cs := #[.int .i64 0, .int .i64 0]) ?_ 0 _ rfl; (with_reducible repeat (first | refine blk_drewN ?_ _ | refine blk_drew ?_ | refine blk_alloc ?_ _)); exact BK118.out) hb); have n4_ := Aside0.mk (below_step (by repeat (first | (with_reducible first | exact HB.out | apply below_alloc | apply pw_below_drewN | apply below_drew1 | refine below_set ?_ GE104.out | refine below_set ?_ GE108.out | refine below_set ?_ GE112.out | refine below_set ?_ GE118.out) | exact HB.out)) hb); clear BK104; clear BK108; clear BK112; clear BK118; clear HB; have BK104 := n0_; have BK108 := n1_; have BK112 := n2_; have BK118 := n3_; have HB := n4_; clear n0_ n1_ n2_ n3_ n4_; (try clear hb); (try clear hb2); (try clear hk); (try clear hi)) | ((with_reducible refine gate_dst (N := 20) rfl ?_); refine box_event ?hg (N := 20) ?hd (cs := #[.int .i64 0, .int .i64 0]) (t := 77) ?hr ?_; (case hd => rfl); (case hg => rfl); (case hr => first | (go_simp; done) | (go_simp; rfl)); intro gb122 hg w59 hbox hb; have n0_ := bkb_ BK104 hb rfl; have n1_ := bkb_ BK108 hb rfl; have n2_ := bkb_ BK112 hb rfl; have n3_ := bkb_ BK118 hb rfl; have n4_ := hbs_ HB hb rfl rfl rfl rfl; have n5_ := Aside0.mk (hbox); have n6_ := Aside0.mk ((by rw [hg]; exact (below_size (by repeat (first | (with_reducible first | exact HB.out | apply below_alloc | apply pw_below_drewN | apply below_drew1 | refine below_set ?_ GE104.out | refine below_set ?_ GE108.out | refine below_set ?_ GE112.out | refine below_set ?_ GE118.out) | exact HB.out))) : w.heap.size ≤ gb122)); have n7_ := n6_; have n8_ := nbl_ BK104 hg rfl; have n9_ := nbg_ BK104 hg rfl; have n10_ := nbl_ BK108 hg rfl; have n11_ := nbg_ BK108 hg rfl; have n12_ := nbl_ BK112 hg rfl; have n13_ := nbg_ BK112 hg rfl; have n14_ := nbl_ BK118 hg rfl; have n15_ := nbg_ BK118 hg rfl; clear BK104; clear BK108; clear BK112; clear BK118; clear HB; have BK104 := n0_; have BK108 := n1_; have BK112 := n2_; have BK118 := n3_; have HB := n4_; have BK122 := n5_; have GW122 := n6_; have GE122 := n7_; have NB104_122 := n8_; have NB122_104 := n9_; have NB108_122 := n10_; have NB122_108 := n11_; have NB112_122 := n12_; have NB122_112 := n13_; have NB118_122 := n14_; have NB122_118 := n15_; clear n0_ n1_ n2_ n3_ n4_ n5_ n6_ n7_ n8_ n9_ n10_ n11_ n12_ n13_ n14_ n15_; clear hb hbox hg; have hnb60 := NB122_104.out; have hnc60 := NB104_122.out; have hnb61 := NB122_108.out; have hnc61 := NB108_122.out; have hnb62 := NB122_112.out; have hnc62 := NB112_122.out; have hnb63 := NB122_118.out; have hnc63 := NB118_122.out; have hcz64_0 : w59.cell? ⟨gb122, 0, none⟩ = some (.int .i64 0) := (blk_cell BK122.out 0).trans rfl; have hcz64_1 : w59.cell? ⟨gb122, 1, none⟩ = some (.int .i64 0) := (blk_cell BK122.out 1).trans rfl; have hfz64_0 := blk_frozen BK122.out 0; have hfz64_1 := blk_frozen BK122.out 1; have hnb65 := NB104_112.out; have hnc65 := NB112_104.out; have hcz66_0 : w59.cell? ⟨gb104, 0, none⟩ = some (.int .i64 t101) := (blk_cell BK104.out 0).trans rfl; have hcz66_1 : w59.cell? ⟨gb104, 1, none⟩ = some (.int .i64 t102) := (blk_cell BK104.out 1).trans rfl; have hfz66_0 := blk_frozen BK104.out 0; have hfz66_1 := blk_frozen BK104.out 1))
            go_meet
            case rel => exact ⟨_, H', ⟨by have := HJ9.out; first | omega | exact Nat.le_refl _⟩, ⟨by (with_reducible repeat (first | refine blk_drewN ?_ _ | refine blk_drew ?_ | refine blk_alloc ?_ _)); refine blk_far ?_ NB104_122.out _; (with_reducible repeat (first | refine blk_drewN ?_ _ | refine blk_drew ?_ | refine blk_alloc ?_ _)); refine blk_far ?_ NB104_122.out _; (with_reducible repeat (first | refine blk_drewN ?_ _ | refine blk_drew ?_ | refine blk_alloc ?_ _)); exact BK104.out⟩, ⟨by (with_reducible repeat (first | refine blk_drewN ?_ _ | refine blk_drew ?_ | refine blk_alloc ?_ _)); refine blk_far ?_ NB108_122.out _; (with_reducible repeat (first | refine blk_drewN ?_ _ | refine blk_drew ?_ | refine blk_alloc ?_ _)); refine blk_far ?_ NB108_122.out _; (with_reducible repeat (first | refine blk_drewN ?_ _ | refine blk_drew ?_ | refine blk_alloc ?_ _)); exact BK108.out⟩, ⟨by (with_reducible repeat (first | refine blk_drewN ?_ _ | refine blk_drew ?_ | refine blk_alloc ?_ _)); refine blk_far ?_ NB112_122.out _; (with_reducible repeat (first | refine blk_drewN ?_ _ | refine blk_drew ?_ | refine blk_alloc ?_ _)); refine blk_far ?_ NB112_122.out _; (with_reducible repeat (first | refine blk_drewN ?_ _ | refine blk_drew ?_ | refine blk_alloc ?_ _)); exact BK112.out⟩, ⟨by (with_reducible repeat (first | refine blk_drewN ?_ _ | refine blk_drew ?_ | refine blk_alloc ?_ _)); refine blk_far ?_ NB118_122.out _; (with_reducible repeat (first | refine blk_drewN ?_ _ | refine blk_drew ?_ | refine blk_alloc ?_ _)); refine blk_far ?_ NB118_122.out _; (with_reducible repeat (first | refine blk_drewN ?_ _ | refine blk_drew ?_ | refine blk_alloc ?_ _)); exact BK118.out⟩, ⟨by repeat (first | (with_reducible first | exact HB.out | apply below_alloc | apply pw_below_drewN | apply below_drew1 | refine below_set ?_ GE104.out | refine below_set ?_ GE108.out | refine below_set ?_ GE112.out | refine below_set ?_ GE118.out | refine below_set ?_ GE122.out) | exact HB.out)⟩⟩
        · rw [if_neg c49] at H
          exact absurd H (by simp)
      · rw [if_neg c47] at H
        have c47b0 : (t117 == 0) = false := beq_eq_false_iff_ne.mpr c47
        have c47b1 : (t117 != 0) = true := bne_iff_ne.mpr c47
        (first | rw [c47b0] | (simp only [i64_w, i32_w]; rw [c47b0]) | skip)
        have H' := Aside0.mk H
        clear H
        go_wp2
        go_meet
        case rel => exact ⟨_, H', ⟨by have := HJ9.out; first | omega | exact Nat.le_refl _⟩, ⟨by (with_reducible repeat (first | refine blk_drewN ?_ _ | refine blk_drew ?_ | refine blk_alloc ?_ _)); refine blk_far ?_ NB104_118.out _; (with_reducible repeat (first | refine blk_drewN ?_ _ | refine blk_drew ?_ | refine blk_alloc ?_ _)); refine blk_far ?_ NB104_118.out _; (with_reducible repeat (first | refine blk_drewN ?_ _ | refine blk_drew ?_ | refine blk_alloc ?_ _)); exact BK104.out⟩, ⟨by (with_reducible repeat (first | refine blk_drewN ?_ _ | refine blk_drew ?_ | refine blk_alloc ?_ _)); refine blk_far ?_ NB108_118.out _; (with_reducible repeat (first | refine blk_drewN ?_ _ | refine blk_drew ?_ | refine blk_alloc ?_ _)); refine blk_far ?_ NB108_118.out _; (with_reducible repeat (first | refine blk_drewN ?_ _ | refine blk_drew ?_ | refine blk_alloc ?_ _)); exact BK108.out⟩, ⟨by (with_reducible repeat (first | refine blk_drewN ?_ _ | refine blk_drew ?_ | refine blk_alloc ?_ _)); refine blk_far ?_ NB112_118.out _; (with_reducible repeat (first | refine blk_drewN ?_ _ | refine blk_drew ?_ | refine blk_alloc ?_ _)); refine blk_far ?_ NB112_118.out _; (with_reducible repeat (first | refine blk_drewN ?_ _ | refine blk_drew ?_ | refine blk_alloc ?_ _)); exact BK112.out⟩, ⟨by (with_reducible repeat (first | refine blk_drewN ?_ _ | refine blk_drew ?_ | refine blk_alloc ?_ _)); refine blk_put (cs := #[.int .i64 t115, .int .i64 0]) ?_ 1 _ rfl; (with_reducible repeat (first | refine blk_drewN ?_ _ | refine blk_drew ?_ | refine blk_alloc ?_ _)); refine blk_put (cs := #[.int .i64 0, .int .i64 0]) ?_ 0 _ rfl; (with_reducible repeat (first | refine blk_drewN ?_ _ | refine blk_drew ?_ | refine blk_alloc ?_ _)); exact BK118.out⟩, ⟨by repeat (first | (with_reducible first | exact HB.out | apply below_alloc | apply pw_below_drewN | apply below_drew1 | refine below_set ?_ GE104.out | refine below_set ?_ GE108.out | refine below_set ?_ GE112.out | refine below_set ?_ GE118.out) | exact HB.out)⟩⟩
     case rest => as_aux_lemma =>
      clear HC35
      obtain ⟨kq, HA, HJ34, BK104, BK108, BK112, BK118, HB⟩ := hcut
      cases kq with
      | zero => exact absurd HA.out (by simp [spykeep1_FracField.j1])
      | succ kj34 =>
       have H := HA.out
       clear HA
       simp only [spykeep1_FracField.j1] at H
       replace H := Option.bind_eq_some_iff.mp H
       obtain ⟨⟨t123, t124, t125⟩, A670, H⟩ := H
       replace H : (if t125 = 0 then (spykeep1_FracField.j2 kj34 t117 (t105 != 0) t101 t102 t105 t106 t109 t110 t115 t116 t123 t124) else (spykeep1_FracField.j2 kj34 t117 false t101 t102 t105 t106 t109 t110 t115 t116 t123 t124)) = some r := H
       have A67 := Aside0.mk A670
       clear A670
       have HC68 := Aside0.mk H
       clear H
       have hnb69 := NB104_108.out
       have hnc69 := NB108_104.out
       have hnb70 := NB104_112.out
       have hnc70 := NB112_104.out
       have hnb71 := NB104_118.out
       have hnc71 := NB118_104.out
       have hcz72_0 : wc.cell? ⟨gb104, 0, none⟩ = some (.int .i64 t101) := (blk_cell BK104.out 0).trans rfl
       have hcz72_1 : wc.cell? ⟨gb104, 1, none⟩ = some (.int .i64 t102) := (blk_cell BK104.out 1).trans rfl
       have hfz72_0 := blk_frozen BK104.out 0
       have hfz72_1 := blk_frozen BK104.out 1
       have hnb73 := NB108_112.out
       have hnc73 := NB112_108.out
       have hnb74 := NB108_118.out
       have hnc74 := NB118_108.out
       have hcz75_0 : wc.cell? ⟨gb108, 0, none⟩ = some (.int .i64 t105) := (blk_cell BK108.out 0).trans rfl
       have hcz75_1 : wc.cell? ⟨gb108, 1, none⟩ = some (.int .i64 t106) := (blk_cell BK108.out 1).trans rfl
       have hfz75_0 := blk_frozen BK108.out 0
       have hfz75_1 := blk_frozen BK108.out 1
       go_upto_region 12 with (first | ((with_reducible refine gate_callee (f := 57) rfl ?_); refine goesL_ (some 90) rfl rfl Try.func57 (by kernel_rfl) rfl #[.agg #[.int .i64 t101, .int .i64 t102], .agg #[.int .i64 t105, .int .i64 t106]] rfl (by (try simp only [List.map_toArray, List.map_cons, List.map_nil]); first | done | rfl | (simp only [List.length_drop, List.length_take]; rfl)) ?_; (with_reducible refine (frac_Mul.calls kj34 t101 t102 t105 t106 t123 t124 t125 _ A67.out).mono ?_); rintro e w76 ⟨rfl, hb⟩; refine ⟨_, rfl, ?_⟩; have n0_ := bkb_ BK104 hb rfl; have n1_ := bkb_ BK108 hb rfl; have n2_ := bkb_ BK112 hb rfl; have n3_ := bkb_ BK118 hb rfl; have n4_ := hbs_ HB hb rfl rfl rfl rfl; clear BK104; clear BK108; clear BK112; clear BK118; clear HB; have BK104 := n0_; have BK108 := n1_; have BK112 := n2_; have BK118 := n3_; have HB := n4_; clear n0_ n1_ n2_ n3_ n4_; (try clear hb); (try clear hb2); (try clear hk); (try clear hi)) | ((with_reducible refine gate_dst (N := 22) rfl ?_); refine box_event ?hg (N := 22) ?hd (cs := #[.int .i64 0, .int .i64 0]) (t := 77) ?hr ?_; (case hd => rfl); (case hg => rfl); (case hr => first | (go_simp; done) | (go_simp; rfl)); intro gb126 hg w77 hbox hb; have n0_ := bkb_ BK104 hb rfl; have n1_ := bkb_ BK108 hb rfl; have n2_ := bkb_ BK112 hb rfl; have n3_ := bkb_ BK118 hb rfl; have n4_ := hbs_ HB hb rfl rfl rfl rfl; have n5_ := Aside0.mk (hbox); have n6_ := Aside0.mk ((by rw [hg]; exact (below_size (by repeat (first | (with_reducible first | exact HB.out | apply below_alloc | apply pw_below_drewN | apply below_drew1 | refine below_set ?_ GE104.out | refine below_set ?_ GE108.out | refine below_set ?_ GE112.out | refine below_set ?_ GE118.out) | exact HB.out))) : w.heap.size ≤ gb126)); have n7_ := n6_; have n8_ := nbl_ BK104 hg rfl; have n9_ := nbg_ BK104 hg rfl; have n10_ := nbl_ BK108 hg rfl; have n11_ := nbg_ BK108 hg rfl; have n12_ := nbl_ BK112 hg rfl; have n13_ := nbg_ BK112 hg rfl; have n14_ := nbl_ BK118 hg rfl; have n15_ := nbg_ BK118 hg rfl; clear BK104; clear BK108; clear BK112; clear BK118; clear HB; have BK104 := n0_; have BK108 := n1_; have BK112 := n2_; have BK118 := n3_; have HB := n4_; have BK126 := n5_; have GW126 := n6_; have GE126 := n7_; have NB104_126 := n8_; have NB126_104 := n9_; have NB108_126 := n10_; have NB126_108 := n11_; have NB112_126 := n12_; have NB126_112 := n13_; have NB118_126 := n14_; have NB126_118 := n15_; clear n0_ n1_ n2_ n3_ n4_ n5_ n6_ n7_ n8_ n9_ n10_ n11_ n12_ n13_ n14_ n15_; clear hb hbox hg; have hnb78 := NB126_104.out; have hnc78 := NB104_126.out; have hnb79 := NB126_108.out; have hnc79 := NB108_126.out; have hnb80 := NB126_112.out; have hnc80 := NB112_126.out; have hnb81 := NB126_118.out; have hnc81 := NB118_126.out; have hcz82_0 : w77.cell? ⟨gb126, 0, none⟩ = some (.int .i64 0) := (blk_cell BK126.out 0).trans rfl; have hcz82_1 : w77.cell? ⟨gb126, 1, none⟩ = some (.int .i64 0) := (blk_cell BK126.out 1).trans rfl; have hfz82_0 := blk_frozen BK126.out 0; have hfz82_1 := blk_frozen BK126.out 1))
       (try simp only [Act.put, List.setIfInBounds_toArray, List.set_cons_zero, List.set_cons_succ])
       go_cut [99] (fun v99 wc => ∃ (kq : Nat) (x99_67 : Bool), v99 = .bool x99_67 ∧ Aside0 (spykeep1_FracField.j2 kq t117 x99_67 t101 t102 t105 t106 t109 t110 t115 t116 t123 t124 = some r) ∧ Aside0 (kq ≤ kj34) ∧ Aside0 (wc.heap[gb104]? = some (.cells #[.int .i64 t101, .int .i64 t102] 77 (0, 0))) ∧ Aside0 (wc.heap[gb108]? = some (.cells #[.int .i64 t105, .int .i64 t106] 77 (0, 0))) ∧ Aside0 (wc.heap[gb112]? = some (.cells #[.int .i64 t109, .int .i64 t110] 77 (0, 0))) ∧ Aside0 (wc.heap[gb118]? = some (.cells #[.int .i64 t115, .int .i64 t116] 77 (0, 0))) ∧ Aside0 (wc.heap[gb126]? = some (.cells #[.int .i64 t123, .int .i64 t124] 77 (0, 0))) ∧ Aside0 (Below w.heap.size w wc))
       case first => as_aux_lemma =>
        have H := HC68.out
        clear HC68
        by_cases c83 : t125 = 0
        · rw [if_pos c83] at H
          have c83b0 : (t125 == 0) = true := beq_iff_eq.mpr c83
          have c83b1 : (t125 != 0) = false := bne_eq_false_iff_eq.mpr c83
          clear c83
          (first | rw [c83b0] | (simp only [i64_w, i32_w]; rw [c83b0]) | skip)
          have H' := Aside0.mk H
          clear H
          have hnb84 := NB108_104.out
          have hnc84 := NB104_108.out
          have hnb85 := NB108_112.out
          have hnc85 := NB112_108.out
          have hnb86 := NB108_118.out
          have hnc86 := NB118_108.out
          have hnb87 := NB108_126.out
          have hnc87 := NB126_108.out
          have hcz88_0 : w77.cell? ⟨gb108, 0, none⟩ = some (.int .i64 t105) := (blk_cell BK108.out 0).trans rfl
          have hcz88_1 : w77.cell? ⟨gb108, 1, none⟩ = some (.int .i64 t106) := (blk_cell BK108.out 1).trans rfl
          have hfz88_0 := blk_frozen BK108.out 0
          have hfz88_1 := blk_frozen BK108.out 1
          go_wp2
          go_meet
          case rel => exact ⟨_, ((t105 != 0)), (by first | rfl | (simp; done) | (simp [*]; done)), H', ⟨by have := HJ9.out; have := HJ34.out; first | omega | exact Nat.le_refl _⟩, ⟨by (with_reducible repeat (first | refine blk_drewN ?_ _ | refine blk_drew ?_ | refine blk_alloc ?_ _)); refine blk_far ?_ NB104_126.out _; (with_reducible repeat (first | refine blk_drewN ?_ _ | refine blk_drew ?_ | refine blk_alloc ?_ _)); refine blk_far ?_ NB104_126.out _; (with_reducible repeat (first | refine blk_drewN ?_ _ | refine blk_drew ?_ | refine blk_alloc ?_ _)); exact BK104.out⟩, ⟨by (with_reducible repeat (first | refine blk_drewN ?_ _ | refine blk_drew ?_ | refine blk_alloc ?_ _)); refine blk_far ?_ NB108_126.out _; (with_reducible repeat (first | refine blk_drewN ?_ _ | refine blk_drew ?_ | refine blk_alloc ?_ _)); refine blk_far ?_ NB108_126.out _; (with_reducible repeat (first | refine blk_drewN ?_ _ | refine blk_drew ?_ | refine blk_alloc ?_ _)); exact BK108.out⟩, ⟨by (with_reducible repeat (first | refine blk_drewN ?_ _ | refine blk_drew ?_ | refine blk_alloc ?_ _)); refine blk_far ?_ NB112_126.out _; (with_reducible repeat (first | refine blk_drewN ?_ _ | refine blk_drew ?_ | refine blk_alloc ?_ _)); refine blk_far ?_ NB112_126.out _; (with_reducible repeat (first | refine blk_drewN ?_ _ | refine blk_drew ?_ | refine blk_alloc ?_ _)); exact BK112.out⟩, ⟨by (with_reducible repeat (first | refine blk_drewN ?_ _ | refine blk_drew ?_ | refine blk_alloc ?_ _)); refine blk_far ?_ NB118_126.out _; (with_reducible repeat (first | refine blk_drewN ?_ _ | refine blk_drew ?_ | refine blk_alloc ?_ _)); refine blk_far ?_ NB118_126.out _; (with_reducible repeat (first | refine blk_drewN ?_ _ | refine blk_drew ?_ | refine blk_alloc ?_ _)); exact BK118.out⟩, ⟨by (with_reducible repeat (first | refine blk_drewN ?_ _ | refine blk_drew ?_ | refine blk_alloc ?_ _)); refine blk_put (cs := #[.int .i64 t123, .int .i64 0]) ?_ 1 _ rfl; (with_reducible repeat (first | refine blk_drewN ?_ _ | refine blk_drew ?_ | refine blk_alloc ?_ _)); refine blk_put (cs := #[.int .i64 0, .int .i64 0]) ?_ 0 _ rfl; (with_reducible repeat (first | refine blk_drewN ?_ _ | refine blk_drew ?_ | refine blk_alloc ?_ _)); exact BK126.out⟩, ⟨by repeat (first | (with_reducible first | exact HB.out | apply below_alloc | apply pw_below_drewN | apply below_drew1 | refine below_set ?_ GE104.out | refine below_set ?_ GE108.out | refine below_set ?_ GE112.out | refine below_set ?_ GE118.out | refine below_set ?_ GE126.out) | exact HB.out)⟩⟩
        · rw [if_neg c83] at H
          have c83b0 : (t125 == 0) = false := beq_eq_false_iff_ne.mpr c83
          have c83b1 : (t125 != 0) = true := bne_iff_ne.mpr c83
          (first | rw [c83b0] | (simp only [i64_w, i32_w]; rw [c83b0]) | skip)
          have H' := Aside0.mk H
          clear H
          go_wp2
          go_meet
          case rel => exact ⟨_, (false), (by first | rfl | (simp; done) | (simp [*]; done)), H', ⟨by have := HJ9.out; have := HJ34.out; first | omega | exact Nat.le_refl _⟩, ⟨by (with_reducible repeat (first | refine blk_drewN ?_ _ | refine blk_drew ?_ | refine blk_alloc ?_ _)); refine blk_far ?_ NB104_126.out _; (with_reducible repeat (first | refine blk_drewN ?_ _ | refine blk_drew ?_ | refine blk_alloc ?_ _)); refine blk_far ?_ NB104_126.out _; (with_reducible repeat (first | refine blk_drewN ?_ _ | refine blk_drew ?_ | refine blk_alloc ?_ _)); exact BK104.out⟩, ⟨by (with_reducible repeat (first | refine blk_drewN ?_ _ | refine blk_drew ?_ | refine blk_alloc ?_ _)); refine blk_far ?_ NB108_126.out _; (with_reducible repeat (first | refine blk_drewN ?_ _ | refine blk_drew ?_ | refine blk_alloc ?_ _)); refine blk_far ?_ NB108_126.out _; (with_reducible repeat (first | refine blk_drewN ?_ _ | refine blk_drew ?_ | refine blk_alloc ?_ _)); exact BK108.out⟩, ⟨by (with_reducible repeat (first | refine blk_drewN ?_ _ | refine blk_drew ?_ | refine blk_alloc ?_ _)); refine blk_far ?_ NB112_126.out _; (with_reducible repeat (first | refine blk_drewN ?_ _ | refine blk_drew ?_ | refine blk_alloc ?_ _)); refine blk_far ?_ NB112_126.out _; (with_reducible repeat (first | refine blk_drewN ?_ _ | refine blk_drew ?_ | refine blk_alloc ?_ _)); exact BK112.out⟩, ⟨by (with_reducible repeat (first | refine blk_drewN ?_ _ | refine blk_drew ?_ | refine blk_alloc ?_ _)); refine blk_far ?_ NB118_126.out _; (with_reducible repeat (first | refine blk_drewN ?_ _ | refine blk_drew ?_ | refine blk_alloc ?_ _)); refine blk_far ?_ NB118_126.out _; (with_reducible repeat (first | refine blk_drewN ?_ _ | refine blk_drew ?_ | refine blk_alloc ?_ _)); exact BK118.out⟩, ⟨by (with_reducible repeat (first | refine blk_drewN ?_ _ | refine blk_drew ?_ | refine blk_alloc ?_ _)); refine blk_put (cs := #[.int .i64 t123, .int .i64 0]) ?_ 1 _ rfl; (with_reducible repeat (first | refine blk_drewN ?_ _ | refine blk_drew ?_ | refine blk_alloc ?_ _)); refine blk_put (cs := #[.int .i64 0, .int .i64 0]) ?_ 0 _ rfl; (with_reducible repeat (first | refine blk_drewN ?_ _ | refine blk_drew ?_ | refine blk_alloc ?_ _)); exact BK126.out⟩, ⟨by repeat (first | (with_reducible first | exact HB.out | apply below_alloc | apply pw_below_drewN | apply below_drew1 | refine below_set ?_ GE104.out | refine below_set ?_ GE108.out | refine below_set ?_ GE112.out | refine below_set ?_ GE118.out | refine below_set ?_ GE126.out) | exact HB.out)⟩⟩
       case rest => as_aux_lemma =>
        clear HC68
        obtain ⟨kq, x99_67, rfl, HA, HJ67, BK104, BK108, BK112, BK118, BK126, HB⟩ := hcut
        cases kq with
        | zero => exact absurd HA.out (by simp [spykeep1_FracField.j2])
        | succ kj67 =>
         have H := HA.out
         clear HA
         simp only [spykeep1_FracField.j2] at H
         have HC89 := Aside0.mk H
         clear H
         go_upto_if 99 with (fail)
         go_cut [] (fun wc => ∃ (kq : Nat), Aside0 (spykeep1_FracField.j3 kq t117 t101 t102 t105 t106 t109 t110 t115 t116 = some r) ∧ Aside0 (kq ≤ kj67) ∧ Aside0 (wc.heap[gb104]? = some (.cells #[.int .i64 t101, .int .i64 t102] 77 (0, 0))) ∧ Aside0 (wc.heap[gb108]? = some (.cells #[.int .i64 t105, .int .i64 t106] 77 (0, 0))) ∧ Aside0 (wc.heap[gb112]? = some (.cells #[.int .i64 t109, .int .i64 t110] 77 (0, 0))) ∧ Aside0 (wc.heap[gb118]? = some (.cells #[.int .i64 t115, .int .i64 t116] 77 (0, 0))) ∧ Aside0 (wc.heap[gb126]? = some (.cells #[.int .i64 t123, .int .i64 t124] 77 (0, 0))) ∧ Aside0 (Below w.heap.size w wc))
         case first => as_aux_lemma =>
          have H := HC89.out
          clear HC89
          by_cases c90 : x99_67 = true
          · subst c90
            have H1 : ((frac_Div.f kj67 t123 t124 t105 t106).bind fun bt127 => (if bt127.2.2 = 0 then (if (!(bt127.1 == t101) || (!(bt127.2.1 == t102))) = true then (none) else (spykeep1_FracField.j3 kj67 t117 t101 t102 t105 t106 t109 t110 t115 t116)) else (none))) = some r := by rw [if_pos rfl] at H; exact H
            clear H
            have H := H1
            clear H1
            replace H := Option.bind_eq_some_iff.mp H
            obtain ⟨⟨t127, t128, t129⟩, A910, H⟩ := H
            replace H : (if t129 = 0 then (if (!(t127 == t101) || (!(t128 == t102))) = true then (none) else (spykeep1_FracField.j3 kj67 t117 t101 t102 t105 t106 t109 t110 t115 t116)) else (none)) = some r := H
            have A91 := Aside0.mk A910
            clear A910
            by_cases c92 : t129 = 0
            · rw [if_pos c92] at H
              have c92b0 : (t129 == 0) = true := beq_iff_eq.mpr c92
              have c92b1 : (t129 != 0) = false := bne_eq_false_iff_eq.mpr c92
              clear c92
              (first | rw [c92b0] | (simp only [i64_w, i32_w]; rw [c92b0]) | skip)
              by_cases c93 : (!(t127 == t101) || (!(t128 == t102))) = true
              · rw [if_pos c93] at H
                exact absurd H (by simp)
              · rw [if_neg c93] at H
                have c93b0 : (!(t127 == t101) || (!(t128 == t102))) = false := by simpa using c93
                clear c93
                have H' := Aside0.mk H
                clear H
                have hnb94 := NB126_104.out
                have hnc94 := NB104_126.out
                have hnb95 := NB126_108.out
                have hnc95 := NB108_126.out
                have hnb96 := NB126_112.out
                have hnc96 := NB112_126.out
                have hnb97 := NB126_118.out
                have hnc97 := NB118_126.out
                have hcz98_0 : wc.cell? ⟨gb126, 0, none⟩ = some (.int .i64 t123) := (blk_cell BK126.out 0).trans rfl
                have hcz98_1 : wc.cell? ⟨gb126, 1, none⟩ = some (.int .i64 t124) := (blk_cell BK126.out 1).trans rfl
                have hfz98_0 := blk_frozen BK126.out 0
                have hfz98_1 := blk_frozen BK126.out 1
                have hnb99 := NB108_104.out
                have hnc99 := NB104_108.out
                have hnb100 := NB108_112.out
                have hnc100 := NB112_108.out
                have hnb101 := NB108_118.out
                have hnc101 := NB118_108.out
                have hcz102_0 : wc.cell? ⟨gb108, 0, none⟩ = some (.int .i64 t105) := (blk_cell BK108.out 0).trans rfl
                have hcz102_1 : wc.cell? ⟨gb108, 1, none⟩ = some (.int .i64 t106) := (blk_cell BK108.out 1).trans rfl
                have hfz102_0 := blk_frozen BK108.out 0
                have hfz102_1 := blk_frozen BK108.out 1
                go_wp2_with (first | ((with_reducible refine gate_callee (f := 58) rfl ?_); refine goesL_ (some 103) rfl rfl Try.func58 (by kernel_rfl) rfl #[.agg #[.int .i64 t123, .int .i64 t124], .agg #[.int .i64 t105, .int .i64 t106]] rfl (by (try simp only [List.map_toArray, List.map_cons, List.map_nil]); first | done | rfl | (simp only [List.length_drop, List.length_take]; rfl)) ?_; (with_reducible refine (frac_Div.calls kj67 t123 t124 t105 t106 t127 t128 t129 _ A91.out).mono ?_); rintro e w103 ⟨rfl, hb⟩; refine ⟨_, rfl, ?_⟩; have n0_ := bkb_ BK104 hb rfl; have n1_ := bkb_ BK108 hb rfl; have n2_ := bkb_ BK112 hb rfl; have n3_ := bkb_ BK118 hb rfl; have n4_ := bkb_ BK126 hb rfl; have n5_ := hbs_ HB hb rfl rfl rfl rfl; clear BK104; clear BK108; clear BK112; clear BK118; clear BK126; clear HB; have BK104 := n0_; have BK108 := n1_; have BK112 := n2_; have BK118 := n3_; have BK126 := n4_; have HB := n5_; clear n0_ n1_ n2_ n3_ n4_ n5_; (try clear hb); (try clear hb2); (try clear hk); (try clear hi)) | ((with_reducible refine gate_dst (N := 23) rfl ?_); refine box_event ?hg (N := 23) ?hd (cs := #[.int .i64 0, .int .i64 0]) (t := 77) ?hr ?_; (case hd => rfl); (case hg => rfl); (case hr => first | (go_simp; done) | (go_simp; rfl)); intro gb130 hg w104 hbox hb; have n0_ := bkb_ BK104 hb rfl; have n1_ := bkb_ BK108 hb rfl; have n2_ := bkb_ BK112 hb rfl; have n3_ := bkb_ BK118 hb rfl; have n4_ := bkb_ BK126 hb rfl; have n5_ := hbs_ HB hb rfl rfl rfl rfl; have n6_ := Aside0.mk (hbox); have n7_ := Aside0.mk ((by rw [hg]; exact (below_size (by repeat (first | (with_reducible first | exact HB.out | apply below_alloc | apply pw_below_drewN | apply below_drew1 | refine below_set ?_ GE104.out | refine below_set ?_ GE108.out | refine below_set ?_ GE112.out | refine below_set ?_ GE118.out | refine below_set ?_ GE126.out) | exact HB.out))) : w.heap.size ≤ gb130)); have n8_ := n7_; have n9_ := nbl_ BK104 hg rfl; have n10_ := nbg_ BK104 hg rfl; have n11_ := nbl_ BK108 hg rfl; have n12_ := nbg_ BK108 hg rfl; have n13_ := nbl_ BK112 hg rfl; have n14_ := nbg_ BK112 hg rfl; have n15_ := nbl_ BK118 hg rfl; have n16_ := nbg_ BK118 hg rfl; have n17_ := nbl_ BK126 hg rfl; have n18_ := nbg_ BK126 hg rfl; clear BK104; clear BK108; clear BK112; clear BK118; clear BK126; clear HB; have BK104 := n0_; have BK108 := n1_; have BK112 := n2_; have BK118 := n3_; have BK126 := n4_; have HB := n5_; have BK130 := n6_; have GW130 := n7_; have GE130 := n8_; have NB104_130 := n9_; have NB130_104 := n10_; have NB108_130 := n11_; have NB130_108 := n12_; have NB112_130 := n13_; have NB130_112 := n14_; have NB118_130 := n15_; have NB130_118 := n16_; have NB126_130 := n17_; have NB130_126 := n18_; clear n0_ n1_ n2_ n3_ n4_ n5_ n6_ n7_ n8_ n9_ n10_ n11_ n12_ n13_ n14_ n15_ n16_ n17_ n18_; clear hb hbox hg; have hnb105 := NB130_104.out; have hnc105 := NB104_130.out; have hnb106 := NB130_108.out; have hnc106 := NB108_130.out; have hnb107 := NB130_112.out; have hnc107 := NB112_130.out; have hnb108 := NB130_118.out; have hnc108 := NB118_130.out; have hnb109 := NB130_126.out; have hnc109 := NB126_130.out; have hcz110_0 : w104.cell? ⟨gb130, 0, none⟩ = some (.int .i64 0) := (blk_cell BK130.out 0).trans rfl; have hcz110_1 : w104.cell? ⟨gb130, 1, none⟩ = some (.int .i64 0) := (blk_cell BK130.out 1).trans rfl; have hfz110_0 := blk_frozen BK130.out 0; have hfz110_1 := blk_frozen BK130.out 1; have hnb111 := NB104_112.out; have hnc111 := NB112_104.out; have hnb112 := NB104_118.out; have hnc112 := NB118_104.out; have hcz113_0 : w104.cell? ⟨gb104, 0, none⟩ = some (.int .i64 t101) := (blk_cell BK104.out 0).trans rfl; have hcz113_1 : w104.cell? ⟨gb104, 1, none⟩ = some (.int .i64 t102) := (blk_cell BK104.out 1).trans rfl; have hfz113_0 := blk_frozen BK104.out 0; have hfz113_1 := blk_frozen BK104.out 1))
                go_meet
                case rel => exact ⟨_, H', ⟨by have := HJ9.out; have := HJ34.out; have := HJ67.out; first | omega | exact Nat.le_refl _⟩, ⟨by (with_reducible repeat (first | refine blk_drewN ?_ _ | refine blk_drew ?_ | refine blk_alloc ?_ _)); refine blk_far ?_ NB104_130.out _; (with_reducible repeat (first | refine blk_drewN ?_ _ | refine blk_drew ?_ | refine blk_alloc ?_ _)); refine blk_far ?_ NB104_130.out _; (with_reducible repeat (first | refine blk_drewN ?_ _ | refine blk_drew ?_ | refine blk_alloc ?_ _)); exact BK104.out⟩, ⟨by (with_reducible repeat (first | refine blk_drewN ?_ _ | refine blk_drew ?_ | refine blk_alloc ?_ _)); refine blk_far ?_ NB108_130.out _; (with_reducible repeat (first | refine blk_drewN ?_ _ | refine blk_drew ?_ | refine blk_alloc ?_ _)); refine blk_far ?_ NB108_130.out _; (with_reducible repeat (first | refine blk_drewN ?_ _ | refine blk_drew ?_ | refine blk_alloc ?_ _)); exact BK108.out⟩, ⟨by (with_reducible repeat (first | refine blk_drewN ?_ _ | refine blk_drew ?_ | refine blk_alloc ?_ _)); refine blk_far ?_ NB112_130.out _; (with_reducible repeat (first | refine blk_drewN ?_ _ | refine blk_drew ?_ | refine blk_alloc ?_ _)); refine blk_far ?_ NB112_130.out _; (with_reducible repeat (first | refine blk_drewN ?_ _ | refine blk_drew ?_ | refine blk_alloc ?_ _)); exact BK112.out⟩, ⟨by (with_reducible repeat (first | refine blk_drewN ?_ _ | refine blk_drew ?_ | refine blk_alloc ?_ _)); refine blk_far ?_ NB118_130.out _; (with_reducible repeat (first | refine blk_drewN ?_ _ | refine blk_drew ?_ | refine blk_alloc ?_ _)); refine blk_far ?_ NB118_130.out _; (with_reducible repeat (first | refine blk_drewN ?_ _ | refine blk_drew ?_ | refine blk_alloc ?_ _)); exact BK118.out⟩, ⟨by (with_reducible repeat (first | refine blk_drewN ?_ _ | refine blk_drew ?_ | refine blk_alloc ?_ _)); refine blk_far ?_ NB126_130.out _; (with_reducible repeat (first | refine blk_drewN ?_ _ | refine blk_drew ?_ | refine blk_alloc ?_ _)); refine blk_far ?_ NB126_130.out _; (with_reducible repeat (first | refine blk_drewN ?_ _ | refine blk_drew ?_ | refine blk_alloc ?_ _)); exact BK126.out⟩, ⟨by repeat (first | (with_reducible first | exact HB.out | apply below_alloc | apply pw_below_drewN | apply below_drew1 | refine below_set ?_ GE104.out | refine below_set ?_ GE108.out | refine below_set ?_ GE112.out | refine below_set ?_ GE118.out | refine below_set ?_ GE126.out | refine below_set ?_ GE130.out) | exact HB.out)⟩⟩
            · rw [if_neg c92] at H
              exact absurd H (by simp)
          · replace c90 := Bool.eq_false_iff.mpr c90
            subst c90
            have H1 : (spykeep1_FracField.j3 kj67 t117 t101 t102 t105 t106 t109 t110 t115 t116) = some r := by rw [if_neg (show ¬ (false = true) by decide)] at H; exact H
            clear H
            have H := H1
            clear H1
            have H' := Aside0.mk H
            clear H
            go_wp2
            go_meet
            case rel => exact ⟨_, H', ⟨by have := HJ9.out; have := HJ34.out; have := HJ67.out; first | omega | exact Nat.le_refl _⟩, ⟨by (with_reducible repeat (first | refine blk_drewN ?_ _ | refine blk_drew ?_ | refine blk_alloc ?_ _)); exact BK104.out⟩, ⟨by (with_reducible repeat (first | refine blk_drewN ?_ _ | refine blk_drew ?_ | refine blk_alloc ?_ _)); exact BK108.out⟩, ⟨by (with_reducible repeat (first | refine blk_drewN ?_ _ | refine blk_drew ?_ | refine blk_alloc ?_ _)); exact BK112.out⟩, ⟨by (with_reducible repeat (first | refine blk_drewN ?_ _ | refine blk_drew ?_ | refine blk_alloc ?_ _)); exact BK118.out⟩, ⟨by (with_reducible repeat (first | refine blk_drewN ?_ _ | refine blk_drew ?_ | refine blk_alloc ?_ _)); exact BK126.out⟩, ⟨by repeat (first | (with_reducible first | exact HB.out | apply below_alloc | apply pw_below_drewN | apply below_drew1 | refine below_set ?_ GE104.out | refine below_set ?_ GE108.out | refine below_set ?_ GE112.out | refine below_set ?_ GE118.out | refine below_set ?_ GE126.out) | exact HB.out)⟩⟩
         case rest => as_aux_lemma =>
          clear HC89
          obtain ⟨kq, HA, HJ88, BK104, BK108, BK112, BK118, BK126, HB⟩ := hcut
          cases kq with
          | zero => exact absurd HA.out (by simp [spykeep1_FracField.j3])
          | succ kj88 =>
           have H := HA.out
           clear HA
           simp only [spykeep1_FracField.j3] at H
           replace H := Option.bind_eq_some_iff.mp H
           obtain ⟨⟨t131, t132, t133⟩, A1140, H⟩ := H
           replace H : ((frac_Mul.f kj88 t101 t102 t109 t110).bind fun bt135 => ((frac_Mul.f kj88 t105 t106 t109 t110).bind fun bt139 => ((frac_Add.f kj88 bt135.1 bt135.2.1 bt139.1 bt139.2.1).bind fun bt143 => (if t117 = 0 then (if t133 = 0 then (if bt135.2.2 = 0 then (if bt139.2.2 = 0 then (if bt143.2.2 = 0 then (spykeep1_FracField.j4 kj88 (!(t131 == bt143.1) || (!(t132 == bt143.2.1))) t101 t102 t105 t106) else (none)) else (spykeep1_FracField.j4 kj88 false t101 t102 t105 t106)) else (spykeep1_FracField.j4 kj88 false t101 t102 t105 t106)) else (spykeep1_FracField.j4 kj88 false t101 t102 t105 t106)) else (spykeep1_FracField.j4 kj88 false t101 t102 t105 t106))))) = some r := H
           have A114 := Aside0.mk A1140
           clear A1140
           replace H := Option.bind_eq_some_iff.mp H
           obtain ⟨⟨t135, t136, t137⟩, A1150, H⟩ := H
           replace H : ((frac_Mul.f kj88 t105 t106 t109 t110).bind fun bt139 => ((frac_Add.f kj88 t135 t136 bt139.1 bt139.2.1).bind fun bt143 => (if t117 = 0 then (if t133 = 0 then (if t137 = 0 then (if bt139.2.2 = 0 then (if bt143.2.2 = 0 then (spykeep1_FracField.j4 kj88 (!(t131 == bt143.1) || (!(t132 == bt143.2.1))) t101 t102 t105 t106) else (none)) else (spykeep1_FracField.j4 kj88 false t101 t102 t105 t106)) else (spykeep1_FracField.j4 kj88 false t101 t102 t105 t106)) else (spykeep1_FracField.j4 kj88 false t101 t102 t105 t106)) else (spykeep1_FracField.j4 kj88 false t101 t102 t105 t106)))) = some r := H
           have A115 := Aside0.mk A1150
           clear A1150
           replace H := Option.bind_eq_some_iff.mp H
           obtain ⟨⟨t139, t140, t141⟩, A1160, H⟩ := H
           replace H : ((frac_Add.f kj88 t135 t136 t139 t140).bind fun bt143 => (if t117 = 0 then (if t133 = 0 then (if t137 = 0 then (if t141 = 0 then (if bt143.2.2 = 0 then (spykeep1_FracField.j4 kj88 (!(t131 == bt143.1) || (!(t132 == bt143.2.1))) t101 t102 t105 t106) else (none)) else (spykeep1_FracField.j4 kj88 false t101 t102 t105 t106)) else (spykeep1_FracField.j4 kj88 false t101 t102 t105 t106)) else (spykeep1_FracField.j4 kj88 false t101 t102 t105 t106)) else (spykeep1_FracField.j4 kj88 false t101 t102 t105 t106))) = some r := H
           have A116 := Aside0.mk A1160
           clear A1160
           replace H := Option.bind_eq_some_iff.mp H
           obtain ⟨⟨t143, t144, t145⟩, A1170, H⟩ := H
           replace H : (if t117 = 0 then (if t133 = 0 then (if t137 = 0 then (if t141 = 0 then (if t145 = 0 then (spykeep1_FracField.j4 kj88 (!(t131 == t143) || (!(t132 == t144))) t101 t102 t105 t106) else (none)) else (spykeep1_FracField.j4 kj88 false t101 t102 t105 t106)) else (spykeep1_FracField.j4 kj88 false t101 t102 t105 t106)) else (spykeep1_FracField.j4 kj88 false t101 t102 t105 t106)) else (spykeep1_FracField.j4 kj88 false t101 t102 t105 t106)) = some r := H
           have A117 := Aside0.mk A1170
           clear A1170
           have HC118 := Aside0.mk H
           clear H
           have hnb119 := NB118_104.out
           have hnc119 := NB104_118.out
           have hnb120 := NB118_108.out
           have hnc120 := NB108_118.out
           have hnb121 := NB118_112.out
           have hnc121 := NB112_118.out
           have hnb122 := NB118_126.out
           have hnc122 := NB126_118.out
           have hcz123_0 : wc.cell? ⟨gb118, 0, none⟩ = some (.int .i64 t115) := (blk_cell BK118.out 0).trans rfl
           have hcz123_1 : wc.cell? ⟨gb118, 1, none⟩ = some (.int .i64 t116) := (blk_cell BK118.out 1).trans rfl
           have hfz123_0 := blk_frozen BK118.out 0
           have hfz123_1 := blk_frozen BK118.out 1
           have hnb124 := NB112_104.out
           have hnc124 := NB104_112.out
           have hnb125 := NB112_108.out
           have hnc125 := NB108_112.out
           have hnb126 := NB112_126.out
           have hnc126 := NB126_112.out
           have hcz127_0 : wc.cell? ⟨gb112, 0, none⟩ = some (.int .i64 t109) := (blk_cell BK112.out 0).trans rfl
           have hcz127_1 : wc.cell? ⟨gb112, 1, none⟩ = some (.int .i64 t110) := (blk_cell BK112.out 1).trans rfl
           have hfz127_0 := blk_frozen BK112.out 0
           have hfz127_1 := blk_frozen BK112.out 1
           go_upto_region 20 with (first | ((with_reducible refine gate_callee (f := 57) rfl ?_); refine goesL_ (some 116) rfl rfl Try.func57 (by kernel_rfl) rfl #[.agg #[.int .i64 t115, .int .i64 t116], .agg #[.int .i64 t109, .int .i64 t110]] rfl (by (try simp only [List.map_toArray, List.map_cons, List.map_nil]); first | done | rfl | (simp only [List.length_drop, List.length_take]; rfl)) ?_; (with_reducible refine (frac_Mul.calls kj88 t115 t116 t109 t110 t131 t132 t133 _ A114.out).mono ?_); rintro e w128 ⟨rfl, hb⟩; refine ⟨_, rfl, ?_⟩; have n0_ := bkb_ BK104 hb rfl; have n1_ := bkb_ BK108 hb rfl; have n2_ := bkb_ BK112 hb rfl; have n3_ := bkb_ BK118 hb rfl; have n4_ := bkb_ BK126 hb rfl; have n5_ := hbs_ HB hb rfl rfl rfl rfl; clear BK104; clear BK108; clear BK112; clear BK118; clear BK126; clear HB; have BK104 := n0_; have BK108 := n1_; have BK112 := n2_; have BK118 := n3_; have BK126 := n4_; have HB := n5_; clear n0_ n1_ n2_ n3_ n4_ n5_; (try clear hb); (try clear hb2); (try clear hk); (try clear hi)) | ((with_reducible refine gate_dst (N := 25) rfl ?_); refine box_event ?hg (N := 25) ?hd (cs := #[.int .i64 0, .int .i64 0]) (t := 77) ?hr ?_; (case hd => rfl); (case hg => rfl); (case hr => first | (go_simp; done) | (go_simp; rfl)); intro gb134 hg w129 hbox hb; have n0_ := bkb_ BK104 hb rfl; have n1_ := bkb_ BK108 hb rfl; have n2_ := bkb_ BK112 hb rfl; have n3_ := bkb_ BK118 hb rfl; have n4_ := bkb_ BK126 hb rfl; have n5_ := hbs_ HB hb rfl rfl rfl rfl; have n6_ := Aside0.mk (hbox); have n7_ := Aside0.mk ((by rw [hg]; exact (below_size (by repeat (first | (with_reducible first | exact HB.out | apply below_alloc | apply pw_below_drewN | apply below_drew1 | refine below_set ?_ GE104.out | refine below_set ?_ GE108.out | refine below_set ?_ GE112.out | refine below_set ?_ GE118.out | refine below_set ?_ GE126.out) | exact HB.out))) : w.heap.size ≤ gb134)); have n8_ := n7_; have n9_ := nbl_ BK104 hg rfl; have n10_ := nbg_ BK104 hg rfl; have n11_ := nbl_ BK108 hg rfl; have n12_ := nbg_ BK108 hg rfl; have n13_ := nbl_ BK112 hg rfl; have n14_ := nbg_ BK112 hg rfl; have n15_ := nbl_ BK118 hg rfl; have n16_ := nbg_ BK118 hg rfl; have n17_ := nbl_ BK126 hg rfl; have n18_ := nbg_ BK126 hg rfl; clear BK104; clear BK108; clear BK112; clear BK118; clear BK126; clear HB; have BK104 := n0_; have BK108 := n1_; have BK112 := n2_; have BK118 := n3_; have BK126 := n4_; have HB := n5_; have BK134 := n6_; have GW134 := n7_; have GE134 := n8_; have NB104_134 := n9_; have NB134_104 := n10_; have NB108_134 := n11_; have NB134_108 := n12_; have NB112_134 := n13_; have NB134_112 := n14_; have NB118_134 := n15_; have NB134_118 := n16_; have NB126_134 := n17_; have NB134_126 := n18_; clear n0_ n1_ n2_ n3_ n4_ n5_ n6_ n7_ n8_ n9_ n10_ n11_ n12_ n13_ n14_ n15_ n16_ n17_ n18_; clear hb hbox hg; have hnb130 := NB134_104.out; have hnc130 := NB104_134.out; have hnb131 := NB134_108.out; have hnc131 := NB108_134.out; have hnb132 := NB134_112.out; have hnc132 := NB112_134.out; have hnb133 := NB134_118.out; have hnc133 := NB118_134.out; have hnb134 := NB134_126.out; have hnc134 := NB126_134.out; have hcz135_0 : w129.cell? ⟨gb134, 0, none⟩ = some (.int .i64 0) := (blk_cell BK134.out 0).trans rfl; have hcz135_1 : w129.cell? ⟨gb134, 1, none⟩ = some (.int .i64 0) := (blk_cell BK134.out 1).trans rfl; have hfz135_0 := blk_frozen BK134.out 0; have hfz135_1 := blk_frozen BK134.out 1; have hnb136 := NB104_108.out; have hnc136 := NB108_104.out; have hnb137 := NB104_126.out; have hnc137 := NB126_104.out; have hcz138_0 : w129.cell? ⟨gb104, 0, none⟩ = some (.int .i64 t101) := (blk_cell BK104.out 0).trans rfl; have hcz138_1 : w129.cell? ⟨gb104, 1, none⟩ = some (.int .i64 t102) := (blk_cell BK104.out 1).trans rfl; have hfz138_0 := blk_frozen BK104.out 0; have hfz138_1 := blk_frozen BK104.out 1; have hcz139_0 : w129.cell? ⟨gb112, 0, none⟩ = some (.int .i64 t109) := (blk_cell BK112.out 0).trans rfl; have hcz139_1 : w129.cell? ⟨gb112, 1, none⟩ = some (.int .i64 t110) := (blk_cell BK112.out 1).trans rfl; have hfz139_0 := blk_frozen BK112.out 0; have hfz139_1 := blk_frozen BK112.out 1) | ((with_reducible refine gate_callee (f := 57) rfl ?_); refine goesL_ (some 122) rfl rfl Try.func57 (by kernel_rfl) rfl #[.agg #[.int .i64 t101, .int .i64 t102], .agg #[.int .i64 t109, .int .i64 t110]] rfl (by (try simp only [List.map_toArray, List.map_cons, List.map_nil]); first | done | rfl | (simp only [List.length_drop, List.length_take]; rfl)) ?_; (with_reducible refine (frac_Mul.calls kj88 t101 t102 t109 t110 t135 t136 t137 _ A115.out).mono ?_); rintro e w140 ⟨rfl, hb⟩; refine ⟨_, rfl, ?_⟩; have n0_ := Aside0.mk (blk_below (g := gb104) (o := .cells #[.int .i64 t101, .int .i64 t102] 77 (0, 0)) (by (with_reducible repeat (first | refine blk_drewN ?_ _ | refine blk_drew ?_ | refine blk_alloc ?_ _)); refine blk_far ?_ NB104_134.out _; (with_reducible repeat (first | refine blk_drewN ?_ _ | refine blk_drew ?_ | refine blk_alloc ?_ _)); refine blk_far ?_ NB104_134.out _; (with_reducible repeat (first | refine blk_drewN ?_ _ | refine blk_drew ?_ | refine blk_alloc ?_ _)); exact BK104.out) hb); have n1_ := Aside0.mk (blk_below (g := gb108) (o := .cells #[.int .i64 t105, .int .i64 t106] 77 (0, 0)) (by (with_reducible repeat (first | refine blk_drewN ?_ _ | refine blk_drew ?_ | refine blk_alloc ?_ _)); refine blk_far ?_ NB108_134.out _; (with_reducible repeat (first | refine blk_drewN ?_ _ | refine blk_drew ?_ | refine blk_alloc ?_ _)); refine blk_far ?_ NB108_134.out _; (with_reducible repeat (first | refine blk_drewN ?_ _ | refine blk_drew ?_ | refine blk_alloc ?_ _)); exact BK108.out) hb); have n2_ := Aside0.mk (blk_below (g := gb112) (o := .cells #[.int .i64 t109, .int .i64 t110] 77 (0, 0)) (by (with_reducible repeat (first | refine blk_drewN ?_ _ | refine blk_drew ?_ | refine blk_alloc ?_ _)); refine blk_far ?_ NB112_134.out _; (with_reducible repeat (first | refine blk_drewN ?_ _ | refine blk_drew ?_ | refine blk_alloc ?_ _)); refine blk_far ?_ NB112_134.out _; (with_reducible repeat (first | refine blk_drewN ?_ _ | refine blk_drew ?_ | refine blk_alloc ?_ _)); exact BK112.out) hb); have n3_ := Aside0.mk (blk_below (g := gb118) (o := .cells #[.int .i64 t115, .int .i64 t116] 77 (0, 0)) (by (with_reducible repeat (first | refine blk_drewN ?_ _ | refine blk_drew ?_ | refine blk_alloc ?_ _)); refine blk_far ?_ NB118_134.out _; (with_reducible repeat (first | refine blk_drewN ?_ _ | refine blk_drew ?_ | refine blk_alloc ?_ _)); refine blk_far ?_ NB118_134.out _; (with_reducible repeat (first | refine blk_drewN ?_ _ | refine blk_drew ?_ | refine blk_alloc ?_ _)); exact BK118.out) hb); have n4_ := Aside0.mk (blk_below (g := gb126) (o := .cells #[.int .i64 t123, .int .i64 t124] 77 (0, 0)) (by (with_reducible repeat (first | refine blk_drewN ?_ _ | refine blk_drew ?_ | refine blk_alloc ?_ _)); refine blk_far ?_ NB126_134.out _; (with_reducible repeat (first | refine blk_drewN ?_ _ | refine blk_drew ?_ | refine blk_alloc ?_ _)); refine blk_far ?_ NB126_134.out _; (with_reducible repeat (first | refine blk_drewN ?_ _ | refine blk_drew ?_ | refine blk_alloc ?_ _)); exact BK126.out) hb); have n5_ := Aside0.mk (blk_below (g := gb134) (o := .cells #[.int .i64 t131, .int .i64 t132] 77 (0, 0)) (by (with_reducible repeat (first | refine blk_drewN ?_ _ | refine blk_drew ?_ | refine blk_alloc ?_ _)); refine blk_put (cs := #[.int .i64 t131, .int .i64 0]) ?_ 1 _ rfl; (with_reducible repeat (first | refine blk_drewN ?_ _ | refine blk_drew ?_ | refine blk_alloc ?_ _)); refine blk_put (cs := #[.int .i64 0, .int .i64 0]) ?_ 0 _ rfl; (with_reducible repeat (first | refine blk_drewN ?_ _ | refine blk_drew ?_ | refine blk_alloc ?_ _)); exact BK134.out) hb); have n6_ := Aside0.mk (below_step (by repeat (first | (with_reducible first | exact HB.out | apply below_alloc | apply pw_below_drewN | apply below_drew1 | refine below_set ?_ GE104.out | refine below_set ?_ GE108.out | refine below_set ?_ GE112.out | refine below_set ?_ GE118.out | refine below_set ?_ GE126.out | refine below_set ?_ GE134.out) | exact HB.out)) hb); clear BK104; clear BK108; clear BK112; clear BK118; clear BK126; clear BK134; clear HB; have BK104 := n0_; have BK108 := n1_; have BK112 := n2_; have BK118 := n3_; have BK126 := n4_; have BK134 := n5_; have HB := n6_; clear n0_ n1_ n2_ n3_ n4_ n5_ n6_; (try clear hb); (try clear hb2); (try clear hk); (try clear hi)) | ((with_reducible refine gate_dst (N := 26) rfl ?_); refine box_event ?hg (N := 26) ?hd (cs := #[.int .i64 0, .int .i64 0]) (t := 77) ?hr ?_; (case hd => rfl); (case hg => rfl); (case hr => first | (go_simp; done) | (go_simp; rfl)); intro gb138 hg w141 hbox hb; have n0_ := bkb_ BK104 hb rfl; have n1_ := bkb_ BK108 hb rfl; have n2_ := bkb_ BK112 hb rfl; have n3_ := bkb_ BK118 hb rfl; have n4_ := bkb_ BK126 hb rfl; have n5_ := bkb_ BK134 hb rfl; have n6_ := hbs_ HB hb rfl rfl rfl rfl; have n7_ := Aside0.mk (hbox); have n8_ := Aside0.mk ((by rw [hg]; exact (below_size (by repeat (first | (with_reducible first | exact HB.out | apply below_alloc | apply pw_below_drewN | apply below_drew1 | refine below_set ?_ GE104.out | refine below_set ?_ GE108.out | refine below_set ?_ GE112.out | refine below_set ?_ GE118.out | refine below_set ?_ GE126.out | refine below_set ?_ GE134.out) | exact HB.out))) : w.heap.size ≤ gb138)); have n9_ := n8_; have n10_ := nbl_ BK104 hg rfl; have n11_ := nbg_ BK104 hg rfl; have n12_ := nbl_ BK108 hg rfl; have n13_ := nbg_ BK108 hg rfl; have n14_ := nbl_ BK112 hg rfl; have n15_ := nbg_ BK112 hg rfl; have n16_ := nbl_ BK118 hg rfl; have n17_ := nbg_ BK118 hg rfl; have n18_ := nbl_ BK126 hg rfl; have n19_ := nbg_ BK126 hg rfl; have n20_ := nbl_ BK134 hg rfl; have n21_ := nbg_ BK134 hg rfl; clear BK104; clear BK108; clear BK112; clear BK118; clear BK126; clear BK134; clear HB; have BK104 := n0_; have BK108 := n1_; have BK112 := n2_; have BK118 := n3_; have BK126 := n4_; have BK134 := n5_; have HB := n6_; have BK138 := n7_; have GW138 := n8_; have GE138 := n9_; have NB104_138 := n10_; have NB138_104 := n11_; have NB108_138 := n12_; have NB138_108 := n13_; have NB112_138 := n14_; have NB138_112 := n15_; have NB118_138 := n16_; have NB138_118 := n17_; have NB126_138 := n18_; have NB138_126 := n19_; have NB134_138 := n20_; have NB138_134 := n21_; clear n0_ n1_ n2_ n3_ n4_ n5_ n6_ n7_ n8_ n9_ n10_ n11_ n12_ n13_ n14_ n15_ n16_ n17_ n18_ n19_ n20_ n21_; clear hb hbox hg; have hnb142 := NB138_104.out; have hnc142 := NB104_138.out; have hnb143 := NB138_108.out; have hnc143 := NB108_138.out; have hnb144 := NB138_112.out; have hnc144 := NB112_138.out; have hnb145 := NB138_118.out; have hnc145 := NB118_138.out; have hnb146 := NB138_126.out; have hnc146 := NB126_138.out; have hnb147 := NB138_134.out; have hnc147 := NB134_138.out; have hcz148_0 : w141.cell? ⟨gb138, 0, none⟩ = some (.int .i64 0) := (blk_cell BK138.out 0).trans rfl; have hcz148_1 : w141.cell? ⟨gb138, 1, none⟩ = some (.int .i64 0) := (blk_cell BK138.out 1).trans rfl; have hfz148_0 := blk_frozen BK138.out 0; have hfz148_1 := blk_frozen BK138.out 1; have hnb149 := NB108_126.out; have hnc149 := NB126_108.out; have hcz150_0 : w141.cell? ⟨gb108, 0, none⟩ = some (.int .i64 t105) := (blk_cell BK108.out 0).trans rfl; have hcz150_1 : w141.cell? ⟨gb108, 1, none⟩ = some (.int .i64 t106) := (blk_cell BK108.out 1).trans rfl; have hfz150_0 := blk_frozen BK108.out 0; have hfz150_1 := blk_frozen BK108.out 1; have hcz151_0 : w141.cell? ⟨gb112, 0, none⟩ = some (.int .i64 t109) := (blk_cell BK112.out 0).trans rfl; have hcz151_1 : w141.cell? ⟨gb112, 1, none⟩ = some (.int .i64 t110) := (blk_cell BK112.out 1).trans rfl; have hfz151_0 := blk_frozen BK112.out 0; have hfz151_1 := blk_frozen BK112.out 1) | ((with_reducible refine gate_callee (f := 57) rfl ?_); refine goesL_ (some 128) rfl rfl Try.func57 (by kernel_rfl) rfl #[.agg #[.int .i64 t105, .int .i64 t106], .agg #[.int .i64 t109, .int .i64 t110]] rfl (by (try simp only [List.map_toArray, List.map_cons, List.map_nil]); first | done | rfl | (simp only [List.length_drop, List.length_take]; rfl)) ?_; (with_reducible refine (frac_Mul.calls kj88 t105 t106 t109 t110 t139 t140 t141 _ A116.out).mono ?_); rintro e w152 ⟨rfl, hb⟩; refine ⟨_, rfl, ?_⟩; have n0_ := Aside0.mk (blk_below (g := gb104) (o := .cells #[.int .i64 t101, .int .i64 t102] 77 (0, 0)) (by (with_reducible repeat (first | refine blk_drewN ?_ _ | refine blk_drew ?_ | refine blk_alloc ?_ _)); refine blk_far ?_ NB104_138.out _; (with_reducible repeat (first | refine blk_drewN ?_ _ | refine blk_drew ?_ | refine blk_alloc ?_ _)); refine blk_far ?_ NB104_138.out _; (with_reducible repeat (first | refine blk_drewN ?_ _ | refine blk_drew ?_ | refine blk_alloc ?_ _)); exact BK104.out) hb); have n1_ := Aside0.mk (blk_below (g := gb108) (o := .cells #[.int .i64 t105, .int .i64 t106] 77 (0, 0)) (by (with_reducible repeat (first | refine blk_drewN ?_ _ | refine blk_drew ?_ | refine blk_alloc ?_ _)); refine blk_far ?_ NB108_138.out _; (with_reducible repeat (first | refine blk_drewN ?_ _ | refine blk_drew ?_ | refine blk_alloc ?_ _)); refine blk_far ?_ NB108_138.out _; (with_reducible repeat (first | refine blk_drewN ?_ _ | refine blk_drew ?_ | refine blk_alloc ?_ _)); exact BK108.out) hb); have n2_ := Aside0.mk (blk_below (g := gb112) (o := .cells #[.int .i64 t109, .int .i64 t110] 77 (0, 0)) (by (with_reducible repeat (first | refine blk_drewN ?_ _ | refine blk_drew ?_ | refine blk_alloc ?_ _)); refine blk_far ?_ NB112_138.out _; (with_reducible repeat (first | refine blk_drewN ?_ _ | refine blk_drew ?_ | refine blk_alloc ?_ _)); refine blk_far ?_ NB112_138.out _; (with_reducible repeat (first | refine blk_drewN ?_ _ | refine blk_drew ?_ | refine blk_alloc ?_ _)); exact BK112.out) hb); have n3_ := Aside0.mk (blk_below (g := gb118) (o := .cells #[.int .i64 t115, .int .i64 t116] 77 (0, 0)) (by (with_reducible repeat (first | refine blk_drewN ?_ _ | refine blk_drew ?_ | refine blk_alloc ?_ _)); refine blk_far ?_ NB118_138.out _; (with_reducible repeat (first | refine blk_drewN ?_ _ | refine blk_drew ?_ | refine blk_alloc ?_ _)); refine blk_far ?_ NB118_138.out _; (with_reducible repeat (first | refine blk_drewN ?_ _ | refine blk_drew ?_ | refine blk_alloc ?_ _)); exact BK118.out) hb); have n4_ := Aside0.mk (blk_below (g := gb126) (o := .cells #[.int .i64 t123, .int .i64 t124] 77 (0, 0)) (by (with_reducible repeat (first | refine blk_drewN ?_ _ | refine blk_drew ?_ | refine blk_alloc ?_ _)); refine blk_far ?_ NB126_138.out _; (with_reducible repeat (first | refine blk_drewN ?_ _ | refine blk_drew ?_ | refine blk_alloc ?_ _)); refine blk_far ?_ NB126_138.out _; (with_reducible repeat (first | refine blk_drewN ?_ _ | refine blk_drew ?_ | refine blk_alloc ?_ _)); exact BK126.out) hb); have n5_ := Aside0.mk (blk_below (g := gb134) (o := .cells #[.int .i64 t131, .int .i64 t132] 77 (0, 0)) (by (with_reducible repeat (first | refine blk_drewN ?_ _ | refine blk_drew ?_ | refine blk_alloc ?_ _)); refine blk_far ?_ NB134_138.out _; (with_reducible repeat (first | refine blk_drewN ?_ _ | refine blk_drew ?_ | refine blk_alloc ?_ _)); refine blk_far ?_ NB134_138.out _; (with_reducible repeat (first | refine blk_drewN ?_ _ | refine blk_drew ?_ | refine blk_alloc ?_ _)); exact BK134.out) hb); have n6_ := Aside0.mk (blk_below (g := gb138) (o := .cells #[.int .i64 t135, .int .i64 t136] 77 (0, 0)) (by (with_reducible repeat (first | refine blk_drewN ?_ _ | refine blk_drew ?_ | refine blk_alloc ?_ _)); refine blk_put (cs := #[.int .i64 t135, .int .i64 0]) ?_ 1 _ rfl; (with_reducible repeat (first | refine blk_drewN ?_ _ | refine blk_drew ?_ | refine blk_alloc ?_ _)); refine blk_put (cs := #[.int .i64 0, .int .i64 0]) ?_ 0 _ rfl; (with_reducible repeat (first | refine blk_drewN ?_ _ | refine blk_drew ?_ | refine blk_alloc ?_ _)); exact BK138.out) hb); have n7_ := Aside0.mk (below_step (by repeat (first | (with_reducible first | exact HB.out | apply below_alloc | apply pw_below_drewN | apply below_drew1 | refine below_set ?_ GE104.out | refine below_set ?_ GE108.out | refine below_set ?_ GE112.out | refine below_set ?_ GE118.out | refine below_set ?_ GE126.out | refine below_set ?_ GE134.out | refine below_set ?_ GE138.out) | exact HB.out)) hb); clear BK104; clear BK108; clear BK112; clear BK118; clear BK126; clear BK134; clear BK138; clear HB; have BK104 := n0_; have BK108 := n1_; have BK112 := n2_; have BK118 := n3_; have BK126 := n4_; have BK134 := n5_; have BK138 := n6_; have HB := n7_; clear n0_ n1_ n2_ n3_ n4_ n5_ n6_ n7_; (try clear hb); (try clear hb2); (try clear hk); (try clear hi)) | ((with_reducible refine gate_dst (N := 28) rfl ?_); refine box_event ?hg (N := 28) ?hd (cs := #[.int .i64 0, .int .i64 0]) (t := 77) ?hr ?_; (case hd => rfl); (case hg => rfl); (case hr => first | (go_simp; done) | (go_simp; rfl)); intro gb142 hg w153 hbox hb; have n0_ := bkb_ BK104 hb rfl; have n1_ := bkb_ BK108 hb rfl; have n2_ := bkb_ BK112 hb rfl; have n3_ := bkb_ BK118 hb rfl; have n4_ := bkb_ BK126 hb rfl; have n5_ := bkb_ BK134 hb rfl; have n6_ := bkb_ BK138 hb rfl; have n7_ := hbs_ HB hb rfl rfl rfl rfl; have n8_ := Aside0.mk (hbox); have n9_ := Aside0.mk ((by rw [hg]; exact (below_size (by repeat (first | (with_reducible first | exact HB.out | apply below_alloc | apply pw_below_drewN | apply below_drew1 | refine below_set ?_ GE104.out | refine below_set ?_ GE108.out | refine below_set ?_ GE112.out | refine below_set ?_ GE118.out | refine below_set ?_ GE126.out | refine below_set ?_ GE134.out | refine below_set ?_ GE138.out) | exact HB.out))) : w.heap.size ≤ gb142)); have n10_ := n9_; have n11_ := nbl_ BK104 hg rfl; have n12_ := nbg_ BK104 hg rfl; have n13_ := nbl_ BK108 hg rfl; have n14_ := nbg_ BK108 hg rfl; have n15_ := nbl_ BK112 hg rfl; have n16_ := nbg_ BK112 hg rfl; have n17_ := nbl_ BK118 hg rfl; have n18_ := nbg_ BK118 hg rfl; have n19_ := nbl_ BK126 hg rfl; have n20_ := nbg_ BK126 hg rfl; have n21_ := nbl_ BK134 hg rfl; have n22_ := nbg_ BK134 hg rfl; have n23_ := nbl_ BK138 hg rfl; have n24_ := nbg_ BK138 hg rfl; clear BK104; clear BK108; clear BK112; clear BK118; clear BK126; clear BK134; clear BK138; clear HB; have BK104 := n0_; have BK108 := n1_; have BK112 := n2_; have BK118 := n3_; have BK126 := n4_; have BK134 := n5_; have BK138 := n6_; have HB := n7_; have BK142 := n8_; have GW142 := n9_; have GE142 := n10_; have NB104_142 := n11_; have NB142_104 := n12_; have NB108_142 := n13_; have NB142_108 := n14_; have NB112_142 := n15_; have NB142_112 := n16_; have NB118_142 := n17_; have NB142_118 := n18_; have NB126_142 := n19_; have NB142_126 := n20_; have NB134_142 := n21_; have NB142_134 := n22_; have NB138_142 := n23_; have NB142_138 := n24_; clear n0_ n1_ n2_ n3_ n4_ n5_ n6_ n7_ n8_ n9_ n10_ n11_ n12_ n13_ n14_ n15_ n16_ n17_ n18_ n19_ n20_ n21_ n22_ n23_ n24_; clear hb hbox hg; have hnb154 := NB142_104.out; have hnc154 := NB104_142.out; have hnb155 := NB142_108.out; have hnc155 := NB108_142.out; have hnb156 := NB142_112.out; have hnc156 := NB112_142.out; have hnb157 := NB142_118.out; have hnc157 := NB118_142.out; have hnb158 := NB142_126.out; have hnc158 := NB126_142.out; have hnb159 := NB142_134.out; have hnc159 := NB134_142.out; have hnb160 := NB142_138.out; have hnc160 := NB138_142.out; have hcz161_0 : w153.cell? ⟨gb142, 0, none⟩ = some (.int .i64 0) := (blk_cell BK142.out 0).trans rfl; have hcz161_1 : w153.cell? ⟨gb142, 1, none⟩ = some (.int .i64 0) := (blk_cell BK142.out 1).trans rfl; have hfz161_0 := blk_frozen BK142.out 0; have hfz161_1 := blk_frozen BK142.out 1; have hcz162_0 : w153.cell? ⟨gb138, 0, none⟩ = some (.int .i64 t135) := (blk_cell BK138.out 0).trans rfl; have hcz162_1 : w153.cell? ⟨gb138, 1, none⟩ = some (.int .i64 t136) := (blk_cell BK138.out 1).trans rfl; have hfz162_0 := blk_frozen BK138.out 0; have hfz162_1 := blk_frozen BK138.out 1) | ((with_reducible refine gate_callee (f := 56) rfl ?_); refine goesL_ (some 134) rfl rfl Try.func56 (by kernel_rfl) rfl #[.agg #[.int .i64 t135, .int .i64 t136], .agg #[.int .i64 t139, .int .i64 t140]] rfl (by (try simp only [List.map_toArray, List.map_cons, List.map_nil]); first | done | rfl | (simp only [List.length_drop, List.length_take]; rfl)) ?_; (with_reducible refine (frac_Add.calls kj88 t135 t136 t139 t140 t143 t144 t145 _ A117.out).mono ?_); rintro e w163 ⟨rfl, hb⟩; refine ⟨_, rfl, ?_⟩; have n0_ := Aside0.mk (blk_below (g := gb104) (o := .cells #[.int .i64 t101, .int .i64 t102] 77 (0, 0)) (by (with_reducible repeat (first | refine blk_drewN ?_ _ | refine blk_drew ?_ | refine blk_alloc ?_ _)); refine blk_far ?_ NB104_142.out _; (with_reducible repeat (first | refine blk_drewN ?_ _ | refine blk_drew ?_ | refine blk_alloc ?_ _)); refine blk_far ?_ NB104_142.out _; (with_reducible repeat (first | refine blk_drewN ?_ _ | refine blk_drew ?_ | refine blk_alloc ?_ _)); exact BK104.out) hb); have n1_ := Aside0.mk (blk_below (g := gb108) (o := .cells #[.int .i64 t105, .int .i64 t106] 77 (0, 0)) (by (with_reducible repeat (first | refine blk_drewN ?_ _ | refine blk_drew ?_ | refine blk_alloc ?_ _)); refine blk_far ?_ NB108_142.out _; (with_reducible repeat (first | refine blk_drewN ?_ _ | refine blk_drew ?_ | refine blk_alloc ?_ _)); refine blk_far ?_ NB108_142.out _; (with_reducible repeat (first | refine blk_drewN ?_ _ | refine blk_drew ?_ | refine blk_alloc ?_ _)); exact BK108.out) hb); have n2_ := Aside0.mk (blk_below (g := gb112) (o := .cells #[.int .i64 t109, .int .i64 t110] 77 (0, 0)) (by (with_reducible repeat (first | refine blk_drewN ?_ _ | refine blk_drew ?_ | refine blk_alloc ?_ _)); refine blk_far ?_ NB112_142.out _; (with_reducible repeat (first | refine blk_drewN ?_ _ | refine blk_drew ?_ | refine blk_alloc ?_ _)); refine blk_far ?_ NB112_142.out _; (with_reducible repeat (first | refine blk_drewN ?_ _ | refine blk_drew ?_ | refine blk_alloc ?_ _)); exact BK112.out) hb); have n3_ := Aside0.mk (blk_below (g := gb118) (o := .cells #[.int .i64 t115, .int .i64 t116] 77 (0, 0)) (by (with_reducible repeat (first | refine blk_drewN ?_ _ | refine blk_drew ?_ | refine blk_alloc ?_ _)); refine blk_far ?_ NB118_142.out _; (with_reducible repeat (first | refine blk_drewN ?_ _ | refine blk_drew ?_ | refine blk_alloc ?_ _)); refine blk_far ?_ NB118_142.out _; (with_reducible repeat (first | refine blk_drewN ?_ _ | refine blk_drew ?_ | refine blk_alloc ?_ _)); exact BK118.out) hb); have n4_ := Aside0.mk (blk_below (g := gb126) (o := .cells #[.int .i64 t123, .int .i64 t124] 77 (0, 0)) (by (with_reducible repeat (first | refine blk_drewN ?_ _ | refine blk_drew ?_ | refine blk_alloc ?_ _)); refine blk_far ?_ NB126_142.out _; (with_reducible repeat (first | refine blk_drewN ?_ _ | refine blk_drew ?_ | refine blk_alloc ?_ _)); refine blk_far ?_ NB126_142.out _; (with_reducible repeat (first | refine blk_drewN ?_ _ | refine blk_drew ?_ | refine blk_alloc ?_ _)); exact BK126.out) hb); have n5_ := Aside0.mk (blk_below (g := gb134) (o := .cells #[.int .i64 t131, .int .i64 t132] 77 (0, 0)) (by (with_reducible repeat (first | refine blk_drewN ?_ _ | refine blk_drew ?_ | refine blk_alloc ?_ _)); refine blk_far ?_ NB134_142.out _; (with_reducible repeat (first | refine blk_drewN ?_ _ | refine blk_drew ?_ | refine blk_alloc ?_ _)); refine blk_far ?_ NB134_142.out _; (with_reducible repeat (first | refine blk_drewN ?_ _ | refine blk_drew ?_ | refine blk_alloc ?_ _)); exact BK134.out) hb); have n6_ := Aside0.mk (blk_below (g := gb138) (o := .cells #[.int .i64 t135, .int .i64 t136] 77 (0, 0)) (by (with_reducible repeat (first | refine blk_drewN ?_ _ | refine blk_drew ?_ | refine blk_alloc ?_ _)); refine blk_far ?_ NB138_142.out _; (with_reducible repeat (first | refine blk_drewN ?_ _ | refine blk_drew ?_ | refine blk_alloc ?_ _)); refine blk_far ?_ NB138_142.out _; (with_reducible repeat (first | refine blk_drewN ?_ _ | refine blk_drew ?_ | refine blk_alloc ?_ _)); exact BK138.out) hb); have n7_ := Aside0.mk (blk_below (g := gb142) (o := .cells #[.int .i64 t139, .int .i64 t140] 77 (0, 0)) (by (with_reducible repeat (first | refine blk_drewN ?_ _ | refine blk_drew ?_ | refine blk_alloc ?_ _)); refine blk_put (cs := #[.int .i64 t139, .int .i64 0]) ?_ 1 _ rfl; (with_reducible repeat (first | refine blk_drewN ?_ _ | refine blk_drew ?_ | refine blk_alloc ?_ _)); refine blk_put (cs := #[.int .i64 0, .int .i64 0]) ?_ 0 _ rfl; (with_reducible repeat (first | refine blk_drewN ?_ _ | refine blk_drew ?_ | refine blk_alloc ?_ _)); exact BK142.out) hb); have n8_ := Aside0.mk (below_step (by repeat (first | (with_reducible first | exact HB.out | apply below_alloc | apply pw_below_drewN | apply below_drew1 | refine below_set ?_ GE104.out | refine below_set ?_ GE108.out | refine below_set ?_ GE112.out | refine below_set ?_ GE118.out | refine below_set ?_ GE126.out | refine below_set ?_ GE134.out | refine below_set ?_ GE138.out | refine below_set ?_ GE142.out) | exact HB.out)) hb); clear BK104; clear BK108; clear BK112; clear BK118; clear BK126; clear BK134; clear BK138; clear BK142; clear HB; have BK104 := n0_; have BK108 := n1_; have BK112 := n2_; have BK118 := n3_; have BK126 := n4_; have BK134 := n5_; have BK138 := n6_; have BK142 := n7_; have HB := n8_; clear n0_ n1_ n2_ n3_ n4_ n5_ n6_ n7_ n8_; (try clear hb); (try clear hb2); (try clear hk); (try clear hi)) | ((with_reducible refine gate_dst (N := 30) rfl ?_); refine box_event ?hg (N := 30) ?hd (cs := #[.int .i64 0, .int .i64 0]) (t := 77) ?hr ?_; (case hd => rfl); (case hg => rfl); (case hr => first | (go_simp; done) | (go_simp; rfl)); intro gb146 hg w164 hbox hb; have n0_ := bkb_ BK104 hb rfl; have n1_ := bkb_ BK108 hb rfl; have n2_ := bkb_ BK112 hb rfl; have n3_ := bkb_ BK118 hb rfl; have n4_ := bkb_ BK126 hb rfl; have n5_ := bkb_ BK134 hb rfl; have n6_ := bkb_ BK138 hb rfl; have n7_ := bkb_ BK142 hb rfl; have n8_ := hbs_ HB hb rfl rfl rfl rfl; have n9_ := Aside0.mk (hbox); have n10_ := Aside0.mk ((by rw [hg]; exact (below_size (by repeat (first | (with_reducible first | exact HB.out | apply below_alloc | apply pw_below_drewN | apply below_drew1 | refine below_set ?_ GE104.out | refine below_set ?_ GE108.out | refine below_set ?_ GE112.out | refine below_set ?_ GE118.out | refine below_set ?_ GE126.out | refine below_set ?_ GE134.out | refine below_set ?_ GE138.out | refine below_set ?_ GE142.out) | exact HB.out))) : w.heap.size ≤ gb146)); have n11_ := n10_; have n12_ := nbl_ BK104 hg rfl; have n13_ := nbg_ BK104 hg rfl; have n14_ := nbl_ BK108 hg rfl; have n15_ := nbg_ BK108 hg rfl; have n16_ := nbl_ BK112 hg rfl; have n17_ := nbg_ BK112 hg rfl; have n18_ := nbl_ BK118 hg rfl; have n19_ := nbg_ BK118 hg rfl; have n20_ := nbl_ BK126 hg rfl; have n21_ := nbg_ BK126 hg rfl; have n22_ := nbl_ BK134 hg rfl; have n23_ := nbg_ BK134 hg rfl; have n24_ := nbl_ BK138 hg rfl; have n25_ := nbg_ BK138 hg rfl; have n26_ := nbl_ BK142 hg rfl; have n27_ := nbg_ BK142 hg rfl; clear BK104; clear BK108; clear BK112; clear BK118; clear BK126; clear BK134; clear BK138; clear BK142; clear HB; have BK104 := n0_; have BK108 := n1_; have BK112 := n2_; have BK118 := n3_; have BK126 := n4_; have BK134 := n5_; have BK138 := n6_; have BK142 := n7_; have HB := n8_; have BK146 := n9_; have GW146 := n10_; have GE146 := n11_; have NB104_146 := n12_; have NB146_104 := n13_; have NB108_146 := n14_; have NB146_108 := n15_; have NB112_146 := n16_; have NB146_112 := n17_; have NB118_146 := n18_; have NB146_118 := n19_; have NB126_146 := n20_; have NB146_126 := n21_; have NB134_146 := n22_; have NB146_134 := n23_; have NB138_146 := n24_; have NB146_138 := n25_; have NB142_146 := n26_; have NB146_142 := n27_; clear n0_ n1_ n2_ n3_ n4_ n5_ n6_ n7_ n8_ n9_ n10_ n11_ n12_ n13_ n14_ n15_ n16_ n17_ n18_ n19_ n20_ n21_ n22_ n23_ n24_ n25_ n26_ n27_; clear hb hbox hg; have hnb165 := NB146_104.out; have hnc165 := NB104_146.out; have hnb166 := NB146_108.out; have hnc166 := NB108_146.out; have hnb167 := NB146_112.out; have hnc167 := NB112_146.out; have hnb168 := NB146_118.out; have hnc168 := NB118_146.out; have hnb169 := NB146_126.out; have hnc169 := NB126_146.out; have hnb170 := NB146_134.out; have hnc170 := NB134_146.out; have hnb171 := NB146_138.out; have hnc171 := NB138_146.out; have hnb172 := NB146_142.out; have hnc172 := NB142_146.out; have hcz173_0 : w164.cell? ⟨gb146, 0, none⟩ = some (.int .i64 0) := (blk_cell BK146.out 0).trans rfl; have hcz173_1 : w164.cell? ⟨gb146, 1, none⟩ = some (.int .i64 0) := (blk_cell BK146.out 1).trans rfl; have hfz173_0 := blk_frozen BK146.out 0; have hfz173_1 := blk_frozen BK146.out 1))
           (try simp only [Act.put, List.setIfInBounds_toArray, List.set_cons_zero, List.set_cons_succ])
           go_cut [159] (fun v159 wc => ∃ (kq : Nat) (x159_117 : Bool), v159 = .bool x159_117 ∧ Aside0 (spykeep1_FracField.j4 kq x159_117 t101 t102 t105 t106 = some r) ∧ Aside0 (kq ≤ kj88) ∧ Aside0 (wc.heap[gb104]? = some (.cells #[.int .i64 t101, .int .i64 t102] 77 (0, 0))) ∧ Aside0 (wc.heap[gb108]? = some (.cells #[.int .i64 t105, .int .i64 t106] 77 (0, 0))) ∧ Aside0 (wc.heap[gb112]? = some (.cells #[.int .i64 t109, .int .i64 t110] 77 (0, 0))) ∧ Aside0 (wc.heap[gb118]? = some (.cells #[.int .i64 t115, .int .i64 t116] 77 (0, 0))) ∧ Aside0 (wc.heap[gb126]? = some (.cells #[.int .i64 t123, .int .i64 t124] 77 (0, 0))) ∧ Aside0 (wc.heap[gb134]? = some (.cells #[.int .i64 t131, .int .i64 t132] 77 (0, 0))) ∧ Aside0 (wc.heap[gb138]? = some (.cells #[.int .i64 t135, .int .i64 t136] 77 (0, 0))) ∧ Aside0 (wc.heap[gb142]? = some (.cells #[.int .i64 t139, .int .i64 t140] 77 (0, 0))) ∧ Aside0 (wc.heap[gb146]? = some (.cells #[.int .i64 t143, .int .i64 t144] 77 (0, 0))) ∧ Aside0 (Below w.heap.size w wc))
           case first => as_aux_lemma =>
            have H := HC118.out
            clear HC118
            by_cases c174 : t117 = 0
            · rw [if_pos c174] at H
              have c174b0 : (t117 == 0) = true := beq_iff_eq.mpr c174
              have c174b1 : (t117 != 0) = false := bne_eq_false_iff_eq.mpr c174
              clear c174
              (first | rw [c174b0] | (simp only [i64_w, i32_w]; rw [c174b0]) | skip)
              by_cases c175 : t133 = 0
              · rw [if_pos c175] at H
                have c175b0 : (t133 == 0) = true := beq_iff_eq.mpr c175
                have c175b1 : (t133 != 0) = false := bne_eq_false_iff_eq.mpr c175
                clear c175
                by_cases c176 : t137 = 0
                · rw [if_pos c176] at H
                  have c176b0 : (t137 == 0) = true := beq_iff_eq.mpr c176
                  have c176b1 : (t137 != 0) = false := bne_eq_false_iff_eq.mpr c176
                  clear c176
                  by_cases c177 : t141 = 0
                  · rw [if_pos c177] at H
                    have c177b0 : (t141 == 0) = true := beq_iff_eq.mpr c177
                    have c177b1 : (t141 != 0) = false := bne_eq_false_iff_eq.mpr c177
                    clear c177
                    by_cases c178 : t145 = 0
                    · rw [if_pos c178] at H
                      have c178b0 : (t145 == 0) = true := beq_iff_eq.mpr c178
                      have c178b1 : (t145 != 0) = false := bne_eq_false_iff_eq.mpr c178
                      clear c178
                      have H' := Aside0.mk H
                      clear H
                      have hnb179 := NB134_104.out
                      have hnc179 := NB104_134.out
                      have hnb180 := NB134_108.out
                      have hnc180 := NB108_134.out
                      have hnb181 := NB134_112.out
                      have hnc181 := NB112_134.out
                      have hnb182 := NB134_118.out
                      have hnc182 := NB118_134.out
                      have hnb183 := NB134_126.out
                      have hnc183 := NB126_134.out
                      have hnb184 := NB134_138.out
                      have hnc184 := NB138_134.out
                      have hnb185 := NB134_142.out
                      have hnc185 := NB142_134.out
                      have hnb186 := NB134_146.out
                      have hnc186 := NB146_134.out
                      have hcz187_0 : w164.cell? ⟨gb134, 0, none⟩ = some (.int .i64 t131) := (blk_cell BK134.out 0).trans rfl
                      have hcz187_1 : w164.cell? ⟨gb134, 1, none⟩ = some (.int .i64 t132) := (blk_cell BK134.out 1).trans rfl
                      have hfz187_0 := blk_frozen BK134.out 0
                      have hfz187_1 := blk_frozen BK134.out 1
                      have hnb188 := NB146_104.out
                      have hnc188 := NB104_146.out
                      have hnb189 := NB146_108.out
                      have hnc189 := NB108_146.out
                      have hnb190 := NB146_112.out
                      have hnc190 := NB112_146.out
                      have hnb191 := NB146_118.out
                      have hnc191 := NB118_146.out
                      have hnb192 := NB146_126.out
                      have hnc192 := NB126_146.out
                      have hnb193 := NB146_138.out
                      have hnc193 := NB138_146.out
                      have hnb194 := NB146_142.out
                      have hnc194 := NB142_146.out
                      have hcz195_0 : w164.cell? ⟨gb146, 0, none⟩ = some (.int .i64 0) := (blk_cell BK146.out 0).trans rfl
                      have hcz195_1 : w164.cell? ⟨gb146, 1, none⟩ = some (.int .i64 0) := (blk_cell BK146.out 1).trans rfl
                      have hfz195_0 := blk_frozen BK146.out 0
                      have hfz195_1 := blk_frozen BK146.out 1
                      go_wp2
                      go_meet
                      case rel => exact ⟨_, ((!(t131 == t143) || (!(t132 == t144)))), (by first | rfl | (simp; done) | (simp [*]; done)), H', ⟨by have := HJ9.out; have := HJ34.out; have := HJ67.out; have := HJ88.out; first | omega | exact Nat.le_refl _⟩, ⟨by (with_reducible repeat (first | refine blk_drewN ?_ _ | refine blk_drew ?_ | refine blk_alloc ?_ _)); refine blk_far ?_ NB104_146.out _; (with_reducible repeat (first | refine blk_drewN ?_ _ | refine blk_drew ?_ | refine blk_alloc ?_ _)); refine blk_far ?_ NB104_146.out _; (with_reducible repeat (first | refine blk_drewN ?_ _ | refine blk_drew ?_ | refine blk_alloc ?_ _)); exact BK104.out⟩, ⟨by (with_reducible repeat (first | refine blk_drewN ?_ _ | refine blk_drew ?_ | refine blk_alloc ?_ _)); refine blk_far ?_ NB108_146.out _; (with_reducible repeat (first | refine blk_drewN ?_ _ | refine blk_drew ?_ | refine blk_alloc ?_ _)); refine blk_far ?_ NB108_146.out _; (with_reducible repeat (first | refine blk_drewN ?_ _ | refine blk_drew ?_ | refine blk_alloc ?_ _)); exact BK108.out⟩, ⟨by (with_reducible repeat (first | refine blk_drewN ?_ _ | refine blk_drew ?_ | refine blk_alloc ?_ _)); refine blk_far ?_ NB112_146.out _; (with_reducible repeat (first | refine blk_drewN ?_ _ | refine blk_drew ?_ | refine blk_alloc ?_ _)); refine blk_far ?_ NB112_146.out _; (with_reducible repeat (first | refine blk_drewN ?_ _ | refine blk_drew ?_ | refine blk_alloc ?_ _)); exact BK112.out⟩, ⟨by (with_reducible repeat (first | refine blk_drewN ?_ _ | refine blk_drew ?_ | refine blk_alloc ?_ _)); refine blk_far ?_ NB118_146.out _; (with_reducible repeat (first | refine blk_drewN ?_ _ | refine blk_drew ?_ | refine blk_alloc ?_ _)); refine blk_far ?_ NB118_146.out _; (with_reducible repeat (first | refine blk_drewN ?_ _ | refine blk_drew ?_ | refine blk_alloc ?_ _)); exact BK118.out⟩, ⟨by (with_reducible repeat (first | refine blk_drewN ?_ _ | refine blk_drew ?_ | refine blk_alloc ?_ _)); refine blk_far ?_ NB126_146.out _; (with_reducible repeat (first | refine blk_drewN ?_ _ | refine blk_drew ?_ | refine blk_alloc ?_ _)); refine blk_far ?_ NB126_146.out _; (with_reducible repeat (first | refine blk_drewN ?_ _ | refine blk_drew ?_ | refine blk_alloc ?_ _)); exact BK126.out⟩, ⟨by (with_reducible repeat (first | refine blk_drewN ?_ _ | refine blk_drew ?_ | refine blk_alloc ?_ _)); refine blk_far ?_ NB134_146.out _; (with_reducible repeat (first | refine blk_drewN ?_ _ | refine blk_drew ?_ | refine blk_alloc ?_ _)); refine blk_far ?_ NB134_146.out _; (with_reducible repeat (first | refine blk_drewN ?_ _ | refine blk_drew ?_ | refine blk_alloc ?_ _)); exact BK134.out⟩, ⟨by (with_reducible repeat (first | refine blk_drewN ?_ _ | refine blk_drew ?_ | refine blk_alloc ?_ _)); refine blk_far ?_ NB138_146.out _; (with_reducible repeat (first | refine blk_drewN ?_ _ | refine blk_drew ?_ | refine blk_alloc ?_ _)); refine blk_far ?_ NB138_146.out _; (with_reducible repeat (first | refine blk_drewN ?_ _ | refine blk_drew ?_ | refine blk_alloc ?_ _)); exact BK138.out⟩, ⟨by (with_reducible repeat (first | refine blk_drewN ?_ _ | refine blk_drew ?_ | refine blk_alloc ?_ _)); refine blk_far ?_ NB142_146.out _; (with_reducible repeat (first | refine blk_drewN ?_ _ | refine blk_drew ?_ | refine blk_alloc ?_ _)); refine blk_far ?_ NB142_146.out _; (with_reducible repeat (first | refine blk_drewN ?_ _ | refine blk_drew ?_ | refine blk_alloc ?_ _)); exact BK142.out⟩, ⟨by (with_reducible repeat (first | refine blk_drewN ?_ _ | refine blk_drew ?_ | refine blk_alloc ?_ _)); refine blk_put (cs := #[.int .i64 t143, .int .i64 0]) ?_ 1 _ rfl; (with_reducible repeat (first | refine blk_drewN ?_ _ | refine blk_drew ?_ | refine blk_alloc ?_ _)); refine blk_put (cs := #[.int .i64 0, .int .i64 0]) ?_ 0 _ rfl; (with_reducible repeat (first | refine blk_drewN ?_ _ | refine blk_drew ?_ | refine blk_alloc ?_ _)); exact BK146.out⟩, ⟨by repeat (first | (with_reducible first | exact HB.out | apply below_alloc | apply pw_below_drewN | apply below_drew1 | refine below_set ?_ GE104.out | refine below_set ?_ GE108.out | refine below_set ?_ GE112.out | refine below_set ?_ GE118.out | refine below_set ?_ GE126.out | refine below_set ?_ GE134.out | refine below_set ?_ GE138.out | refine below_set ?_ GE142.out | refine below_set ?_ GE146.out) | exact HB.out)⟩⟩
                    · rw [if_neg c178] at H
                      exact absurd H (by simp)
                  · rw [if_neg c177] at H
                    have c177b0 : (t141 == 0) = false := beq_eq_false_iff_ne.mpr c177
                    have c177b1 : (t141 != 0) = true := bne_iff_ne.mpr c177
                    have H' := Aside0.mk H
                    clear H
                    go_wp2
                    go_meet
                    case rel => exact ⟨_, (false), (by first | rfl | (simp; done) | (simp [*]; done)), H', ⟨by have := HJ9.out; have := HJ34.out; have := HJ67.out; have := HJ88.out; first | omega | exact Nat.le_refl _⟩, ⟨by (with_reducible repeat (first | refine blk_drewN ?_ _ | refine blk_drew ?_ | refine blk_alloc ?_ _)); refine blk_far ?_ NB104_146.out _; (with_reducible repeat (first | refine blk_drewN ?_ _ | refine blk_drew ?_ | refine blk_alloc ?_ _)); refine blk_far ?_ NB104_146.out _; (with_reducible repeat (first | refine blk_drewN ?_ _ | refine blk_drew ?_ | refine blk_alloc ?_ _)); exact BK104.out⟩, ⟨by (with_reducible repeat (first | refine blk_drewN ?_ _ | refine blk_drew ?_ | refine blk_alloc ?_ _)); refine blk_far ?_ NB108_146.out _; (with_reducible repeat (first | refine blk_drewN ?_ _ | refine blk_drew ?_ | refine blk_alloc ?_ _)); refine blk_far ?_ NB108_146.out _; (with_reducible repeat (first | refine blk_drewN ?_ _ | refine blk_drew ?_ | refine blk_alloc ?_ _)); exact BK108.out⟩, ⟨by (with_reducible repeat (first | refine blk_drewN ?_ _ | refine blk_drew ?_ | refine blk_alloc ?_ _)); refine blk_far ?_ NB112_146.out _; (with_reducible repeat (first | refine blk_drewN ?_ _ | refine blk_drew ?_ | refine blk_alloc ?_ _)); refine blk_far ?_ NB112_146.out _; (with_reducible repeat (first | refine blk_drewN ?_ _ | refine blk_drew ?_ | refine blk_alloc ?_ _)); exact BK112.out⟩, ⟨by (with_reducible repeat (first | refine blk_drewN ?_ _ | refine blk_drew ?_ | refine blk_alloc ?_ _)); refine blk_far ?_ NB118_146.out _; (with_reducible repeat (first | refine blk_drewN ?_ _ | refine blk_drew ?_ | refine blk_alloc ?_ _)); refine blk_far ?_ NB118_146.out _; (with_reducible repeat (first | refine blk_drewN ?_ _ | refine blk_drew ?_ | refine blk_alloc ?_ _)); exact BK118.out⟩, ⟨by (with_reducible repeat (first | refine blk_drewN ?_ _ | refine blk_drew ?_ | refine blk_alloc ?_ _)); refine blk_far ?_ NB126_146.out _; (with_reducible repeat (first | refine blk_drewN ?_ _ | refine blk_drew ?_ | refine blk_alloc ?_ _)); refine blk_far ?_ NB126_146.out _; (with_reducible repeat (first | refine blk_drewN ?_ _ | refine blk_drew ?_ | refine blk_alloc ?_ _)); exact BK126.out⟩, ⟨by (with_reducible repeat (first | refine blk_drewN ?_ _ | refine blk_drew ?_ | refine blk_alloc ?_ _)); refine blk_far ?_ NB134_146.out _; (with_reducible repeat (first | refine blk_drewN ?_ _ | refine blk_drew ?_ | refine blk_alloc ?_ _)); refine blk_far ?_ NB134_146.out _; (with_reducible repeat (first | refine blk_drewN ?_ _ | refine blk_drew ?_ | refine blk_alloc ?_ _)); exact BK134.out⟩, ⟨by (with_reducible repeat (first | refine blk_drewN ?_ _ | refine blk_drew ?_ | refine blk_alloc ?_ _)); refine blk_far ?_ NB138_146.out _; (with_reducible repeat (first | refine blk_drewN ?_ _ | refine blk_drew ?_ | refine blk_alloc ?_ _)); refine blk_far ?_ NB138_146.out _; (with_reducible repeat (first | refine blk_drewN ?_ _ | refine blk_drew ?_ | refine blk_alloc ?_ _)); exact BK138.out⟩, ⟨by (with_reducible repeat (first | refine blk_drewN ?_ _ | refine blk_drew ?_ | refine blk_alloc ?_ _)); refine blk_far ?_ NB142_146.out _; (with_reducible repeat (first | refine blk_drewN ?_ _ | refine blk_drew ?_ | refine blk_alloc ?_ _)); refine blk_far ?_ NB142_146.out _; (with_reducible repeat (first | refine blk_drewN ?_ _ | refine blk_drew ?_ | refine blk_alloc ?_ _)); exact BK142.out⟩, ⟨by (with_reducible repeat (first | refine blk_drewN ?_ _ | refine blk_drew ?_ | refine blk_alloc ?_ _)); refine blk_put (cs := #[.int .i64 t143, .int .i64 0]) ?_ 1 _ rfl; (with_reducible repeat (first | refine blk_drewN ?_ _ | refine blk_drew ?_ | refine blk_alloc ?_ _)); refine blk_put (cs := #[.int .i64 0, .int .i64 0]) ?_ 0 _ rfl; (with_reducible repeat (first | refine blk_drewN ?_ _ | refine blk_drew ?_ | refine blk_alloc ?_ _)); exact BK146.out⟩, ⟨by repeat (first | (with_reducible first | exact HB.out | apply below_alloc | apply pw_below_drewN | apply below_drew1 | refine below_set ?_ GE104.out | refine below_set ?_ GE108.out | refine below_set ?_ GE112.out | refine below_set ?_ GE118.out | refine below_set ?_ GE126.out | refine below_set ?_ GE134.out | refine below_set ?_ GE138.out | refine below_set ?_ GE142.out | refine below_set ?_ GE146.out) | exact HB.out)⟩⟩
                · rw [if_neg c176] at H
                  have c176b0 : (t137 == 0) = false := beq_eq_false_iff_ne.mpr c176
                  have c176b1 : (t137 != 0) = true := bne_iff_ne.mpr c176
                  have H' := Aside0.mk H
                  clear H
                  go_wp2
                  go_meet
                  case rel => exact ⟨_, (false), (by first | rfl | (simp; done) | (simp [*]; done)), H', ⟨by have := HJ9.out; have := HJ34.out; have := HJ67.out; have := HJ88.out; first | omega | exact Nat.le_refl _⟩, ⟨by (with_reducible repeat (first | refine blk_drewN ?_ _ | refine blk_drew ?_ | refine blk_alloc ?_ _)); refine blk_far ?_ NB104_146.out _; (with_reducible repeat (first | refine blk_drewN ?_ _ | refine blk_drew ?_ | refine blk_alloc ?_ _)); refine blk_far ?_ NB104_146.out _; (with_reducible repeat (first | refine blk_drewN ?_ _ | refine blk_drew ?_ | refine blk_alloc ?_ _)); exact BK104.out⟩, ⟨by (with_reducible repeat (first | refine blk_drewN ?_ _ | refine blk_drew ?_ | refine blk_alloc ?_ _)); refine blk_far ?_ NB108_146.out _; (with_reducible repeat (first | refine blk_drewN ?_ _ | refine blk_drew ?_ | refine blk_alloc ?_ _)); refine blk_far ?_ NB108_146.out _; (with_reducible repeat (first | refine blk_drewN ?_ _ | refine blk_drew ?_ | refine blk_alloc ?_ _)); exact BK108.out⟩, ⟨by (with_reducible repeat (first | refine blk_drewN ?_ _ | refine blk_drew ?_ | refine blk_alloc ?_ _)); refine blk_far ?_ NB112_146.out _; (with_reducible repeat (first | refine blk_drewN ?_ _ | refine blk_drew ?_ | refine blk_alloc ?_ _)); refine blk_far ?_ NB112_146.out _; (with_reducible repeat (first | refine blk_drewN ?_ _ | refine blk_drew ?_ | refine blk_alloc ?_ _)); exact BK112.out⟩, ⟨by (with_reducible repeat (first | refine blk_drewN ?_ _ | refine blk_drew ?_ | refine blk_alloc ?_ _)); refine blk_far ?_ NB118_146.out _; (with_reducible repeat (first | refine blk_drewN ?_ _ | refine blk_drew ?_ | refine blk_alloc ?_ _)); refine blk_far ?_ NB118_146.out _; (with_reducible repeat (first | refine blk_drewN ?_ _ | refine blk_drew ?_ | refine blk_alloc ?_ _)); exact BK118.out⟩, ⟨by (with_reducible repeat (first | refine blk_drewN ?_ _ | refine blk_drew ?_ | refine blk_alloc ?_ _)); refine blk_far ?_ NB126_146.out _; (with_reducible repeat (first | refine blk_drewN ?_ _ | refine blk_drew ?_ | refine blk_alloc ?_ _)); refine blk_far ?_ NB126_146.out _; (with_reducible repeat (first | refine blk_drewN ?_ _ | refine blk_drew ?_ | refine blk_alloc ?_ _)); exact BK126.out⟩, ⟨by (with_reducible repeat (first | refine blk_drewN ?_ _ | refine blk_drew ?_ | refine blk_alloc ?_ _)); refine blk_far ?_ NB134_146.out _; (with_reducible repeat (first | refine blk_drewN ?_ _ | refine blk_drew ?_ | refine blk_alloc ?_ _)); refine blk_far ?_ NB134_146.out _; (with_reducible repeat (first | refine blk_drewN ?_ _ | refine blk_drew ?_ | refine blk_alloc ?_ _)); exact BK134.out⟩, ⟨by (with_reducible repeat (first | refine blk_drewN ?_ _ | refine blk_drew ?_ | refine blk_alloc ?_ _)); refine blk_far ?_ NB138_146.out _; (with_reducible repeat (first | refine blk_drewN ?_ _ | refine blk_drew ?_ | refine blk_alloc ?_ _)); refine blk_far ?_ NB138_146.out _; (with_reducible repeat (first | refine blk_drewN ?_ _ | refine blk_drew ?_ | refine blk_alloc ?_ _)); exact BK138.out⟩, ⟨by (with_reducible repeat (first | refine blk_drewN ?_ _ | refine blk_drew ?_ | refine blk_alloc ?_ _)); refine blk_far ?_ NB142_146.out _; (with_reducible repeat (first | refine blk_drewN ?_ _ | refine blk_drew ?_ | refine blk_alloc ?_ _)); refine blk_far ?_ NB142_146.out _; (with_reducible repeat (first | refine blk_drewN ?_ _ | refine blk_drew ?_ | refine blk_alloc ?_ _)); exact BK142.out⟩, ⟨by (with_reducible repeat (first | refine blk_drewN ?_ _ | refine blk_drew ?_ | refine blk_alloc ?_ _)); refine blk_put (cs := #[.int .i64 t143, .int .i64 0]) ?_ 1 _ rfl; (with_reducible repeat (first | refine blk_drewN ?_ _ | refine blk_drew ?_ | refine blk_alloc ?_ _)); refine blk_put (cs := #[.int .i64 0, .int .i64 0]) ?_ 0 _ rfl; (with_reducible repeat (first | refine blk_drewN ?_ _ | refine blk_drew ?_ | refine blk_alloc ?_ _)); exact BK146.out⟩, ⟨by repeat (first | (with_reducible first | exact HB.out | apply below_alloc | apply pw_below_drewN | apply below_drew1 | refine below_set ?_ GE104.out | refine below_set ?_ GE108.out | refine below_set ?_ GE112.out | refine below_set ?_ GE118.out | refine below_set ?_ GE126.out | refine below_set ?_ GE134.out | refine below_set ?_ GE138.out | refine below_set ?_ GE142.out | refine below_set ?_ GE146.out) | exact HB.out)⟩⟩
              · rw [if_neg c175] at H
                have c175b0 : (t133 == 0) = false := beq_eq_false_iff_ne.mpr c175
                have c175b1 : (t133 != 0) = true := bne_iff_ne.mpr c175
                have H' := Aside0.mk H
                clear H
                go_wp2
                go_meet
                case rel => exact ⟨_, (false), (by first | rfl | (simp; done) | (simp [*]; done)), H', ⟨by have := HJ9.out; have := HJ34.out; have := HJ67.out; have := HJ88.out; first | omega | exact Nat.le_refl _⟩, ⟨by (with_reducible repeat (first | refine blk_drewN ?_ _ | refine blk_drew ?_ | refine blk_alloc ?_ _)); refine blk_far ?_ NB104_146.out _; (with_reducible repeat (first | refine blk_drewN ?_ _ | refine blk_drew ?_ | refine blk_alloc ?_ _)); refine blk_far ?_ NB104_146.out _; (with_reducible repeat (first | refine blk_drewN ?_ _ | refine blk_drew ?_ | refine blk_alloc ?_ _)); exact BK104.out⟩, ⟨by (with_reducible repeat (first | refine blk_drewN ?_ _ | refine blk_drew ?_ | refine blk_alloc ?_ _)); refine blk_far ?_ NB108_146.out _; (with_reducible repeat (first | refine blk_drewN ?_ _ | refine blk_drew ?_ | refine blk_alloc ?_ _)); refine blk_far ?_ NB108_146.out _; (with_reducible repeat (first | refine blk_drewN ?_ _ | refine blk_drew ?_ | refine blk_alloc ?_ _)); exact BK108.out⟩, ⟨by (with_reducible repeat (first | refine blk_drewN ?_ _ | refine blk_drew ?_ | refine blk_alloc ?_ _)); refine blk_far ?_ NB112_146.out _; (with_reducible repeat (first | refine blk_drewN ?_ _ | refine blk_drew ?_ | refine blk_alloc ?_ _)); refine blk_far ?_ NB112_146.out _; (with_reducible repeat (first | refine blk_drewN ?_ _ | refine blk_drew ?_ | refine blk_alloc ?_ _)); exact BK112.out⟩, ⟨by (with_reducible repeat (first | refine blk_drewN ?_ _ | refine blk_drew ?_ | refine blk_alloc ?_ _)); refine blk_far ?_ NB118_146.out _; (with_reducible repeat (first | refine blk_drewN ?_ _ | refine blk_drew ?_ | refine blk_alloc ?_ _)); refine blk_far ?_ NB118_146.out _; (with_reducible repeat (first | refine blk_drewN ?_ _ | refine blk_drew ?_ | refine blk_alloc ?_ _)); exact BK118.out⟩, ⟨by (with_reducible repeat (first | refine blk_drewN ?_ _ | refine blk_drew ?_ | refine blk_alloc ?_ _)); refine blk_far ?_ NB126_146.out _; (with_reducible repeat (first | refine blk_drewN ?_ _ | refine blk_drew ?_ | refine blk_alloc ?_ _)); refine blk_far ?_ NB126_146.out _; (with_reducible repeat (first | refine blk_drewN ?_ _ | refine blk_drew ?_ | refine blk_alloc ?_ _)); exact BK126.out⟩, ⟨by (with_reducible repeat (first | refine blk_drewN ?_ _ | refine blk_drew ?_ | refine blk_alloc ?_ _)); refine blk_far ?_ NB134_146.out _; (with_reducible repeat (first | refine blk_drewN ?_ _ | refine blk_drew ?_ | refine blk_alloc ?_ _)); refine blk_far ?_ NB134_146.out _; (with_reducible repeat (first | refine blk_drewN ?_ _ | refine blk_drew ?_ | refine blk_alloc ?_ _)); exact BK134.out⟩, ⟨by (with_reducible repeat (first | refine blk_drewN ?_ _ | refine blk_drew ?_ | refine blk_alloc ?_ _)); refine blk_far ?_ NB138_146.out _; (with_reducible repeat (first | refine blk_drewN ?_ _ | refine blk_drew ?_ | refine blk_alloc ?_ _)); refine blk_far ?_ NB138_146.out _; (with_reducible repeat (first | refine blk_drewN ?_ _ | refine blk_drew ?_ | refine blk_alloc ?_ _)); exact BK138.out⟩, ⟨by (with_reducible repeat (first | refine blk_drewN ?_ _ | refine blk_drew ?_ | refine blk_alloc ?_ _)); refine blk_far ?_ NB142_146.out _; (with_reducible repeat (first | refine blk_drewN ?_ _ | refine blk_drew ?_ | refine blk_alloc ?_ _)); refine blk_far ?_ NB142_146.out _; (with_reducible repeat (first | refine blk_drewN ?_ _ | refine blk_drew ?_ | refine blk_alloc ?_ _)); exact BK142.out⟩, ⟨by (with_reducible repeat (first | refine blk_drewN ?_ _ | refine blk_drew ?_ | refine blk_alloc ?_ _)); refine blk_put (cs := #[.int .i64 t143, .int .i64 0]) ?_ 1 _ rfl; (with_reducible repeat (first | refine blk_drewN ?_ _ | refine blk_drew ?_ | refine blk_alloc ?_ _)); refine blk_put (cs := #[.int .i64 0, .int .i64 0]) ?_ 0 _ rfl; (with_reducible repeat (first | refine blk_drewN ?_ _ | refine blk_drew ?_ | refine blk_alloc ?_ _)); exact BK146.out⟩, ⟨by repeat (first | (with_reducible first | exact HB.out | apply below_alloc | apply pw_below_drewN | apply below_drew1 | refine below_set ?_ GE104.out | refine below_set ?_ GE108.out | refine below_set ?_ GE112.out | refine below_set ?_ GE118.out | refine below_set ?_ GE126.out | refine below_set ?_ GE134.out | refine below_set ?_ GE138.out | refine below_set ?_ GE142.out | refine below_set ?_ GE146.out) | exact HB.out)⟩⟩
            · rw [if_neg c174] at H
              have c174b0 : (t117 == 0) = false := beq_eq_false_iff_ne.mpr c174
              have c174b1 : (t117 != 0) = true := bne_iff_ne.mpr c174
              (first | rw [c174b0] | (simp only [i64_w, i32_w]; rw [c174b0]) | skip)
              have H' := Aside0.mk H
              clear H
              go_wp2
              go_meet
              case rel => exact ⟨_, (false), (by first | rfl | (simp; done) | (simp [*]; done)), H', ⟨by have := HJ9.out; have := HJ34.out; have := HJ67.out; have := HJ88.out; first | omega | exact Nat.le_refl _⟩, ⟨by (with_reducible repeat (first | refine blk_drewN ?_ _ | refine blk_drew ?_ | refine blk_alloc ?_ _)); refine blk_far ?_ NB104_146.out _; (with_reducible repeat (first | refine blk_drewN ?_ _ | refine blk_drew ?_ | refine blk_alloc ?_ _)); refine blk_far ?_ NB104_146.out _; (with_reducible repeat (first | refine blk_drewN ?_ _ | refine blk_drew ?_ | refine blk_alloc ?_ _)); exact BK104.out⟩, ⟨by (with_reducible repeat (first | refine blk_drewN ?_ _ | refine blk_drew ?_ | refine blk_alloc ?_ _)); refine blk_far ?_ NB108_146.out _; (with_reducible repeat (first | refine blk_drewN ?_ _ | refine blk_drew ?_ | refine blk_alloc ?_ _)); refine blk_far ?_ NB108_146.out _; (with_reducible repeat (first | refine blk_drewN ?_ _ | refine blk_drew ?_ | refine blk_alloc ?_ _)); exact BK108.out⟩, ⟨by (with_reducible repeat (first | refine blk_drewN ?_ _ | refine blk_drew ?_ | refine blk_alloc ?_ _)); refine blk_far ?_ NB112_146.out _; (with_reducible repeat (first | refine blk_drewN ?_ _ | refine blk_drew ?_ | refine blk_alloc ?_ _)); refine blk_far ?_ NB112_146.out _; (with_reducible repeat (first | refine blk_drewN ?_ _ | refine blk_drew ?_ | refine blk_alloc ?_ _)); exact BK112.out⟩, ⟨by (with_reducible repeat (first | refine blk_drewN ?_ _ | refine blk_drew ?_ | refine blk_alloc ?_ _)); refine blk_far ?_ NB118_146.out _; (with_reducible repeat (first | refine blk_drewN ?_ _ | refine blk_drew ?_ | refine blk_alloc ?_ _)); refine blk_far ?_ NB118_146.out _; (with_reducible repeat (first | refine blk_drewN ?_ _ | refine blk_drew ?_ | refine blk_alloc ?_ _)); exact BK118.out⟩, ⟨by (with_reducible repeat (first | refine blk_drewN ?_ _ | refine blk_drew ?_ | refine blk_alloc ?_ _)); refine blk_far ?_ NB126_146.out _; (with_reducible repeat (first | refine blk_drewN ?_ _ | refine blk_drew ?_ | refine blk_alloc ?_ _)); refine blk_far ?_ NB126_146.out _; (with_reducible repeat (first | refine blk_drewN ?_ _ | refine blk_drew ?_ | refine blk_alloc ?_ _)); exact BK126.out⟩, ⟨by (with_reducible repeat (first | refine blk_drewN ?_ _ | refine blk_drew ?_ | refine blk_alloc ?_ _)); refine blk_far ?_ NB134_146.out _; (with_reducible repeat (first | refine blk_drewN ?_ _ | refine blk_drew ?_ | refine blk_alloc ?_ _)); refine blk_far ?_ NB134_146.out _; (with_reducible repeat (first | refine blk_drewN ?_ _ | refine blk_drew ?_ | refine blk_alloc ?_ _)); exact BK134.out⟩, ⟨by (with_reducible repeat (first | refine blk_drewN ?_ _ | refine blk_drew ?_ | refine blk_alloc ?_ _)); refine blk_far ?_ NB138_146.out _; (with_reducible repeat (first | refine blk_drewN ?_ _ | refine blk_drew ?_ | refine blk_alloc ?_ _)); refine blk_far ?_ NB138_146.out _; (with_reducible repeat (first | refine blk_drewN ?_ _ | refine blk_drew ?_ | refine blk_alloc ?_ _)); exact BK138.out⟩, ⟨by (with_reducible repeat (first | refine blk_drewN ?_ _ | refine blk_drew ?_ | refine blk_alloc ?_ _)); refine blk_far ?_ NB142_146.out _; (with_reducible repeat (first | refine blk_drewN ?_ _ | refine blk_drew ?_ | refine blk_alloc ?_ _)); refine blk_far ?_ NB142_146.out _; (with_reducible repeat (first | refine blk_drewN ?_ _ | refine blk_drew ?_ | refine blk_alloc ?_ _)); exact BK142.out⟩, ⟨by (with_reducible repeat (first | refine blk_drewN ?_ _ | refine blk_drew ?_ | refine blk_alloc ?_ _)); refine blk_put (cs := #[.int .i64 t143, .int .i64 0]) ?_ 1 _ rfl; (with_reducible repeat (first | refine blk_drewN ?_ _ | refine blk_drew ?_ | refine blk_alloc ?_ _)); refine blk_put (cs := #[.int .i64 0, .int .i64 0]) ?_ 0 _ rfl; (with_reducible repeat (first | refine blk_drewN ?_ _ | refine blk_drew ?_ | refine blk_alloc ?_ _)); exact BK146.out⟩, ⟨by repeat (first | (with_reducible first | exact HB.out | apply below_alloc | apply pw_below_drewN | apply below_drew1 | refine below_set ?_ GE104.out | refine below_set ?_ GE108.out | refine below_set ?_ GE112.out | refine below_set ?_ GE118.out | refine below_set ?_ GE126.out | refine below_set ?_ GE134.out | refine below_set ?_ GE138.out | refine below_set ?_ GE142.out | refine below_set ?_ GE146.out) | exact HB.out)⟩⟩
           case rest => as_aux_lemma =>
            clear HC118
            obtain ⟨kq, x159_117, rfl, HA, HJ117, BK104, BK108, BK112, BK118, BK126, BK134, BK138, BK142, BK146, HB⟩ := hcut
            cases kq with
            | zero => exact absurd HA.out (by simp [spykeep1_FracField.j4])
            | succ kj117 =>
             have H := HA.out
             clear HA
             simp only [spykeep1_FracField.j4] at H
             by_cases c196 : x159_117 = true
             · subst c196
               have H1 : (none) = some r := by rw [if_pos rfl] at H; exact H
               clear H
               have H := H1
               clear H1
               exact absurd H (by simp)
             · replace c196 := Bool.eq_false_iff.mpr c196
               subst c196
               have H1 : ((frac_Sub.f kj117 t101 t102 t105 t106).bind fun bt147 => (if bt147.2.2 = 0 then ((frac_Cmp.f kj117 t101 t102 t105 t106).bind fun t151 => ((frac_Cmp.f kj117 bt147.1 bt147.2.1 0 1).bind fun t152 => (if t151 = t152 then ((frac_Floor.f kj117 t101 t102).bind fun t153 => ((frac_Round.f kj117 t101 t102).bind fun t154 => (if t153 ≤ t154 then ((frac_Round.f kj117 t101 t102).bind fun t155 => ((frac_Ceil.f kj117 t101 t102).bind fun t156 => (some (decide (t154 ≤ t156))))) else (none)))) else (none)))) else (some true))) = some r := by rw [if_neg (show ¬ (false = true) by decide)] at H; exact H
               clear H
               have H := H1
               clear H1
               replace H := Option.bind_eq_some_iff.mp H
               obtain ⟨⟨t147, t148, t149⟩, A1970, H⟩ := H
               replace H : (if t149 = 0 then ((frac_Cmp.f kj117 t101 t102 t105 t106).bind fun t151 => ((frac_Cmp.f kj117 t147 t148 0 1).bind fun t152 => (if t151 = t152 then ((frac_Floor.f kj117 t101 t102).bind fun t153 => ((frac_Round.f kj117 t101 t102).bind fun t154 => (if t153 ≤ t154 then ((frac_Round.f kj117 t101 t102).bind fun t155 => ((frac_Ceil.f kj117 t101 t102).bind fun t156 => (some (decide (t154 ≤ t156))))) else (none)))) else (none)))) else (some true)) = some r := H
               have A197 := Aside0.mk A1970
               clear A1970
               by_cases c198 : t149 = 0
               · rw [if_pos c198] at H
                 have c198b0 : (t149 == 0) = true := beq_iff_eq.mpr c198
                 have c198b1 : (t149 != 0) = false := bne_eq_false_iff_eq.mpr c198
                 clear c198
                 replace H := Option.bind_eq_some_iff.mp H
                 obtain ⟨t151, A1990, H⟩ := H
                 replace H : ((frac_Cmp.f kj117 t147 t148 0 1).bind fun t152 => (if t151 = t152 then ((frac_Floor.f kj117 t101 t102).bind fun t153 => ((frac_Round.f kj117 t101 t102).bind fun t154 => (if t153 ≤ t154 then ((frac_Round.f kj117 t101 t102).bind fun t155 => ((frac_Ceil.f kj117 t101 t102).bind fun t156 => (some (decide (t154 ≤ t156))))) else (none)))) else (none))) = some r := H
                 have A199 := Aside0.mk A1990
                 clear A1990
                 replace H := Option.bind_eq_some_iff.mp H
                 obtain ⟨t152, A2000, H⟩ := H
                 replace H : (if t151 = t152 then ((frac_Floor.f kj117 t101 t102).bind fun t153 => ((frac_Round.f kj117 t101 t102).bind fun t154 => (if t153 ≤ t154 then ((frac_Round.f kj117 t101 t102).bind fun t155 => ((frac_Ceil.f kj117 t101 t102).bind fun t156 => (some (decide (t154 ≤ t156))))) else (none)))) else (none)) = some r := H
                 have A200 := Aside0.mk A2000
                 clear A2000
                 by_cases c201 : t151 = t152
                 · rw [if_pos c201] at H
                   have c201b0 : (t151 == t152) = true := beq_iff_eq.mpr c201
                   have c201b1 : (t151 != t152) = false := bne_eq_false_iff_eq.mpr c201
                   clear c201
                   replace H := Option.bind_eq_some_iff.mp H
                   obtain ⟨t153, A2020, H⟩ := H
                   replace H : ((frac_Round.f kj117 t101 t102).bind fun t154 => (if t153 ≤ t154 then ((frac_Round.f kj117 t101 t102).bind fun t155 => ((frac_Ceil.f kj117 t101 t102).bind fun t156 => (some (decide (t154 ≤ t156))))) else (none))) = some r := H
                   have A202 := Aside0.mk A2020
                   clear A2020
                   replace H := Option.bind_eq_some_iff.mp H
                   obtain ⟨t154, A2030, H⟩ := H
                   replace H : (if t153 ≤ t154 then ((frac_Round.f kj117 t101 t102).bind fun t155 => ((frac_Ceil.f kj117 t101 t102).bind fun t156 => (some (decide (t154 ≤ t156))))) else (none)) = some r := H
                   have A203 := Aside0.mk A2030
                   clear A2030
                   by_cases c204 : t153 ≤ t154
                   · rw [if_pos c204] at H
                     have c204b0 : decide (t153 ≤ t154) = true := decide_eq_true c204
                     clear c204
                     replace H := Option.bind_eq_some_iff.mp H
                     obtain ⟨t155, A2050, H⟩ := H
                     replace H : ((frac_Ceil.f kj117 t101 t102).bind fun t156 => (some (decide (t154 ≤ t156)))) = some r := H
                     have E_ := Option.some.inj (A203.out.symm.trans A2050)
                     subst E_
                     have A205 := Aside0.mk A2050
                     clear A2050
                     replace H := Option.bind_eq_some_iff.mp H
                     obtain ⟨t156, A2060, H⟩ := H
                     replace H : (some (decide (t154 ≤ t156))) = some r := H
                     have A206 := Aside0.mk A2060
                     clear A2060
                     obtain rfl := Option.some.inj H
                     have hnb207 := NB104_108.out
                     have hnc207 := NB108_104.out
                     have hnb208 := NB104_112.out
                     have hnc208 := NB112_104.out
                     have hnb209 := NB104_118.out
                     have hnc209 := NB118_104.out
                     have hnb210 := NB104_126.out
                     have hnc210 := NB126_104.out
                     have hnb211 := NB104_134.out
                     have hnc211 := NB134_104.out
                     have hnb212 := NB104_138.out
                     have hnc212 := NB138_104.out
                     have hnb213 := NB104_142.out
                     have hnc213 := NB142_104.out
                     have hnb214 := NB104_146.out
                     have hnc214 := NB146_104.out
                     have hcz215_0 : wc.cell? ⟨gb104, 0, none⟩ = some (.int .i64 t101) := (blk_cell BK104.out 0).trans rfl
                     have hcz215_1 : wc.cell? ⟨gb104, 1, none⟩ = some (.int .i64 t102) := (blk_cell BK104.out 1).trans rfl
                     have hfz215_0 := blk_frozen BK104.out 0
                     have hfz215_1 := blk_frozen BK104.out 1
                     have hnb216 := NB108_112.out
                     have hnc216 := NB112_108.out
                     have hnb217 := NB108_118.out
                     have hnc217 := NB118_108.out
                     have hnb218 := NB108_126.out
                     have hnc218 := NB126_108.out
                     have hnb219 := NB108_134.out
                     have hnc219 := NB134_108.out
                     have hnb220 := NB108_138.out
                     have hnc220 := NB138_108.out
                     have hnb221 := NB108_142.out
                     have hnc221 := NB142_108.out
                     have hnb222 := NB108_146.out
                     have hnc222 := NB146_108.out
                     have hcz223_0 : wc.cell? ⟨gb108, 0, none⟩ = some (.int .i64 t105) := (blk_cell BK108.out 0).trans rfl
                     have hcz223_1 : wc.cell? ⟨gb108, 1, none⟩ = some (.int .i64 t106) := (blk_cell BK108.out 1).trans rfl
                     have hfz223_0 := blk_frozen BK108.out 0
                     have hfz223_1 := blk_frozen BK108.out 1
                     try go_wp2_with (first | ((with_reducible refine gate_callee (f := 54) rfl ?_); refine goesL_ (some 163) rfl rfl Try.func54 (by kernel_rfl) rfl #[.agg #[.int .i64 t101, .int .i64 t102], .agg #[.int .i64 t105, .int .i64 t106]] rfl (by (try simp only [List.map_toArray, List.map_cons, List.map_nil]); first | done | rfl | (simp only [List.length_drop, List.length_take]; rfl)) ?_; (with_reducible refine (frac_Sub.calls kj117 t101 t102 t105 t106 t147 t148 t149 _ A197.out).mono ?_); rintro e w224 ⟨rfl, hb⟩; refine ⟨_, rfl, ?_⟩; have n0_ := bkb_ BK104 hb rfl; have n1_ := bkb_ BK108 hb rfl; have n2_ := bkb_ BK112 hb rfl; have n3_ := bkb_ BK118 hb rfl; have n4_ := bkb_ BK126 hb rfl; have n5_ := bkb_ BK134 hb rfl; have n6_ := bkb_ BK138 hb rfl; have n7_ := bkb_ BK142 hb rfl; have n8_ := bkb_ BK146 hb rfl; have n9_ := hbs_ HB hb rfl rfl rfl rfl; clear BK104; clear BK108; clear BK112; clear BK118; clear BK126; clear BK134; clear BK138; clear BK142; clear BK146; clear HB; have BK104 := n0_; have BK108 := n1_; have BK112 := n2_; have BK118 := n3_; have BK126 := n4_; have BK134 := n5_; have BK138 := n6_; have BK142 := n7_; have BK146 := n8_; have HB := n9_; clear n0_ n1_ n2_ n3_ n4_ n5_ n6_ n7_ n8_ n9_; (try clear hb); (try clear hb2); (try clear hk); (try clear hi)) | ((with_reducible refine gate_dst (N := 32) rfl ?_); refine box_event ?hg (N := 32) ?hd (cs := #[.int .i64 0, .int .i64 0]) (t := 77) ?hr ?_; (case hd => rfl); (case hg => rfl); (case hr => first | (go_simp; done) | (go_simp; rfl)); intro gb150 hg w225 hbox hb; have n0_ := bkb_ BK104 hb rfl; have n1_ := bkb_ BK108 hb rfl; have n2_ := bkb_ BK112 hb rfl; have n3_ := bkb_ BK118 hb rfl; have n4_ := bkb_ BK126 hb rfl; have n5_ := bkb_ BK134 hb rfl; have n6_ := bkb_ BK138 hb rfl; have n7_ := bkb_ BK142 hb rfl; have n8_ := bkb_ BK146 hb rfl; have n9_ := hbs_ HB hb rfl rfl rfl rfl; have n10_ := Aside0.mk (hbox); have n11_ := Aside0.mk ((by rw [hg]; exact (below_size (by repeat (first | (with_reducible first | exact HB.out | apply below_alloc | apply pw_below_drewN | apply below_drew1 | refine below_set ?_ GE104.out | refine below_set ?_ GE108.out | refine below_set ?_ GE112.out | refine below_set ?_ GE118.out | refine below_set ?_ GE126.out | refine below_set ?_ GE134.out | refine below_set ?_ GE138.out | refine below_set ?_ GE142.out | refine below_set ?_ GE146.out) | exact HB.out))) : w.heap.size ≤ gb150)); have n12_ := n11_; have n13_ := nbl_ BK104 hg rfl; have n14_ := nbg_ BK104 hg rfl; have n15_ := nbl_ BK108 hg rfl; have n16_ := nbg_ BK108 hg rfl; have n17_ := nbl_ BK112 hg rfl; have n18_ := nbg_ BK112 hg rfl; have n19_ := nbl_ BK118 hg rfl; have n20_ := nbg_ BK118 hg rfl; have n21_ := nbl_ BK126 hg rfl; have n22_ := nbg_ BK126 hg rfl; have n23_ := nbl_ BK134 hg rfl; have n24_ := nbg_ BK134 hg rfl; have n25_ := nbl_ BK138 hg rfl; have n26_ := nbg_ BK138 hg rfl; have n27_ := nbl_ BK142 hg rfl; have n28_ := nbg_ BK142 hg rfl; have n29_ := nbl_ BK146 hg rfl; have n30_ := nbg_ BK146 hg rfl; clear BK104; clear BK108; clear BK112; clear BK118; clear BK126; clear BK134; clear BK138; clear BK142; clear BK146; clear HB; have BK104 := n0_; have BK108 := n1_; have BK112 := n2_; have BK118 := n3_; have BK126 := n4_; have BK134 := n5_; have BK138 := n6_; have BK142 := n7_; have BK146 := n8_; have HB := n9_; have BK150 := n10_; have GW150 := n11_; have GE150 := n12_; have NB104_150 := n13_; have NB150_104 := n14_; have NB108_150 := n15_; have NB150_108 := n16_; have NB112_150 := n17_; have NB150_112 := n18_; have NB118_150 := n19_; have NB150_118 := n20_; have NB126_150 := n21_; have NB150_126 := n22_; have NB134_150 := n23_; have NB150_134 := n24_; have NB138_150 := n25_; have NB150_138 := n26_; have NB142_150 := n27_; have NB150_142 := n28_; have NB146_150 := n29_; have NB150_146 := n30_; clear n0_ n1_ n2_ n3_ n4_ n5_ n6_ n7_ n8_ n9_ n10_ n11_ n12_ n13_ n14_ n15_ n16_ n17_ n18_ n19_ n20_ n21_ n22_ n23_ n24_ n25_ n26_ n27_ n28_ n29_ n30_; clear hb hbox hg; have hnb226 := NB150_104.out; have hnc226 := NB104_150.out; have hnb227 := NB150_108.out; have hnc227 := NB108_150.out; have hnb228 := NB150_112.out; have hnc228 := NB112_150.out; have hnb229 := NB150_118.out; have hnc229 := NB118_150.out; have hnb230 := NB150_126.out; have hnc230 := NB126_150.out; have hnb231 := NB150_134.out; have hnc231 := NB134_150.out; have hnb232 := NB150_138.out; have hnc232 := NB138_150.out; have hnb233 := NB150_142.out; have hnc233 := NB142_150.out; have hnb234 := NB150_146.out; have hnc234 := NB146_150.out; have hcz235_0 : w225.cell? ⟨gb150, 0, none⟩ = some (.int .i64 0) := (blk_cell BK150.out 0).trans rfl; have hcz235_1 : w225.cell? ⟨gb150, 1, none⟩ = some (.int .i64 0) := (blk_cell BK150.out 1).trans rfl; have hfz235_0 := blk_frozen BK150.out 0; have hfz235_1 := blk_frozen BK150.out 1))
                     have n0_ : Aside0 (((w225.setCell ⟨gb150, 0, none⟩ (.int .i64 t147)).setCell ⟨gb150, 1, none⟩ (.int .i64 t148)).heap[gb104]? = some (.cells #[.int .i64 t101, .int .i64 t102] 77 (0, 0))) := ⟨by (with_reducible repeat (first | refine blk_drewN ?_ _ | refine blk_drew ?_ | refine blk_alloc ?_ _)); refine blk_far ?_ NB104_150.out _; (with_reducible repeat (first | refine blk_drewN ?_ _ | refine blk_drew ?_ | refine blk_alloc ?_ _)); refine blk_far ?_ NB104_150.out _; (with_reducible repeat (first | refine blk_drewN ?_ _ | refine blk_drew ?_ | refine blk_alloc ?_ _)); exact BK104.out⟩
                     have n1_ : Aside0 (((w225.setCell ⟨gb150, 0, none⟩ (.int .i64 t147)).setCell ⟨gb150, 1, none⟩ (.int .i64 t148)).heap[gb108]? = some (.cells #[.int .i64 t105, .int .i64 t106] 77 (0, 0))) := ⟨by (with_reducible repeat (first | refine blk_drewN ?_ _ | refine blk_drew ?_ | refine blk_alloc ?_ _)); refine blk_far ?_ NB108_150.out _; (with_reducible repeat (first | refine blk_drewN ?_ _ | refine blk_drew ?_ | refine blk_alloc ?_ _)); refine blk_far ?_ NB108_150.out _; (with_reducible repeat (first | refine blk_drewN ?_ _ | refine blk_drew ?_ | refine blk_alloc ?_ _)); exact BK108.out⟩
                     have n2_ : Aside0 (((w225.setCell ⟨gb150, 0, none⟩ (.int .i64 t147)).setCell ⟨gb150, 1, none⟩ (.int .i64 t148)).heap[gb112]? = some (.cells #[.int .i64 t109, .int .i64 t110] 77 (0, 0))) := ⟨by (with_reducible repeat (first | refine blk_drewN ?_ _ | refine blk_drew ?_ | refine blk_alloc ?_ _)); refine blk_far ?_ NB112_150.out _; (with_reducible repeat (first | refine blk_drewN ?_ _ | refine blk_drew ?_ | refine blk_alloc ?_ _)); refine blk_far ?_ NB112_150.out _; (with_reducible repeat (first | refine blk_drewN ?_ _ | refine blk_drew ?_ | refine blk_alloc ?_ _)); exact BK112.out⟩
                     have n3_ : Aside0 (((w225.setCell ⟨gb150, 0, none⟩ (.int .i64 t147)).setCell ⟨gb150, 1, none⟩ (.int .i64 t148)).heap[gb118]? = some (.cells #[.int .i64 t115, .int .i64 t116] 77 (0, 0))) := ⟨by (with_reducible repeat (first | refine blk_drewN ?_ _ | refine blk_drew ?_ | refine blk_alloc ?_ _)); refine blk_far ?_ NB118_150.out _; (with_reducible repeat (first | refine blk_drewN ?_ _ | refine blk_drew ?_ | refine blk_alloc ?_ _)); refine blk_far ?_ NB118_150.out _; (with_reducible repeat (first | refine blk_drewN ?_ _ | refine blk_drew ?_ | refine blk_alloc ?_ _)); exact BK118.out⟩
                     have n4_ : Aside0 (((w225.setCell ⟨gb150, 0, none⟩ (.int .i64 t147)).setCell ⟨gb150, 1, none⟩ (.int .i64 t148)).heap[gb126]? = some (.cells #[.int .i64 t123, .int .i64 t124] 77 (0, 0))) := ⟨by (with_reducible repeat (first | refine blk_drewN ?_ _ | refine blk_drew ?_ | refine blk_alloc ?_ _)); refine blk_far ?_ NB126_150.out _; (with_reducible repeat (first | refine blk_drewN ?_ _ | refine blk_drew ?_ | refine blk_alloc ?_ _)); refine blk_far ?_ NB126_150.out _; (with_reducible repeat (first | refine blk_drewN ?_ _ | refine blk_drew ?_ | refine blk_alloc ?_ _)); exact BK126.out⟩
                     have n5_ : Aside0 (((w225.setCell ⟨gb150, 0, none⟩ (.int .i64 t147)).setCell ⟨gb150, 1, none⟩ (.int .i64 t148)).heap[gb134]? = some (.cells #[.int .i64 t131, .int .i64 t132] 77 (0, 0))) := ⟨by (with_reducible repeat (first | refine blk_drewN ?_ _ | refine blk_drew ?_ | refine blk_alloc ?_ _)); refine blk_far ?_ NB134_150.out _; (with_reducible repeat (first | refine blk_drewN ?_ _ | refine blk_drew ?_ | refine blk_alloc ?_ _)); refine blk_far ?_ NB134_150.out _; (with_reducible repeat (first | refine blk_drewN ?_ _ | refine blk_drew ?_ | refine blk_alloc ?_ _)); exact BK134.out⟩
                     have n6_ : Aside0 (((w225.setCell ⟨gb150, 0, none⟩ (.int .i64 t147)).setCell ⟨gb150, 1, none⟩ (.int .i64 t148)).heap[gb138]? = some (.cells #[.int .i64 t135, .int .i64 t136] 77 (0, 0))) := ⟨by (with_reducible repeat (first | refine blk_drewN ?_ _ | refine blk_drew ?_ | refine blk_alloc ?_ _)); refine blk_far ?_ NB138_150.out _; (with_reducible repeat (first | refine blk_drewN ?_ _ | refine blk_drew ?_ | refine blk_alloc ?_ _)); refine blk_far ?_ NB138_150.out _; (with_reducible repeat (first | refine blk_drewN ?_ _ | refine blk_drew ?_ | refine blk_alloc ?_ _)); exact BK138.out⟩
                     have n7_ : Aside0 (((w225.setCell ⟨gb150, 0, none⟩ (.int .i64 t147)).setCell ⟨gb150, 1, none⟩ (.int .i64 t148)).heap[gb142]? = some (.cells #[.int .i64 t139, .int .i64 t140] 77 (0, 0))) := ⟨by (with_reducible repeat (first | refine blk_drewN ?_ _ | refine blk_drew ?_ | refine blk_alloc ?_ _)); refine blk_far ?_ NB142_150.out _; (with_reducible repeat (first | refine blk_drewN ?_ _ | refine blk_drew ?_ | refine blk_alloc ?_ _)); refine blk_far ?_ NB142_150.out _; (with_reducible repeat (first | refine blk_drewN ?_ _ | refine blk_drew ?_ | refine blk_alloc ?_ _)); exact BK142.out⟩
                     have n8_ : Aside0 (((w225.setCell ⟨gb150, 0, none⟩ (.int .i64 t147)).setCell ⟨gb150, 1, none⟩ (.int .i64 t148)).heap[gb146]? = some (.cells #[.int .i64 t143, .int .i64 t144] 77 (0, 0))) := ⟨by (with_reducible repeat (first | refine blk_drewN ?_ _ | refine blk_drew ?_ | refine blk_alloc ?_ _)); refine blk_far ?_ NB146_150.out _; (with_reducible repeat (first | refine blk_drewN ?_ _ | refine blk_drew ?_ | refine blk_alloc ?_ _)); refine blk_far ?_ NB146_150.out _; (with_reducible repeat (first | refine blk_drewN ?_ _ | refine blk_drew ?_ | refine blk_alloc ?_ _)); exact BK146.out⟩
                     have n9_ : Aside0 (((w225.setCell ⟨gb150, 0, none⟩ (.int .i64 t147)).setCell ⟨gb150, 1, none⟩ (.int .i64 t148)).heap[gb150]? = some (.cells #[.int .i64 t147, .int .i64 t148] 77 (0, 0))) := ⟨by (with_reducible repeat (first | refine blk_drewN ?_ _ | refine blk_drew ?_ | refine blk_alloc ?_ _)); refine blk_put (cs := #[.int .i64 t147, .int .i64 0]) ?_ 1 _ rfl; (with_reducible repeat (first | refine blk_drewN ?_ _ | refine blk_drew ?_ | refine blk_alloc ?_ _)); refine blk_put (cs := #[.int .i64 0, .int .i64 0]) ?_ 0 _ rfl; (with_reducible repeat (first | refine blk_drewN ?_ _ | refine blk_drew ?_ | refine blk_alloc ?_ _)); exact BK150.out⟩
                     have n10_ : Aside0 (Below w.heap.size w ((w225.setCell ⟨gb150, 0, none⟩ (.int .i64 t147)).setCell ⟨gb150, 1, none⟩ (.int .i64 t148))) := ⟨by repeat (first | (with_reducible first | exact HB.out | apply below_alloc | apply pw_below_drewN | apply below_drew1 | refine below_set ?_ GE104.out | refine below_set ?_ GE108.out | refine below_set ?_ GE112.out | refine below_set ?_ GE118.out | refine below_set ?_ GE126.out | refine below_set ?_ GE134.out | refine below_set ?_ GE138.out | refine below_set ?_ GE142.out | refine below_set ?_ GE146.out | refine below_set ?_ GE150.out) | exact HB.out)⟩
                     (try clear BK104)
                     (try clear BK108)
                     (try clear BK112)
                     (try clear BK118)
                     (try clear BK126)
                     (try clear BK134)
                     (try clear BK138)
                     (try clear BK142)
                     (try clear BK146)
                     (try clear BK150)
                     (try clear HB)
                     generalize ((w225.setCell ⟨gb150, 0, none⟩ (.int .i64 t147)).setCell ⟨gb150, 1, none⟩ (.int .i64 t148)) = w236 at n0_ n1_ n2_ n3_ n4_ n5_ n6_ n7_ n8_ n9_ n10_ ⊢
                     have BK104 := n0_
                     have BK108 := n1_
                     have BK112 := n2_
                     have BK118 := n3_
                     have BK126 := n4_
                     have BK134 := n5_
                     have BK138 := n6_
                     have BK142 := n7_
                     have BK146 := n8_
                     have BK150 := n9_
                     have HB := n10_
                     clear n0_ n1_ n2_ n3_ n4_ n5_ n6_ n7_ n8_ n9_ n10_
                     have n0_ := Aside0.mk (blk_drew BK104.out)
                     have n1_ := Aside0.mk (blk_drew BK108.out)
                     have n2_ := Aside0.mk (blk_drew BK112.out)
                     have n3_ := Aside0.mk (blk_drew BK118.out)
                     have n4_ := Aside0.mk (blk_drew BK126.out)
                     have n5_ := Aside0.mk (blk_drew BK134.out)
                     have n6_ := Aside0.mk (blk_drew BK138.out)
                     have n7_ := Aside0.mk (blk_drew BK142.out)
                     have n8_ := Aside0.mk (blk_drew BK146.out)
                     have n9_ := Aside0.mk (blk_drew BK150.out)
                     have n10_ := Aside0.mk (below_drew1 HB.out)
                     clear BK104
                     clear BK108
                     clear BK112
                     clear BK118
                     clear BK126
                     clear BK134
                     clear BK138
                     clear BK142
                     clear BK146
                     clear BK150
                     clear HB
                     have BK104 := n0_
                     have BK108 := n1_
                     have BK112 := n2_
                     have BK118 := n3_
                     have BK126 := n4_
                     have BK134 := n5_
                     have BK138 := n6_
                     have BK142 := n7_
                     have BK146 := n8_
                     have BK150 := n9_
                     have HB := n10_
                     clear n0_ n1_ n2_ n3_ n4_ n5_ n6_ n7_ n8_ n9_ n10_
                     refine start_ (n := 26) (S := fun w' => w'.cell? ⟨gb104, 0, none⟩ = some (.int .i64 t101) ∧ w'.cell? ⟨gb104, 1, none⟩ = some (.int .i64 t102) ∧ w'.cell? ⟨gb108, 0, none⟩ = some (.int .i64 t105) ∧ w'.cell? ⟨gb108, 1, none⟩ = some (.int .i64 t106) ∧ w'.cell? ⟨gb150, 0, none⟩ = some (.int .i64 t147) ∧ w'.cell? ⟨gb150, 1, none⟩ = some (.int .i64 t148)) (ds := []) d131_0 (by kernel_rfl) rfl rfl ⟨(blk_cell BK104.out 0).trans rfl, (blk_cell BK104.out 1).trans rfl, (blk_cell BK108.out 0).trans rfl, (blk_cell BK108.out 1).trans rfl, (blk_cell BK150.out 0).trans rfl, (blk_cell BK150.out 1).trans rfl⟩ (fun hHeld => ?_); refine with_tabW spykeep1_FracField.tab23 spykeep1_FracField.bits23 (fun HT_ HW_ => ?_)
                     generalize w236.drew = w237 at BK104 BK108 BK112 BK118 BK126 BK134 BK138 BK142 BK146 BK150 HB hHeld ⊢
                     refine pure_ (i := 0) (N := some 166) (v := ?_) (a' := ?_) d131_1 rfl rfl (any_of HT_.out (by kernel_rfl)) (fun _ _ _ h => h) (Or.inl ⟨by rfl, ?_⟩) ?_ ?_
                     rotate_left
                     · intro w'
                       go_simp
                       with_reducible rfl
                     rotate_left
                     · simp only [Act.put, List.setIfInBounds_toArray, List.set_cons_zero, List.set_cons_succ, i64_w, i32_w]
                       rfl
                     refine pure_ (i := 1) (N := some 167) (v := ?_) (a' := ?_) d131_2 rfl rfl (any_of HT_.out (by kernel_rfl)) (fun _ _ _ h => h) (Or.inl ⟨by rfl, ?_⟩) ?_ ?_
                     rotate_left
                     · intro w'
                       go_simp
                       with_reducible rfl
                     rotate_left
                     · simp only [Act.put, List.setIfInBounds_toArray, List.set_cons_zero, List.set_cons_succ, i64_w, i32_w]
                       rfl
                     refine pure_ (i := 2) (N := some 168) (v := ?_) (a' := ?_) d131_3 rfl rfl (any_of HT_.out (by kernel_rfl)) (fun _ _ _ h => h) (Or.inl ⟨by rfl, ?_⟩) ?_ ?_
                     rotate_left
                     · intro w'
                       go_simp
                       with_reducible rfl
                     rotate_left
                     · simp only [Act.put, List.setIfInBounds_toArray, List.set_cons_zero, List.set_cons_succ, i64_w, i32_w]
                       rfl
                     refine pure_ (i := 7) (N := some 173) (v := ?_) (a' := ?_) #[true, true, true, false, false, false, false, true, false, false, false, false, false, false, false, false, false, false, false, false, false, false, false, false, false, false] rfl rfl (any_of HT_.out (by kernel_rfl)) (fun _ _ _ h => h) (Or.inl ⟨by rfl, ?_⟩) ?_ ?_
                     rotate_left
                     · intro w'
                       go_simp
                       with_reducible rfl
                     rotate_left
                     · simp only [Act.put, List.setIfInBounds_toArray, List.set_cons_zero, List.set_cons_succ, i64_w, i32_w]
                       rfl
                     refine take_ (i := 3) (N := some 169) (v := ?_) (a' := ?_) #[true, true, true, true, false, false, false, true, false, false, false, false, false, false, false, false, false, false, false, false, false, false, false, false, false, false] rfl rfl (take_ofW HT_.out HW_.out (by kernel_rfl)) (fun _ _ _ h => h) (Or.inl ⟨by rfl, ?_⟩) hHeld ?_ ?_
                     rotate_left
                     · rintro w' ⟨s0, s1, s2, s3, s4, s5⟩
                       go_simp
                       with_reducible rfl
                     rotate_left
                     · simp only [Act.put, List.setIfInBounds_toArray, List.set_cons_zero, List.set_cons_succ, i64_w, i32_w]
                       rfl
                     refine take_ (i := 4) (N := some 170) (v := ?_) (a' := ?_) #[true, true, true, true, true, false, false, true, false, false, false, false, false, false, false, false, false, false, false, false, false, false, false, false, false, false] rfl rfl (take_ofW HT_.out HW_.out (by kernel_rfl)) (fun _ _ _ h => h) (Or.inl ⟨by rfl, ?_⟩) hHeld ?_ ?_
                     rotate_left
                     · rintro w' ⟨s0, s1, s2, s3, s4, s5⟩
                       go_simp
                       with_reducible rfl
                     rotate_left
                     · simp only [Act.put, List.setIfInBounds_toArray, List.set_cons_zero, List.set_cons_succ, i64_w, i32_w]
                       rfl
                     refine take_ (i := 6) (N := some 172) (v := ?_) (a' := ?_) #[true, true, true, true, true, false, true, true, false, false, false, false, false, false, false, false, false, false, false, false, false, false, false, false, false, false] rfl rfl (take_ofW HT_.out HW_.out (by kernel_rfl)) (fun _ _ _ h => h) (Or.inl ⟨by rfl, ?_⟩) hHeld ?_ ?_
                     rotate_left
                     · rintro w' ⟨s0, s1, s2, s3, s4, s5⟩
                       go_simp
                       with_reducible rfl
                     rotate_left
                     · simp only [Act.put, List.setIfInBounds_toArray, List.set_cons_zero, List.set_cons_succ, i64_w, i32_w]
                       rfl
                     refine one_ (i := 5) (N := some 171) d131_12 rfl rfl (one_of HT_.out (by kernel_rfl)) (by decide) (fun K hK => ?_)
                     refine goes_ Try.func55 (by kernel_rfl) rfl #[.agg #[.int .i64 t101, .int .i64 t102], .agg #[.int .i64 t105, .int .i64 t106]] (by rfl) rfl rfl (by (try simp only [List.map_toArray, List.map_cons, List.map_nil]); first | done | rfl | (simp only [List.length_drop, List.length_take]; rfl)) ?_
                     with_reducible refine (frac_Cmp.calls kj117 t101 t102 t105 t106 t151 _ A199.out).mono ?_
                     rintro e w238 ⟨rfl, hb⟩
                     refine ⟨_, rfl, ?_⟩
                     have n0_ := bkb_ BK104 hb rfl
                     have n1_ := bkb_ BK108 hb rfl
                     have n2_ := bkb_ BK112 hb rfl
                     have n3_ := bkb_ BK118 hb rfl
                     have n4_ := bkb_ BK126 hb rfl
                     have n5_ := bkb_ BK134 hb rfl
                     have n6_ := bkb_ BK138 hb rfl
                     have n7_ := bkb_ BK142 hb rfl
                     have n8_ := bkb_ BK146 hb rfl
                     have n9_ := bkb_ BK150 hb rfl
                     have n10_ := hbs_ HB hb rfl rfl rfl rfl
                     clear BK104
                     clear BK108
                     clear BK112
                     clear BK118
                     clear BK126
                     clear BK134
                     clear BK138
                     clear BK142
                     clear BK146
                     clear BK150
                     clear HB
                     have BK104 := n0_
                     have BK108 := n1_
                     have BK112 := n2_
                     have BK118 := n3_
                     have BK126 := n4_
                     have BK134 := n5_
                     have BK138 := n6_
                     have BK142 := n7_
                     have BK146 := n8_
                     have BK150 := n9_
                     have HB := n10_
                     clear n0_ n1_ n2_ n3_ n4_ n5_ n6_ n7_ n8_ n9_ n10_
                     (try clear hb)
                     (try clear hb2)
                     (try clear hk)
                     (try clear hi)
                     refine hK.out _ _ ⟨(blk_cell BK104.out 0).trans rfl, (blk_cell BK104.out 1).trans rfl, (blk_cell BK108.out 0).trans rfl, (blk_cell BK108.out 1).trans rfl, (blk_cell BK150.out 0).trans rfl, (blk_cell BK150.out 1).trans rfl⟩ (fun hHeld => ?_)
                     clear hK K
                     refine norm_ (a' := ?_) ?_ ?_
                     rotate_left
                     · show Act.put _ (some 171) _ = _
                       simp only [Act.put, List.setIfInBounds_toArray, List.set_cons_zero, List.set_cons_succ, i64_w, i32_w]
                       rfl
                     refine one_ (i := 8) (N := some 174) d131_13 rfl rfl (one_of HT_.out (by kernel_rfl)) (by decide) (fun K hK => ?_)
                     refine goes_ Try.func55 (by kernel_rfl) rfl #[.agg #[.int .i64 t147, .int .i64 t148], .agg #[.int .i64 0, .int .i64 1]] (by rfl) rfl rfl (by (try simp only [List.map_toArray, List.map_cons, List.map_nil]); first | done | rfl | (simp only [List.length_drop, List.length_take]; rfl)) ?_
                     with_reducible refine (frac_Cmp.calls kj117 t147 t148 0 1 t152 _ A200.out).mono ?_
                     rintro e w239 ⟨rfl, hb⟩
                     refine ⟨_, rfl, ?_⟩
                     have n0_ := bkb_ BK104 hb rfl
                     have n1_ := bkb_ BK108 hb rfl
                     have n2_ := bkb_ BK112 hb rfl
                     have n3_ := bkb_ BK118 hb rfl
                     have n4_ := bkb_ BK126 hb rfl
                     have n5_ := bkb_ BK134 hb rfl
                     have n6_ := bkb_ BK138 hb rfl
                     have n7_ := bkb_ BK142 hb rfl
                     have n8_ := bkb_ BK146 hb rfl
                     have n9_ := bkb_ BK150 hb rfl
                     have n10_ := hbs_ HB hb rfl rfl rfl rfl
                     clear BK104
                     clear BK108
                     clear BK112
                     clear BK118
                     clear BK126
                     clear BK134
                     clear BK138
                     clear BK142
                     clear BK146
                     clear BK150
                     clear HB
                     have BK104 := n0_
                     have BK108 := n1_
                     have BK112 := n2_
                     have BK118 := n3_
                     have BK126 := n4_
                     have BK134 := n5_
                     have BK138 := n6_
                     have BK142 := n7_
                     have BK146 := n8_
                     have BK150 := n9_
                     have HB := n10_
                     clear n0_ n1_ n2_ n3_ n4_ n5_ n6_ n7_ n8_ n9_ n10_
                     (try clear hb)
                     (try clear hb2)
                     (try clear hk)
                     (try clear hi)
                     refine hK.out _ _ ⟨(blk_cell BK104.out 0).trans rfl, (blk_cell BK104.out 1).trans rfl, (blk_cell BK108.out 0).trans rfl, (blk_cell BK108.out 1).trans rfl, (blk_cell BK150.out 0).trans rfl, (blk_cell BK150.out 1).trans rfl⟩ (fun hHeld => ?_)
                     clear hK K
                     refine norm_ (a' := ?_) ?_ ?_
                     rotate_left
                     · show Act.put _ (some 174) _ = _
                       simp only [Act.put, List.setIfInBounds_toArray, List.set_cons_zero, List.set_cons_succ, i64_w, i32_w]
                       rfl
                     refine pure_ (i := 9) (N := some 175) (v := ?_) (a' := ?_) d131_14 rfl rfl (any_of HT_.out (by kernel_rfl)) (fun _ _ _ h => h) (Or.inl ⟨by rfl, ?_⟩) ?_ ?_
                     rotate_left
                     · intro w'
                       go_simp
                       with_reducible rfl
                     rotate_left
                     · simp only [Act.put, List.setIfInBounds_toArray, List.set_cons_zero, List.set_cons_succ, i64_w, i32_w]
                       rfl
                     refine pure_ (i := 10) (N := some 176) (v := ?_) (a' := ?_) d131_15 rfl rfl (any_of HT_.out (by kernel_rfl)) (fun _ _ _ h => h) (Or.inl ⟨by rfl, ?_⟩) ?_ ?_
                     rotate_left
                     · intro w'
                       go_simp
                       with_reducible rfl
                     rotate_left
                     · simp only [Act.put, List.setIfInBounds_toArray, List.set_cons_zero, List.set_cons_succ, i64_w, i32_w]
                       rfl
                     refine take_ (i := 11) (N := some 177) (v := ?_) (a' := ?_) d131_16 rfl rfl (take_ofW HT_.out HW_.out (by kernel_rfl)) (fun _ _ _ h => h) (Or.inl ⟨by rfl, ?_⟩) hHeld ?_ ?_
                     rotate_left
                     · rintro w' ⟨s0, s1, s2, s3, s4, s5⟩
                       go_simp
                       with_reducible rfl
                     rotate_left
                     · simp only [Act.put, List.setIfInBounds_toArray, List.set_cons_zero, List.set_cons_succ, i64_w, i32_w]
                       rfl
                     refine take_ (i := 13) (N := some 179) (v := ?_) (a' := ?_) #[true, true, true, true, true, true, true, true, true, true, true, true, false, true, false, false, false, false, false, false, false, false, false, false, false, false] rfl rfl (take_ofW HT_.out HW_.out (by kernel_rfl)) (fun _ _ _ h => h) (Or.inl ⟨by rfl, ?_⟩) hHeld ?_ ?_
                     rotate_left
                     · rintro w' ⟨s0, s1, s2, s3, s4, s5⟩
                       go_simp
                       with_reducible rfl
                     rotate_left
                     · simp only [Act.put, List.setIfInBounds_toArray, List.set_cons_zero, List.set_cons_succ, i64_w, i32_w]
                       rfl
                     refine one_ (i := 12) (N := some 178) d131_19 rfl rfl (one_of HT_.out (by kernel_rfl)) (by decide) (fun K hK => ?_)
                     refine goes_ Try.func59 (by kernel_rfl) rfl #[.agg #[.int .i64 t101, .int .i64 t102]] (by rfl) rfl rfl (by (try simp only [List.map_toArray, List.map_cons, List.map_nil]); first | done | rfl | (simp only [List.length_drop, List.length_take]; rfl)) ?_
                     with_reducible refine (frac_Floor.calls kj117 t101 t102 t153 _ A202.out).mono ?_
                     rintro e w240 ⟨rfl, hb⟩
                     refine ⟨_, rfl, ?_⟩
                     have n0_ := bkb_ BK104 hb rfl
                     have n1_ := bkb_ BK108 hb rfl
                     have n2_ := bkb_ BK112 hb rfl
                     have n3_ := bkb_ BK118 hb rfl
                     have n4_ := bkb_ BK126 hb rfl
                     have n5_ := bkb_ BK134 hb rfl
                     have n6_ := bkb_ BK138 hb rfl
                     have n7_ := bkb_ BK142 hb rfl
                     have n8_ := bkb_ BK146 hb rfl
                     have n9_ := bkb_ BK150 hb rfl
                     have n10_ := hbs_ HB hb rfl rfl rfl rfl
                     clear BK104
                     clear BK108
                     clear BK112
                     clear BK118
                     clear BK126
                     clear BK134
                     clear BK138
                     clear BK142
                     clear BK146
                     clear BK150
                     clear HB
                     have BK104 := n0_
                     have BK108 := n1_
                     have BK112 := n2_
                     have BK118 := n3_
                     have BK126 := n4_
                     have BK134 := n5_
                     have BK138 := n6_
                     have BK142 := n7_
                     have BK146 := n8_
                     have BK150 := n9_
                     have HB := n10_
                     clear n0_ n1_ n2_ n3_ n4_ n5_ n6_ n7_ n8_ n9_ n10_
                     (try clear hb)
                     (try clear hb2)
                     (try clear hk)
                     (try clear hi)
                     refine hK.out _ _ ⟨(blk_cell BK104.out 0).trans rfl, (blk_cell BK104.out 1).trans rfl, (blk_cell BK108.out 0).trans rfl, (blk_cell BK108.out 1).trans rfl, (blk_cell BK150.out 0).trans rfl, (blk_cell BK150.out 1).trans rfl⟩ (fun hHeld => ?_)
                     clear hK K
                     refine norm_ (a' := ?_) ?_ ?_
                     rotate_left
                     · show Act.put _ (some 178) _ = _
                       simp only [Act.put, List.setIfInBounds_toArray, List.set_cons_zero, List.set_cons_succ, i64_w, i32_w]
                       rfl
                     refine one_ (i := 14) (N := some 180) d131_20 rfl rfl (one_of HT_.out (by kernel_rfl)) (by decide) (fun K hK => ?_)
                     refine goes_ Try.func60 (by kernel_rfl) rfl #[.agg #[.int .i64 t101, .int .i64 t102]] (by rfl) rfl rfl (by (try simp only [List.map_toArray, List.map_cons, List.map_nil]); first | done | rfl | (simp only [List.length_drop, List.length_take]; rfl)) ?_
                     with_reducible refine (frac_Round.calls kj117 t101 t102 t154 _ A203.out).mono ?_
                     rintro e w241 ⟨rfl, hb⟩
                     refine ⟨_, rfl, ?_⟩
                     have n0_ := bkb_ BK104 hb rfl
                     have n1_ := bkb_ BK108 hb rfl
                     have n2_ := bkb_ BK112 hb rfl
                     have n3_ := bkb_ BK118 hb rfl
                     have n4_ := bkb_ BK126 hb rfl
                     have n5_ := bkb_ BK134 hb rfl
                     have n6_ := bkb_ BK138 hb rfl
                     have n7_ := bkb_ BK142 hb rfl
                     have n8_ := bkb_ BK146 hb rfl
                     have n9_ := bkb_ BK150 hb rfl
                     have n10_ := hbs_ HB hb rfl rfl rfl rfl
                     clear BK104
                     clear BK108
                     clear BK112
                     clear BK118
                     clear BK126
                     clear BK134
                     clear BK138
                     clear BK142
                     clear BK146
                     clear BK150
                     clear HB
                     have BK104 := n0_
                     have BK108 := n1_
                     have BK112 := n2_
                     have BK118 := n3_
                     have BK126 := n4_
                     have BK134 := n5_
                     have BK138 := n6_
                     have BK142 := n7_
                     have BK146 := n8_
                     have BK150 := n9_
                     have HB := n10_
                     clear n0_ n1_ n2_ n3_ n4_ n5_ n6_ n7_ n8_ n9_ n10_
                     (try clear hb)
                     (try clear hb2)
                     (try clear hk)
                     (try clear hi)
                     refine hK.out _ _ ⟨(blk_cell BK104.out 0).trans rfl, (blk_cell BK104.out 1).trans rfl, (blk_cell BK108.out 0).trans rfl, (blk_cell BK108.out 1).trans rfl, (blk_cell BK150.out 0).trans rfl, (blk_cell BK150.out 1).trans rfl⟩ (fun hHeld => ?_)
                     clear hK K
                     refine norm_ (a' := ?_) ?_ ?_
                     rotate_left
                     · show Act.put _ (some 180) _ = _
                       simp only [Act.put, List.setIfInBounds_toArray, List.set_cons_zero, List.set_cons_succ, i64_w, i32_w]
                       rfl
                     refine pure_ (i := 15) (N := some 181) (v := ?_) (a' := ?_) d131_21 rfl rfl (any_of HT_.out (by kernel_rfl)) (fun _ _ _ h => h) (Or.inl ⟨by rfl, ?_⟩) ?_ ?_
                     rotate_left
                     · intro w'
                       go_simp
                       with_reducible rfl
                     rotate_left
                     · simp only [Act.put, List.setIfInBounds_toArray, List.set_cons_zero, List.set_cons_succ, i64_w, i32_w]
                       rfl
                     refine pure_ (i := 16) (N := some 182) (v := ?_) (a' := ?_) d131_22 rfl rfl (any_of HT_.out (by kernel_rfl)) (fun _ _ _ h => h) (Or.inl ⟨by rfl, ?_⟩) ?_ ?_
                     rotate_left
                     · intro w'
                       go_simp
                       with_reducible rfl
                     rotate_left
                     · simp only [Act.put, List.setIfInBounds_toArray, List.set_cons_zero, List.set_cons_succ, i64_w, i32_w]
                       rfl
                     refine pure_ (i := 17) (N := some 183) (v := ?_) (a' := ?_) d131_23 rfl rfl (any_of HT_.out (by kernel_rfl)) (fun _ _ _ h => h) (Or.inl ⟨by rfl, ?_⟩) ?_ ?_
                     rotate_left
                     · intro w'
                       go_simp
                       with_reducible rfl
                     rotate_left
                     · simp only [Act.put, List.setIfInBounds_toArray, List.set_cons_zero, List.set_cons_succ, i64_w, i32_w]
                       rfl
                     refine take_ (i := 18) (N := some 184) (v := ?_) (a' := ?_) d131_24 rfl rfl (take_ofW HT_.out HW_.out (by kernel_rfl)) (fun _ _ _ h => h) (Or.inl ⟨by rfl, ?_⟩) hHeld ?_ ?_
                     rotate_left
                     · rintro w' ⟨s0, s1, s2, s3, s4, s5⟩
                       go_simp
                       with_reducible rfl
                     rotate_left
                     · simp only [Act.put, List.setIfInBounds_toArray, List.set_cons_zero, List.set_cons_succ, i64_w, i32_w]
                       rfl
                     refine take_ (i := 20) (N := some 186) (v := ?_) (a' := ?_) #[true, true, true, true, true, true, true, true, true, true, true, true, true, true, true, true, true, true, true, false, true, false, false, false, false, false] rfl rfl (take_ofW HT_.out HW_.out (by kernel_rfl)) (fun _ _ _ h => h) (Or.inl ⟨by rfl, ?_⟩) hHeld ?_ ?_
                     rotate_left
                     · rintro w' ⟨s0, s1, s2, s3, s4, s5⟩
                       go_simp
                       with_reducible rfl
                     rotate_left
                     · simp only [Act.put, List.setIfInBounds_toArray, List.set_cons_zero, List.set_cons_succ, i64_w, i32_w]
                       rfl
                     refine one_ (i := 19) (N := some 185) d131_27 rfl rfl (one_of HT_.out (by kernel_rfl)) (by decide) (fun K hK => ?_)
                     refine goes_ Try.func60 (by kernel_rfl) rfl #[.agg #[.int .i64 t101, .int .i64 t102]] (by rfl) rfl rfl (by (try simp only [List.map_toArray, List.map_cons, List.map_nil]); first | done | rfl | (simp only [List.length_drop, List.length_take]; rfl)) ?_
                     with_reducible refine (frac_Round.calls kj117 t101 t102 t154 _ A205.out).mono ?_
                     rintro e w242 ⟨rfl, hb⟩
                     refine ⟨_, rfl, ?_⟩
                     have n0_ := bkb_ BK104 hb rfl
                     have n1_ := bkb_ BK108 hb rfl
                     have n2_ := bkb_ BK112 hb rfl
                     have n3_ := bkb_ BK118 hb rfl
                     have n4_ := bkb_ BK126 hb rfl
                     have n5_ := bkb_ BK134 hb rfl
                     have n6_ := bkb_ BK138 hb rfl
                     have n7_ := bkb_ BK142 hb rfl
                     have n8_ := bkb_ BK146 hb rfl
                     have n9_ := bkb_ BK150 hb rfl
                     have n10_ := hbs_ HB hb rfl rfl rfl rfl
                     clear BK104
                     clear BK108
                     clear BK112
                     clear BK118
                     clear BK126
                     clear BK134
                     clear BK138
                     clear BK142
                     clear BK146
                     clear BK150
                     clear HB
                     have BK104 := n0_
                     have BK108 := n1_
                     have BK112 := n2_
                     have BK118 := n3_
                     have BK126 := n4_
                     have BK134 := n5_
                     have BK138 := n6_
                     have BK142 := n7_
                     have BK146 := n8_
                     have BK150 := n9_
                     have HB := n10_
                     clear n0_ n1_ n2_ n3_ n4_ n5_ n6_ n7_ n8_ n9_ n10_
                     (try clear hb)
                     (try clear hb2)
                     (try clear hk)
                     (try clear hi)
                     refine hK.out _ _ ⟨(blk_cell BK104.out 0).trans rfl, (blk_cell BK104.out 1).trans rfl, (blk_cell BK108.out 0).trans rfl, (blk_cell BK108.out 1).trans rfl, (blk_cell BK150.out 0).trans rfl, (blk_cell BK150.out 1).trans rfl⟩ (fun hHeld => ?_)
                     clear hK K
                     refine norm_ (a' := ?_) ?_ ?_
                     rotate_left
                     · show Act.put _ (some 185) _ = _
                       simp only [Act.put, List.setIfInBounds_toArray, List.set_cons_zero, List.set_cons_succ, i64_w, i32_w]
                       rfl
                     refine one_ (i := 21) (N := some 187) d131_28 rfl rfl (one_of HT_.out (by kernel_rfl)) (by decide) (fun K hK => ?_)
                     refine goes_ Try.func61 (by kernel_rfl) rfl #[.agg #[.int .i64 t101, .int .i64 t102]] (by rfl) rfl rfl (by (try simp only [List.map_toArray, List.map_cons, List.map_nil]); first | done | rfl | (simp only [List.length_drop, List.length_take]; rfl)) ?_
                     with_reducible refine (frac_Ceil.calls kj117 t101 t102 t156 _ A206.out).mono ?_
                     rintro e w243 ⟨rfl, hb⟩
                     refine ⟨_, rfl, ?_⟩
                     have n0_ := bkb_ BK104 hb rfl
                     have n1_ := bkb_ BK108 hb rfl
                     have n2_ := bkb_ BK112 hb rfl
                     have n3_ := bkb_ BK118 hb rfl
                     have n4_ := bkb_ BK126 hb rfl
                     have n5_ := bkb_ BK134 hb rfl
                     have n6_ := bkb_ BK138 hb rfl
                     have n7_ := bkb_ BK142 hb rfl
                     have n8_ := bkb_ BK146 hb rfl
                     have n9_ := bkb_ BK150 hb rfl
                     have n10_ := hbs_ HB hb rfl rfl rfl rfl
                     clear BK104
                     clear BK108
                     clear BK112
                     clear BK118
                     clear BK126
                     clear BK134
                     clear BK138
                     clear BK142
                     clear BK146
                     clear BK150
                     clear HB
                     have BK104 := n0_
                     have BK108 := n1_
                     have BK112 := n2_
                     have BK118 := n3_
                     have BK126 := n4_
                     have BK134 := n5_
                     have BK138 := n6_
                     have BK142 := n7_
                     have BK146 := n8_
                     have BK150 := n9_
                     have HB := n10_
                     clear n0_ n1_ n2_ n3_ n4_ n5_ n6_ n7_ n8_ n9_ n10_
                     (try clear hb)
                     (try clear hb2)
                     (try clear hk)
                     (try clear hi)
                     refine hK.out _ _ ⟨(blk_cell BK104.out 0).trans rfl, (blk_cell BK104.out 1).trans rfl, (blk_cell BK108.out 0).trans rfl, (blk_cell BK108.out 1).trans rfl, (blk_cell BK150.out 0).trans rfl, (blk_cell BK150.out 1).trans rfl⟩ (fun hHeld => ?_)
                     clear hK K
                     refine norm_ (a' := ?_) ?_ ?_
                     rotate_left
                     · show Act.put _ (some 187) _ = _
                       simp only [Act.put, List.setIfInBounds_toArray, List.set_cons_zero, List.set_cons_succ, i64_w, i32_w]
                       rfl
                     refine pure_ (i := 22) (N := some 188) (v := ?_) (a' := ?_) d131_29 rfl rfl (any_of HT_.out (by kernel_rfl)) (fun _ _ _ h => h) (Or.inl ⟨by rfl, ?_⟩) ?_ ?_
                     rotate_left
                     · intro w'
                       go_simp
                       with_reducible rfl
                     rotate_left
                     · simp only [Act.put, List.setIfInBounds_toArray, List.set_cons_zero, List.set_cons_succ, i64_w, i32_w]
                       rfl
                     refine pure_ (i := 23) (N := some 189) (v := ?_) (a' := ?_) d131_30 rfl rfl (any_of HT_.out (by kernel_rfl)) (fun _ _ _ h => h) (Or.inl ⟨by rfl, ?_⟩) ?_ ?_
                     rotate_left
                     · intro w'
                       go_simp
                       with_reducible rfl
                     rotate_left
                     · simp only [Act.put, List.setIfInBounds_toArray, List.set_cons_zero, List.set_cons_succ, i64_w, i32_w]
                       rfl
                     refine pure_ (i := 24) (N := some 190) (v := ?_) (a' := ?_) d131_31 rfl rfl (any_of HT_.out (by kernel_rfl)) (fun _ _ _ h => h) (Or.inl ⟨by rfl, ?_⟩) ?_ ?_
                     rotate_left
                     · intro w'
                       go_simp
                       with_reducible rfl
                     rotate_left
                     · simp only [Act.put, List.setIfInBounds_toArray, List.set_cons_zero, List.set_cons_succ, i64_w, i32_w]
                       rfl
                     refine pure_ (i := 25) (N := some 12) (v := ?_) (a' := ?_) d131_32 rfl rfl (any_of HT_.out (by kernel_rfl)) (fun _ _ _ h => h) (Or.inl ⟨by rfl, ?_⟩) ?_ ?_
                     rotate_left
                     · intro w'
                       go_simp
                       with_reducible rfl
                     rotate_left
                     · simp only [Act.put, List.setIfInBounds_toArray, List.set_cons_zero, List.set_cons_succ, i64_w, i32_w]
                       rfl
                     refine done_ (done_of HT_.out (by kernel_rfl)) ?_
                     try go_wp2
                     go_ret
                     exact ⟨by first | rfl | (simp [errW_none, errW_some] <;> rfl) | (simp [*, errW_none, errW_some] <;> rfl), by repeat (first | (with_reducible first | exact HB.out | apply below_alloc | apply pw_below_drewN | apply below_drew1 | refine below_set ?_ GE104.out | refine below_set ?_ GE108.out | refine below_set ?_ GE112.out | refine below_set ?_ GE118.out | refine below_set ?_ GE126.out | refine below_set ?_ GE134.out | refine below_set ?_ GE138.out | refine below_set ?_ GE142.out | refine below_set ?_ GE146.out | refine below_set ?_ GE150.out) | exact HB.out)⟩
                   · rw [if_neg c204] at H
                     exact absurd H (by simp)
                 · rw [if_neg c201] at H
                   exact absurd H (by simp)
               · rw [if_neg c198] at H
                 have c198b0 : (t149 == 0) = false := beq_eq_false_iff_ne.mpr c198
                 have c198b1 : (t149 != 0) = true := bne_iff_ne.mpr c198
                 obtain rfl := Option.some.inj H
                 have hnb244 := NB104_108.out
                 have hnc244 := NB108_104.out
                 have hnb245 := NB104_112.out
                 have hnc245 := NB112_104.out
                 have hnb246 := NB104_118.out
                 have hnc246 := NB118_104.out
                 have hnb247 := NB104_126.out
                 have hnc247 := NB126_104.out
                 have hnb248 := NB104_134.out
                 have hnc248 := NB134_104.out
                 have hnb249 := NB104_138.out
                 have hnc249 := NB138_104.out
                 have hnb250 := NB104_142.out
                 have hnc250 := NB142_104.out
                 have hnb251 := NB104_146.out
                 have hnc251 := NB146_104.out
                 have hcz252_0 : wc.cell? ⟨gb104, 0, none⟩ = some (.int .i64 t101) := (blk_cell BK104.out 0).trans rfl
                 have hcz252_1 : wc.cell? ⟨gb104, 1, none⟩ = some (.int .i64 t102) := (blk_cell BK104.out 1).trans rfl
                 have hfz252_0 := blk_frozen BK104.out 0
                 have hfz252_1 := blk_frozen BK104.out 1
                 have hnb253 := NB108_112.out
                 have hnc253 := NB112_108.out
                 have hnb254 := NB108_118.out
                 have hnc254 := NB118_108.out
                 have hnb255 := NB108_126.out
                 have hnc255 := NB126_108.out
                 have hnb256 := NB108_134.out
                 have hnc256 := NB134_108.out
                 have hnb257 := NB108_138.out
                 have hnc257 := NB138_108.out
                 have hnb258 := NB108_142.out
                 have hnc258 := NB142_108.out
                 have hnb259 := NB108_146.out
                 have hnc259 := NB146_108.out
                 have hcz260_0 : wc.cell? ⟨gb108, 0, none⟩ = some (.int .i64 t105) := (blk_cell BK108.out 0).trans rfl
                 have hcz260_1 : wc.cell? ⟨gb108, 1, none⟩ = some (.int .i64 t106) := (blk_cell BK108.out 1).trans rfl
                 have hfz260_0 := blk_frozen BK108.out 0
                 have hfz260_1 := blk_frozen BK108.out 1
                 try go_wp2_with (first | ((with_reducible refine gate_callee (f := 54) rfl ?_); refine goesL_ (some 163) rfl rfl Try.func54 (by kernel_rfl) rfl #[.agg #[.int .i64 t101, .int .i64 t102], .agg #[.int .i64 t105, .int .i64 t106]] rfl (by (try simp only [List.map_toArray, List.map_cons, List.map_nil]); first | done | rfl | (simp only [List.length_drop, List.length_take]; rfl)) ?_; (with_reducible refine (frac_Sub.calls kj117 t101 t102 t105 t106 t147 t148 t149 _ A197.out).mono ?_); rintro e w261 ⟨rfl, hb⟩; refine ⟨_, rfl, ?_⟩; have n0_ := bkb_ BK104 hb rfl; have n1_ := bkb_ BK108 hb rfl; have n2_ := bkb_ BK112 hb rfl; have n3_ := bkb_ BK118 hb rfl; have n4_ := bkb_ BK126 hb rfl; have n5_ := bkb_ BK134 hb rfl; have n6_ := bkb_ BK138 hb rfl; have n7_ := bkb_ BK142 hb rfl; have n8_ := bkb_ BK146 hb rfl; have n9_ := hbs_ HB hb rfl rfl rfl rfl; clear BK104; clear BK108; clear BK112; clear BK118; clear BK126; clear BK134; clear BK138; clear BK142; clear BK146; clear HB; have BK104 := n0_; have BK108 := n1_; have BK112 := n2_; have BK118 := n3_; have BK126 := n4_; have BK134 := n5_; have BK138 := n6_; have BK142 := n7_; have BK146 := n8_; have HB := n9_; clear n0_ n1_ n2_ n3_ n4_ n5_ n6_ n7_ n8_ n9_; (try clear hb); (try clear hb2); (try clear hk); (try clear hi)) | ((with_reducible refine gate_dst (N := 32) rfl ?_); refine box_event ?hg (N := 32) ?hd (cs := #[.int .i64 0, .int .i64 0]) (t := 77) ?hr ?_; (case hd => rfl); (case hg => rfl); (case hr => first | (go_simp; done) | (go_simp; rfl)); intro gb150 hg w262 hbox hb; have n0_ := bkb_ BK104 hb rfl; have n1_ := bkb_ BK108 hb rfl; have n2_ := bkb_ BK112 hb rfl; have n3_ := bkb_ BK118 hb rfl; have n4_ := bkb_ BK126 hb rfl; have n5_ := bkb_ BK134 hb rfl; have n6_ := bkb_ BK138 hb rfl; have n7_ := bkb_ BK142 hb rfl; have n8_ := bkb_ BK146 hb rfl; have n9_ := hbs_ HB hb rfl rfl rfl rfl; have n10_ := Aside0.mk (hbox); have n11_ := Aside0.mk ((by rw [hg]; exact (below_size (by repeat (first | (with_reducible first | exact HB.out | apply below_alloc | apply pw_below_drewN | apply below_drew1 | refine below_set ?_ GE104.out | refine below_set ?_ GE108.out | refine below_set ?_ GE112.out | refine below_set ?_ GE118.out | refine below_set ?_ GE126.out | refine below_set ?_ GE134.out | refine below_set ?_ GE138.out | refine below_set ?_ GE142.out | refine below_set ?_ GE146.out) | exact HB.out))) : w.heap.size ≤ gb150)); have n12_ := n11_; have n13_ := nbl_ BK104 hg rfl; have n14_ := nbg_ BK104 hg rfl; have n15_ := nbl_ BK108 hg rfl; have n16_ := nbg_ BK108 hg rfl; have n17_ := nbl_ BK112 hg rfl; have n18_ := nbg_ BK112 hg rfl; have n19_ := nbl_ BK118 hg rfl; have n20_ := nbg_ BK118 hg rfl; have n21_ := nbl_ BK126 hg rfl; have n22_ := nbg_ BK126 hg rfl; have n23_ := nbl_ BK134 hg rfl; have n24_ := nbg_ BK134 hg rfl; have n25_ := nbl_ BK138 hg rfl; have n26_ := nbg_ BK138 hg rfl; have n27_ := nbl_ BK142 hg rfl; have n28_ := nbg_ BK142 hg rfl; have n29_ := nbl_ BK146 hg rfl; have n30_ := nbg_ BK146 hg rfl; clear BK104; clear BK108; clear BK112; clear BK118; clear BK126; clear BK134; clear BK138; clear BK142; clear BK146; clear HB; have BK104 := n0_; have BK108 := n1_; have BK112 := n2_; have BK118 := n3_; have BK126 := n4_; have BK134 := n5_; have BK138 := n6_; have BK142 := n7_; have BK146 := n8_; have HB := n9_; have BK150 := n10_; have GW150 := n11_; have GE150 := n12_; have NB104_150 := n13_; have NB150_104 := n14_; have NB108_150 := n15_; have NB150_108 := n16_; have NB112_150 := n17_; have NB150_112 := n18_; have NB118_150 := n19_; have NB150_118 := n20_; have NB126_150 := n21_; have NB150_126 := n22_; have NB134_150 := n23_; have NB150_134 := n24_; have NB138_150 := n25_; have NB150_138 := n26_; have NB142_150 := n27_; have NB150_142 := n28_; have NB146_150 := n29_; have NB150_146 := n30_; clear n0_ n1_ n2_ n3_ n4_ n5_ n6_ n7_ n8_ n9_ n10_ n11_ n12_ n13_ n14_ n15_ n16_ n17_ n18_ n19_ n20_ n21_ n22_ n23_ n24_ n25_ n26_ n27_ n28_ n29_ n30_; clear hb hbox hg; have hnb263 := NB150_104.out; have hnc263 := NB104_150.out; have hnb264 := NB150_108.out; have hnc264 := NB108_150.out; have hnb265 := NB150_112.out; have hnc265 := NB112_150.out; have hnb266 := NB150_118.out; have hnc266 := NB118_150.out; have hnb267 := NB150_126.out; have hnc267 := NB126_150.out; have hnb268 := NB150_134.out; have hnc268 := NB134_150.out; have hnb269 := NB150_138.out; have hnc269 := NB138_150.out; have hnb270 := NB150_142.out; have hnc270 := NB142_150.out; have hnb271 := NB150_146.out; have hnc271 := NB146_150.out; have hcz272_0 : w262.cell? ⟨gb150, 0, none⟩ = some (.int .i64 0) := (blk_cell BK150.out 0).trans rfl; have hcz272_1 : w262.cell? ⟨gb150, 1, none⟩ = some (.int .i64 0) := (blk_cell BK150.out 1).trans rfl; have hfz272_0 := blk_frozen BK150.out 0; have hfz272_1 := blk_frozen BK150.out 1))
                 have n0_ : Aside0 (((w262.setCell ⟨gb150, 0, none⟩ (.int .i64 t147)).setCell ⟨gb150, 1, none⟩ (.int .i64 t148)).heap[gb104]? = some (.cells #[.int .i64 t101, .int .i64 t102] 77 (0, 0))) := ⟨by (with_reducible repeat (first | refine blk_drewN ?_ _ | refine blk_drew ?_ | refine blk_alloc ?_ _)); refine blk_far ?_ NB104_150.out _; (with_reducible repeat (first | refine blk_drewN ?_ _ | refine blk_drew ?_ | refine blk_alloc ?_ _)); refine blk_far ?_ NB104_150.out _; (with_reducible repeat (first | refine blk_drewN ?_ _ | refine blk_drew ?_ | refine blk_alloc ?_ _)); exact BK104.out⟩
                 have n1_ : Aside0 (((w262.setCell ⟨gb150, 0, none⟩ (.int .i64 t147)).setCell ⟨gb150, 1, none⟩ (.int .i64 t148)).heap[gb108]? = some (.cells #[.int .i64 t105, .int .i64 t106] 77 (0, 0))) := ⟨by (with_reducible repeat (first | refine blk_drewN ?_ _ | refine blk_drew ?_ | refine blk_alloc ?_ _)); refine blk_far ?_ NB108_150.out _; (with_reducible repeat (first | refine blk_drewN ?_ _ | refine blk_drew ?_ | refine blk_alloc ?_ _)); refine blk_far ?_ NB108_150.out _; (with_reducible repeat (first | refine blk_drewN ?_ _ | refine blk_drew ?_ | refine blk_alloc ?_ _)); exact BK108.out⟩
                 have n2_ : Aside0 (((w262.setCell ⟨gb150, 0, none⟩ (.int .i64 t147)).setCell ⟨gb150, 1, none⟩ (.int .i64 t148)).heap[gb112]? = some (.cells #[.int .i64 t109, .int .i64 t110] 77 (0, 0))) := ⟨by (with_reducible repeat (first | refine blk_drewN ?_ _ | refine blk_drew ?_ | refine blk_alloc ?_ _)); refine blk_far ?_ NB112_150.out _; (with_reducible repeat (first | refine blk_drewN ?_ _ | refine blk_drew ?_ | refine blk_alloc ?_ _)); refine blk_far ?_ NB112_150.out _; (with_reducible repeat (first | refine blk_drewN ?_ _ | refine blk_drew ?_ | refine blk_alloc ?_ _)); exact BK112.out⟩
                 have n3_ : Aside0 (((w262.setCell ⟨gb150, 0, none⟩ (.int .i64 t147)).setCell ⟨gb150, 1, none⟩ (.int .i64 t148)).heap[gb118]? = some (.cells #[.int .i64 t115, .int .i64 t116] 77 (0, 0))) := ⟨by (with_reducible repeat (first | refine blk_drewN ?_ _ | refine blk_drew ?_ | refine blk_alloc ?_ _)); refine blk_far ?_ NB118_150.out _; (with_reducible repeat (first | refine blk_drewN ?_ _ | refine blk_drew ?_ | refine blk_alloc ?_ _)); refine blk_far ?_ NB118_150.out _; (with_reducible repeat (first | refine blk_drewN ?_ _ | refine blk_drew ?_ | refine blk_alloc ?_ _)); exact BK118.out⟩
                 have n4_ : Aside0 (((w262.setCell ⟨gb150, 0, none⟩ (.int .i64 t147)).setCell ⟨gb150, 1, none⟩ (.int .i64 t148)).heap[gb126]? = some (.cells #[.int .i64 t123, .int .i64 t124] 77 (0, 0))) := ⟨by (with_reducible repeat (first | refine blk_drewN ?_ _ | refine blk_drew ?_ | refine blk_alloc ?_ _)); refine blk_far ?_ NB126_150.out _; (with_reducible repeat (first | refine blk_drewN ?_ _ | refine blk_drew ?_ | refine blk_alloc ?_ _)); refine blk_far ?_ NB126_150.out _; (with_reducible repeat (first | refine blk_drewN ?_ _ | refine blk_drew ?_ | refine blk_alloc ?_ _)); exact BK126.out⟩
                 have n5_ : Aside0 (((w262.setCell ⟨gb150, 0, none⟩ (.int .i64 t147)).setCell ⟨gb150, 1, none⟩ (.int .i64 t148)).heap[gb134]? = some (.cells #[.int .i64 t131, .int .i64 t132] 77 (0, 0))) := ⟨by (with_reducible repeat (first | refine blk_drewN ?_ _ | refine blk_drew ?_ | refine blk_alloc ?_ _)); refine blk_far ?_ NB134_150.out _; (with_reducible repeat (first | refine blk_drewN ?_ _ | refine blk_drew ?_ | refine blk_alloc ?_ _)); refine blk_far ?_ NB134_150.out _; (with_reducible repeat (first | refine blk_drewN ?_ _ | refine blk_drew ?_ | refine blk_alloc ?_ _)); exact BK134.out⟩
                 have n6_ : Aside0 (((w262.setCell ⟨gb150, 0, none⟩ (.int .i64 t147)).setCell ⟨gb150, 1, none⟩ (.int .i64 t148)).heap[gb138]? = some (.cells #[.int .i64 t135, .int .i64 t136] 77 (0, 0))) := ⟨by (with_reducible repeat (first | refine blk_drewN ?_ _ | refine blk_drew ?_ | refine blk_alloc ?_ _)); refine blk_far ?_ NB138_150.out _; (with_reducible repeat (first | refine blk_drewN ?_ _ | refine blk_drew ?_ | refine blk_alloc ?_ _)); refine blk_far ?_ NB138_150.out _; (with_reducible repeat (first | refine blk_drewN ?_ _ | refine blk_drew ?_ | refine blk_alloc ?_ _)); exact BK138.out⟩
                 have n7_ : Aside0 (((w262.setCell ⟨gb150, 0, none⟩ (.int .i64 t147)).setCell ⟨gb150, 1, none⟩ (.int .i64 t148)).heap[gb142]? = some (.cells #[.int .i64 t139, .int .i64 t140] 77 (0, 0))) := ⟨by (with_reducible repeat (first | refine blk_drewN ?_ _ | refine blk_drew ?_ | refine blk_alloc ?_ _)); refine blk_far ?_ NB142_150.out _; (with_reducible repeat (first | refine blk_drewN ?_ _ | refine blk_drew ?_ | refine blk_alloc ?_ _)); refine blk_far ?_ NB142_150.out _; (with_reducible repeat (first | refine blk_drewN ?_ _ | refine blk_drew ?_ | refine blk_alloc ?_ _)); exact BK142.out⟩
                 have n8_ : Aside0 (((w262.setCell ⟨gb150, 0, none⟩ (.int .i64 t147)).setCell ⟨gb150, 1, none⟩ (.int .i64 t148)).heap[gb146]? = some (.cells #[.int .i64 t143, .int .i64 t144] 77 (0, 0))) := ⟨by (with_reducible repeat (first | refine blk_drewN ?_ _ | refine blk_drew ?_ | refine blk_alloc ?_ _)); refine blk_far ?_ NB146_150.out _; (with_reducible repeat (first | refine blk_drewN ?_ _ | refine blk_drew ?_ | refine blk_alloc ?_ _)); refine blk_far ?_ NB146_150.out _; (with_reducible repeat (first | refine blk_drewN ?_ _ | refine blk_drew ?_ | refine blk_alloc ?_ _)); exact BK146.out⟩
                 have n9_ : Aside0 (((w262.setCell ⟨gb150, 0, none⟩ (.int .i64 t147)).setCell ⟨gb150, 1, none⟩ (.int .i64 t148)).heap[gb150]? = some (.cells #[.int .i64 t147, .int .i64 t148] 77 (0, 0))) := ⟨by (with_reducible repeat (first | refine blk_drewN ?_ _ | refine blk_drew ?_ | refine blk_alloc ?_ _)); refine blk_put (cs := #[.int .i64 t147, .int .i64 0]) ?_ 1 _ rfl; (with_reducible repeat (first | refine blk_drewN ?_ _ | refine blk_drew ?_ | refine blk_alloc ?_ _)); refine blk_put (cs := #[.int .i64 0, .int .i64 0]) ?_ 0 _ rfl; (with_reducible repeat (first | refine blk_drewN ?_ _ | refine blk_drew ?_ | refine blk_alloc ?_ _)); exact BK150.out⟩
                 have n10_ : Aside0 (Below w.heap.size w ((w262.setCell ⟨gb150, 0, none⟩ (.int .i64 t147)).setCell ⟨gb150, 1, none⟩ (.int .i64 t148))) := ⟨by repeat (first | (with_reducible first | exact HB.out | apply below_alloc | apply pw_below_drewN | apply below_drew1 | refine below_set ?_ GE104.out | refine below_set ?_ GE108.out | refine below_set ?_ GE112.out | refine below_set ?_ GE118.out | refine below_set ?_ GE126.out | refine below_set ?_ GE134.out | refine below_set ?_ GE138.out | refine below_set ?_ GE142.out | refine below_set ?_ GE146.out | refine below_set ?_ GE150.out) | exact HB.out)⟩
                 (try clear BK104)
                 (try clear BK108)
                 (try clear BK112)
                 (try clear BK118)
                 (try clear BK126)
                 (try clear BK134)
                 (try clear BK138)
                 (try clear BK142)
                 (try clear BK146)
                 (try clear BK150)
                 (try clear HB)
                 generalize ((w262.setCell ⟨gb150, 0, none⟩ (.int .i64 t147)).setCell ⟨gb150, 1, none⟩ (.int .i64 t148)) = w273 at n0_ n1_ n2_ n3_ n4_ n5_ n6_ n7_ n8_ n9_ n10_ ⊢
                 have BK104 := n0_
                 have BK108 := n1_
                 have BK112 := n2_
                 have BK118 := n3_
                 have BK126 := n4_
                 have BK134 := n5_
                 have BK138 := n6_
                 have BK142 := n7_
                 have BK146 := n8_
                 have BK150 := n9_
                 have HB := n10_
                 clear n0_ n1_ n2_ n3_ n4_ n5_ n6_ n7_ n8_ n9_ n10_
                 have n0_ := Aside0.mk (blk_drew BK104.out)
                 have n1_ := Aside0.mk (blk_drew BK108.out)
                 have n2_ := Aside0.mk (blk_drew BK112.out)
                 have n3_ := Aside0.mk (blk_drew BK118.out)
                 have n4_ := Aside0.mk (blk_drew BK126.out)
                 have n5_ := Aside0.mk (blk_drew BK134.out)
                 have n6_ := Aside0.mk (blk_drew BK138.out)
                 have n7_ := Aside0.mk (blk_drew BK142.out)
                 have n8_ := Aside0.mk (blk_drew BK146.out)
                 have n9_ := Aside0.mk (blk_drew BK150.out)
                 have n10_ := Aside0.mk (below_drew1 HB.out)
                 clear BK104
                 clear BK108
                 clear BK112
                 clear BK118
                 clear BK126
                 clear BK134
                 clear BK138
                 clear BK142
                 clear BK146
                 clear BK150
                 clear HB
                 have BK104 := n0_
                 have BK108 := n1_
                 have BK112 := n2_
                 have BK118 := n3_
                 have BK126 := n4_
                 have BK134 := n5_
                 have BK138 := n6_
                 have BK142 := n7_
                 have BK146 := n8_
                 have BK150 := n9_
                 have HB := n10_
                 clear n0_ n1_ n2_ n3_ n4_ n5_ n6_ n7_ n8_ n9_ n10_
                 refine start_ (n := 26) (S := fun w' => True) (ds := []) d131_0 (by kernel_rfl) rfl rfl trivial (fun hHeld => ?_); refine with_tabW spykeep1_FracField.tab23 spykeep1_FracField.bits23 (fun HT_ HW_ => ?_)
                 generalize w273.drew = w274 at BK104 BK108 BK112 BK118 BK126 BK134 BK138 BK142 BK146 BK150 HB hHeld ⊢
                 refine pure_ (i := 0) (N := some 166) (v := ?_) (a' := ?_) d131_1 rfl rfl (any_of HT_.out (by kernel_rfl)) (fun _ _ _ h => h) (Or.inl ⟨by rfl, ?_⟩) ?_ ?_
                 rotate_left
                 · intro w'
                   go_simp
                   with_reducible rfl
                 rotate_left
                 · simp only [Act.put, List.setIfInBounds_toArray, List.set_cons_zero, List.set_cons_succ, i64_w, i32_w]
                   rfl
                 refine pure_ (i := 1) (N := some 167) (v := ?_) (a' := ?_) d131_2 rfl rfl (any_of HT_.out (by kernel_rfl)) (fun _ _ _ h => h) (Or.inl ⟨by rfl, ?_⟩) ?_ ?_
                 rotate_left
                 · intro w'
                   go_simp
                   with_reducible rfl
                 rotate_left
                 · simp only [Act.put, List.setIfInBounds_toArray, List.set_cons_zero, List.set_cons_succ, i64_w, i32_w]
                   rfl
                 refine pure_ (i := 2) (N := some 168) (v := ?_) (a' := ?_) d131_3 rfl rfl (any_of HT_.out (by kernel_rfl)) (fun _ _ _ h => h) (Or.inl ⟨by rfl, ?_⟩) ?_ ?_
                 rotate_left
                 · intro w'
                   go_simp
                   with_reducible rfl
                 rotate_left
                 · simp only [Act.put, List.setIfInBounds_toArray, List.set_cons_zero, List.set_cons_succ, i64_w, i32_w]
                   rfl
                 refine pure_ (i := 3) (N := some 169) (v := undef) (a' := ?_) #[true, true, true, true, false, false, false, false, false, false, false, false, false, false, false, false, false, false, false, false, false, false, false, false, false, false] rfl rfl (any_of HT_.out (by kernel_rfl)) (fun _ _ _ h => h) (Or.inr ⟨by rfl, rfl⟩) ?_ ?_
                 rotate_left
                 · simp only [Act.put, List.setIfInBounds_toArray, List.set_cons_zero, List.set_cons_succ, i64_w, i32_w]
                   rfl
                 refine pure_ (i := 4) (N := some 170) (v := undef) (a' := ?_) #[true, true, true, true, true, false, false, false, false, false, false, false, false, false, false, false, false, false, false, false, false, false, false, false, false, false] rfl rfl (any_of HT_.out (by kernel_rfl)) (fun _ _ _ h => h) (Or.inr ⟨by rfl, rfl⟩) ?_ ?_
                 rotate_left
                 · simp only [Act.put, List.setIfInBounds_toArray, List.set_cons_zero, List.set_cons_succ, i64_w, i32_w]
                   rfl
                 refine pure_ (i := 5) (N := some 171) (v := undef) (a' := ?_) #[true, true, true, true, true, true, false, false, false, false, false, false, false, false, false, false, false, false, false, false, false, false, false, false, false, false] rfl rfl (any_of HT_.out (by kernel_rfl)) (fun _ _ _ h => h) (Or.inr ⟨by rfl, rfl⟩) ?_ ?_
                 rotate_left
                 · simp only [Act.put, List.setIfInBounds_toArray, List.set_cons_zero, List.set_cons_succ, i64_w, i32_w]
                   rfl
                 refine pure_ (i := 6) (N := some 172) (v := undef) (a' := ?_) #[true, true, true, true, true, true, true, false, false, false, false, false, false, false, false, false, false, false, false, false, false, false, false, false, false, false] rfl rfl (any_of HT_.out (by kernel_rfl)) (fun _ _ _ h => h) (Or.inr ⟨by rfl, rfl⟩) ?_ ?_
                 rotate_left
                 · simp only [Act.put, List.setIfInBounds_toArray, List.set_cons_zero, List.set_cons_succ, i64_w, i32_w]
                   rfl
                 refine pure_ (i := 7) (N := some 173) (v := undef) (a' := ?_) d131_12 rfl rfl (any_of HT_.out (by kernel_rfl)) (fun _ _ _ h => h) (Or.inr ⟨by rfl, rfl⟩) ?_ ?_
                 rotate_left
                 · simp only [Act.put, List.setIfInBounds_toArray, List.set_cons_zero, List.set_cons_succ, i64_w, i32_w]
                   rfl
                 refine pure_ (i := 8) (N := some 174) (v := undef) (a' := ?_) d131_13 rfl rfl (any_of HT_.out (by kernel_rfl)) (fun _ _ _ h => h) (Or.inr ⟨by rfl, rfl⟩) ?_ ?_
                 rotate_left
                 · simp only [Act.put, List.setIfInBounds_toArray, List.set_cons_zero, List.set_cons_succ, i64_w, i32_w]
                   rfl
                 refine pure_ (i := 9) (N := some 175) (v := undef) (a' := ?_) d131_14 rfl rfl (any_of HT_.out (by kernel_rfl)) (fun _ _ _ h => h) (Or.inr ⟨by rfl, rfl⟩) ?_ ?_
                 rotate_left
                 · simp only [Act.put, List.setIfInBounds_toArray, List.set_cons_zero, List.set_cons_succ, i64_w, i32_w]
                   rfl
                 refine pure_ (i := 10) (N := some 176) (v := undef) (a' := ?_) d131_15 rfl rfl (any_of HT_.out (by kernel_rfl)) (fun _ _ _ h => h) (Or.inr ⟨by rfl, rfl⟩) ?_ ?_
                 rotate_left
                 · simp only [Act.put, List.setIfInBounds_toArray, List.set_cons_zero, List.set_cons_succ, i64_w, i32_w]
                   rfl
                 refine pure_ (i := 11) (N := some 177) (v := undef) (a' := ?_) d131_16 rfl rfl (any_of HT_.out (by kernel_rfl)) (fun _ _ _ h => h) (Or.inr ⟨by rfl, rfl⟩) ?_ ?_
                 rotate_left
                 · simp only [Act.put, List.setIfInBounds_toArray, List.set_cons_zero, List.set_cons_succ, i64_w, i32_w]
                   rfl
                 refine pure_ (i := 12) (N := some 178) (v := undef) (a' := ?_) #[true, true, true, true, true, true, true, true, true, true, true, true, true, false, false, false, false, false, false, false, false, false, false, false, false, false] rfl rfl (any_of HT_.out (by kernel_rfl)) (fun _ _ _ h => h) (Or.inr ⟨by rfl, rfl⟩) ?_ ?_
                 rotate_left
                 · simp only [Act.put, List.setIfInBounds_toArray, List.set_cons_zero, List.set_cons_succ, i64_w, i32_w]
                   rfl
                 refine pure_ (i := 13) (N := some 179) (v := undef) (a' := ?_) d131_19 rfl rfl (any_of HT_.out (by kernel_rfl)) (fun _ _ _ h => h) (Or.inr ⟨by rfl, rfl⟩) ?_ ?_
                 rotate_left
                 · simp only [Act.put, List.setIfInBounds_toArray, List.set_cons_zero, List.set_cons_succ, i64_w, i32_w]
                   rfl
                 refine pure_ (i := 14) (N := some 180) (v := undef) (a' := ?_) d131_20 rfl rfl (any_of HT_.out (by kernel_rfl)) (fun _ _ _ h => h) (Or.inr ⟨by rfl, rfl⟩) ?_ ?_
                 rotate_left
                 · simp only [Act.put, List.setIfInBounds_toArray, List.set_cons_zero, List.set_cons_succ, i64_w, i32_w]
                   rfl
                 refine pure_ (i := 15) (N := some 181) (v := undef) (a' := ?_) d131_21 rfl rfl (any_of HT_.out (by kernel_rfl)) (fun _ _ _ h => h) (Or.inr ⟨by rfl, rfl⟩) ?_ ?_
                 rotate_left
                 · simp only [Act.put, List.setIfInBounds_toArray, List.set_cons_zero, List.set_cons_succ, i64_w, i32_w]
                   rfl
                 refine pure_ (i := 16) (N := some 182) (v := undef) (a' := ?_) d131_22 rfl rfl (any_of HT_.out (by kernel_rfl)) (fun _ _ _ h => h) (Or.inr ⟨by rfl, rfl⟩) ?_ ?_
                 rotate_left
                 · simp only [Act.put, List.setIfInBounds_toArray, List.set_cons_zero, List.set_cons_succ, i64_w, i32_w]
                   rfl
                 refine pure_ (i := 17) (N := some 183) (v := undef) (a' := ?_) d131_23 rfl rfl (any_of HT_.out (by kernel_rfl)) (fun _ _ _ h => h) (Or.inr ⟨by rfl, rfl⟩) ?_ ?_
                 rotate_left
                 · simp only [Act.put, List.setIfInBounds_toArray, List.set_cons_zero, List.set_cons_succ, i64_w, i32_w]
                   rfl
                 refine pure_ (i := 18) (N := some 184) (v := undef) (a' := ?_) d131_24 rfl rfl (any_of HT_.out (by kernel_rfl)) (fun _ _ _ h => h) (Or.inr ⟨by rfl, rfl⟩) ?_ ?_
                 rotate_left
                 · simp only [Act.put, List.setIfInBounds_toArray, List.set_cons_zero, List.set_cons_succ, i64_w, i32_w]
                   rfl
                 refine pure_ (i := 19) (N := some 185) (v := undef) (a' := ?_) #[true, true, true, true, true, true, true, true, true, true, true, true, true, true, true, true, true, true, true, true, false, false, false, false, false, false] rfl rfl (any_of HT_.out (by kernel_rfl)) (fun _ _ _ h => h) (Or.inr ⟨by rfl, rfl⟩) ?_ ?_
                 rotate_left
                 · simp only [Act.put, List.setIfInBounds_toArray, List.set_cons_zero, List.set_cons_succ, i64_w, i32_w]
                   rfl
                 refine pure_ (i := 20) (N := some 186) (v := undef) (a' := ?_) d131_27 rfl rfl (any_of HT_.out (by kernel_rfl)) (fun _ _ _ h => h) (Or.inr ⟨by rfl, rfl⟩) ?_ ?_
                 rotate_left
                 · simp only [Act.put, List.setIfInBounds_toArray, List.set_cons_zero, List.set_cons_succ, i64_w, i32_w]
                   rfl
                 refine pure_ (i := 21) (N := some 187) (v := undef) (a' := ?_) d131_28 rfl rfl (any_of HT_.out (by kernel_rfl)) (fun _ _ _ h => h) (Or.inr ⟨by rfl, rfl⟩) ?_ ?_
                 rotate_left
                 · simp only [Act.put, List.setIfInBounds_toArray, List.set_cons_zero, List.set_cons_succ, i64_w, i32_w]
                   rfl
                 refine pure_ (i := 22) (N := some 188) (v := undef) (a' := ?_) d131_29 rfl rfl (any_of HT_.out (by kernel_rfl)) (fun _ _ _ h => h) (Or.inr ⟨by rfl, rfl⟩) ?_ ?_
                 rotate_left
                 · simp only [Act.put, List.setIfInBounds_toArray, List.set_cons_zero, List.set_cons_succ, i64_w, i32_w]
                   rfl
                 refine pure_ (i := 23) (N := some 189) (v := undef) (a' := ?_) d131_30 rfl rfl (any_of HT_.out (by kernel_rfl)) (fun _ _ _ h => h) (Or.inr ⟨by rfl, rfl⟩) ?_ ?_
                 rotate_left
                 · simp only [Act.put, List.setIfInBounds_toArray, List.set_cons_zero, List.set_cons_succ, i64_w, i32_w]
                   rfl
                 refine pure_ (i := 24) (N := some 190) (v := ?_) (a' := ?_) d131_31 rfl rfl (any_of HT_.out (by kernel_rfl)) (fun _ _ _ h => h) (Or.inl ⟨by rfl, ?_⟩) ?_ ?_
                 rotate_left
                 · intro w'
                   go_simp
                   with_reducible rfl
                 rotate_left
                 · simp only [Act.put, List.setIfInBounds_toArray, List.set_cons_zero, List.set_cons_succ, i64_w, i32_w]
                   rfl
                 refine pure_ (i := 25) (N := some 12) (v := ?_) (a' := ?_) d131_32 rfl rfl (any_of HT_.out (by kernel_rfl)) (fun _ _ _ h => h) (Or.inl ⟨by rfl, ?_⟩) ?_ ?_
                 rotate_left
                 · intro w'
                   go_simp
                   with_reducible rfl
                 rotate_left
                 · simp only [Act.put, List.setIfInBounds_toArray, List.set_cons_zero, List.set_cons_succ, i64_w, i32_w]
                   rfl
                 refine done_ (done_of HT_.out (by kernel_rfl)) ?_
                 try go_wp2
                 go_ret
                 exact ⟨by first | rfl | (simp [errW_none, errW_some] <;> rfl) | (simp [*, errW_none, errW_some] <;> rfl), by repeat (first | (with_reducible first | exact HB.out | apply below_alloc | apply pw_below_drewN | apply below_drew1 | refine below_set ?_ GE104.out | refine below_set ?_ GE108.out | refine below_set ?_ GE112.out | refine below_set ?_ GE118.out | refine below_set ?_ GE126.out | refine below_set ?_ GE134.out | refine below_set ?_ GE138.out | refine below_set ?_ GE142.out | refine below_set ?_ GE146.out | refine below_set ?_ GE150.out) | exact HB.out)⟩

/-- THE ONE PURE STATEMENT of spykeep1_FracField: yours. -/
def spykeep1_FracField.Pure : Prop := ∀ (a0 : Int) (a1 : Int) (a2 : Int) (a3 : Int) (a4 : Int) (a5 : Int), (Lit.int .i64 a0).wf = true → (Lit.int .i64 a1).wf = true → (Lit.int .i64 a2).wf = true → (Lit.int .i64 a3).wf = true → (Lit.int .i64 a4).wf = true → (Lit.int .i64 a5).wf = true → ∃ k, spykeep1_FracField.f k a0 a1 a2 a3 a4 a5 = some true
theorem spykeep1_FracField.walk (P : spykeep1_FracField.Pure) (a0 : Int) (a1 : Int) (a2 : Int) (a3 : Int) (a4 : Int) (a5 : Int) (w : World) (w0 : (Lit.int .i64 a0).wf = true) (w1 : (Lit.int .i64 a1).wf = true) (w2 : (Lit.int .i64 a2).wf = true) (w3 : (Lit.int .i64 a3).wf = true) (w4 : (Lit.int .i64 a4).wf = true) (w5 : (Lit.int .i64 a5).wf = true) :
 Calls Try.prog 9 #[.int .i64 a0, .int .i64 a1, .int .i64 a2, .int .i64 a3, .int .i64 a4, .int .i64 a5] w fun e w' => e = .returned (.bool true) ∧ Below w.heap.size w w' := by
 obtain ⟨k, h⟩ := P a0 a1 a2 a3 a4 a5 w0 w1 w2 w3 w4 w5
 refine (spykeep1_FracField.calls k a0 a1 a2 a3 a4 a5 true w h).mono ?_
 rintro e w' ⟨rfl, hd⟩
 exact ⟨rfl, hd⟩

end Go.Proofs.Ytpophefonhpnmaa.Q
