/- The loop over three alerts: any three will do; no condition. -/
import Derived.Test.YthcdbpbimmjknaaDoorKAlertOrdersQx8
import Derived.Test.YthcdbpbimmjknaaDoorKAlertOrdersAO0
import Derived.Test.YthcdbpbimmjknaaDoorKAlertOrdersAO1
import Derived.Test.YthcdbpbimmjknaaDoorKAlertOrdersAO2
namespace Go.Proofs.YthcdbpbimmjknaaDoor.Q
open Go.RowKit Go.Proofs.YthcdbpbimmjknaaDoorW.PrintWords Go.Proofs.YthcdbpbimmjknaaDoorW.PrintLast Go.Proofs.YthcdbpbimmjknaaDoorW.PrintMore
set_option linter.unusedVariables false
set_option linter.unusedSimpArgs false
theorem cp_in (x y : Int) : -1 ≤ cp x y ∧ cp x y ≤ 1 := by unfold cp; (repeat' split) <;> omega
theorem lex_in : ∀ l m : List Int, -1 ≤ lex l m ∧ lex l m ≤ 1
  | [], [] => by simp [lex]
  | [], _ :: _ => by simp [lex]
  | _ :: _, [] => by simp [lex]
  | x :: l, y :: m => by
    rw [lex]
    by_cases z : cp x y = 0
    · rw [if_pos z]; exact lex_in l m
    · rw [if_neg z]; exact cp_in x y
theorem bu_inj {a b : Bool} : bu a = bu b ↔ a = b := by cases a <;> cases b <;> simp [bu]
theorem ky_len (a0 a1 a2 a3 a4 : Int) (a5 : Bool) (a6 a7 : Int) (a8 : Bool) (a9 a10 : Int) (a11 : Bool) (a12 a13 : Int) (a14 : Bool) (a15 : Int) : (ky a0 a1 a2 a3 a4 a5 a6 a7 a8 a9 a10 a11 a12 a13 a14 a15).length = 16 := rfl
theorem same_ky (a0 a1 a2 a3 a4 : Int) (a5 : Bool) (a6 a7 : Int) (a8 : Bool) (a9 a10 : Int) (a11 : Bool) (a12 a13 : Int) (a14 : Bool) (a15 : Int) (b0 b1 b2 b3 b4 : Int) (b5 : Bool) (b6 b7 : Int) (b8 : Bool) (b9 b10 : Int) (b11 : Bool) (b12 b13 : Int) (b14 : Bool) (b15 : Int) :
    (lex (ky a0 a1 a2 a3 a4 a5 a6 a7 a8 a9 a10 a11 a12 a13 a14 a15) (ky b0 b1 b2 b3 b4 b5 b6 b7 b8 b9 b10 b11 b12 b13 b14 b15) == 0) =
      (a0 == b0 && (a1 == b1 && (a2 == b2 && ((a3 == b3 && (a4 == b4 && (a5 == b5))) && ((a6 == b6 && (a7 == b7 && (a8 == b8))) && ((a9 == b9 && (a10 == b10 && (a11 == b11))) && ((a12 == b12 && (a13 == b13 && (a14 == b14))) && (a15 == b15)))))))) := by
  rw [Bool.eq_iff_iff, beq_iff_eq, lex_zero _ _ (by rw [ky_len, ky_len])]
  unfold ky
  simp only [List.cons_append, List.nil_append, List.cons.injEq, bu_inj, Bool.and_eq_true, beq_iff_eq]
  constructor
  · rintro ⟨h0, h1, h2, h15, h5, h3, h4, h8, h6, h7, h11, h9, h10, h14, h12, h13, -⟩
    exact ⟨h0, h1, h2, ⟨h3, h4, h5⟩, ⟨h6, h7, h8⟩, ⟨h9, h10, h11⟩, ⟨h12, h13, h14⟩, h15⟩
  · rintro ⟨h0, h1, h2, ⟨h3, h4, h5⟩, ⟨h6, h7, h8⟩, ⟨h9, h10, h11⟩, ⟨h12, h13, h14⟩, h15⟩
    exact ⟨h0, h1, h2, h15, h5, h3, h4, h8, h6, h7, h11, h9, h10, h14, h12, h13, trivial⟩
end Go.Proofs.YthcdbpbimmjknaaDoor.Q
