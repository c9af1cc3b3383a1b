/- Contracts of Go functions of the seat, one by one: each call returns what the Lean function of the same name says, wherever that is 'some'; no other condition. Written by a program of this session. -/
import Derived.Test.YthcdbpbimmjknaaDoorKAlertOrdersQx0
import Derived.Test.YthcdbpbimmjknaaDoorKAlertOrdersShelf
namespace Go.Proofs.YthcdbpbimmjknaaDoor.Q
open Go.RowKit Go.Proofs.YthcdbpbimmjknaaDoorW.PrintWords Go.Proofs.YthcdbpbimmjknaaDoorW.PrintLast Go.Proofs.YthcdbpbimmjknaaDoorW.PrintMore
attribute [local go_sem] max2_int min2_int max_two min_two max_three min_three max_four min_four   -- for this text's walks alone
set_option linter.unusedVariables false
set_option linter.unusedSimpArgs false

/-! ### strconv_FormatInt_54: function 54 -/
-- IMPORTS: Derived.Test.YthcdbpbimmjknaaDoorShelf
def strconv_FormatInt_54.f (a0 a1 : Int) : Option ByteArray := if a1 = 10 then (if 0 ≤ a0 then (if a0 < 100 then some ⟨(Go.Lib.decDigits a0.toNat).toArray⟩ else none) else none) else none
theorem strconv_FormatInt_54.calls (a0 a1 : Int) (r : ByteArray) (w : World) (h : strconv_FormatInt_54.f a0 a1 = some r) :
    Calls Tryd.prog 54 #[.int .i64 a0, .int .i64 a1] w fun e w' => e = .returned (.string r) ∧ Drawn0 w w' := by
  unfold strconv_FormatInt_54.f at h
  split at h
  case isFalse => cases h
  split at h
  case isFalse => cases h
  split at h
  case isFalse => cases h
  rename_i h2 h0 h1
  subst h2
  obtain rfl := Option.some.inj h
  obtain ⟨n, rfl⟩ := Int.eq_ofNat_of_zero_le h0
  refine (Go.Proofs.Tryd.strconv_FormatInt_10_small n (by omega) w).mono ?_
  rintro e w' ⟨rfl, rfl⟩
  exact ⟨rfl, Drawn0.refl _⟩

end Go.Proofs.YthcdbpbimmjknaaDoor.Q
