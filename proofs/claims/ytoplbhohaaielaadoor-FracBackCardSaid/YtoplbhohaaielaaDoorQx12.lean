/- Contracts of Go functions of the seat, one by one: each call returns what the Lean function of the same name says, wherever that is 'some'; no other condition. Written by a program of this session. -/
import Derived.Test.YtoplbhohaaielaaDoorQx0
import Derived.Test.YtoplbhohaaielaaDoorShelf
namespace Go.Proofs.YtoplbhohaaielaaDoor.Q
open Go.RowKit Go.Proofs.YtoplbhohaaielaaDoorW.PrintWords Go.Proofs.YtoplbhohaaielaaDoorW.PrintLast Go.Proofs.YtoplbhohaaielaaDoorW.PrintMore
attribute [local go_sem] max2_int min2_int max_two min_two max_three min_three max_four min_four   -- for this text's walks alone
set_option linter.unusedVariables false
set_option linter.unusedSimpArgs false

/-! ### strings_CutPrefix: function 14 -/
-- IMPORTS: Derived.Test.YtoplbhohaaielaaDoorShelf
def strings_CutPrefix.f (a0 a1 : ByteArray) : Option (ByteArray × Bool) := some (⟨(Go.Lib.trimPrefix a0.data.toList a1.data.toList).toArray⟩, Go.Lib.hasPrefix a0.data.toList a1.data.toList)
theorem strings_CutPrefix.calls (a0 a1 : ByteArray) (r1 : ByteArray) (r2 : Bool) (w : World) (h : strings_CutPrefix.f a0 a1 = some (r1, r2)) :
    Calls Tryd.prog 14 #[.string a0, .string a1] w fun e w' => e = .returned (.tuple #[.string r1, .bool r2]) ∧ Below w.heap.size w w' := by
  unfold strings_CutPrefix.f at h
  simp only [Option.some.injEq, Prod.mk.injEq] at h
  obtain ⟨rfl, rfl⟩ := h
  refine (Go.Proofs.Tryd.strings_CutPrefix a0 a1 w).mono ?_
  rintro e w' ⟨rfl, rfl⟩
  exact ⟨rfl, Below.refl _ _⟩

end Go.Proofs.YtoplbhohaaielaaDoor.Q
