/- Contracts of Go functions of the seat, one by one: each call returns what the Lean function of the same name says, wherever that is 'some'; no other condition. Written by a program of this session. -/
import Derived.Test.YtoplbhohaaielaaDoorQx0
import Derived.Shelf.Strings.SlTrimAscii
import Derived.Test.YtoplbhohaaielaaDoorShelf
namespace Go.Proofs.YtoplbhohaaielaaDoor.Q
open Go.RowKit Go.Proofs.YtoplbhohaaielaaDoorW.PrintWords Go.Proofs.YtoplbhohaaielaaDoorW.PrintLast Go.Proofs.YtoplbhohaaielaaDoorW.PrintMore
attribute [local go_sem] max2_int min2_int max_two min_two max_three min_three max_four min_four   -- for this text's walks alone
set_option linter.unusedVariables false
set_option linter.unusedSimpArgs false

/-! ### strings_Trim: function 30 -/
-- IMPORTS: Derived.Test.YtoplbhohaaielaaDoorShelf Derived.Shelf.Strings.SlTrimAscii
def strings_Trim.f (a0 a1 : ByteArray) : Option ByteArray := if 0 < a0.size then (if a0.size ≤ 9223372036854775807 then (if 2 ≤ a1.size then (if a1.size < 1000 then (if (a1.data.toList.all fun b => decide (b.toNat < 128)) = true then some ⟨(Go.Lib.trimS a0.data.toList a1.data.toList).toArray⟩ else none) else none) else none) else none) else none
theorem strings_Trim.calls (a0 a1 : ByteArray) (r : ByteArray) (w : World) (h : strings_Trim.f a0 a1 = some r) :
    Calls Tryd.prog 30 #[.string a0, .string a1] w fun e w' => e = .returned (.string r) ∧ Below w.heap.size w w' := by
  unfold strings_Trim.f at h
  split at h
  case isFalse => cases h
  split at h
  case isFalse => cases h
  split at h
  case isFalse => cases h
  split at h
  case isFalse => cases h
  split at h
  case isFalse => cases h
  rename_i h0 h1 h2 h3 h4
  obtain rfl := Option.some.inj h
  refine (Go.Proofs.Any.strings_Trim_set Go.Proofs.Tryd.lays160 (fun w => by kernel_rfl) (by kernel_rfl) a0 a1 w h2 h0 h1 (by omega) (fun j b hb => ?_)).mono ?_
  · have := List.all_eq_true.1 h4 b (List.mem_of_getElem? hb)
    simpa using this
  · rintro e w' ⟨rfl, q, rfl⟩
    exact ⟨rfl, pw_below_drewN (((Below.refl _ _).alloc (Nat.le_refl _) _).alloc (by simp) _) _⟩

end Go.Proofs.YtoplbhohaaielaaDoor.Q
