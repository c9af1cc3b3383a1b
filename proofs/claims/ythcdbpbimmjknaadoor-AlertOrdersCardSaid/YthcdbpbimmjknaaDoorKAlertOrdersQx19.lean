/- Contracts of Go functions of the seat, one by one: each call returns what the Lean function of the same name says, wherever that is 'some'; no other condition. Written by a program of this session. -/
import Derived.Test.YthcdbpbimmjknaaDoorKAlertOrdersQx0
import Derived.Test.YthcdbpbimmjknaaDoorKAlertOrdersShelf
namespace Go.Proofs.YthcdbpbimmjknaaDoor.Q
open Go.RowKit Go.Proofs.YthcdbpbimmjknaaDoorW.PrintWords Go.Proofs.YthcdbpbimmjknaaDoorW.PrintLast Go.Proofs.YthcdbpbimmjknaaDoorW.PrintMore
attribute [local go_sem] max2_int min2_int max_two min_two max_three min_three max_four min_four   -- for this text's walks alone
set_option linter.unusedVariables false
set_option linter.unusedSimpArgs false

/-! ### strings_Join: function 45 -/
-- IMPORTS: Derived.Test.YthcdbpbimmjknaaDoorShelf
def strings_Join.f (l0 : List ByteArray) (a1 : ByteArray) : Option ByteArray := if (Go.Lib.join (l0.map (·.data.toList)) a1.data.toList).length ≤ 140737488355328 then (if l0.length ≤ 1000 then some ⟨(Go.Lib.join (l0.map (·.data.toList)) a1.data.toList).toArray⟩ else none) else none
theorem strings_Join.calls (A0 : Option Addr) (c0 : Nat) (l0 : List ByteArray) (a1 : ByteArray) (r : ByteArray) (w : World) (hr0 : Kd.C Kd.string w A0 l0.length l0) (hc0 : l0.length ≤ c0) (h : strings_Join.f l0 a1 = some r) :
    Calls Tryd.prog 45 #[.slice A0 l0.length c0, .string a1] w fun e w' => e = .returned (.string r) ∧ Below w.heap.size w w' := by
  unfold strings_Join.f at h
  split at h
  case isFalse => cases h
  split at h
  case isFalse => cases h
  rename_i hlen hn
  obtain rfl := Option.some.inj h
  rcases l0 with _ | ⟨x, l0⟩
  · refine (Go.Proofs.Tryd.strings_Join_none A0 c0 a1 w).mono ?_
    rintro e w' ⟨rfl, rfl⟩
    exact ⟨rfl, Below.refl _ _⟩
  · obtain ⟨ad, rfl, h0⟩ := Kd.at_string hr0 0 (by decide) (by simp)
    have hs : ad.spot = none := by
      unfold World.cell? at h0
      split at h0
      · split at h0
        · cases h0
        · rename_i _ hz
          simp only [Addr.add] at hz
          simpa using hz
      · cases h0
    obtain ⟨bk, o, sp⟩ := ad
    simp only at hs
    subst hs
    refine Go.Proofs.Tryd.strings_Join bk o c0 (x :: l0) a1 w (fun j y hj => ?_) ?_ (by omega) hc0 hlen
    · obtain ⟨hjl, hjy⟩ := List.getElem?_eq_some_iff.1 hj
      obtain ⟨ad2, e2, h2⟩ := Kd.at_string hr0 (j : Int) (by omega) (by omega)
      cases e2
      rw [Int.toNat_natCast, show (⟨bk, o, none⟩ : Addr).add j = ⟨bk, o + j, none⟩ by simp only [Addr.add]; split <;> simp_all] at h2
      rw [h2]
      have : rdOf ByteArray.empty (x :: l0) (j : Int) = y := by unfold rdOf; simp only [Int.toNat_natCast, List.getD_eq_getElem?_getD, hj]; rfl
      rw [this]
    · exact World.block_lt_of_cell? w _ h0

end Go.Proofs.YthcdbpbimmjknaaDoor.Q
