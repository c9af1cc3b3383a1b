/- Contracts of Go functions of the seat, one by one: each call returns what the Lean function of the same name says, wherever that is 'some'; no other condition. Written by a program of this session. -/
import Derived.Test.YtoplbhohaaielaaDoorQx0
import Derived.Lib.LaidTab
import Derived.Test.YtoplbhohaaielaaDoorShelf
namespace Go.Proofs.YtoplbhohaaielaaDoor.Q
open Go.RowKit Go.Proofs.YtoplbhohaaielaaDoorW.PrintWords Go.Proofs.YtoplbhohaaielaaDoorW.PrintLast Go.Proofs.YtoplbhohaaielaaDoorW.PrintMore
attribute [local go_sem] max2_int min2_int max_two min_two max_three min_three max_four min_four   -- for this text's walks alone
set_option linter.unusedVariables false
set_option linter.unusedSimpArgs false

/-! ### strconv_FormatInt_13: function 13 -/
-- IMPORTS: Derived.Test.YtoplbhohaaielaaDoorShelf Derived.Lib.LaidTab
theorem tab_below {P : Program} {w W : World} {n : String} {k : IntKind} {zs : List Int} (h : Go.Lib.TabIs P w n k zs) (hb : Below w.heap.size w W) : Go.Lib.TabIs P W n k zs := by
  unfold Go.Lib.TabIs World.var? at *
  cases hg : P.globalNamed n with
  | none => rw [hg] at h; cases h
  | some g =>
    rw [hg] at h
    simp only [Option.bind_some] at h ⊢
    by_cases hl : g < w.heap.size
    · rw [hb.block g hl]; exact h
    · rw [Array.getElem?_eq_none (by omega)] at h; cases h
/-- The table that FormatInt reads, and a number that Cut reads. -/
def ScTab (w : World) : Prop := Go.Lib.TabIs Tryd.prog w "internal/strconv.uint64pow10" .u64 Go.Lib.pow10Tab ∧ ∃ m, w.cell? ⟨3, 0, none⟩ = some (.int .i64 m)
theorem sctab_below {w W : World} (h : ScTab w) (hb : Below w.heap.size w W) : ScTab W := by
  obtain ⟨h1, m, h2⟩ := h
  exact ⟨tab_below h1 hb, m, (hb.cell (p := ⟨3, 0, none⟩) (World.block_lt_of_cell? _ _ h2)).trans h2⟩
def strconv_FormatInt_13.f (a0 a1 : Int) : Option ByteArray := if a1 = 10 then (if -9223372036854775808 ≤ a0 then (if a0 ≤ 9223372036854775807 then some ⟨(Go.Lib.itoa a0).toArray⟩ else none) else none) else none
theorem strconv_FormatInt_13.calls (a0 a1 : Int) (r : ByteArray) (w : World) (ht : ScTab w) (h : strconv_FormatInt_13.f a0 a1 = some r) :
    Calls Tryd.prog 13 #[.int .i64 a0, .int .i64 a1] w fun e w' => e = .returned (.string r) ∧ Below w.heap.size w w' := by
  unfold strconv_FormatInt_13.f at h
  split at h
  case isFalse => cases h
  split at h
  case isFalse => cases h
  split at h
  case isFalse => cases h
  rename_i h2 h0 h1
  subst h2
  obtain rfl := Option.some.inj h
  refine (Go.Proofs.Tryd.strconv_FormatInt_10 a0 h0 h1 w ht.1).mono ?_
  rintro e w' ⟨rfl, k, os, rfl⟩
  refine ⟨rfl, rfl, rfl, rfl, ?_, fun j hj => ?_⟩
  · show w.heap.size ≤ (w.heap ++ os).size
    simp
  · show (w.heap ++ os)[j]? = w.heap[j]?
    rw [Array.getElem?_append_left hj]

end Go.Proofs.YtoplbhohaaielaaDoor.Q
