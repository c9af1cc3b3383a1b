/- Contracts of Go functions of the seat, one by one: each call returns what the Lean function of the same name says, wherever that is 'some'; no other condition. Written by a program of this session. -/
import Derived.Test.YtpbfjcohiibpcaaDoorQx0
import Derived.Lib.LaidTab
import Derived.Test.YtpbfjcohiibpcaaDoorShelf
namespace Go.Proofs.YtpbfjcohiibpcaaDoor.Q
open Go.RowKit Go.Proofs.YtpbfjcohiibpcaaDoorW.PrintWords Go.Proofs.YtpbfjcohiibpcaaDoorW.PrintLast Go.Proofs.YtpbfjcohiibpcaaDoorW.PrintMore
attribute [local go_sem] max2_int min2_int max_two min_two max_three min_three max_four min_four   -- for this text's walks alone
set_option linter.unusedVariables false
set_option linter.unusedSimpArgs false

/-! ### strconv_Itoa_22: function 22 -/
-- IMPORTS: Derived.Test.YtpbfjcohiibpcaaDoorShelf Derived.Lib.LaidTab
def ScTab (w : World) : Prop := Go.Lib.TabIs Tryd.prog w "internal/strconv.uint64pow10" .u64 Go.Lib.pow10Tab
theorem tab_below {P : Program} {w W : World} {n : String} {k : IntKind} {zs : List Int} (h : Go.Lib.TabIs P w n k zs) (hb : Below w.heap.size w W) : Go.Lib.TabIs P W n k zs := by
  unfold Go.Lib.TabIs World.var? at *
  cases hg : P.globalNamed n with
  | none => rw [hg] at h; cases h
  | some g =>
    rw [hg] at h
    simp only [Option.bind_some] at h ⊢
    by_cases hl : g < w.heap.size
    · rw [hb.block g hl]; exact h
    · rw [Array.getElem?_eq_none (by omega)] at h; cases h
theorem sctab_below {w W : World} (h : ScTab w) (hb : Below w.heap.size w W) : ScTab W := tab_below h hb
def strconv_Itoa_22.f (a0 : Int) : Option ByteArray := if 0 ≤ a0 then (if a0 ≤ 9223372036854775807 then some ⟨(Go.Lib.decDigits a0.toNat).toArray⟩ else none) else none
theorem strconv_Itoa_22.calls (a0 : Int) (r : ByteArray) (w : World) (ht : ScTab w) (h : strconv_Itoa_22.f a0 = some r) :
    Calls Tryd.prog 22 #[.int .i64 a0] w fun e w' => e = .returned (.string r) ∧ Below w.heap.size w w' := by
  unfold strconv_Itoa_22.f at h
  split at h
  case isFalse => cases h
  split at h
  case isFalse => cases h
  rename_i h0 h1
  obtain rfl := Option.some.inj h
  refine (Go.Proofs.Tryd.strconv_Itoa a0 (by omega) h1 w ht).mono ?_
  rintro e w' ⟨rfl, k, os, rfl⟩
  refine ⟨by unfold Go.Lib.itoa; rw [if_neg (by omega)], rfl, rfl, rfl, ?_, fun j hj => ?_⟩
  · show w.heap.size ≤ (w.heap ++ os).size
    simp
  · show (w.heap ++ os)[j]? = w.heap[j]?
    rw [Array.getElem?_append_left hj]

end Go.Proofs.YtpbfjcohiibpcaaDoor.Q
