/- Words of the laws of alerts: valid bounds, and bounds inside others. -/
import Derived.Test.YthcdbpbimmjknaaDoorKAlertOrdersAO0
namespace Go.Proofs.YthcdbpbimmjknaaDoor.Q
/-- A valid bound. -/
def okb (lo hi : Int) (u : Bool) : Prop := (u = true ∧ lo = 0 ∧ hi = 0) ∨ (u = false ∧ -1152921504606846976 ≤ lo ∧ lo ≤ hi ∧ hi ≤ 1152921504606846976)
/-- A valid bound of numbers that are not great. -/
def okm (m lo hi : Int) (u : Bool) : Prop := (u = true ∧ lo = 0 ∧ hi = 0) ∨ (u = false ∧ -m ≤ lo ∧ lo ≤ hi ∧ hi ≤ m)
/-- A bound inside another one. -/
def inb (lo hi : Int) (u : Bool) (lo' hi' : Int) (u' : Bool) : Prop := u' = true ∨ (u = false ∧ u' = false ∧ lo' ≤ lo ∧ hi ≤ hi')
theorem okm_ok {m lo hi : Int} {u : Bool} (h : okm m lo hi u) (hm : m ≤ 1152921504606846976) : okb lo hi u := by
  rcases h with h | ⟨h1, h2, h3, h4⟩
  · exact .inl h
  · exact .inr ⟨h1, by omega, h3, by omega⟩
end Go.Proofs.YthcdbpbimmjknaaDoor.Q
