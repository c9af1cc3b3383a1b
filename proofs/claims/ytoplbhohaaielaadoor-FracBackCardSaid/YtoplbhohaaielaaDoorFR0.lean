/- Which fractions are valid, in plain numbers. -/
import Derived.Test.YtoplbhohaaielaaDoorQx2
import Derived.Test.YtoplbhohaaielaaDoorQx5
import Derived.Test.YtoplbhohaaielaaDoorM1
import Derived.Test.YtoplbhohaaielaaDoorM2
import Derived.Test.YtoplbhohaaielaaDoorM3
import Derived.Test.YtoplbhohaaielaaDoorM4
import Derived.Test.YtoplbhohaaielaaDoorM5
import Derived.Test.YtoplbhohaaielaaDoorM6
-- AUTO
namespace Go.Proofs.YtoplbhohaaielaaDoor.Q
open Go.RowKit Go.Proofs.YtoplbhohaaielaaDoorW.PrintWords Go.Proofs.YtoplbhohaaielaaDoorW.PrintLast Go.Proofs.YtoplbhohaaielaaDoorW.PrintMore
set_option linter.unusedVariables false
set_option linter.unusedSimpArgs false
/-- Whether a fraction is valid. -/
def vf (n d : Int) : Prop := -1152921504606846976 ≤ n ∧ n ≤ 1152921504606846976 ∧ 1 ≤ d ∧ d ≤ 1152921504606846976 ∧ Int.gcd n d = 1
theorem fcheck_ev {n d : Int} (n0 : -9223372036854775808 ≤ n) (n1 : n < 9223372036854775808) (d0 : -9223372036854775808 ≤ d) (d1 : d < 9223372036854775808) : ∃ e : Int, Ev (fun k => frac_Check.f k n d) e ∧ (e = 0 ↔ vf n d) ∧ (e = 0 ∨ e = 3 ∨ e = 4) := by
  have J1 : Ev (fun k => frac_Check.j0 k true n d) 4 := one_ev fun k => by rw [frac_Check.j0, if_pos rfl]
  have bad (h : ¬ (-1152921504606846976 ≤ n ∧ n ≤ 1152921504606846976 ∧ 1 ≤ d ∧ d ≤ 1152921504606846976)) : (4 : Int) = 0 ↔ vf n d := by
    constructor
    · intro h'; omega
    · rintro ⟨a, b, c, e, _⟩; exact absurd ⟨a, b, c, e⟩ h
  unfold frac_Check.f
  by_cases c0 : n < -1152921504606846976
  · exact ⟨4, pos_ev c0 J1, bad (by omega), by omega⟩
  by_cases c1 : n > 1152921504606846976
  · exact ⟨4, neg_ev c0 (pos_ev c1 J1), bad (by omega), by omega⟩
  by_cases c2 : d < 1
  · exact ⟨4, neg_ev c0 (neg_ev c1 (pos_ev c2 J1)), bad (by omega), by omega⟩
  by_cases c3 : d > 1152921504606846976
  · exact ⟨4, neg_ev c0 (neg_ev c1 (neg_ev c2 (by rw [decide_eq_true c3]; exact J1))), bad (by omega), by omega⟩
  have G := gcd_ev n0 n1 d0 d1
  have hg : (Int.gcd n d : Int) ≤ d := Int.le_of_dvd (by omega) (Int.gcd_dvd_right n d)
  have hm : (Int.gcd n d : Int) % 9223372036854775808 = (Int.gcd n d : Int) := Int.emod_eq_of_lt (by omega) (by omega)
  rw [hm] at G
  by_cases c4 : (Int.gcd n d : Int) = 1
  · refine ⟨0, neg_ev c0 (neg_ev c1 (neg_ev c2 ?_)), ⟨fun _ => ⟨by omega, by omega, by omega, by omega, by omega⟩, fun _ => rfl⟩, by omega⟩
    rw [decide_eq_false c3]
    exact Ev.step (fun k => by rw [frac_Check.j0, if_neg (by decide)]) (Ev.bind G (pos_ev c4 (Ev.now _)))
  · refine ⟨3, neg_ev c0 (neg_ev c1 (neg_ev c2 ?_)), ⟨fun h => by omega, fun h => absurd (by have := h.2.2.2.2; omega) c4⟩, by omega⟩
    rw [decide_eq_false c3]
    exact Ev.step (fun k => by rw [frac_Check.j0, if_neg (by decide)]) (Ev.bind G (neg_ev c4 (Ev.now _)))
theorem fcheck_ok {n d : Int} (h : vf n d) : Ev (fun k => frac_Check.f k n d) 0 := by
  obtain ⟨a, b, c, e, g⟩ := h
  obtain ⟨r, hr, h0, _⟩ := fcheck_ev (n := n) (d := d) (by omega) (by omega) (by omega) (by omega)
  rw [h0.mpr ⟨a, b, c, e, g⟩] at hr
  exact hr
end Go.Proofs.YtoplbhohaaielaaDoor.Q
