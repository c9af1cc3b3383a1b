/- Making and rounding fractions, and their calls with any numbers; the bounds stand in each statement. -/
import Derived.Test.YtoplbhohaaielaaDoorQx2
import Derived.Test.YtoplbhohaaielaaDoorQx3
import Derived.Test.YtoplbhohaaielaaDoorQx5
import Derived.Test.YtoplbhohaaielaaDoorM1
import Derived.Test.YtoplbhohaaielaaDoorM2
import Derived.Test.YtoplbhohaaielaaDoorM3
import Derived.Test.YtoplbhohaaielaaDoorM4
import Derived.Test.YtoplbhohaaielaaDoorM5
import Derived.Test.YtoplbhohaaielaaDoorM6
import Derived.Test.YtoplbhohaaielaaDoorFD1
import Derived.Test.YtoplbhohaaielaaDoorFR0
import Derived.Test.YtoplbhohaaielaaDoorFF1
import Derived.Test.YtoplbhohaaielaaDoorFF2
-- AUTO
namespace Go.Proofs.YtoplbhohaaielaaDoor.Q
open Go.RowKit Go.Proofs.YtoplbhohaaielaaDoorW.PrintWords Go.Proofs.YtoplbhohaaielaaDoorW.PrintLast Go.Proofs.YtoplbhohaaielaaDoorW.PrintMore
set_option linter.unusedVariables false
set_option linter.unusedSimpArgs false

theorem rat_ok {x : Rat} (h : sm x) : rat x = (x.num, (x.den : Int), 0) := if_pos h
theorem rat_no {x : Rat} (h : ¬ sm x) : rat x = (0, 0, 2) := if_neg h
theorem both_any {a b c d : Int} (a0 : -9223372036854775808 ≤ a) (a1 : a < 9223372036854775808) (b0 : -9223372036854775808 ≤ b) (b1 : b < 9223372036854775808) (c0 : -9223372036854775808 ≤ c) (c1 : c < 9223372036854775808) (d0 : -9223372036854775808 ≤ d) (d1 : d < 9223372036854775808) :
    ∃ e : Int, Ev (fun k => frac_both.f k a b c d) e ∧ (e = 0 → vf a b ∧ vf c d) := by
  obtain ⟨e, he, e0, _⟩ := fcheck_ev a0 a1 b0 b1
  obtain ⟨e2, he2, e20, _⟩ := fcheck_ev c0 c1 d0 d1
  refine ⟨if e = 0 then e2 else e, ?_, fun h => ?_⟩
  · unfold frac_both.f
    exact Ev.bind he (Ev.bind he2 (Ev.bind (or_err e e2) (Ev.now _)))
  · by_cases c : e = 0
    · rw [if_pos c] at h; exact ⟨e0.mp c, e20.mp h⟩
    · rw [if_neg c] at h; exact absurd h c
theorem add_any {a b c d : Int} (a0 : -9223372036854775808 ≤ a) (a1 : a < 9223372036854775808) (b0 : -9223372036854775808 ≤ b) (b1 : b < 9223372036854775808) (c0 : -9223372036854775808 ≤ c) (c1 : c < 9223372036854775808) (d0 : -9223372036854775808 ≤ d) (d1 : d < 9223372036854775808) :
    ∃ r, Ev (fun k => frac_Add.f k a b c d) r := by
  obtain ⟨e, he, h⟩ := both_any a0 a1 b0 b1 c0 c1 d0 d1
  by_cases z : e = 0
  · obtain ⟨u, v⟩ := h z
    obtain ⟨x, hx, rfl, rfl⟩ := u.rat
    obtain ⟨y, hy, rfl, rfl⟩ := v.rat
    exact ⟨_, add_ev hx hy⟩
  · refine ⟨(0, 0, e), ?_⟩
    unfold frac_Add.f
    exact Ev.bind he (neg_ev z (Ev.now _))
theorem fsize {a : Int} (a0 : -9223372036854775808 ≤ a) (a1 : a < 9223372036854775808) : frac_size.f a = some (a.natAbs : Int) := by
  unfold frac_size.f
  by_cases c : a < 0
  · rw [if_pos c, u64_wrap_eq, u64_wrap_eq]; congr 1; omega
  · rw [if_neg c, u64_wrap_eq]; congr 1; omega
/-- What Make answers, where the divisor isn't 0. -/
theorem make_l0 {n d : Int} (n0 : -9223372036854775808 ≤ n) (n1 : n < 9223372036854775808) (d0 : -9223372036854775808 ≤ d) (d1 : d < 9223372036854775808) (nz : d ≠ 0) (m : Nat) :
    ∀ a b : Nat, b ≤ m → a ≠ 0 → Nat.gcd a b = Nat.gcd n.natAbs d.natAbs → a ≤ 9223372036854775808 → b ≤ 9223372036854775808 →
    ∃ r : Int × Int × Int, Ev (fun k => frac_Make.l0 k n d (a : Int) (b : Int)) r ∧ (r.2.2 = 0 → vf r.1 r.2.1) := by
  have last : ∀ a : Nat, a ≠ 0 → a = Nat.gcd n.natAbs d.natAbs → ∃ r : Int × Int × Int, Ev (fun k => frac_Make.l0 k n d (a : Int) ((0 : Nat) : Int)) r ∧ (r.2.2 = 0 → vf r.1 r.2.1) := by
    intro a ha hg
    have dn : a ∣ n.natAbs := by rw [hg]; exact Nat.gcd_dvd_left _ _
    have dd : a ∣ d.natAbs := by rw [hg]; exact Nat.gcd_dvd_right _ _
    have gN : a * (n.natAbs / a) = n.natAbs := Nat.mul_div_cancel' dn
    have gD : a * (d.natAbs / a) = d.natAbs := Nat.mul_div_cancel' dd
    have lN := Nat.div_le_self n.natAbs a
    have lD := Nat.div_le_self d.natAbs a
    have D1 : 1 ≤ d.natAbs / a := by
      apply Nat.pos_of_ne_zero; intro h; rw [h] at gD; omega
    have cop : Nat.gcd (n.natAbs / a) (d.natAbs / a) = 1 := by
      rw [hg]; exact Nat.gcd_div_gcd_div_gcd_of_pos_right (by omega)
    have zN : (0 : Int) ≤ ((n.natAbs / a : Nat) : Int) := Int.natCast_nonneg _
    have zD : (0 : Int) ≤ ((d.natAbs / a : Nat) : Int) := Int.natCast_nonneg _
    have tN : IntKind.u64.wrap (Int.tdiv (n.natAbs : Int) (a : Int)) = ((n.natAbs / a : Nat) : Int) := by
      rw [← Int.ofNat_tdiv, u64_wrap_eq]; omega
    have tD : IntKind.u64.wrap (Int.tdiv (d.natAbs : Int) (a : Int)) = ((d.natAbs / a : Nat) : Int) := by
      rw [← Int.ofNat_tdiv, u64_wrap_eq]; omega
    generalize n.natAbs / a = p at *
    generalize d.natAbs / a = q at *
    have st : ∀ r, Ev (fun k => if (p : Int) > 1152921504606846976 then frac_Make.j1 k n d p q true else frac_Make.j1 k n d p q (decide ((q : Int) > 1152921504606846976))) r → Ev (fun k => frac_Make.l0 k n d (a : Int) ((0 : Nat) : Int)) r := by
      intro r hr
      refine Ev.step (fun k => ?_) hr
      rw [frac_Make.l0, if_neg (by decide), fsize n0 n1, Option.bind_some, if_neg (by omega), fsize d0 d1, Option.bind_some, tN, tD]
    have J : Ev (fun k => frac_Make.j1 k n d p q true) (0, 0, 2) := one_ev fun k => by rw [frac_Make.j1, if_pos rfl]
    by_cases c : (p : Int) > 1152921504606846976
    · exact ⟨_, st _ (pos_ev c J), by simp⟩
    by_cases c2 : (q : Int) > 1152921504606846976
    · refine ⟨(0, 0, 2), st _ (neg_ev c ?_), ?_⟩
      · rw [decide_eq_true c2]; exact J
      · simp
    · by_cases s : ((decide (n < 0)) != (decide (d < 0))) = true
      · refine ⟨(-(p : Int), q, 0), st _ (neg_ev c ?_), fun _ => ⟨by simp only; omega, by simp only; omega, by simp only; omega, by simp only; omega, ?_⟩⟩
        · rw [decide_eq_false c2]
          refine one_ev fun k => ?_
          rw [frac_Make.j1, if_neg (by decide), if_pos s, w64_id (x := (p : Int)) (by omega) (by omega), w64_id (x := -(p : Int)) (by omega) (by omega), w64_id (x := (q : Int)) (by omega) (by omega)]
        · simp only [Int.gcd, Int.natAbs_neg, Int.natAbs_natCast]; exact cop
      · refine ⟨((p : Int), q, 0), st _ (neg_ev c ?_), fun _ => ⟨by simp only; omega, by simp only; omega, by simp only; omega, by simp only; omega, ?_⟩⟩
        · rw [decide_eq_false c2]
          refine one_ev fun k => ?_
          rw [frac_Make.j1, if_neg (by decide), if_neg s, w64_id (x := (p : Int)) (by omega) (by omega), w64_id (x := (q : Int)) (by omega) (by omega)]
        · simp only [Int.gcd, Int.natAbs_natCast]; exact cop
  induction m with
  | zero =>
    intro a b hb ha hg _ _
    obtain rfl : b = 0 := by omega
    exact last a ha (by rw [← hg, Nat.gcd_zero_right])
  | succ m ih =>
    intro a b hb ha hg h1 h2
    by_cases z : b = 0
    · subst z; exact last a ha (by rw [← hg, Nat.gcd_zero_right])
    · have hm : a % b < b := Nat.mod_lt _ (by omega)
      obtain ⟨r, hr, h⟩ := ih b (a % b) (by omega) z (by rw [← hg, Nat.gcd_comm a b, Nat.gcd_rec b a, Nat.gcd_comm]) h2 (by omega)
      refine ⟨r, Ev.step (fun k => ?_) hr, h⟩
      rw [frac_Make.l0, if_pos (by omega), if_neg (by omega), tmod_eq (by omega), ← Int.natCast_emod]
theorem make_ev {n d : Int} (n0 : -9223372036854775808 ≤ n) (n1 : n < 9223372036854775808) (d0 : -9223372036854775808 ≤ d) (d1 : d < 9223372036854775808) :
    ∃ r : Int × Int × Int, Ev (fun k => frac_Make.f k n d) r ∧ (r.2.2 = 0 → vf r.1 r.2.1) := by
  unfold frac_Make.f
  by_cases z : d = 0
  · exact ⟨_, pos_ev z (Ev.now _), by simp⟩
  · have go : ∃ r : Int × Int × Int, Ev (fun k => frac_Make.l0 k n d (n.natAbs : Int) (d.natAbs : Int)) r ∧ (r.2.2 = 0 → vf r.1 r.2.1) := by
      by_cases y : n.natAbs = 0
      · -- one step: the divisor comes first
        have nn : n = 0 := by omega
        obtain ⟨r, hr, h⟩ := make_l0 n0 n1 d0 d1 z 0 d.natAbs 0 (Nat.le_refl _) (by omega) (by rw [y]; simp) (by omega) (by omega)
        refine ⟨r, Ev.step (fun k => ?_) hr, h⟩
        rw [frac_Make.l0, if_pos (by omega), if_neg (by omega), y, tmod_eq (by omega), ← Int.natCast_emod, Nat.zero_mod]
      · exact make_l0 n0 n1 d0 d1 z d.natAbs n.natAbs d.natAbs (Nat.le_refl _) y rfl (by omega) (by omega)
    obtain ⟨r, hr, h⟩ := go
    exact ⟨r, neg_ev z (some_ev (fsize n0 n1) (some_ev (fsize d0 d1) hr)), h⟩

end Go.Proofs.YtoplbhohaaielaaDoor.Q
