/- FracBack in plain numbers: for all numbers the printed function answers true; no other condition. -/
import Derived.Test.YtoplbhohaaielaaDoorQx20
import Derived.Test.YtoplbhohaaielaaDoorQx8
import Derived.Test.YtoplbhohaaielaaDoorQx19
import Derived.Test.YtoplbhohaaielaaDoorM1
import Derived.Test.YtoplbhohaaielaaDoorM2
import Derived.Test.YtoplbhohaaielaaDoorM3
import Derived.Test.YtoplbhohaaielaaDoorM4
import Derived.Test.YtoplbhohaaielaaDoorM5
import Derived.Test.YtoplbhohaaielaaDoorM6
import Derived.Test.YtoplbhohaaielaaDoorFD1
import Derived.Test.YtoplbhohaaielaaDoorFR0
import Derived.Test.YtoplbhohaaielaaDoorFF1
import Derived.Test.YtoplbhohaaielaaDoorFF2
import Derived.Test.YtoplbhohaaielaaDoorFF3
import Derived.Test.YtoplbhohaaielaaDoorFK1
import Derived.Test.YtoplbhohaaielaaDoorFK2
namespace Go.Proofs.YtoplbhohaaielaaDoor.Pure
open Go.RowKit Go.Proofs.YtoplbhohaaielaaDoor.Q Go.Proofs.YtoplbhohaaielaaDoorW.PrintWords Go.Proofs.YtoplbhohaaielaaDoorW.PrintLast
set_option linter.unusedVariables false
set_option linter.unusedSimpArgs false
set_option maxRecDepth 100000 in
theorem fracFact_ev : Ev (fun k => spykeep1_fracFact.f k) true :=
  Ev.of (fun k => spykeep1_fracFact.mono k) (k := 200) (by decide +kernel)
theorem i64_of {a : Int} (h : (Lit.int .i64 a).wf = true) : -9223372036854775808 ≤ a ∧ a < 9223372036854775808 := by
  simp only [Lit.wf, IntKind.min, IntKind.max, IntKind.signed, IntKind.bits, Bool.and_eq_true, decide_eq_true_eq, if_true] at h
  omega
theorem make_j1 {k : Nat} {a b c d : Int} {x : Bool} {r : Int × Int × Int} (h : frac_Make.j1 k a b c d x = some r) (hr : r.2.2 ≠ 0) : r.1 = 0 ∧ r.2.1 = 0 := by
  cases k with
  | zero => cases h
  | succ k =>
    rw [frac_Make.j1] at h
    split at h
    · obtain rfl := Option.some.inj h; exact ⟨rfl, rfl⟩
    · split at h
      · obtain rfl := Option.some.inj h; exact absurd rfl hr
      · obtain rfl := Option.some.inj h; exact absurd rfl hr
theorem make_l0 : ∀ (k : Nat) {a b c d : Int} {r : Int × Int × Int}, frac_Make.l0 k a b c d = some r → r.2.2 ≠ 0 → r.1 = 0 ∧ r.2.1 = 0
  | 0, _, _, _, _, _, h, _ => by cases h
  | k + 1, a, b, c, d, r, h, hr => by
    rw [frac_Make.l0] at h
    split at h
    · split at h
      · cases h
      · exact make_l0 k h hr
    · obtain ⟨t, _, h⟩ := Option.bind_eq_some_iff.mp h
      split at h
      · cases h
      · obtain ⟨t, _, h⟩ := Option.bind_eq_some_iff.mp h
        split at h
        · exact make_j1 h hr
        · exact make_j1 h hr
theorem make_zero {k : Nat} {a b : Int} {r : Int × Int × Int} (h : frac_Make.f k a b = some r) (hr : r.2.2 ≠ 0) : r.1 = 0 ∧ r.2.1 = 0 := by
  unfold frac_Make.f at h
  split at h
  · obtain rfl := Option.some.inj h; exact ⟨rfl, rfl⟩
  · obtain ⟨t, _, h⟩ := Option.bind_eq_some_iff.mp h
    obtain ⟨t, _, h⟩ := Option.bind_eq_some_iff.mp h
    exact make_l0 k h hr
theorem FracBack : spykeep1_FracBack.Pure := by
  intro a b ha hb
  obtain ⟨a0, a1⟩ := i64_of ha
  obtain ⟨b0, b1⟩ := i64_of hb
  obtain ⟨⟨n, d, e⟩, hm, hv⟩ := make_ev a0 a1 b0 b1
  refine Ev.rounds (g := fun k => spykeep1_FracBack.f k a b) ?_
  unfold spykeep1_FracBack.f
  refine Ev.bind hm (Ev.bind fracFact_ev ?_)
  refine Ev.congr (fun k => if_pos rfl) ?_
  by_cases z : e = 0
  · subst z
    have h := hv rfl
    simp only at h
    have hz : ((0 : Int) != 0) = false := rfl
    simp only [hz]
    refine Ev.step (f := fun k => (frac_Text.f k n d).bind fun bt107 => ((frac_Read.f k bt107.1).bind fun bt109 => ((frac_Terms.f k n d).bind fun bt113 => ((frac_From.f k bt113.1).bind fun bt117 => (if bt107.2 = 0 then (if bt109.2.2 = 0 then (if bt113.2 = 0 then (if bt117.2.2 = 0 then (if (bt109.1 == n && (bt109.2.1 == d)) = true then (some (bt117.1 == n && (bt117.2.1 == d))) else (none)) else (none)) else (none)) else (none)) else (none)))))) (fun k => ?_) ?_
    · show spykeep1_FracBack.j0 (k + 1) _ _ _ = _
      rw [spykeep1_FracBack.j0, if_neg (by decide)]
    · refine Ev.bind (text_ev h) (Ev.bind (read_ev h) (Ev.bind (terms_ev h) (Ev.bind (a := (n, d, 0)) ⟨0, fun k _ => from_ev h k⟩ ?_)))
      simp only [if_true, beq_self_eq_true, Bool.and_self]
      exact Ev.now _
  · obtain ⟨k, hk⟩ := hm.rounds
    obtain ⟨rfl, rfl⟩ : n = 0 ∧ d = 0 := make_zero hk z
    have hz : (e != 0) = true := bne_iff_ne.mpr z
    simp only [hz]
    refine Ev.step (f := fun k => (spykeep1_fracFact.f k).bind fun t106 => (if t106 = true then (some ((0 : Int) == 0 && ((0 : Int) == 0))) else (none))) (fun k => ?_) ?_
    · show spykeep1_FracBack.j0 (k + 1) _ _ _ = _
      rw [spykeep1_FracBack.j0, if_pos rfl]
    · exact Ev.bind fracFact_ev (Ev.now _)
end Go.Proofs.YtoplbhohaaielaaDoor.Pure
