/- Base for the laws of tiles: wrapping, answers that come at last, the stream of numbers; the bounds stand in each statement. -/
import Derived.Test.YtpbfjcohiibpcaaDoorQx1
namespace Go.Proofs.YtpbfjcohiibpcaaDoor.Q
open Go.RowKit Go.Proofs.YtpbfjcohiibpcaaDoorW.PrintWords Go.Proofs.YtpbfjcohiibpcaaDoorW.PrintLast Go.Proofs.YtpbfjcohiibpcaaDoorW.PrintMore
set_option linter.unusedVariables false
set_option linter.unusedSimpArgs false
theorem w64_id {x : Int} (h0 : -9223372036854775808 ≤ x) (h1 : x < 9223372036854775808) : wrap64 x = x := by unfold wrap64; omega
theorem tmod_eq {a b : Int} (h : 0 ≤ a) : Int.tmod a b = a % b := Int.tmod_eq_emod_of_nonneg h
theorem tdiv_eq {a b : Int} (h : 0 ≤ a) : Int.tdiv a b = a / b := Int.tdiv_eq_ediv_of_nonneg h
theorem some_ev {α β : Type} {g : Option α} {f : Nat → α → Option β} {a : α} {r : β} (h : g = some a) (k : Ev (fun n => f n a) r) : Ev (fun n => g.bind (f n)) r := by
  subst h; exact k
theorem pos_ev {α : Type} {c : Prop} [Decidable c] {g f : Nat → Option α} {r : α} (h : c) (k : Ev g r) : Ev (fun n => if c then g n else f n) r := by
  simp only [if_pos h]; exact k
theorem neg_ev {α : Type} {c : Prop} [Decidable c] {g f : Nat → Option α} {r : α} (h : ¬ c) (k : Ev f r) : Ev (fun n => if c then g n else f n) r := by
  simp only [if_neg h]; exact k
theorem one_ev {α : Type} {g : Nat → Option α} {r : α} (h : ∀ k, g (k + 1) = some r) : Ev g r := Ev.step (f := fun _ => some r) h (Ev.now _)
theorem now_ev {α : Type} {g : Nat → Option α} {r : α} (h : ∀ k, g k = some r) : Ev g r := Ev.congr (f := fun _ => some r) h (Ev.now _)
theorem ev_fun {α : Type} {g : Nat → Option α} {r r' : α} (h : Ev g r) (e : r = r') : Ev g r' := e ▸ h

theorem below {a n : Int} (hn : 1 ≤ n) (hn1 : n < 9223372036854775808) : spymake_Below.f a n = some (a % n) := by
  unfold spymake_Below.f
  rw [if_neg (by omega), if_neg (by omega)]
  have m0 := Int.emod_nonneg a (show n ≠ 0 by omega)
  have m1 := Int.emod_lt_of_pos a (show 0 < n by omega)
  by_cases c : 0 ≤ a
  · rw [tmod_eq c, if_neg (by omega)]
  · have e : Int.tmod a n = -(-a % n) := by
      have := Int.neg_tmod (-a) n
      rw [Int.neg_neg] at this
      rw [this, tmod_eq (by omega)]
    rw [e, (show a % n = (if -a % n = 0 then 0 else n - -a % n) by
      have e1 := Int.emod_add_mul_ediv (-a) n
      have h0 := Int.emod_nonneg (-a) (show n ≠ 0 by omega)
      have h1 := Int.emod_lt_of_pos (-a) (show 0 < n by omega)
      split
      · exact ((Int.ediv_emod_unique (q := -(-a / n)) (show 0 < n by omega)).mpr ⟨by rw [Int.mul_neg]; omega, by omega, by omega⟩).2
      · exact ((Int.ediv_emod_unique (q := -(-a / n) - 1) (show 0 < n by omega)).mpr ⟨by rw [Int.mul_sub, Int.mul_neg]; omega, by omega, by omega⟩).2)]
    have h0 := Int.emod_nonneg (-a) (show n ≠ 0 by omega)
    have h1 := Int.emod_lt_of_pos (-a) (show 0 < n by omega)
    by_cases z : -a % n = 0
    · rw [if_neg (by omega), if_pos z, z]; rfl
    · rw [if_pos (by omega), if_neg z, w64_id (by omega) (by omega)]; congr 1; omega
theorem below_in {a n : Int} (hn : 1 ≤ n) (hn1 : n < 9223372036854775808) : ∃ v, spymake_Below.f a n = some v ∧ 0 ≤ v ∧ v < n :=
  ⟨a % n, below hn hn1, Int.emod_nonneg a (by omega), Int.emod_lt_of_pos a (by omega)⟩
/-- The next number lies from 0 to n - 1, and the place moves on by one. -/
theorem next_in (l : List Int) {at_ n : Int} (hl : l.length ≤ 9223372036854775807) (a0 : 0 ≤ at_) (a1 : at_ < 4611686018427387904) (n0 : 1 ≤ n) (n1 : n < 9223372036854775808) :
    ∃ v, spymake_Stream_Next.f l at_ n = some (v, at_ + 1) ∧ 0 ≤ v ∧ v < n := by
  unfold spymake_Stream_Next.f
  rw [w64_id (x := at_ + 1) (by omega) (by omega)]
  by_cases z : (l.length : Int) = 0
  · rw [if_pos z]
    obtain ⟨v, hv, v0, v1⟩ := below_in (a := wrap64 ((at_ + 1) * 7919)) n0 n1
    exact ⟨v, by rw [hv]; rfl, v0, v1⟩
  · rw [if_neg z, w64_id (x := at_ + 1 - 1) (by omega) (by omega), tmod_eq (by omega)]
    have m0 := Int.emod_nonneg (at_ + 1 - 1) z
    have m1 := Int.emod_lt_of_pos (at_ + 1 - 1) (show 0 < (l.length : Int) by omega)
    rw [if_pos m0, if_pos m1]
    obtain ⟨v, hv, v0, v1⟩ := below_in (a := rd l ((at_ + 1 - 1) % (l.length : Int))) (n := 1073741824) (by decide) (by decide)
    rw [hv]
    simp only [Option.bind_some]
    obtain ⟨v', hv', v0', v1'⟩ := below_in (a := wrap64 (v + (wrap64 ((wrap64 (Int.tdiv (at_ + 1 - 1) (l.length : Int))) * (wrap64 (7919 + ((at_ + 1 - 1) % (l.length : Int)))))))) n0 n1
    exact ⟨v', by rw [hv']; rfl, v0', v1'⟩
/-- A number of a range lies in it. -/
theorem range_in (l : List Int) {at_ lo hi : Int} (hl : l.length ≤ 9223372036854775807) (a0 : 0 ≤ at_) (a1 : at_ < 4611686018427387904) (h : lo ≤ hi) (h0 : -2305843009213693952 ≤ lo) (h1 : hi < 2305843009213693952) :
    ∃ v, spymake_Stream_Range.f l at_ lo hi = some (v, at_ + 1) ∧ lo ≤ v ∧ v ≤ hi := by
  unfold spymake_Stream_Range.f
  rw [if_neg (by omega), w64_id (x := hi - lo) (by omega) (by omega), w64_id (x := hi - lo + 1) (by omega) (by omega)]
  obtain ⟨v, hv, v0, v1⟩ := next_in l (n := hi - lo + 1) hl a0 a1 (by omega) (by omega)
  refine ⟨lo + v, ?_, by omega, by omega⟩
  rw [hv]
  simp only [Option.bind_some]
  rw [w64_id (by omega) (by omega)]
end Go.Proofs.YtpbfjcohiibpcaaDoor.Q
