/- Terms of continued fractions, and back; the bounds stand in each statement. -/
import Derived.Test.YtoplbhohaaielaaDoorQx4
import Derived.Test.YtoplbhohaaielaaDoorQx19
import Derived.Test.YtoplbhohaaielaaDoorQx3
import Derived.Test.YtoplbhohaaielaaDoorQx2
import Derived.Test.YtoplbhohaaielaaDoorQx5
import Derived.Test.YtoplbhohaaielaaDoorM1
import Derived.Test.YtoplbhohaaielaaDoorM2
import Derived.Test.YtoplbhohaaielaaDoorM3
import Derived.Test.YtoplbhohaaielaaDoorM4
import Derived.Test.YtoplbhohaaielaaDoorM5
import Derived.Test.YtoplbhohaaielaaDoorM6
import Derived.Test.YtoplbhohaaielaaDoorFD1
import Derived.Test.YtoplbhohaaielaaDoorFR0
import Derived.Test.YtoplbhohaaielaaDoorFF1
import Derived.Test.YtoplbhohaaielaaDoorFF2
import Derived.Test.YtoplbhohaaielaaDoorFF3
namespace Go.Proofs.YtoplbhohaaielaaDoor.Q
open Go.RowKit Go.Proofs.YtoplbhohaaielaaDoorW.PrintWords Go.Proofs.YtoplbhohaaielaaDoorW.PrintLast Go.Proofs.YtoplbhohaaielaaDoorW.PrintMore Go.Lib
set_option linter.unusedVariables false
set_option linter.unusedSimpArgs false

/-- The terms of n/d. -/
def cf : Nat → Int → Int → List Int
  | 0, _, _ => []
  | f + 1, n, d => if d > 0 then n / d :: cf f d (n % d) else []
theorem cf_len : ∀ (m f : Nat) (n d : Int), 0 ≤ d → d < 2 ^ m → (cf f n d).length ≤ 2 * m
  | 0, f, n, d, h0, h1 => by
    have : d = 0 := by simp at h1; omega
    subst this
    cases f <;> simp [cf]
  | m + 1, 0, n, d, h0, h1 => by simp [cf]
  | m + 1, 1, n, d, h0, h1 => by
    rw [cf]; split <;> simp [cf]; omega
  | m + 1, f + 2, n, d, h0, h1 => by
    rw [cf]
    split
    · rename_i hd
      rw [cf]
      have r0 := Int.emod_nonneg n (show d ≠ 0 by omega)
      have r1 := Int.emod_lt_of_pos n hd
      generalize n % d = r at *
      split
      · rename_i hr
        have s0 := Int.emod_nonneg d (show r ≠ 0 by omega)
        have s1 := Int.emod_lt_of_pos d hr
        have s2 : d % r < 2 ^ m := by
          have e : (2 : Int) ^ (m + 1) = 2 * 2 ^ m := by rw [Int.pow_succ]; omega
          rw [e] at h1
          by_cases c : r ≤ d - r
          · omega
          · have : d % r = d - r := by
              rw [← Int.sub_emod_right d r, Int.emod_eq_of_lt (by omega) (by omega)]
            omega
        have := cf_len m f r (d % r) s0 s2
        simp only [List.length_cons]
        omega
      · simp; omega
    · simp
theorem fl_ev {n d : Int} (n0 : -1152921504606846976 ≤ n) (n1 : n ≤ 1152921504606846976) (hd : 1 ≤ d) : num_FloorDiv.f n d = some (n / d) := floordiv (by omega) (by omega) hd
theorem terms_l0 : ∀ (f : Nat) (acc : List Int) (n d : Int), -1152921504606846976 ≤ n → n ≤ 1152921504606846976 → 0 ≤ d → d ≤ 1152921504606846976 → d < f → acc.length + (cf f n d).length < 1000 →
    Ev (fun k => frac_Terms.l0 k acc n d) (acc ++ cf f n d, 0)
  | 0, acc, n, d, _, _, h0, _, h1, _ => by omega
  | f + 1, acc, n, d, n0, n1, d0, d1, hf, hl => by
    by_cases c : d > 0
    · have r0 := Int.emod_nonneg n (show d ≠ 0 by omega)
      have r1 := Int.emod_lt_of_pos n c
      have e := Int.mul_ediv_add_emod n d
      have hw : wrap64 (n - wrap64 (n / d * d)) = n % d := by
        have e2 : n / d * d = n - n % d := by rw [Int.mul_comm]; omega
        rw [e2]; unfold wrap64; omega
      have hc : cf (f + 1) n d = n / d :: cf f d (n % d) := by rw [cf, if_pos c]
      rw [hc] at hl ⊢
      rw [List.length_cons] at hl
      refine Ev.step (f := fun k => frac_Terms.l0 k (acc ++ [n / d]) d (n % d)) (fun k => ?_) ?_
      · show frac_Terms.l0 (k + 1) _ _ _ = _
        rw [frac_Terms.l0, if_pos c, fl_ev n0 n1 (by omega), Option.bind_some, if_pos (by omega), hw]
      · have ih := terms_l0 f (acc ++ [n / d]) d (n % d) (by omega) (by omega) r0 (by omega) (by omega) (by rw [List.length_append]; simp; omega)
        rw [List.append_assoc] at ih
        exact ih
    · have hc : cf (f + 1) n d = [] := by rw [cf, if_neg c]
      rw [hc, List.append_nil]
      refine Ev.step (f := fun k => some (acc, 0)) (fun k => ?_) (Ev.now _)
      show frac_Terms.l0 (k + 1) _ _ _ = _
      rw [frac_Terms.l0, if_neg c]
/-- The terms of a number. -/
def tms (n d : Int) : List Int := cf (d.toNat + 1) n d
theorem tms_len {n d : Int} (d0 : 1 ≤ d) (d1 : d ≤ 1152921504606846976) : (tms n d).length ≤ 122 := cf_len 61 _ n d (by omega) (by omega)
theorem terms_ev {n d : Int} (h : vf n d) : Ev (fun k => frac_Terms.f k n d) (tms n d, 0) := by
  unfold frac_Terms.f
  refine Ev.bind (fcheck_ok h) ?_
  refine Ev.congr (fun k => if_pos rfl) ?_
  obtain ⟨n0, n1, d0, d1, _⟩ := h
  have := tms_len (n := n) d0 d1
  unfold tms at this ⊢
  have := terms_l0 (d.toNat + 1) [] n d n0 n1 (by omega) d1 (by omega) (by simp; omega)
  exact this

theorem check_far {n d : Int} (h : n < -1152921504606846976 ∨ 1152921504606846976 < n ∨ d < 1 ∨ 1152921504606846976 < d) : Ev (fun k => frac_Check.f k n d) 4 := by
  have J1 : Ev (fun k => frac_Check.j0 k true n d) 4 := by
    refine Ev.step (f := fun _ => some 4) (fun k => ?_) (Ev.now _)
    show frac_Check.j0 (k + 1) _ _ _ = _
    rw [frac_Check.j0, if_pos rfl]
  unfold frac_Check.f
  by_cases c0 : n < -1152921504606846976
  · exact pos_ev c0 J1
  by_cases c1 : n > 1152921504606846976
  · exact neg_ev c0 (pos_ev c1 J1)
  by_cases c2 : d < 1
  · exact neg_ev c0 (neg_ev c1 (pos_ev c2 J1))
  · exact neg_ev c0 (neg_ev c1 (neg_ev c2 (by rw [decide_eq_true (by omega)]; exact J1)))
theorem check_any (n d : Int) : ∃ e, Ev (fun k => frac_Check.f k n d) e ∧ (e = 0 → vf n d) := by
  by_cases h : n < -1152921504606846976 ∨ 1152921504606846976 < n ∨ d < 1 ∨ 1152921504606846976 < d
  · exact ⟨4, check_far h, fun e => by cases e⟩
  · obtain ⟨e, he, h0, _⟩ := fcheck_ev (n := n) (d := d) (by omega) (by omega) (by omega) (by omega)
    exact ⟨e, he, h0.mp⟩
theorem total : frac_From.total := by
  intro a b c d
  obtain ⟨e, he, e0⟩ := check_any a b
  obtain ⟨e2, he2, e20⟩ := check_any c d
  have hb : Ev (fun k => frac_both.f k a b c d) (if e = 0 then e2 else e) := by
    unfold frac_both.f
    exact Ev.bind he (Ev.bind he2 (Ev.bind (or_err e e2) (Ev.now _)))
  have : ∃ r, Ev (fun k => frac_Add.f k a b c d) r := by
    by_cases z : (if e = 0 then e2 else e) = 0
    · have h1 : e = 0 := by
        by_cases h : e = 0
        · exact h
        · rw [if_neg h] at z; exact z
      rw [if_pos h1] at z
      obtain ⟨x, hx, rfl, rfl⟩ := (e0 h1).rat
      obtain ⟨y, hy, rfl, rfl⟩ := (e20 z).rat
      exact ⟨_, add_ev hx hy⟩
    · refine ⟨(0, 0, if e = 0 then e2 else e), ?_⟩
      unfold frac_Add.f
      exact Ev.bind hb (neg_ev z (Ev.now _))
  obtain ⟨r, hr⟩ := this
  obtain ⟨k, hk⟩ := hr.rounds
  exact ⟨k, r, hk⟩
theorem gcd_mod {n d : Int} : Int.gcd d (n % d) = Int.gcd n d := by
  rw [Int.gcd_comm n d, ← Int.gcd_sub_mul_left_right d n (n / d), show n - d * (n / d) = n % d by have := Int.mul_ediv_add_emod n d; omega]
theorem add_val {n d : Int} (h : vf n d) (hr : 0 < n % d) : frac_From.add (n / d) 1 (n % d) d = (n, d, 0) := by
  have h' := h
  obtain ⟨n0, n1, d0, d1, hg⟩ := h
  have r1 := Int.emod_lt_of_pos n (show 0 < d by omega)
  have e := Int.mul_ediv_add_emod n d
  have hy : vf (n % d) d := ⟨by omega, by omega, d0, d1, by rw [Int.gcd_comm, gcd_mod]; exact hg⟩
  have q0 : -1152921504606846976 ≤ n / d := by
    have := Int.ediv_le_ediv (show 0 < d by omega) n0
    have : -1152921504606846976 ≤ -1152921504606846976 / d := by
      apply (Int.le_ediv_iff_mul_le (by omega)).2; omega
    omega
  have q1 : n / d ≤ 1152921504606846976 := by
    have : n / d < 1152921504606846977 := Int.ediv_lt_of_lt_mul (by omega) (by omega)
    omega
  obtain ⟨y, sy, yn, yd⟩ := hy.rat
  obtain ⟨z, sz, zn, zd⟩ := h'.rat
  obtain ⟨x, hx⟩ : ∃ x : Rat, x = ((n / d : Int) : Rat) := ⟨_, rfl⟩
  have xn : x.num = n / d := by rw [hx]; rfl
  have xd : (x.den : Int) = 1 := by rw [hx]; rfl
  have sx : sm x := ⟨by omega, by omega, by omega⟩
  have hs : x + y = z := by
    have := rat_sub_num z y
    rw [zn, zd, yn, yd] at this
    have hden := den1 (z - y)
    have k1 : (z - y).num = (n / d) * (z - y).den := by
      have e3 : n * d - n % d * d = (n / d) * (d * d) := by
        have : n - n % d = d * (n / d) := by omega
        rw [← Int.sub_mul, this]; grind
      rw [e3] at this
      have : ((z - y).num - (n / d) * (z - y).den) * (d * d) = 0 := by grind
      rcases Int.mul_eq_zero.1 this with h | h
      · omega
      · rcases Int.mul_eq_zero.1 h with h | h <;> omega
    have k2 : z - y = x := by
      rw [Rat.eq_iff_mul_eq_mul, k1, xn, xd]; omega
    grind
  have ad := add_ev sx sy
  rw [xn, xd, yn, yd, hs] at ad
  rw [rat_ok sz, zn, zd] at ad
  obtain ⟨k, hk⟩ := ad.rounds
  exact frac_From.add_eq hk
/-- Terms put together, from the first one on. -/
noncomputable def fold : List Int → Option (Int × Int)
  | [] => none
  | [t] => some (t, 1)
  | t :: r => (fold r).bind fun s => if (frac_From.add t 1 s.2 s.1).2.2 = 0 then some ((frac_From.add t 1 s.2 s.1).1, (frac_From.add t 1 s.2 s.1).2.1) else none
theorem fold_cf : ∀ (f : Nat) (n d : Int), d < f → vf n d → fold (cf f n d) = some (n, d)
  | 0, n, d, hf, h => by have := h.2.2.1; omega
  | f + 1, n, d, hf, h => by
    have h' := h
    obtain ⟨n0, n1, d0, d1, hg⟩ := h
    have r0 := Int.emod_nonneg n (show d ≠ 0 by omega)
    have r1 := Int.emod_lt_of_pos n (show 0 < d by omega)
    rw [cf, if_pos (by omega)]
    by_cases c : 0 < n % d
    · have ih := fold_cf f d (n % d) (by omega) ⟨by omega, by omega, by omega, by omega, by rw [gcd_mod]; exact hg⟩
      obtain ⟨g, rfl⟩ : ∃ g, f = g + 1 := ⟨f - 1, by omega⟩
      have e : cf (g + 1) d (n % d) = d / (n % d) :: cf g (n % d) (d % (n % d)) := by rw [cf, if_pos c]
      rw [e] at ih ⊢
      rw [fold, ih]
      · simp only [Option.bind_some]
        rw [add_val h' c, if_pos rfl]
      · intro h; cases h
    · have e0 : n % d = 0 := by omega
      have e1 : d = 1 := by
        have := gcd_mod (n := n) (d := d)
        rw [e0, hg, Int.gcd_zero_right] at this
        omega
      rw [e0]
      subst e1
      have : cf f 1 0 = [] := by cases f <;> simp [cf]
      rw [this, fold, Int.ediv_one]
theorem go_map : ∀ (l m : List (Int × Int)) (s : Int × Int), l.map (·.2) = m.map (·.2) → frac_From.go l s = frac_From.go m s
  | [], [], s, _ => rfl
  | [], _ :: _, s, h => by simp at h
  | _ :: _, [], s, h => by simp at h
  | x :: l, y :: m, s, h => by
    simp only [List.map_cons, List.cons.injEq] at h
    rw [frac_From.go, frac_From.go, h.1]
    split
    · exact go_map l m _ h.2
    · rfl
theorem back_map (l : List Int) : ∀ n, n ≤ l.length → (frac_From.back l n).map (·.2) = (l.take n).reverse
  | 0, _ => by simp [frac_From.back]
  | n + 1, h => by
    rw [frac_From.back, List.map_cons, back_map l n (by omega), List.take_succ_eq_append_getElem (by omega), List.reverse_append]
    unfold rd
    rw [Int.toNat_natCast, List.getD_eq_getElem?_getD, List.getElem?_eq_getElem (by omega)]
    rfl
theorem go_fold : ∀ (l : List Int), l ≠ [] → frac_From.go (frac_From.back l (l.length - 1)) (rd l ((l.length : Int) - 1), 1) = fold l
  | [], h => absurd rfl h
  | [t], _ => by simp [frac_From.back, frac_From.go, fold, rd]
  | t :: u :: r, _ => by
    have ih := go_fold (u :: r) (by simp)
    have er : rd (t :: u :: r) (((t :: u :: r).length : Int) - 1) = rd (u :: r) (((u :: r).length : Int) - 1) := by
      unfold rd
      rw [show (((t :: u :: r).length : Int) - 1).toNat = (((u :: r).length : Int) - 1).toNat + 1 by simp]
      rfl
    have eg : (frac_From.back (t :: u :: r) ((t :: u :: r).length - 1)).map (·.2) = (frac_From.back (u :: r) ((u :: r).length - 1) ++ [((0 : Int), t)]).map (·.2) := by
      rw [List.map_append, back_map _ _ (by simp), back_map _ _ (by simp)]
      simp
    have ef : fold (t :: u :: r) = (fold (u :: r)).bind fun s => if (frac_From.add t 1 s.2 s.1).2.2 = 0 then some ((frac_From.add t 1 s.2 s.1).1, (frac_From.add t 1 s.2 s.1).2.1) else none := by
      rw [fold]; intro h; cases h
    rw [er, go_map _ _ _ eg, frac_From.go_append, ih, ef]
    cases fold (u :: r) with
    | none => rfl
    | some s => rfl
theorem cf_tail : ∀ (f : Nat) (n d : Int), 0 ≤ d → d ≤ n → n ≤ 1152921504606846976 → ∀ t ∈ cf f n d, 1 ≤ t ∧ t ≤ 1152921504606846976
  | 0, n, d, _, _, _, t, h => by simp [cf] at h
  | f + 1, n, d, d0, dn, n1, t, h => by
    rw [cf] at h
    split at h
    · rename_i c
      rcases List.mem_cons.1 h with rfl | h
      · have q0 : 1 ≤ n / d := (Int.le_ediv_iff_mul_le c).2 (by omega)
        have q1 : n / d < 1152921504606846977 := Int.ediv_lt_of_lt_mul c (by
          have : 1152921504606846977 * 1 ≤ 1152921504606846977 * d := Int.mul_le_mul_of_nonneg_left (by omega) (by decide)
          omega)
        omega
      · have r0 := Int.emod_nonneg n (show d ≠ 0 by omega)
        have r1 := Int.emod_lt_of_pos n c
        exact cf_tail f d (n % d) r0 (by omega) (by omega) t h
    · cases h
theorem cf_last : ∀ (f : Nat) (n d : Int), 1 ≤ d → d < n → d < f → Int.gcd n d = 1 → ∃ l t, cf f n d = l ++ [t] ∧ 2 ≤ t
  | 0, n, d, d0, _, hf, _ => by omega
  | f + 1, n, d, d0, dn, hf, hg => by
    have r0 := Int.emod_nonneg n (show d ≠ 0 by omega)
    have r1 := Int.emod_lt_of_pos n (show 0 < d by omega)
    rw [cf, if_pos (by omega)]
    by_cases c : 1 ≤ n % d
    · obtain ⟨l, t, e, h2⟩ := cf_last f d (n % d) c (by omega) (by omega) (by rw [gcd_mod]; exact hg)
      exact ⟨n / d :: l, t, by rw [e]; rfl, h2⟩
    · have e0 : n % d = 0 := by omega
      have e1 : d = 1 := by
        have := gcd_mod (n := n) (d := d)
        rw [e0, hg, Int.gcd_zero_right] at this
        omega
      subst e1
      rw [e0]
      have : cf f 1 0 = [] := by cases f <;> simp [cf]
      rw [this, Int.ediv_one]
      exact ⟨[], n, rfl, by omega⟩
theorem from_ev {n d : Int} (h : vf n d) (k : Nat) : frac_From.f k (tms n d) = some (n, d, 0) := by
  have h' := h
  obtain ⟨n0, n1, d0, d1, hg⟩ := h
  have r0 := Int.emod_nonneg n (show d ≠ 0 by omega)
  have r1 := Int.emod_lt_of_pos n (show 0 < d by omega)
  have hc : tms n d = n / d :: cf d.toNat d (n % d) := by unfold tms; rw [cf, if_pos (by omega)]
  have hf := fold_cf (d.toNat + 1) n d (by omega) h'
  have hgo := go_fold (tms n d) (by rw [hc]; simp)
  have tl := cf_tail d.toNat d (n % d) r0 (by omega) d1
  have q0 : -1152921504606846976 ≤ n / d := by
    have := Int.ediv_le_ediv (show 0 < d by omega) n0
    have : -1152921504606846976 ≤ -1152921504606846976 / d := by
      apply (Int.le_ediv_iff_mul_le (by omega)).2; omega
    omega
  have q1 : n / d ≤ 1152921504606846976 := by
    have : n / d < 1152921504606846977 := Int.ediv_lt_of_lt_mul (by omega) (by omega)
    omega
  have hok : frac_From.ok (tms n d) := by
    intro i hi
    rw [hc] at hi ⊢
    unfold rd
    rw [Int.toNat_natCast]
    cases i with
    | zero => exact ⟨q1, q0, fun h => absurd h (by decide)⟩
    | succ i =>
      rw [List.getD_cons_succ]
      rw [List.length_cons] at hi
      have hm : (cf d.toNat d (n % d)).getD i 0 ∈ cf d.toNat d (n % d) := by
        rw [List.getD_eq_getElem?_getD, List.getElem?_eq_getElem (by omega)]
        exact List.getElem_mem _
      have := tl _ hm
      omega
  unfold frac_From.f
  rw [if_pos total, if_pos (by rw [hc]; simp), if_pos hok, if_neg, hgo]
  · unfold tms; rw [hf]; rfl
  · rintro ⟨h1, h2⟩
    rw [hc] at h1 h2
    by_cases c : 1 ≤ n % d
    · obtain ⟨l, t, e, ht⟩ := cf_last d.toNat d (n % d) c (by omega) (by omega) (by rw [gcd_mod]; exact hg)
      rw [e] at h2
      unfold rd at h2
      rw [show (((n / d :: (l ++ [t])).length : Int) - 1).toNat = l.length + 1 by simp, List.getD_cons_succ] at h2
      simp at h2
      omega
    · have e0 : n % d = 0 := by omega
      rw [e0] at h1
      have : cf d.toNat d 0 = [] := by cases d.toNat <;> simp [cf]
      rw [this] at h1
      simp at h1
end Go.Proofs.YtoplbhohaaielaaDoor.Q
