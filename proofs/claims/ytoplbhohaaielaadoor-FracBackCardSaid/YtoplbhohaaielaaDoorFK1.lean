/- Digits and their parsing: what Text writes and Read reads; the bounds stand in each statement. -/
import Derived.Test.YtoplbhohaaielaaDoorQx3
import Derived.Test.YtoplbhohaaielaaDoorQx4
import Derived.Test.YtoplbhohaaielaaDoorQx10
import Derived.Test.YtoplbhohaaielaaDoorQx14
import Derived.Test.YtoplbhohaaielaaDoorQx12
import Derived.Test.YtoplbhohaaielaaDoorQx17
import Derived.Test.YtoplbhohaaielaaDoorQx18
import Derived.Test.YtoplbhohaaielaaDoorQx2
import Derived.Test.YtoplbhohaaielaaDoorQx5
import Derived.Test.YtoplbhohaaielaaDoorM1
import Derived.Test.YtoplbhohaaielaaDoorM2
import Derived.Test.YtoplbhohaaielaaDoorM3
import Derived.Test.YtoplbhohaaielaaDoorM4
import Derived.Test.YtoplbhohaaielaaDoorM5
import Derived.Test.YtoplbhohaaielaaDoorM6
import Derived.Test.YtoplbhohaaielaaDoorFR0
import Derived.Test.YtoplbhohaaielaaDoorFF1
import Derived.Test.YtoplbhohaaielaaDoorFF2
import Derived.Lib.ItoaLen
namespace Go.Proofs.YtoplbhohaaielaaDoor.Q
open Go.RowKit Go.Proofs.YtoplbhohaaielaaDoorW.PrintWords Go.Proofs.YtoplbhohaaielaaDoorW.PrintLast Go.Proofs.YtoplbhohaaielaaDoorW.PrintMore Go.Lib
set_option linter.unusedVariables false
set_option linter.unusedSimpArgs false

theorem dec_small {u : Nat} (h : u < 10) : decDigits u = [UInt8.ofNat (48 + u)] := by rw [decDigits, dif_pos h]
theorem dec_big {u : Nat} (h : ¬ u < 10) : decDigits u = decDigits (u / 10) ++ [UInt8.ofNat (48 + u % 10)] := by rw [decDigits, dif_neg h]
theorem dg_nat {u : Nat} (h : u < 10) : (UInt8.ofNat (48 + u)).toNat = 48 + u := by
  rw [UInt8.toNat_ofNat']; omega
theorem dec_digits : ∀ (u : Nat), ∀ b ∈ decDigits u, 48 ≤ b.toNat ∧ b.toNat ≤ 57 := by
  intro u
  induction u using Nat.strongRecOn with
  | _ u ih =>
    intro b hb
    by_cases h : u < 10
    · rw [dec_small h] at hb
      obtain rfl := List.mem_singleton.1 hb
      rw [dg_nat h]; omega
    · rw [dec_big h] at hb
      rcases List.mem_append.1 hb with hb | hb
      · exact ih _ (by omega) b hb
      · obtain rfl := List.mem_singleton.1 hb
        rw [dg_nat (by omega)]; omega
theorem dec_ne (u : Nat) : decDigits u ≠ [] := by
  by_cases h : u < 10
  · rw [dec_small h]; simp
  · rw [dec_big h]; simp
theorem dec_cons (u : Nat) : ∃ c r, decDigits u = c :: r ∧ 48 ≤ c.toNat ∧ c.toNat ≤ 57 := by
  cases h : decDigits u with
  | nil => exact absurd h (dec_ne u)
  | cons c r => exact ⟨c, r, rfl, dec_digits u c (by rw [h]; simp)⟩
theorem dec_head (u : Nat) : 0 < u → ∃ c r, decDigits u = c :: r ∧ 49 ≤ c.toNat ∧ c.toNat ≤ 57 := by
  induction u using Nat.strongRecOn with
  | _ u ih =>
    intro h0
    by_cases h : u < 10
    · exact ⟨_, [], dec_small h, by rw [dg_nat h]; omega, by rw [dg_nat h]; omega⟩
    · obtain ⟨c, r, hc, h1, h2⟩ := ih (u / 10) (by omega) (by omega)
      exact ⟨c, r ++ [UInt8.ofNat (48 + u % 10)], by rw [dec_big h, hc]; rfl, h1, h2⟩
theorem parse_dec {M : Nat} (u : Nat) : u ≤ M → u ≤ 1152921504606846976 → ∀ r, parseUintM M 0 (decDigits u ++ r) = parseUintM M u r := by
  induction u using Nat.strongRecOn with
  | _ u ih =>
    intro hM hu r
    by_cases h : u < 10
    · rw [dec_small h]
      show parseUintM M 0 (UInt8.ofNat (48 + u) :: r) = _
      rw [parseUintM, dg_nat h, if_pos (by omega), if_neg (by omega), if_neg (by omega)]
      congr 1; omega
    · rw [dec_big h, List.append_assoc, ih (u / 10) (by omega) (by omega) (by omega)]
      show parseUintM M (u / 10) (UInt8.ofNat (48 + u % 10) :: r) = _
      rw [parseUintM, dg_nat (by omega), if_pos (by omega), if_neg (by omega), if_neg (by omega)]
      congr 1; omega
theorem parse_ok {u : Nat} (hu : u ≤ 1152921504606846976) : parseIntB 64 (decDigits u) = .ok (u : Int) := by
  obtain ⟨c, r, hc, h1, h2⟩ := dec_cons u
  have hp : parseUintB 64 (decDigits u) = .ok u := by
    unfold parseUintB
    rw [if_neg (dec_ne u)]
    have := parse_dec (M := 2 ^ 64 - 1) u (by omega) hu []
    rw [List.append_nil] at this
    rw [this]; rfl
  rw [hc] at hp ⊢
  unfold parseIntB
  simp only
  rw [if_neg (by omega), hp]
  simp only
  rw [if_neg (by omega), if_neg (by omega)]
  simp [show ¬ c.toNat = 45 by omega]
theorem drop_all {p : UInt8 → Bool} : ∀ l : List UInt8, (∀ x ∈ l, p x = true) → l.dropWhile p = []
  | [], _ => rfl
  | x :: l, h => by rw [List.dropWhile_cons, if_pos (h x (by simp)), drop_all l (fun y hy => h y (by simp [hy]))]
theorem trim_digits {l : List UInt8} (h : ∀ b ∈ l, 48 ≤ b.toNat ∧ b.toNat ≤ 57) : trimS l [48, 49, 50, 51, 52, 53, 54, 55, 56, 57] = [] := by
  have key : ∀ b, b ∈ l → ([48, 49, 50, 51, 52, 53, 54, 55, 56, 57] : List UInt8).contains b = true := by
    intro b hb
    obtain ⟨h1, h2⟩ := h b hb
    have e : b = UInt8.ofNat b.toNat := by simp
    have : b.toNat = 48 ∨ b.toNat = 49 ∨ b.toNat = 50 ∨ b.toNat = 51 ∨ b.toNat = 52 ∨ b.toNat = 53 ∨ b.toNat = 54 ∨ b.toNat = 55 ∨ b.toNat = 56 ∨ b.toNat = 57 := by omega
    rcases this with h | h | h | h | h | h | h | h | h | h <;> rw [h] at e <;> rw [e] <;> decide
  unfold trimS trimRightS trimLeftS
  have : l.reverse.dropWhile (fun x => ([48, 49, 50, 51, 52, 53, 54, 55, 56, 57] : List UInt8).contains x) = [] := by
    exact drop_all _ (fun x hx => key x (List.mem_reverse.1 hx))
  rw [this]; rfl
def by_ (l : List UInt8) : ByteArray := ⟨l.toArray⟩
theorem by_app (a b : List UInt8) : by_ a ++ by_ b = by_ (a ++ b) := by
  apply ByteArray.ext
  simp [by_]
theorem by_size (l : List UInt8) : (by_ l).size = l.length := by simp [by_, ByteArray.size]
theorem by_list (l : List UInt8) : (by_ l).toList = l := by rw [toList_data]; simp [by_]
theorem by_data (l : List UInt8) : (by_ l).data.toList = l := by simp [by_]
theorem by_bt (c : UInt8) (r : List UInt8) : bt (by_ (c :: r)) 0 = (c.toNat : Int) := by
  have h : (0 : Int).toNat < (by_ (c :: r)).size := by rw [by_size]; simp
  rw [← bt_at _ _ h]
  simp [by_]
  rfl
theorem len_dec {u : Nat} (hu : u ≤ 1152921504606846976) : (decDigits u).length ≤ 21 := by
  have := itoa_length_le (u : Int) (by omega) (by omega)
  rwa [itoa_nonneg] at this
theorem trim_at {u : Nat} (hu : u ≤ 1152921504606846976) : strings_Trim.f (by_ (decDigits u)) ⟨#[48, 49, 50, 51, 52, 53, 54, 55, 56, 57]⟩ = some (by_ []) := by
  have hl := len_dec hu
  have hp : 0 < (decDigits u).length := List.length_pos_iff.2 (dec_ne u)
  unfold strings_Trim.f
  rw [by_size, if_pos hp, if_pos (by omega), if_pos (by decide), if_pos (by decide), if_pos (by decide), by_data]
  have := trim_digits (dec_digits u)
  show some _ = some _
  congr 2
  rw [this]
theorem whole_ev {u : Nat} (hu : u ≤ 1152921504606846976) : Ev (fun k => frac_whole.f k (by_ (decDigits u))) ((u : Int), 0) := by
  have J : Ev (fun k => frac_whole.j0 k (by_ (decDigits u)) false) ((u : Int), 0) := by
    refine ⟨1, fun k hk => ?_⟩
    obtain ⟨k, rfl⟩ : ∃ j, k = j + 1 := ⟨k - 1, by omega⟩
    show frac_whole.j0 (k + 1) _ _ = _
    rw [frac_whole.j0, if_neg (by decide)]
    have e : strconv_ParseInt_31.f (by_ (decDigits u)) 10 64 = some ((u : Int), none) := by
      unfold strconv_ParseInt_31.f
      rw [if_pos rfl, if_pos rfl, if_pos (by rw [by_size]; have := len_dec hu; omega), by_data, parse_ok hu]
    rw [e, Option.bind_some]
    dsimp only [Option.isNone]
    rw [if_pos rfl, if_neg (by omega)]
  obtain ⟨c, r, hc, h1, h2⟩ := dec_cons u
  unfold frac_whole.f
  have ne : ¬ (by_ (decDigits u)).toList = [] := by rw [by_list]; exact dec_ne u
  refine Ev.congr (fun k => if_neg ne) ?_
  have t := trim_at hu
  have el : ((by_ []).toList != ([] : List UInt8)) = false := by rw [by_list]; rfl
  by_cases big : ((by_ (decDigits u)).size : Int) > 1
  · refine Ev.congr (fun k => if_pos big) ?_
    refine Ev.congr (fun k => if_pos (by omega)) ?_
    have nz : ¬ bt (by_ (decDigits u)) 0 = 48 := by
      have hu0 : 0 < u := by
        rcases Nat.eq_zero_or_pos u with rfl | h
        · rw [by_size] at big; rw [show decDigits 0 = [UInt8.ofNat (48 + 0)] from dec_small (by decide)] at big; simp at big
        · exact h
      obtain ⟨c, r, hc, h1, h2⟩ := dec_head u hu0
      rw [hc, by_bt]; omega
    refine Ev.congr (fun k => if_neg nz) ?_
    rw [t]
    simp only [Option.bind_some, el]
    exact J
  · refine Ev.congr (fun k => if_neg big) ?_
    rw [t]
    simp only [Option.bind_some, el]
    exact J
/-- The text of a number. -/
def ft (n d : Int) : List UInt8 := itoa n ++ (if d > 1 then 47 :: decDigits d.toNat else [])
theorem text_ev {n d : Int} (h : vf n d) : Ev (fun k => frac_Text.f k n d) (by_ (ft n d), 0) := by
  obtain ⟨n0, n1, d0, d1, _⟩ := h
  have ln := itoa_length_le n (by omega) (by omega)
  have ld := itoa_length_le d (by omega) (by omega)
  have en : strconv_FormatInt_13.f n 10 = some (by_ (itoa n)) := by unfold strconv_FormatInt_13.f; rw [if_pos rfl, if_pos (by omega), if_pos (by omega)]; rfl
  have ed : strconv_FormatInt_13.f d 10 = some (by_ (itoa d)) := by unfold strconv_FormatInt_13.f; rw [if_pos rfl, if_pos (by omega), if_pos (by omega)]; rfl
  have id : itoa d = decDigits d.toNat := by unfold itoa; rw [if_neg (by omega)]
  unfold frac_Text.f
  refine Ev.bind (fcheck_ok ⟨n0, n1, d0, d1, by assumption⟩) ?_
  refine Ev.congr (fun k => if_pos rfl) ?_
  rw [en, ed]
  simp only [Option.bind_some]
  by_cases c : d > 1
  · refine Ev.congr (fun k => if_pos c) ?_
    have e47 : (⟨#[47]⟩ : ByteArray) = by_ [47] := rfl
    rw [e47, by_app, by_app]
    refine Ev.congr (fun k => if_pos (by rw [by_size]; omega)) ?_
    refine Ev.congr (fun k => if_pos (by rw [by_size, by_size]; simp; omega)) ?_
    refine ev_fun (Ev.now _) ?_
    unfold ft
    rw [if_pos c, id]; rfl
  · refine Ev.congr (fun k => if_neg c) ?_
    refine ev_fun (Ev.now _) ?_
    unfold ft
    rw [if_neg c, List.append_nil]
theorem prefix_no {c : UInt8} {r : List UInt8} (h : c ≠ 45) : hasPrefix (c :: r) [45] = false := by
  unfold hasPrefix
  simp [List.isPrefixOf, Ne.symm h]
theorem index_at : ∀ (l r : List UInt8), (∀ b ∈ l, b ≠ 47) → index (l ++ 47 :: r) [47] = l.length
  | [], r, _ => by simp [index, List.isPrefixOf]
  | b :: l, r, h => by
    have hb : b ≠ 47 := h b (by simp)
    have ih := index_at l r (fun x hx => h x (by simp [hx]))
    rw [List.cons_append, index, if_neg (by simp [List.isPrefixOf, Ne.symm hb]), ih, if_neg (by simp)]
    simp
theorem index_no : ∀ (l : List UInt8), (∀ b ∈ l, b ≠ 47) → index l [47] = -1
  | [], _ => by simp [index]
  | b :: l, h => by
    have hb : b ≠ 47 := h b (by simp)
    rw [index, if_neg (by simp [List.isPrefixOf, Ne.symm hb]), index_no l (fun x hx => h x (by simp [hx])), if_pos (by simp)]
theorem dec_no47 (u : Nat) : ∀ b ∈ decDigits u, b ≠ 47 := fun b hb e => by
  have := dec_digits u b hb
  rw [e] at this
  exact absurd this.1 (by decide)
theorem dec_eq48 {u : Nat} (h : decDigits u = [48]) : u = 0 := by
  rcases Nat.eq_zero_or_pos u with e | e
  · exact e
  · obtain ⟨c, r, hc, h1, h2⟩ := dec_head u e
    rw [h] at hc
    obtain ⟨rfl, rfl⟩ := List.cons.inj hc
    exact absurd h1 (by decide)
/-- Behind the sign: the digits of a numerator and of a denominator are read. -/
theorem read_tail {m : Nat} {d : Int} {x5 : Bool} (hm : m ≤ 1152921504606846976) (d0 : 1 ≤ d) (d1 : d ≤ 1152921504606846976) (hg : Int.gcd m d = 1) (h5 : x5 = true → 0 < m) :
    Ev (fun k => (strings_Cut.f (by_ (decDigits m ++ (if d > 1 then 47 :: decDigits d.toNat else []))) (⟨#[47]⟩ : ByteArray)).bind fun bt104 => ((frac_whole.f k bt104.1).bind fun bt107 => (if bt104.2.2 = true then ((frac_whole.f k bt104.2.1).bind fun bt109 => (frac_Read.j0 k x5 bt104.1 bt104.2.1 bt104.2.2 bt107.1 bt107.2 bt109.1 bt109.2)) else (frac_Read.j0 k x5 bt104.1 bt104.2.1 bt104.2.2 bt107.1 bt107.2 1 0))))
      (if x5 = true then -(m : Int) else m, d, 0) := by
  have lm := len_dec hm
  have ld := len_dec (u := d.toNat) (by omega)
  have e47 : (⟨#[47]⟩ : ByteArray).data.toList = [47] := rfl
  have hw : wrap64 (-(m : Int)) = -(m : Int) := by unfold wrap64; omega
  have fin : ∀ b8 : Bool, Ev (fun k => frac_Read.j3 k x5 (m : Int) d false) (if x5 = true then -(m : Int) else m, d, 0) := fun _ => by
    refine Ev.step (f := fun _ => some (if x5 = true then -(m : Int) else m, d, 0)) (fun k => ?_) (Ev.now _)
    show frac_Read.j3 (k + 1) _ _ _ _ = _
    rw [frac_Read.j3, if_neg (by decide), hw]
    cases x5 <;> rfl
  have t48 : x5 = true → ¬ (by_ (decDigits m)).toList = [48] := fun h e => by
    rw [by_list] at e
    have := dec_eq48 e
    have := h5 h
    omega
  by_cases c : d > 1
  · rw [if_pos c]
    have hx := index_at (decDigits m) (decDigits d.toNat) (dec_no47 m)
    have hc : strings_Cut.f (by_ (decDigits m ++ 47 :: decDigits d.toNat)) (⟨#[47]⟩ : ByteArray) = some (by_ (decDigits m), by_ (decDigits d.toNat), true) := by
      unfold strings_Cut.f
      rw [if_pos (by rw [by_size]; simp; omega), by_data, e47]
      unfold Go.Lib.cut
      rw [hx, if_pos (by omega)]
      simp [by_]
    rw [hc]
    simp only [Option.bind_some]
    refine Ev.bind (whole_ev hm) ?_
    simp only [if_true]
    refine Ev.bind (whole_ev (u := d.toNat) (by omega)) ?_
    have ed : ((d.toNat : Nat) : Int) = d := Int.toNat_of_nonneg (by omega)
    have t2 : ((by_ (decDigits d.toNat)).toList == ([48] : List UInt8)) = false := by
      rw [beq_eq_false_iff_ne]
      intro e
      rw [by_list] at e
      have := dec_eq48 e; omega
    rw [ed]
    have J2 : Ev (fun k => frac_Read.j2 k x5 true (m : Int) d false) (if x5 = true then -(m : Int) else m, d, 0) := by
      refine Ev.step (f := fun k => (num_Gcd.f k (m : Int) d).bind fun t => frac_Read.j3 k x5 (m : Int) d (t != 1)) (fun k => ?_) ?_
      · show frac_Read.j2 (k + 1) _ _ _ _ _ = _
        rw [frac_Read.j2, if_neg (by decide), if_pos rfl, if_neg (by omega)]
      · refine Ev.bind (gcd_at (a := (m : Int)) (b := d) (by omega) (by omega) d0 d1).1 ?_
        rw [hg]
        exact fin true
    have J1 : Ev (fun k => frac_Read.j1 k x5 true (m : Int) 0 d 0 false) (if x5 = true then -(m : Int) else m, d, 0) := by
      refine Ev.step (f := fun k => frac_Read.j2 k x5 true (m : Int) d false) (fun k => ?_) J2
      show frac_Read.j1 (k + 1) _ _ _ _ _ _ _ = _
      rw [frac_Read.j1, if_neg (by decide), if_pos rfl]
      rfl
    refine Ev.step (f := fun k => frac_Read.j1 k x5 true (m : Int) 0 d 0 false) (fun k => ?_) J1
    show frac_Read.j0 (k + 1) _ _ _ _ _ _ _ _ = _
    simp only
    rw [frac_Read.j0, if_neg (by decide), if_neg (by decide), t2]
    cases h5' : x5
    · rfl
    · rw [if_pos rfl, if_neg (t48 h5'), if_pos rfl]
  · obtain rfl : d = 1 := by omega
    rw [if_neg (by decide), List.append_nil]
    have hx := index_no (decDigits m) (dec_no47 m)
    have hc : strings_Cut.f (by_ (decDigits m)) (⟨#[47]⟩ : ByteArray) = some (by_ (decDigits m), by_ [], false) := by
      unfold strings_Cut.f
      rw [if_pos (by rw [by_size]; omega), by_data, e47]
      unfold Go.Lib.cut
      rw [hx, if_neg (by omega)]
      simp [by_]
    rw [hc]
    simp only [Option.bind_some]
    refine Ev.bind (whole_ev hm) ?_
    have J2 : Ev (fun k => frac_Read.j2 k x5 false (m : Int) 1 false) (if x5 = true then -(m : Int) else m, 1, 0) := by
      refine Ev.step (f := fun k => frac_Read.j3 k x5 (m : Int) 1 false) (fun k => ?_) (fin true)
      show frac_Read.j2 (k + 1) _ _ _ _ _ = _
      rw [frac_Read.j2, if_neg (by decide), if_neg (by decide)]
    have J1 : Ev (fun k => frac_Read.j1 k x5 false (m : Int) 0 1 0 false) (if x5 = true then -(m : Int) else m, 1, 0) := by
      refine Ev.step (f := fun k => frac_Read.j2 k x5 false (m : Int) 1 false) (fun k => ?_) J2
      show frac_Read.j1 (k + 1) _ _ _ _ _ _ _ = _
      rw [frac_Read.j1, if_neg (by decide), if_pos rfl]
      rfl
    refine Ev.congr (fun k => if_neg (by decide)) ?_
    refine Ev.step (f := fun k => frac_Read.j1 k x5 false (m : Int) 0 1 0 false) (fun k => ?_) J1
    show frac_Read.j0 (k + 1) _ _ _ _ _ _ _ _ = _
    simp only
    rw [frac_Read.j0, if_neg (by decide), if_neg (by decide)]
    cases h5' : x5
    · rfl
    · rw [if_pos rfl, if_neg (t48 h5'), if_neg (by decide)]
theorem read_ev {n d : Int} (h : vf n d) : Ev (fun k => frac_Read.f k (by_ (ft n d))) (n, d, 0) := by
  obtain ⟨n0, n1, d0, d1, hg⟩ := h
  have e45 : (⟨#[45]⟩ : ByteArray).data.toList = [45] := rfl
  unfold frac_Read.f ft
  by_cases c : n < 0
  · have ei : itoa n = 45 :: decDigits n.natAbs := by unfold itoa; rw [if_pos c]
    rw [ei]
    have hc : strings_CutPrefix.f (by_ (45 :: decDigits n.natAbs ++ (if d > 1 then 47 :: decDigits d.toNat else []))) (⟨#[45]⟩ : ByteArray) = some (by_ (decDigits n.natAbs ++ (if d > 1 then 47 :: decDigits d.toNat else [])), true) := by
      unfold strings_CutPrefix.f
      rw [by_data, e45]
      simp [Go.Lib.trimPrefix, hasPrefix, List.isPrefixOf, by_]
    rw [hc]
    simp only [Option.bind_some]
    have hr := read_tail (m := n.natAbs) (d := d) (x5 := true) (by omega) d0 d1 (by rw [← hg]; simp [Int.gcd]) (fun _ => by omega)
    rw [show (if true = true then -(n.natAbs : Int) else (n.natAbs : Int)) = n by rw [if_pos rfl]; omega] at hr
    exact hr
  · have ei : itoa n = decDigits n.natAbs := by unfold itoa; rw [if_neg c]; congr 1; omega
    rw [ei]
    obtain ⟨ch, r, hd, h1, h2⟩ := dec_cons n.natAbs
    have hc : strings_CutPrefix.f (by_ (decDigits n.natAbs ++ (if d > 1 then 47 :: decDigits d.toNat else []))) (⟨#[45]⟩ : ByteArray) = some (by_ (decDigits n.natAbs ++ (if d > 1 then 47 :: decDigits d.toNat else [])), false) := by
      unfold strings_CutPrefix.f
      rw [by_data, e45, hd, List.cons_append]
      unfold Go.Lib.trimPrefix
      rw [prefix_no (fun e => by rw [e] at h1; exact absurd h1 (by decide))]
      rfl
    rw [hc]
    simp only [Option.bind_some]
    have hr := read_tail (m := n.natAbs) (d := d) (x5 := false) (by omega) d0 d1 (by rw [← hg]; simp [Int.gcd]) (fun e => by cases e)
    rw [show (if false = true then -(n.natAbs : Int) else (n.natAbs : Int)) = n by rw [if_neg (by decide)]; omega] at hr
    exact hr
end Go.Proofs.YtoplbhohaaielaaDoor.Q
