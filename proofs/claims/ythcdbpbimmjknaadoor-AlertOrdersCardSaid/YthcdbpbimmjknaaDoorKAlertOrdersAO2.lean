/- The order of alerts in plain numbers: rows of keys, compared one after the other; no condition. -/
import Derived.Test.YthcdbpbimmjknaaDoorKAlertOrdersQx7
import Derived.Test.YthcdbpbimmjknaaDoorKAlertOrdersQx8
import Derived.Test.YthcdbpbimmjknaaDoorKAlertOrdersAO0
import Derived.Test.YthcdbpbimmjknaaDoorKAlertOrdersAO1
namespace Go.Proofs.YthcdbpbimmjknaaDoor.Q
open Go.RowKit Go.Proofs.YthcdbpbimmjknaaDoorW.PrintWords Go.Proofs.YthcdbpbimmjknaaDoorW.PrintLast Go.Proofs.YthcdbpbimmjknaaDoorW.PrintMore
set_option linter.unusedVariables false
set_option linter.unusedSimpArgs false
def cp (x y : Int) : Int := if x < y then -1 else if x > y then 1 else 0
/-- The first number that is not 0. -/
def fst0 : List Int → Int
  | [] => 0
  | x :: l => if x = 0 then fst0 l else x
def lex : List Int → List Int → Int
  | x :: l, y :: m => if cp x y = 0 then lex l m else cp x y
  | _, _ => 0
theorem cp_zero {x y : Int} : cp x y = 0 ↔ x = y := by unfold cp; split <;> (try split) <;> omega
theorem cp_neg (x y : Int) : cp y x = -cp x y := by unfold cp; (repeat' split) <;> omega
theorem lex_neg : ∀ l m : List Int, lex m l = -lex l m
  | [], [] => rfl
  | [], _ :: _ => rfl
  | _ :: _, [] => rfl
  | x :: l, y :: m => by
    simp only [lex, cp_neg x y]
    by_cases h : cp x y = 0
    · rw [if_pos (by omega), if_pos h, lex_neg l m]
    · rw [if_neg (by omega), if_neg h]
theorem lex_zero : ∀ l m : List Int, l.length = m.length → (lex l m = 0 ↔ l = m)
  | [], [], _ => by simp [lex]
  | x :: l, y :: m, h => by
    simp only [lex, List.cons.injEq]
    by_cases z : cp x y = 0
    · rw [if_pos z, lex_zero l m (by simpa using h)]
      rw [cp_zero] at z
      simp [z]
    · rw [if_neg z]
      rw [cp_zero] at z
      have : cp x y ≠ 0 := fun e => z (cp_zero.1 e)
      simp [z, this]
theorem lex_le {x y : Int} {l m : List Int} : lex (x :: l) (y :: m) ≤ 0 ↔ x < y ∨ (x = y ∧ lex l m ≤ 0) := by
  rw [lex]
  by_cases z : cp x y = 0
  · rw [if_pos z]
    rw [cp_zero] at z
    constructor
    · intro h; exact .inr ⟨z, h⟩
    · rintro (h | h)
      · omega
      · exact h.2
  · rw [if_neg z]
    have z' : x ≠ y := fun e => z (cp_zero.2 e)
    unfold cp
    constructor
    · intro h
      by_cases c : x < y
      · exact .inl c
      · rw [if_neg c, if_pos (by omega)] at h; omega
    · rintro (h | h)
      · rw [if_pos h]; omega
      · exact absurd h.1 z'
theorem lex_trans : ∀ l m n : List Int, l.length = m.length → m.length = n.length → lex l m ≤ 0 → lex m n ≤ 0 → lex l n ≤ 0
  | [], [], [], _, _, _, _ => by simp [lex]
  | x :: l, y :: m, z :: n, h1, h2, a, b => by
    rw [lex_le] at a b ⊢
    have ih := lex_trans l m n (by simpa using h1) (by simpa using h2)
    rcases a with a | ⟨a, a'⟩ <;> rcases b with b | ⟨b, b'⟩
    · exact .inl (by omega)
    · exact .inl (by omega)
    · exact .inl (by omega)
    · exact .inr ⟨by omega, ih a' b'⟩
theorem lex_app : ∀ (A A' B B' : List Int), A.length = A'.length → lex (A ++ B) (A' ++ B') = if lex A A' = 0 then lex B B' else lex A A'
  | [], [], _, _, _ => by simp [lex]
  | x :: l, y :: m, B, B', h => by
    rw [List.cons_append, List.cons_append, lex, lex, lex_app l m B B' (by simpa using h)]
    by_cases z : cp x y = 0
    · simp only [if_pos z]
    · simp only [if_neg z]
theorem or_ev (l : List Int) (hl : l.length ≤ 1000) : Ev (fun k => cmp_Or_int.f k l) (fst0 l) := by
  unfold cmp_Or_int.f
  have key : ∀ (d i : Nat), i + d = l.length → Ev (fun k => cmp_Or_int.l0 k 0 l (l.length : Int) (i : Int)) (fst0 (l.drop i)) := by
    intro d
    induction d with
    | zero =>
      intro i hi
      rw [List.drop_of_length_le (by omega)]
      refine one_ev (fun k => ?_)
      rw [cmp_Or_int.l0, if_neg (by omega), fst0]
    | succ d ih =>
      intro i hi
      have hi' : i < l.length := by omega
      have er : rd l (i : Int) = l[i] := by unfold rd; simp [hi']
      have I := ih (i + 1) (by omega)
      rw [List.drop_eq_getElem_cons hi', fst0]
      refine Ev.step (fun k => by rw [cmp_Or_int.l0]) (pos_ev (by omega) (pos_ev (by omega) (pos_ev (by omega) ?_)))
      rw [er]
      by_cases z : l[i] = 0
      · rw [if_pos z]
        refine pos_ev z ?_
        rw [w64_id (by omega) (by omega)]
        exact I
      · rw [if_neg z]
        exact neg_ev z (Ev.now _)
  exact key l.length 0 (by omega)
def bu (b : Bool) : Int := if b = true then 1 else 0
theorem cmpi (a b : Int) : cmp_Compare_int.f a b = some (cp a b) := by
  unfold cmp_Compare_int.f cmp_isNaN_int.f cp
  simp only [bne_self_eq_false, Option.bind_some]
  rw [if_neg (by simp), if_neg (by simp)]
  (repeat' split) <;> rfl
theorem cmpt (a b : Int) : cmp_Compare_api_Tick.f a b = some (cp a b) := by
  unfold cmp_Compare_api_Tick.f cmp_isNaN_api_Tick.f cp
  simp only [bne_self_eq_false, Option.bind_some]
  rw [if_neg (by simp), if_neg (by simp)]
  (repeat' split) <;> rfl
theorem cmpa (a b : Int) : cmp_Compare_api_Arc.f a b = some (cp a b) := by
  unfold cmp_Compare_api_Arc.f cmp_isNaN_api_Arc.f cp
  simp only [bne_self_eq_false, Option.bind_some]
  rw [if_neg (by simp), if_neg (by simp)]
  (repeat' split) <;> rfl
theorem cmpq (a b : Int) : cmp_Compare_api_Quanta.f a b = some (cp a b) := by
  unfold cmp_Compare_api_Quanta.f cmp_isNaN_api_Quanta.f cp
  simp only [bne_self_eq_false, Option.bind_some]
  rw [if_neg (by simp), if_neg (by simp)]
  (repeat' split) <;> rfl
/-- What order does, behind the two comparisons. -/
theorem ord_ev (lo hi lo' hi' : Int) (u u' : Bool) :
    Ev (fun k => if (u != u') = true then (if u' = true then (some (-1)) else (some 1)) else ((cmp_Or_int.f k [cp lo lo', cp hi hi']).bind fun t => some t)) (lex [bu u, lo, hi] [bu u', lo', hi']) := by
  have e : lex [bu u, lo, hi] [bu u', lo', hi'] = if cp (bu u) (bu u') = 0 then fst0 [cp lo lo', cp hi hi'] else cp (bu u) (bu u') := by
    simp only [lex, fst0]
  rw [e]
  by_cases z : u = u'
  · subst z
    refine neg_ev (by simp) ?_
    rw [if_pos (cp_zero.2 rfl)]
    exact Ev.bind (or_ev _ (by simp)) (Ev.now _)
  · refine pos_ev (by simpa using z) ?_
    refine now_ev (fun _ => ?_)
    cases u <;> cases u' <;> first | exact absurd rfl z | rfl
theorem ordt_ev (lo hi lo' hi' : Int) (u u' : Bool) : Ev (fun k => alert_order_api_Tick.f k lo hi u lo' hi' u') (lex [bu u, lo, hi] [bu u', lo', hi']) := by
  unfold alert_order_api_Tick.f
  simp only [cmpt, Option.bind_some]
  exact ord_ev lo hi lo' hi' u u'
theorem orda_ev (lo hi lo' hi' : Int) (u u' : Bool) : Ev (fun k => alert_order_api_Arc.f k lo hi u lo' hi' u') (lex [bu u, lo, hi] [bu u', lo', hi']) := by
  unfold alert_order_api_Arc.f
  simp only [cmpa, Option.bind_some]
  exact ord_ev lo hi lo' hi' u u'
theorem ordq_ev (lo hi lo' hi' : Int) (u u' : Bool) : Ev (fun k => alert_order_api_Quanta.f k lo hi u lo' hi' u') (lex [bu u, lo, hi] [bu u', lo', hi']) := by
  unfold alert_order_api_Quanta.f
  simp only [cmpq, Option.bind_some]
  exact ord_ev lo hi lo' hi' u u'
/-- The keys of an alert, in the order in which they are compared. -/
def ky (a0 a1 a2 a3 a4 : Int) (a5 : Bool) (a6 a7 : Int) (a8 : Bool) (a9 a10 : Int) (a11 : Bool) (a12 a13 : Int) (a14 : Bool) (a15 : Int) : List Int :=
  a0 :: a1 :: a2 :: a15 :: ([bu a5, a3, a4] ++ ([bu a8, a6, a7] ++ ([bu a11, a9, a10] ++ ([bu a14, a12, a13] ++ []))))
theorem fst0_lex (a0 a1 a2 a15 b0 b1 b2 b15 : Int) (A A' B B' C C' D D' : List Int) (h1 : A.length = A'.length) (h2 : B.length = B'.length) (h3 : C.length = C'.length) (h4 : D.length = D'.length) :
    fst0 [cp a0 b0, cp a1 b1, cp a2 b2, cp a15 b15, lex A A', lex B B', lex C C', lex D D'] = lex (a0 :: a1 :: a2 :: a15 :: (A ++ (B ++ (C ++ (D ++ []))))) (b0 :: b1 :: b2 :: b15 :: (A' ++ (B' ++ (C' ++ (D' ++ []))))) := by
  simp only [fst0, lex, lex_app _ _ _ _ h1, lex_app _ _ _ _ h2, lex_app _ _ _ _ h3, lex_app _ _ _ _ h4]
theorem Cmp_ev (a0 a1 a2 a3 a4 : Int) (a5 : Bool) (a6 a7 : Int) (a8 : Bool) (a9 a10 : Int) (a11 : Bool) (a12 a13 : Int) (a14 : Bool) (a15 : Int) (b0 b1 b2 b3 b4 : Int) (b5 : Bool) (b6 b7 : Int) (b8 : Bool) (b9 b10 : Int) (b11 : Bool) (b12 b13 : Int) (b14 : Bool) (b15 : Int) :
    Ev (fun k => alert_Cmp.f k a0 a1 a2 a3 a4 a5 a6 a7 a8 a9 a10 a11 a12 a13 a14 a15 b0 b1 b2 b3 b4 b5 b6 b7 b8 b9 b10 b11 b12 b13 b14 b15)
      (lex (ky a0 a1 a2 a3 a4 a5 a6 a7 a8 a9 a10 a11 a12 a13 a14 a15) (ky b0 b1 b2 b3 b4 b5 b6 b7 b8 b9 b10 b11 b12 b13 b14 b15)) := by
  unfold alert_Cmp.f ky
  simp only [cmpi, Option.bind_some]
  refine Ev.bind (ordt_ev a3 a4 b3 b4 a5 b5) (Ev.bind (orda_ev a6 a7 b6 b7 a8 b8) (Ev.bind (orda_ev a9 a10 b9 b10 a11 b11) (Ev.bind (ordq_ev a12 a13 b12 b13 a14 b14) ?_)))
  rw [← fst0_lex a0 a1 a2 a15 b0 b1 b2 b15 [bu a5, a3, a4] [bu b5, b3, b4] [bu a8, a6, a7] [bu b8, b6, b7] [bu a11, a9, a10] [bu b11, b9, b10] [bu a14, a12, a13] [bu b14, b12, b13] rfl rfl rfl rfl]
  exact Ev.bind (or_ev _ (by simp)) (Ev.now _)
end Go.Proofs.YthcdbpbimmjknaaDoor.Q
