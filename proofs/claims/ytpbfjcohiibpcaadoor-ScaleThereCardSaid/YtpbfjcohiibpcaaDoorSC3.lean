/- The text of a civil time, written and read, and its order, in plain numbers; the bounds stand in each statement. -/
import Derived.Test.YtpbfjcohiibpcaaDoorQx3
import Derived.Test.YtpbfjcohiibpcaaDoorQx4
import Derived.Test.YtpbfjcohiibpcaaDoorQx5
import Derived.Test.YtpbfjcohiibpcaaDoorQx10
import Derived.Test.YtpbfjcohiibpcaaDoorQx13
import Derived.Test.YtpbfjcohiibpcaaDoorAO0
import Derived.Test.YtpbfjcohiibpcaaDoorS1A
import Derived.Test.YtpbfjcohiibpcaaDoorSC1
import Derived.Test.YtpbfjcohiibpcaaDoorSC2
namespace Go.Proofs.YtpbfjcohiibpcaaDoor.Q
open Go.RowKit Go.Proofs.YtpbfjcohiibpcaaDoorW.PrintWords Go.Proofs.YtpbfjcohiibpcaaDoorW.PrintLast Go.Proofs.YtpbfjcohiibpcaaDoorW.PrintMore
set_option linter.unusedVariables false
set_option linter.unusedSimpArgs false
def by_ (l : List UInt8) : ByteArray := ⟨l.toArray⟩
theorem by_app (a b : List UInt8) : by_ a ++ by_ b = by_ (a ++ b) := by
  apply ByteArray.ext
  simp [by_]
theorem by_size (l : List UInt8) : (by_ l).size = l.length := by simp [by_, ByteArray.size]
theorem by_bt (l : List UInt8) (i : Nat) (h : i < l.length) : bt (by_ l) (i : Int) = ((l[i]).toNat : Int) := by
  unfold bt
  rw [dif_pos (by rw [by_size]; simpa using h)]
  simp [by_]
  rfl
theorem by_list (l : List UInt8) : (by_ l).toList = l := ByteArray.toList_mk l
def dg (x : Nat) : UInt8 := UInt8.ofNat (48 + x)
theorem dg_nat {x : Nat} (h : x ≤ 9) : ((dg x).toNat : Int) = 48 + x := by
  unfold dg
  simp only [UInt8.toNat_ofNat']
  omega
theorem dec1 {x : Nat} (h : x < 10) : Go.Lib.decDigits x = [dg x] := by rw [Go.Lib.decDigits, dif_pos h]; rfl
theorem dec2 {x : Nat} (h0 : 10 ≤ x) (h : x < 100) : Go.Lib.decDigits x = [dg (x / 10), dg (x % 10)] := by rw [Go.Lib.decDigits, dif_neg (by omega), dec1 (by omega)]; rfl
theorem dec3 {x : Nat} (h0 : 100 ≤ x) (h : x < 1000) : Go.Lib.decDigits x = [dg (x / 100), dg (x / 10 % 10), dg (x % 10)] := by
  rw [Go.Lib.decDigits, dif_neg (by omega), dec2 (by omega) (by omega), show x / 10 / 10 = x / 100 by omega]; rfl
theorem dec4 {x : Nat} (h0 : 1000 ≤ x) (h : x < 10000) : Go.Lib.decDigits x = [dg (x / 1000), dg (x / 100 % 10), dg (x / 10 % 10), dg (x % 10)] := by
  rw [Go.Lib.decDigits, dif_neg (by omega), dec3 (by omega) (by omega), show x / 10 / 100 = x / 1000 by omega, show x / 10 / 10 % 10 = x / 100 % 10 by omega]; rfl
theorem rep0 (n : Nat) : Go.Lib.repeatL [48] n = List.replicate n (dg 0) := by
  induction n with
  | zero => rfl
  | succ n ih => rw [Go.Lib.repeatL, ih, List.replicate_succ]; rfl
theorem pad_of {x n : Nat} {l : List UInt8} (hx : x ≤ 9999) (hn : n ≤ 4) (hd : Go.Lib.decDigits x = l) (hl : l.length ≤ n) : scale_pad.f (x : Int) (n : Int) = some (by_ (List.replicate (n - l.length) (dg 0) ++ l)) := by
  unfold scale_pad.f strconv_Itoa_22.f strings_Repeat.f
  rw [if_pos (by omega), if_pos (by omega)]
  simp only [Option.bind_some, Int.toNat_natCast, hd]
  have sz : (({ data := l.toArray } : ByteArray).size : Int) = l.length := by simp [ByteArray.size]
  rw [sz, w64_id (by omega) (by omega), if_pos (by omega), if_pos (by omega), if_pos (by decide)]
  simp only [Option.bind_some]
  have e : ((n : Int) - l.length).toNat = n - l.length := by omega
  rw [e]
  have r : Go.Lib.repeatL [48] (n - l.length) = List.replicate (n - l.length) (dg 0) := rep0 _
  show (if (by_ (Go.Lib.repeatL [48] (n - l.length))).size + (by_ l).size ≤ 9223372036854775807 then some (by_ (Go.Lib.repeatL [48] (n - l.length)) ++ by_ l) else none) = _
  rw [r, by_size, by_size, List.length_replicate, if_pos (by omega), by_app]
theorem pad2 {x : Nat} (h : x < 100) : scale_pad.f (x : Int) 2 = some (by_ [dg (x / 10), dg (x % 10)]) := by
  by_cases c : x < 10
  · have := pad_of (x := x) (n := 2) (by omega) (by decide) (dec1 c) (by simp)
    rw [show x / 10 = 0 by omega, show x % 10 = x by omega]; exact this
  · exact pad_of (x := x) (n := 2) (by omega) (by decide) (dec2 (by omega) h) (by simp)
theorem pad3 {x : Nat} (h : x < 1000) : scale_pad.f (x : Int) 3 = some (by_ [dg (x / 100), dg (x / 10 % 10), dg (x % 10)]) := by
  by_cases c : x < 10
  · have := pad_of (x := x) (n := 3) (by omega) (by decide) (dec1 c) (by simp)
    rw [show x / 100 = 0 by omega, show x / 10 % 10 = 0 by omega, show x % 10 = x by omega]; exact this
  by_cases d : x < 100
  · have := pad_of (x := x) (n := 3) (by omega) (by decide) (dec2 (by omega) d) (by simp)
    rw [show x / 100 = 0 by omega, show x / 10 % 10 = x / 10 by omega]; exact this
  · exact pad_of (x := x) (n := 3) (by omega) (by decide) (dec3 (by omega) h) (by simp)
theorem pad4 {x : Nat} (h : x < 10000) : scale_pad.f (x : Int) 4 = some (by_ [dg (x / 1000), dg (x / 100 % 10), dg (x / 10 % 10), dg (x % 10)]) := by
  by_cases c : x < 10
  · have := pad_of (x := x) (n := 4) (by omega) (by decide) (dec1 c) (by simp)
    rw [show x / 1000 = 0 by omega, show x / 100 % 10 = 0 by omega, show x / 10 % 10 = 0 by omega, show x % 10 = x by omega]; exact this
  by_cases d : x < 100
  · have := pad_of (x := x) (n := 4) (by omega) (by decide) (dec2 (by omega) d) (by simp)
    rw [show x / 1000 = 0 by omega, show x / 100 % 10 = 0 by omega, show x / 10 % 10 = x / 10 by omega]; exact this
  by_cases e : x < 1000
  · have := pad_of (x := x) (n := 4) (by omega) (by decide) (dec3 (by omega) e) (by simp)
    rw [show x / 1000 = 0 by omega, show x / 100 % 10 = x / 100 by omega]; exact this
  · exact pad_of (x := x) (n := 4) (by omega) (by decide) (dec4 (by omega) h) (by simp)
/-- The text. -/
def txt (y m d h i s l : Nat) : List UInt8 :=
  [dg (y / 1000), dg (y / 100 % 10), dg (y / 10 % 10), dg (y % 10), 45, dg (m / 10), dg (m % 10), 45, dg (d / 10), dg (d % 10), 84, dg (h / 10), dg (h % 10), 58, dg (i / 10), dg (i % 10), 58, dg (s / 10), dg (s % 10), 46, dg (l / 100), dg (l / 10 % 10), dg (l % 10)]
theorem Text_ev {y m d h i s l : Nat} (hy : y < 10000) (hm : m < 100) (hd : d < 100) (hh : h < 100) (hi : i < 100) (hs : s < 100) (hl : l < 1000) (hc : Ev (fun k => scale_Check.f k (y : Int) (m : Int) (d : Int) (h : Int) (i : Int) (s : Int) (l : Int)) 0) :
    Ev (fun k => scale_Text.f k (y : Int) (m : Int) (d : Int) (h : Int) (i : Int) (s : Int) (l : Int)) (by_ (txt y m d h i s l), 0) := by
  have c : ∀ b : UInt8, (⟨#[b]⟩ : ByteArray) = by_ [b] := fun _ => rfl
  unfold scale_Text.f
  refine Ev.bind hc (pos_ev rfl ?_)
  rw [pad4 hy, pad2 hm, pad2 hd, pad2 hh, pad2 hi, pad2 hs, pad3 hl]
  simp only [Option.bind_some, c, by_app, by_size, List.length_append, List.length_cons, List.length_nil]
  exact now_ev fun k => rfl
theorem rd_mid {x : ByteArray} {acc : List Int} {n v : Int} {i : Nat} {R : Int × Int × Int × Int × Int × Int × Int × Int} (hs : (x.size : Int) = 23) (hi : i + 1 < 23) (f0 : bt (⟨#[48, 48, 48, 48, 45, 48, 48, 45, 48, 48, 84, 48, 48, 58, 48, 48, 58, 48, 48, 46, 48, 48, 48]⟩ : ByteArray) (i : Int) = 48) (f1 : bt (⟨#[48, 48, 48, 48, 45, 48, 48, 45, 48, 48, 84, 48, 48, 58, 48, 48, 58, 48, 48, 46, 48, 48, 48]⟩ : ByteArray) ((i + 1 : Nat) : Int) = 48) (hb : bt x (i : Int) = 48 + v) (v0 : 0 ≤ v) (v1 : v ≤ 9) (n0 : 0 ≤ n) (n1 : n ≤ 100000)
    (H : Ev (fun k => scale_Read.l0 k x acc ((i + 1 : Nat) : Int) (10 * n + v)) R) : Ev (fun k => scale_Read.l0 k x acc (i : Int) n) R := by
  have w1 : wrap64 ((i : Int) + 1) = ((i + 1 : Nat) : Int) := by rw [w64_id (by omega) (by omega)]; omega
  have J : Ev (fun k => scale_Read.j1 k x acc (i : Int) n false) R := by
    refine Ev.step (fun k => by rw [scale_Read.j1, if_neg (by decide), if_pos (by omega), if_pos (by omega), if_pos f0, if_pos (by omega), w1, if_neg (by omega), if_pos (by omega), if_pos (by omega), if_pos f1, w64_id (x := 10 * n) (by omega) (by omega), hb, show (48 + v - 48) % 256 = v by omega, w64_id (by omega) (by omega)]) H
  refine Ev.step (fun k => by rw [scale_Read.l0, if_pos (by omega), if_pos (by omega), if_pos (by omega), if_pos f0, if_neg (by omega), decide_eq_false (by omega)]) J
theorem rd_end {x : ByteArray} {acc : List Int} {n v : Int} {i : Nat} {R : Int × Int × Int × Int × Int × Int × Int × Int} (hs : (x.size : Int) = 23) (hi : i < 23) (f0 : bt (⟨#[48, 48, 48, 48, 45, 48, 48, 45, 48, 48, 84, 48, 48, 58, 48, 48, 58, 48, 48, 46, 48, 48, 48]⟩ : ByteArray) (i : Int) = 48) (f1 : i + 1 < 23 → ¬ bt (⟨#[48, 48, 48, 48, 45, 48, 48, 45, 48, 48, 84, 48, 48, 58, 48, 48, 58, 48, 48, 46, 48, 48, 48]⟩ : ByteArray) ((i + 1 : Nat) : Int) = 48) (hb : bt x (i : Int) = 48 + v) (v0 : 0 ≤ v) (v1 : v ≤ 9) (n0 : 0 ≤ n) (n1 : n ≤ 100000) (ha : acc.length ≤ 100)
    (H : Ev (fun k => scale_Read.l0 k x (acc ++ [10 * n + v]) ((i + 1 : Nat) : Int) 0) R) : Ev (fun k => scale_Read.l0 k x acc (i : Int) n) R := by
  have w1 : wrap64 ((i : Int) + 1) = ((i + 1 : Nat) : Int) := by rw [w64_id (by omega) (by omega)]; omega
  have w2 : wrap64 (wrap64 (10 * n) + (bt x (i : Int) - 48) % 256) = 10 * n + v := by rw [w64_id (x := 10 * n) (by omega) (by omega), hb, show (48 + v - 48) % 256 = v by omega, w64_id (by omega) (by omega)]
  have J : Ev (fun k => scale_Read.j1 k x acc (i : Int) n false) R := by
    by_cases z : i + 1 < 23
    · refine Ev.step (fun k => by rw [scale_Read.j1, if_neg (by decide), if_pos (by omega), if_pos (by omega), if_pos f0, if_pos (by omega), w1, if_neg (by omega), if_pos (by omega), if_pos (by omega), if_neg (f1 z), if_pos (by omega), w2]) H
    · refine Ev.step (fun k => by rw [scale_Read.j1, if_neg (by decide), if_pos (by omega), if_pos (by omega), if_pos f0, if_pos (by omega), w1, if_pos (by omega), if_pos (by omega), w2]) H
  refine Ev.step (fun k => by rw [scale_Read.l0, if_pos (by omega), if_pos (by omega), if_pos (by omega), if_pos f0, if_neg (by omega), decide_eq_false (by omega)]) J
theorem rd_sep {x : ByteArray} {acc : List Int} {n : Int} {i : Nat} {R : Int × Int × Int × Int × Int × Int × Int × Int} (hs : (x.size : Int) = 23) (hi : i + 1 < 23) (f0 : ¬ bt (⟨#[48, 48, 48, 48, 45, 48, 48, 45, 48, 48, 84, 48, 48, 58, 48, 48, 58, 48, 48, 46, 48, 48, 48]⟩ : ByteArray) (i : Int) = 48) (hb : bt x (i : Int) = bt (⟨#[48, 48, 48, 48, 45, 48, 48, 45, 48, 48, 84, 48, 48, 58, 48, 48, 58, 48, 48, 46, 48, 48, 48]⟩ : ByteArray) (i : Int))
    (H : Ev (fun k => scale_Read.l0 k x acc ((i + 1 : Nat) : Int) n) R) : Ev (fun k => scale_Read.l0 k x acc (i : Int) n) R := by
  have w1 : wrap64 ((i : Int) + 1) = ((i + 1 : Nat) : Int) := by rw [w64_id (by omega) (by omega)]; omega
  have J : Ev (fun k => scale_Read.j1 k x acc (i : Int) n false) R := by
    refine Ev.step (fun k => by rw [scale_Read.j1, if_neg (by decide), if_pos (by omega), if_pos (by omega), if_neg f0, w1, if_neg (by omega), if_pos (by omega), if_pos (by omega)]) ?_
    by_cases z : bt (⟨#[48, 48, 48, 48, 45, 48, 48, 45, 48, 48, 84, 48, 48, 58, 48, 48, 58, 48, 48, 46, 48, 48, 48]⟩ : ByteArray) ((i + 1 : Nat) : Int) = 48
    · exact pos_ev z H
    · exact neg_ev z H
  refine Ev.step (fun k => by rw [scale_Read.l0, if_pos (by omega), if_pos (by omega), if_pos (by omega), if_neg f0, if_pos hb]) J
theorem Read_ev {y m d h i s l : Nat} (hy : y < 10000) (hm : m < 100) (hd : d < 100) (hh : h < 100) (hi : i < 100) (hs : s < 100) (hl : l < 1000) (hc : Ev (fun k => scale_Check.f k (y : Int) (m : Int) (d : Int) (h : Int) (i : Int) (s : Int) (l : Int)) 0) :
    Ev (fun k => scale_Read.f k (by_ (txt y m d h i s l))) ((y : Int), (m : Int), (d : Int), (h : Int), (i : Int), (s : Int), (l : Int), 0) := by
  have sz : ((by_ (txt y m d h i s l)).size : Int) = 23 := by rw [by_size]; rfl
  have B : ∀ (j : Nat) (hj : j < (txt y m d h i s l).length), bt (by_ (txt y m d h i s l)) (j : Int) = (((txt y m d h i s l)[j]).toNat : Int) := fun j hj => by_bt _ j hj
  unfold scale_Read.f
  refine pos_ev sz ?_
  refine rd_mid (i := 0) sz (by decide) (by decide) (by decide) ((B 0 (show 0 < 23 by decide)).trans (dg_nat (x := y / 1000) (by omega))) (by omega) (by omega) (by omega) (by omega) ?_
  refine rd_mid (i := 1) sz (by decide) (by decide) (by decide) ((B 1 (show 1 < 23 by decide)).trans (dg_nat (x := y / 100 % 10) (by omega))) (by omega) (by omega) (by omega) (by omega) ?_
  refine rd_mid (i := 2) sz (by decide) (by decide) (by decide) ((B 2 (show 2 < 23 by decide)).trans (dg_nat (x := y / 10 % 10) (by omega))) (by omega) (by omega) (by omega) (by omega) ?_
  refine rd_end (i := 3) sz (by decide) (by decide) (by decide) ((B 3 (show 3 < 23 by decide)).trans (dg_nat (x := y % 10) (by omega))) (by omega) (by omega) (by omega) (by omega) (by simp) ?_
  refine rd_sep (i := 4) sz (by decide) (by decide) ((B 4 (show 4 < 23 by decide)).trans (by rfl)) ?_
  refine rd_mid (i := 5) sz (by decide) (by decide) (by decide) ((B 5 (show 5 < 23 by decide)).trans (dg_nat (x := m / 10) (by omega))) (by omega) (by omega) (by omega) (by omega) ?_
  refine rd_end (i := 6) sz (by decide) (by decide) (by decide) ((B 6 (show 6 < 23 by decide)).trans (dg_nat (x := m % 10) (by omega))) (by omega) (by omega) (by omega) (by omega) (by simp) ?_
  refine rd_sep (i := 7) sz (by decide) (by decide) ((B 7 (show 7 < 23 by decide)).trans (by rfl)) ?_
  refine rd_mid (i := 8) sz (by decide) (by decide) (by decide) ((B 8 (show 8 < 23 by decide)).trans (dg_nat (x := d / 10) (by omega))) (by omega) (by omega) (by omega) (by omega) ?_
  refine rd_end (i := 9) sz (by decide) (by decide) (by decide) ((B 9 (show 9 < 23 by decide)).trans (dg_nat (x := d % 10) (by omega))) (by omega) (by omega) (by omega) (by omega) (by simp) ?_
  refine rd_sep (i := 10) sz (by decide) (by decide) ((B 10 (show 10 < 23 by decide)).trans (by rfl)) ?_
  refine rd_mid (i := 11) sz (by decide) (by decide) (by decide) ((B 11 (show 11 < 23 by decide)).trans (dg_nat (x := h / 10) (by omega))) (by omega) (by omega) (by omega) (by omega) ?_
  refine rd_end (i := 12) sz (by decide) (by decide) (by decide) ((B 12 (show 12 < 23 by decide)).trans (dg_nat (x := h % 10) (by omega))) (by omega) (by omega) (by omega) (by omega) (by simp) ?_
  refine rd_sep (i := 13) sz (by decide) (by decide) ((B 13 (show 13 < 23 by decide)).trans (by rfl)) ?_
  refine rd_mid (i := 14) sz (by decide) (by decide) (by decide) ((B 14 (show 14 < 23 by decide)).trans (dg_nat (x := i / 10) (by omega))) (by omega) (by omega) (by omega) (by omega) ?_
  refine rd_end (i := 15) sz (by decide) (by decide) (by decide) ((B 15 (show 15 < 23 by decide)).trans (dg_nat (x := i % 10) (by omega))) (by omega) (by omega) (by omega) (by omega) (by simp) ?_
  refine rd_sep (i := 16) sz (by decide) (by decide) ((B 16 (show 16 < 23 by decide)).trans (by rfl)) ?_
  refine rd_mid (i := 17) sz (by decide) (by decide) (by decide) ((B 17 (show 17 < 23 by decide)).trans (dg_nat (x := s / 10) (by omega))) (by omega) (by omega) (by omega) (by omega) ?_
  refine rd_end (i := 18) sz (by decide) (by decide) (by decide) ((B 18 (show 18 < 23 by decide)).trans (dg_nat (x := s % 10) (by omega))) (by omega) (by omega) (by omega) (by omega) (by simp) ?_
  refine rd_sep (i := 19) sz (by decide) (by decide) ((B 19 (show 19 < 23 by decide)).trans (by rfl)) ?_
  refine rd_mid (i := 20) sz (by decide) (by decide) (by decide) ((B 20 (show 20 < 23 by decide)).trans (dg_nat (x := l / 100) (by omega))) (by omega) (by omega) (by omega) (by omega) ?_
  refine rd_mid (i := 21) sz (by decide) (by decide) (by decide) ((B 21 (show 21 < 23 by decide)).trans (dg_nat (x := l / 10 % 10) (by omega))) (by omega) (by omega) (by omega) (by omega) ?_
  refine rd_end (i := 22) sz (by decide) (by decide) (by decide) ((B 22 (show 22 < 23 by decide)).trans (dg_nat (x := l % 10) (by omega))) (by omega) (by omega) (by omega) (by omega) (by simp) ?_
  have e1 : 10 * (10 * (10 * (10 * 0 + ((y / 1000 : Nat) : Int)) + ((y / 100 % 10 : Nat) : Int)) + ((y / 10 % 10 : Nat) : Int)) + ((y % 10 : Nat) : Int) = (y : Int) := by omega
  have e2 : ∀ x : Nat, 10 * (10 * 0 + ((x / 10 : Nat) : Int)) + ((x % 10 : Nat) : Int) = (x : Int) := by omega
  have e3 : 10 * (10 * (10 * 0 + ((l / 100 : Nat) : Int)) + ((l / 10 % 10 : Nat) : Int)) + ((l % 10 : Nat) : Int) = (l : Int) := by omega
  rw [e1, e2, e2, e2, e2, e2, e3]
  simp only [List.nil_append, List.cons_append]
  refine Ev.step (fun k => by rw [scale_Read.l0, if_neg (by omega), if_pos (by simp), if_pos (by simp), if_pos (by simp), if_pos (by simp), if_pos (by simp), if_pos (by simp), if_pos (by simp)]) ?_
  exact Ev.bind hc (pos_ev rfl (Ev.now _))
theorem bl1 {a b : Nat} {r r' : List UInt8} (ha : a ≤ 9) (hb : b ≤ 9) (h : a < b ∨ (a = b ∧ Op.bytesLess r r' = true)) : Op.bytesLess (dg a :: r) (dg b :: r') = true := by
  rw [Op.bytesLess]
  rcases h with h | ⟨h, h2⟩
  · have : dg a < dg b := by
      rw [UInt8.lt_iff_toNat_lt]
      have p := dg_nat ha
      have q := dg_nat hb
      omega
    simp [this]
  · subst h
    simp [h2]
theorem bls {c : UInt8} {r r' : List UInt8} (h : Op.bytesLess r r' = true) : Op.bytesLess (c :: r) (c :: r') = true := by
  rw [Op.bytesLess]; simp [h]
theorem bl2 {x y : Nat} {r r' : List UInt8} (hx : x < 100) (hy : y < 100) (h : x < y ∨ (x = y ∧ Op.bytesLess r r' = true)) : Op.bytesLess (dg (x / 10) :: dg (x % 10) :: r) (dg (y / 10) :: dg (y % 10) :: r') = true := by
  refine bl1 (by omega) (by omega) ?_
  by_cases c : x / 10 < y / 10
  · exact .inl c
  · refine .inr ⟨by omega, bl1 (by omega) (by omega) ?_⟩
    rcases h with h | ⟨h, h2⟩
    · exact .inl (by omega)
    · exact .inr ⟨by omega, h2⟩
theorem bl3 {x y : Nat} {r r' : List UInt8} (hx : x < 1000) (hy : y < 1000) (h : x < y ∨ (x = y ∧ Op.bytesLess r r' = true)) : Op.bytesLess (dg (x / 100) :: dg (x / 10 % 10) :: dg (x % 10) :: r) (dg (y / 100) :: dg (y / 10 % 10) :: dg (y % 10) :: r') = true := by
  refine bl1 (by omega) (by omega) ?_
  by_cases c : x / 100 < y / 100
  · exact .inl c
  · refine .inr ⟨by omega, ?_⟩
    rw [show x / 10 % 10 = x % 100 / 10 by omega, show y / 10 % 10 = y % 100 / 10 by omega, show x % 10 = x % 100 % 10 by omega, show y % 10 = y % 100 % 10 by omega]
    refine bl2 (by omega) (by omega) ?_
    rcases h with h | ⟨h, h2⟩
    · exact .inl (by omega)
    · exact .inr ⟨by omega, h2⟩
theorem bl4 {x y : Nat} {r r' : List UInt8} (hx : x < 10000) (hy : y < 10000) (h : x < y ∨ (x = y ∧ Op.bytesLess r r' = true)) : Op.bytesLess (dg (x / 1000) :: dg (x / 100 % 10) :: dg (x / 10 % 10) :: dg (x % 10) :: r) (dg (y / 1000) :: dg (y / 100 % 10) :: dg (y / 10 % 10) :: dg (y % 10) :: r') = true := by
  refine bl1 (by omega) (by omega) ?_
  by_cases c : x / 1000 < y / 1000
  · exact .inl c
  · refine .inr ⟨by omega, ?_⟩
    rw [show x / 100 % 10 = x % 1000 / 100 by omega, show y / 100 % 10 = y % 1000 / 100 by omega, show x / 10 % 10 = x % 1000 / 10 % 10 by omega, show y / 10 % 10 = y % 1000 / 10 % 10 by omega, show x % 10 = x % 1000 % 10 by omega, show y % 10 = y % 1000 % 10 by omega]
    refine bl3 (by omega) (by omega) ?_
    rcases h with h | ⟨h, h2⟩
    · exact .inl (by omega)
    · exact .inr ⟨by omega, h2⟩
theorem txt_less {y m d h i s l y' m' d' h' i' s' l' : Nat} (hy : y < 10000) (hm : m < 100) (hd : d < 100) (hh : h < 100) (hi : i < 100) (hs : s < 100) (hl : l < 1000) (hy' : y' < 10000) (hm' : m' < 100) (hd' : d' < 100) (hh' : h' < 100) (hi' : i' < 100) (hs' : s' < 100) (hl' : l' < 1000)
    (H : y < y' ∨ (y = y' ∧ (m < m' ∨ (m = m' ∧ (d < d' ∨ (d = d' ∧ (h < h' ∨ (h = h' ∧ (i < i' ∨ (i = i' ∧ (s < s' ∨ (s = s' ∧ l < l')))))))))))) : Op.bytesLess (txt y m d h i s l) (txt y' m' d' h' i' s' l') = true := by
  refine bl4 hy hy' (H.imp id (And.imp id fun H => bls (bl2 hm hm' (H.imp id (And.imp id fun H => bls (bl2 hd hd' (H.imp id (And.imp id fun H => bls (bl2 hh hh' (H.imp id (And.imp id fun H => bls (bl2 hi hi' (H.imp id (And.imp id fun H => bls (bl2 hs hs' (H.imp id (And.imp id fun H => bls (bl3 hl hl' (.inl H)))))))))))))))))))
end Go.Proofs.YtpbfjcohiibpcaaDoor.Q
