/- The loop over three alerts, and what stands behind it; the bounds stand in each statement. -/
import Derived.Test.YthcdbpbimmjknaaDoorKAlertOrdersQx21
import Derived.Test.YthcdbpbimmjknaaDoorKAlertOrdersQx8
import Derived.Test.YthcdbpbimmjknaaDoorKAlertOrdersQx9
import Derived.Test.YthcdbpbimmjknaaDoorKAlertOrdersQx12
import Derived.Test.YthcdbpbimmjknaaDoorKAlertOrdersQx20
import Derived.Test.YthcdbpbimmjknaaDoorKAlertOrdersAO0
import Derived.Test.YthcdbpbimmjknaaDoorKAlertOrdersAO1
import Derived.Test.YthcdbpbimmjknaaDoorKAlertOrdersAO1Tick
import Derived.Test.YthcdbpbimmjknaaDoorKAlertOrdersAO1Arc
import Derived.Test.YthcdbpbimmjknaaDoorKAlertOrdersAO1Quanta
import Derived.Test.YthcdbpbimmjknaaDoorKAlertOrdersAMK
import Derived.Test.YthcdbpbimmjknaaDoorKAlertOrdersAO2
import Derived.Test.YthcdbpbimmjknaaDoorKAlertOrdersAO3
import Derived.Test.YthcdbpbimmjknaaDoorKAlertOrdersAO4
import Derived.Test.YthcdbpbimmjknaaDoorKAlertOrdersAO5
import Derived.Test.YthcdbpbimmjknaaDoorKAlertOrdersAO6
namespace Go.Proofs.YthcdbpbimmjknaaDoor.Q
open Go.RowKit Go.Proofs.YthcdbpbimmjknaaDoorW.PrintWords Go.Proofs.YthcdbpbimmjknaaDoorW.PrintLast Go.Proofs.YthcdbpbimmjknaaDoorW.PrintMore
set_option linter.unusedVariables false
set_option linter.unusedSimpArgs false
def kS (s : S36) : List Int := ky s.f0 s.f1 s.f2 s.f3.f0 s.f3.f1 s.f3.f2 s.f4.f0 s.f4.f1 s.f4.f2 s.f5.f0 s.f5.f1 s.f5.f2 s.f6.f0 s.f6.f1 s.f6.f2 s.f7
theorem neg_at {x y : Int} (h0 : -1 ≤ x) (h1 : x ≤ 1) (e : y = -x) : y = wrap64 (-x) := by rw [w64_id (by omega) (by omega), e]
theorem ne_same {a b : Bool} (h : a = b) : ¬ (a != b) = true := by rw [h]; simp
theorem over_step (L : List S40) {n i : Int} (hn : n = L.length) (i0 : 0 ≤ i) (i1 : i < n) (n1 : n < 1000)
    (a0 a1 a2 a3 a4 : Int) (a5 : Bool) (a6 a7 : Int) (a8 : Bool) (a9 a10 : Int) (a11 : Bool) (a12 a13 : Int) (a14 : Bool) (a15 : Int) (b0 b1 b2 b3 b4 : Int) (b5 : Bool) (b6 b7 : Int) (b8 : Bool) (b9 b10 : Int) (b11 : Bool) (b12 b13 : Int) (b14 : Bool) (b15 : Int) (c0 c1 c2 c3 c4 : Int) (c5 : Bool) (c6 c7 : Int) (c8 : Bool) (c9 c10 : Int) (c11 : Bool) (c12 c13 : Int) (c14 : Bool) (c15 : Int)
    (H : Ev (fun k => spykeep1_AlertOrders.l0 k L n (i + 1) a0 a1 a2 a3 a4 a5 a6 a7 a8 a9 a10 a11 a12 a13 a14 a15 b0 b1 b2 b3 b4 b5 b6 b7 b8 b9 b10 b11 b12 b13 b14 b15 c0 c1 c2 c3 c4 c5 c6 c7 c8 c9 c10 c11 c12 c13 c14 c15) true) :
    Ev (fun k => spykeep1_AlertOrders.l0 k L n i a0 a1 a2 a3 a4 a5 a6 a7 a8 a9 a10 a11 a12 a13 a14 a15 b0 b1 b2 b3 b4 b5 b6 b7 b8 b9 b10 b11 b12 b13 b14 b15 c0 c1 c2 c3 c4 c5 c6 c7 c8 c9 c10 c11 c12 c13 c14 c15) true := by
  have w : wrap64 (i + 1) = i + 1 := w64_id (by omega) (by omega)
  refine Ev.step (fun k => by rw [spykeep1_AlertOrders.l0, w]) (pos_ev i1 (pos_ev i0 (pos_ev (by omega) ?_)))
  generalize rd_T40 L i = T
  obtain ⟨x, y, z⟩ := T
  refine Ev.bind (Cmp_ev _ _ _ _ _ _ _ _ _ _ _ _ _ _ _ _ _ _ _ _ _ _ _ _ _ _ _ _ _ _ _ _) (Ev.bind (Cmp_ev _ _ _ _ _ _ _ _ _ _ _ _ _ _ _ _ _ _ _ _ _ _ _ _ _ _ _ _ _ _ _ _) (Ev.bind (Cmp_ev _ _ _ _ _ _ _ _ _ _ _ _ _ _ _ _ _ _ _ _ _ _ _ _ _ _ _ _ _ _ _ _) ?_))
  have bd := lex_in (kS x) (kS y)
  refine pos_ev (neg_at (x := lex (kS x) (kS y)) bd.1 bd.2 (lex_neg (kS x) (kS y))) (neg_ev (ne_same (same_ky _ _ _ _ _ _ _ _ _ _ _ _ _ _ _ _ _ _ _ _ _ _ _ _ _ _ _ _ _ _ _ _)) ?_)
  by_cases p : lex (kS x) (kS y) ≤ 0
  · by_cases q : lex (kS y) (kS z) ≤ 0
    · refine pos_ev p (pos_ev q (Ev.bind (Cmp_ev _ _ _ _ _ _ _ _ _ _ _ _ _ _ _ _ _ _ _ _ _ _ _ _ _ _ _ _ _ _ _ _) (neg_ev (fun h => ?_) H)))
      have t : lex (kS x) (kS z) ≤ 0 := lex_trans (kS x) (kS y) (kS z) rfl rfl p q
      have h' : 0 < lex (kS x) (kS z) := h
      omega
    · exact pos_ev p (neg_ev q H)
  · exact neg_ev p H
theorem over_end (L : List S40) {n : Int} (n0 : 0 ≤ n)
    {a0 a1 a2 a3 a4 : Int} {a5 : Bool} {a6 a7 : Int} {a8 : Bool} {a9 a10 : Int} {a11 : Bool} {a12 a13 : Int} {a14 : Bool} {a15 : Int} {b0 b1 b2 b3 b4 : Int} {b5 : Bool} {b6 b7 : Int} {b8 : Bool} {b9 b10 : Int} {b11 : Bool} {b12 b13 : Int} {b14 : Bool} {b15 : Int} {c0 c1 c2 c3 c4 : Int} {c5 : Bool} {c6 c7 : Int} {c8 : Bool} {c9 c10 : Int} {c11 : Bool} {c12 c13 : Int} {c14 : Bool} {c15 : Int}
    (ha : oka a0 a1 a2 a3 a4 a5 a6 a7 a8 a9 a10 a11 a12 a13 a14 a15) (hb : oka b0 b1 b2 b3 b4 b5 b6 b7 b8 b9 b10 b11 b12 b13 b14 b15) (hc : oka c0 c1 c2 c3 c4 c5 c6 c7 c8 c9 c10 c11 c12 c13 c14 c15)
    (ba : ins b0 b1 b2 b3 b4 b5 b6 b7 b8 b9 b10 b11 b12 b13 b14 b15 a0 a1 a2 a3 a4 a5 a6 a7 a8 a9 a10 a11 a12 a13 a14 a15) (cb : ins c0 c1 c2 c3 c4 c5 c6 c7 c8 c9 c10 c11 c12 c13 c14 c15 b0 b1 b2 b3 b4 b5 b6 b7 b8 b9 b10 b11 b12 b13 b14 b15) (hf : Ev (fun k => spykeep1_alertFact.f k) true) :
    Ev (fun k => spykeep1_AlertOrders.l0 k L n n a0 a1 a2 a3 a4 a5 a6 a7 a8 a9 a10 a11 a12 a13 a14 a15 b0 b1 b2 b3 b4 b5 b6 b7 b8 b9 b10 b11 b12 b13 b14 b15 c0 c1 c2 c3 c4 c5 c6 c7 c8 c9 c10 c11 c12 c13 c14 c15) true := by
  have ca : ins c0 c1 c2 c3 c4 c5 c6 c7 c8 c9 c10 c11 c12 c13 c14 c15 a0 a1 a2 a3 a4 a5 a6 a7 a8 a9 a10 a11 a12 a13 a14 a15 := by
    obtain ⟨p0, p1, p2, p3, p4, p5, p6, p7⟩ := ba
    obtain ⟨q0, q1, q2, q3, q4, q5, q6, q7⟩ := cb
    exact ⟨q0.trans p0, q1.trans p1, q2.trans p2, q3.trans p3, inb_trans q4 p4, inr_trans q5 p5, inb_trans q6 p6, inb_trans q7 p7⟩
  refine Ev.step (fun k => by rw [spykeep1_AlertOrders.l0, if_neg (by omega)]) ?_
  refine Ev.bind hf (pos_ev rfl (Ev.bind (Check_ev ha) (pos_ev rfl (Ev.bind (Check_ev hc) (pos_ev rfl ?_)))))
  refine Ev.bind (Inside_ev ha ha (ins_refl _ _ _ _ _ _ _ _ _ _ _ _ _ _ _ _)) (pos_ev rfl (Ev.bind (Inside_ev hb ha ba) (pos_ev rfl (Ev.bind (Inside_ev hc hb cb) (pos_ev rfl (Ev.bind (Inside_ev hc ha ca) (Ev.now _)))))))
end Go.Proofs.YthcdbpbimmjknaaDoor.Q
