/- NumWideBack in plain numbers: for all numbers w, v of 128 bits and d of 64 bits the printed function answers true; no other condition. -/
import Derived.Test.YtbaedcjophgiiaaQx17
import Derived.Test.YtbaedcjophgiiaaQx16
import Derived.Test.YtbaedcjophgiiaaM1
import Derived.Test.YtbaedcjophgiiaaM2
import Derived.Test.YtbaedcjophgiiaaM3
import Derived.Test.YtbaedcjophgiiaaM4
import Derived.Test.YtbaedcjophgiiaaM5
import Derived.Test.YtbaedcjophgiiaaB1
namespace Go.Proofs.Ytbaedcjophgiiaa.PureNumWideBack
open Go.RowKit Go.Proofs.Ytbaedcjophgiiaa.Q Go.Proofs.YtbaedcjophgiiaaW.PrintWords Go.Proofs.YtbaedcjophgiiaaW.PrintLast
set_option linter.unusedVariables false
set_option linter.unusedSimpArgs false

theorem plus_raw {a b c d : Int} (b0 : 0 ≤ b) (b1 : b < 18446744073709551616) (d0 : 0 ≤ d) (d1 : d < 18446744073709551616) :
    num_Wide_Plus.f a b c d = some (wrap64 (a + c + (b + d) / 18446744073709551616), (b + d) % 18446744073709551616) := by
  unfold num_Wide_Plus.f
  rw [if_pos b0, if_pos b1, if_pos d0, if_pos d1]
theorem neg_raw {a b : Int} (b0 : 0 ≤ b) (b1 : b < 18446744073709551616) :
    num_Wide_Neg.f a b = some (wrap64 (-a - 1 + (18446744073709551616 - b) / 18446744073709551616), (18446744073709551616 - b) % 18446744073709551616) := by
  unfold num_Wide_Neg.f
  rw [if_pos b0, if_pos b1]

theorem back_j0 {h l d : Int} (h0 : -9223372036854775808 ≤ h) (h1 : h < 9223372036854775808) (l0 : 0 ≤ l) (l1 : l < 18446744073709551616) (d0 : -9223372036854775808 ≤ d) (d1 : d < 9223372036854775808) :
    Ev (fun k => spykeep1_NumWideBack.j0 k d false h l) true := by
  obtain ⟨v, hv⟩ : ∃ v, v = h * 18446744073709551616 + l := ⟨_, rfl⟩
  have e1 : h = v / 18446744073709551616 := by omega
  have e2 : l = v % 18446744073709551616 := by omega
  refine Ev.step (f := fun k => (num_Wide_Div.f k h l d).bind fun bt114 => (if bt114.2 = 0 then ((num_Product.f bt114.1 d).bind fun bt116 => ((num_Wide_Mod.f k h l d).bind fun t118 => ((num_Product.f t118 1).bind fun bt119 => ((num_Wide_Plus.f bt116.1 bt116.2 bt119.1 bt119.2).bind fun bt121 => (some (bt121.1 == h && (bt121.2 == l))))))) else (some true))) (fun k => by rw [spykeep1_NumWideBack.j0, if_neg (by decide)]) ?_
  rw [e1, e2]
  refine Ev.bind (wide_div (by omega) (by omega) d1) ?_
  by_cases c : d < 1
  · rw [if_pos c]
    exact neg_ev (by decide) (Ev.now _)
  · rw [if_neg c]
    by_cases f : fits (v / d) = true
    · rw [if_pos f]
      refine pos_ev rfl ?_
      have f' := f
      unfold fits at f'
      simp only [Bool.and_eq_true, decide_eq_true_eq] at f'
      have q := Int.emod_add_mul_ediv v d
      have q0 := Int.emod_nonneg v (show d ≠ 0 by omega)
      have q1 := Int.emod_lt_of_pos v (show 0 < d by omega)
      have qc : d * (v / d) = v / d * d := Int.mul_comm _ _
      have hb := prod_bd (a := v / d) (b := d) (by omega) (by omega) d0 d1
      refine some_ev (product (a := v / d) (b := d) (by omega) (by omega) d0 d1) ?_
      refine Ev.bind (wide_mod (v := v) (d := d) (by omega) (by omega) d1) ?_
      rw [if_neg c]
      refine some_ev (product (a := v % d) (b := 1) (by omega) (by omega) (by decide) (by decide)) ?_
      refine some_ev (wide_plus (u := v / d * d) (v := v % d * 1) (by omega) (by omega)) ?_
      exact now_ev fun k => by rw [show v / d * d + v % d * 1 = v by omega]; simp
    · rw [if_neg f]
      exact neg_ev (by decide) (Ev.now _)

theorem NumWideBack {h l h2 l2 d : Int} (wh : (Lit.int .i64 h).wf = true) (wl : (Lit.int .u64 l).wf = true) (wh2 : (Lit.int .i64 h2).wf = true) (wl2 : (Lit.int .u64 l2).wf = true) (wd : (Lit.int .i64 d).wf = true) :
    ∃ k, spykeep1_NumWideBack.f k h l h2 l2 d = some true := by
  obtain ⟨a0, a1⟩ := i64_bd wh
  obtain ⟨b0, b1⟩ := u64_bd wl
  obtain ⟨c0, c1⟩ := i64_bd wh2
  obtain ⟨e0, e1⟩ := u64_bd wl2
  obtain ⟨d0, d1⟩ := i64_bd wd
  refine Ev.rounds (r := true) ?_
  unfold spykeep1_NumWideBack.f
  refine Ev.bind numFact_ev ?_
  refine pos_ev rfl ?_
  refine some_ev (plus_raw b0 b1 e0 e1) ?_
  refine some_ev (neg_raw e0 e1) ?_
  refine some_ev (plus_raw (by omega) (by omega) (by omega) (by omega)) ?_
  have h1 : wrap64 (wrap64 (h + h2 + (l + l2) / 18446744073709551616) + wrap64 (-h2 - 1 + (18446744073709551616 - l2) / 18446744073709551616) + ((l + l2) % 18446744073709551616 + (18446744073709551616 - l2) % 18446744073709551616) / 18446744073709551616) = h := by
    unfold wrap64; omega
  have h2 : ((l + l2) % 18446744073709551616 + (18446744073709551616 - l2) % 18446744073709551616) % 18446744073709551616 = l := by omega
  simp only []
  rw [h1, h2]
  refine neg_ev (by simp) ?_
  refine some_ev (neg_raw b0 b1) ?_
  refine some_ev (plus_raw b0 b1 (by omega) (by omega)) ?_
  have h3 : wrap64 (h + wrap64 (-h - 1 + (18446744073709551616 - l) / 18446744073709551616) + (l + (18446744073709551616 - l) % 18446744073709551616) / 18446744073709551616) = 0 := by
    unfold wrap64; omega
  have h4 : (l + (18446744073709551616 - l) % 18446744073709551616) % 18446744073709551616 = 0 := by omega
  simp only []
  rw [h3, h4]
  exact back_j0 a0 a1 b0 b1 d0 d1
end Go.Proofs.Ytbaedcjophgiiaa.PureNumWideBack
