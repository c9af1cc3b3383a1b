/- Quotients rounded down and up by a positive number, in plain numbers; the bounds stand in each statement. -/
import Derived.Test.YtoplbhohaaielaaDoorQx5
import Derived.Test.YtoplbhohaaielaaDoorM1
import Derived.Test.YtoplbhohaaielaaDoorM3
import Derived.Test.YtoplbhohaaielaaDoorM5
-- AUTO
namespace Go.Proofs.YtoplbhohaaielaaDoor.Q
open Go.RowKit Go.Proofs.YtoplbhohaaielaaDoorW.PrintWords Go.Proofs.YtoplbhohaaielaaDoorW.PrintLast Go.Proofs.YtoplbhohaaielaaDoorW.PrintMore
set_option linter.unusedVariables false
set_option linter.unusedSimpArgs false

theorem floordiv {a d : Int} (h0 : -9223372036854775807 ≤ a) (h1 : a ≤ 9223372036854775807) (hd : 1 ≤ d) : num_FloorDiv.f a d = some (a / d) := by
  unfold num_FloorDiv.f
  rw [if_neg (by omega), if_neg (by omega)]
  by_cases z : 0 ≤ a
  · have q := div_bd (v := a) (d := d) z (by omega)
    have m := Int.emod_nonneg a (show d ≠ 0 by omega)
    rw [tmod_eq z, tdiv_eq z, if_neg (by omega), w64_id (by omega) (by omega)]
  · have q := div_bd (v := -a) (d := d) (by omega) (by omega)
    have m := Int.emod_nonneg (-a) (show d ≠ 0 by omega)
    have n := (neg_div (v := a) (d := d) (by omega)).1
    rw [show Int.tmod a d = -(-a % d) by rw [← tmod_eq (by omega), Int.neg_tmod, Int.neg_neg], show Int.tdiv a d = -(-a / d) by rw [← tdiv_eq (by omega), Int.neg_tdiv, Int.neg_neg]]
    rw [w64_id (x := -(-a / d)) (by omega) (by omega), w64_id (x := -(-a / d) - 1) (by omega) (by omega), n]
    by_cases c : -a % d = 0
    · rw [if_neg (by omega), if_pos c]
    · rw [if_pos (by omega), if_neg c]

end Go.Proofs.YtoplbhohaaielaaDoor.Q
