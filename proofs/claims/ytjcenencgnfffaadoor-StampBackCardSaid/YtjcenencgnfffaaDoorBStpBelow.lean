/- A number from 0 on, below a bound, made of any. -/
import Derived.Test.YtjcenencgnfffaaDoorBStpBase
namespace Go.Proofs.YtjcenencgnfffaaDoor.StpS
open Go.RowKit Gong Go.Proofs.YtjcenencgnfffaaDoor.XStB Go.Proofs.YtjcenencgnfffaaDoor.DecS Go.Proofs.YtjcenencgnfffaaDoorW.PrintWords Go.Proofs.YtjcenencgnfffaaDoorW.PrintLast Go.Proofs.YtjcenencgnfffaaDoorW.PrintMore
set_option linter.unusedVariables false
set_option linter.unusedSimpArgs false
theorem below_eq (x n : Int) (h0 : 0 < n) (h1 : n ≤ 4611686018427387904) : ∃ t, 0 ≤ t ∧ t < n ∧ gongbook_Below.f x n = some t := by
  have hb : -n < Int.tmod x n ∧ Int.tmod x n < n := by
    by_cases c : 0 ≤ x
    · rw [tmod_nn c]
      have a := Int.emod_nonneg x (show n ≠ 0 by omega)
      have b := Int.emod_lt_of_pos x h0
      omega
    · have e : Int.tmod x n = -((-x) % n) := by
        rw [← tmod_nn (show 0 ≤ -x by omega), Int.neg_tmod, Int.neg_neg]
      rw [e]
      have a := Int.emod_nonneg (-x) (show n ≠ 0 by omega)
      have b := Int.emod_lt_of_pos (-x) h0
      omega
  unfold gongbook_Below.f
  generalize Int.tmod x n = y at hb ⊢
  rw [if_neg (by omega), wrap_id (by omega) (by omega), tmod_nn (by omega)]
  exact ⟨_, Int.emod_nonneg _ (by omega), Int.emod_lt_of_pos _ h0, rfl⟩
end Go.Proofs.YtjcenencgnfffaaDoor.StpS
