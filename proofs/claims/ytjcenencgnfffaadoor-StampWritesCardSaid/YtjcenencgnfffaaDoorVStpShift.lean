/- Layer 3: the stamp of a time by another clock. -/
import Derived.Test.YtjcenencgnfffaaDoorVStpShow
namespace Go.Proofs.YtjcenencgnfffaaDoor.StpS
open Go.RowKit Gong Go.Proofs.YtjcenencgnfffaaDoor.XStW Go.Proofs.YtjcenencgnfffaaDoor.DecS Go.Proofs.YtjcenencgnfffaaDoorW.PrintWords Go.Proofs.YtjcenencgnfffaaDoorW.PrintLast Go.Proofs.YtjcenencgnfffaaDoorW.PrintMore
set_option linter.unusedVariables false
set_option linter.unusedSimpArgs false
/-- The stamp by another clock: of a second that is shown. -/
theorem shifted_eq (t m : Int) (t0 : 0 ≤ t) (t1 : t ≤ 2305843009213693952) (m0 : -1439 ≤ m) (m1 : m ≤ 1439) (k : Nat) (hk : 300 ≤ k) :
    (t / 1000000000 + m * 60 < 0 ∧ stamp_Shifted.f k t m = some (⟨#[]⟩, 1)) ∨ (0 ≤ t / 1000000000 + m * 60 ∧ ∃ l, Shows (t / 1000000000 + m * 60) l ∧ stamp_Shifted.f k t m = some (Bs (l ++ (fracL (t % 1000000000).toNat ++ zoneT m)), 0)) := by
  obtain ⟨k, rfl⟩ : ∃ j, k = j + 1 := ⟨k - 1, by omega⟩
  unfold stamp_Shifted.f
  rw [if_neg (by omega), if_neg (by omega), if_neg (by omega), decide_eq_false (by omega)]
  simp only [stamp_Shifted.j0]
  rw [if_neg (by decide), tdiv_nn t0, tmod_nn t0, wrap_id (x := t / 1000000000) (by omega) (by omega), wrap_id (x := m * 60) (by omega) (by omega), wrap_id (x := t / 1000000000 + m * 60) (by omega) (by omega)]
  by_cases c : t / 1000000000 + m * 60 < 0
  · rw [if_pos c]
    exact .inl ⟨c, rfl⟩
  · rw [if_neg c]
    right
    refine ⟨by omega, ?_⟩
    obtain ⟨l, hl, hw⟩ := whole_eq (t / 1000000000 + m * 60) (t % 1000000000) (by omega) (by omega) (by omega) (by omega) k (by omega)
    refine ⟨l, hl, ?_⟩
    have hll := hl.len
    have hf := fracL_len (t % 1000000000).toNat
    have hsz : (Bs (l ++ fracL (t % 1000000000).toNat)).size ≤ 29 := by rw [Bs_size, List.length_append, hll]; omega
    by_cases d : m < 0
    · rw [if_pos d, hw, Option.bind_some, wrap_id (x := -m) (by omega) (by omega), tdiv_nn (by omega), tmod_nn (by omega), wrap_id (x := -m / 60) (by omega) (by omega), two_eq (-m / 60) (by omega) (by omega), two_eq (-m % 60) (by omega) (by omega), Option.bind_some, Option.bind_some,
        if_pos (by omega), lit_Bs, lit_Bs, Bs_app, if_pos (by simp only [Bs_size, List.length_append, digsN_len, List.length_singleton] at hsz ⊢; omega), Bs_app, if_pos (by simp only [Bs_size, List.length_append, digsN_len, List.length_singleton] at hsz ⊢; omega), Bs_app, if_pos (by simp only [Bs_size, List.length_append, digsN_len, List.length_singleton] at hsz ⊢; omega), Bs_app]
      congr 3
      unfold zoneT
      rw [if_pos d, show m.natAbs / 60 = (-m / 60).toNat from by omega, show m.natAbs % 60 = (-m % 60).toNat from by omega]
      simp
    · rw [if_neg d, hw, Option.bind_some, tdiv_nn (by omega), tmod_nn (by omega), wrap_id (x := m / 60) (by omega) (by omega), two_eq (m / 60) (by omega) (by omega), two_eq (m % 60) (by omega) (by omega), Option.bind_some, Option.bind_some,
        if_pos (by omega), lit_Bs, lit_Bs, Bs_app, if_pos (by simp only [Bs_size, List.length_append, digsN_len, List.length_singleton] at hsz ⊢; omega), Bs_app, if_pos (by simp only [Bs_size, List.length_append, digsN_len, List.length_singleton] at hsz ⊢; omega), Bs_app, if_pos (by simp only [Bs_size, List.length_append, digsN_len, List.length_singleton] at hsz ⊢; omega), Bs_app]
      congr 3
      unfold zoneT
      rw [if_neg d, show m.natAbs / 60 = (m / 60).toNat from by omega, show m.natAbs % 60 = (m % 60).toNat from by omega]
      simp
end Go.Proofs.YtjcenencgnfffaaDoor.StpS
