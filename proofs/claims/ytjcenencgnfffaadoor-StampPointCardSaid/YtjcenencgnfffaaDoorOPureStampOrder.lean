/- Stamps with Z of one length stand in the order of their times; of whole seconds all have one length. -/
import Derived.Test.YtjcenencgnfffaaDoorOStpParseB
namespace Go.Proofs.YtjcenencgnfffaaDoor.StpS
open Go.RowKit Gong Go.Proofs.YtjcenencgnfffaaDoor.XStO Go.Proofs.YtjcenencgnfffaaDoor.DecS Go.Proofs.YtjcenencgnfffaaDoorW.PrintWords Go.Proofs.YtjcenencgnfffaaDoorW.PrintLast Go.Proofs.YtjcenencgnfffaaDoorW.PrintMore
set_option linter.unusedVariables false
set_option linter.unusedSimpArgs false
theorem below_eq (x n : Int) (h0 : 0 < n) (h1 : n ≤ 4611686018427387904) : ∃ t, 0 ≤ t ∧ t < n ∧ gongbook_Below.f x n = some t := by
  have hb : -n < Int.tmod x n ∧ Int.tmod x n < n := by
    by_cases c : 0 ≤ x
    · rw [tmod_nn c]
      have a := Int.emod_nonneg x (show n ≠ 0 by omega)
      have b := Int.emod_lt_of_pos x h0
      omega
    · have e : Int.tmod x n = -((-x) % n) := by
        rw [← tmod_nn (show 0 ≤ -x by omega), Int.neg_tmod, Int.neg_neg]
      rw [e]
      have a := Int.emod_nonneg (-x) (show n ≠ 0 by omega)
      have b := Int.emod_lt_of_pos (-x) h0
      omega
  unfold gongbook_Below.f
  generalize Int.tmod x n = y at hb ⊢
  rw [if_neg (by omega), wrap_id (by omega) (by omega), tmod_nn (by omega)]
  exact ⟨_, Int.emod_nonneg _ (by omega), Int.emod_lt_of_pos _ h0, rfl⟩
theorem fracL_len (n : Nat) : (fracL n).length ≤ 10 := by
  unfold fracL
  split
  · simp
  · obtain ⟨j, _, hj⟩ := trimZ_back (digsN n 9)
    rw [digsN_len] at hj
    rw [List.length_cons]
    omega
end Go.Proofs.YtjcenencgnfffaaDoor.StpS
namespace Go.Proofs.YtjcenencgnfffaaDoor.Pure
open Go.RowKit Gong Go.Proofs.YtjcenencgnfffaaDoor.StpS Go.Proofs.YtjcenencgnfffaaDoor.XStO Go.Proofs.YtjcenencgnfffaaDoor.DecS Go.Proofs.YtjcenencgnfffaaDoorW.PrintWords Go.Proofs.YtjcenencgnfffaaDoorW.PrintLast Go.Proofs.YtjcenencgnfffaaDoorW.PrintMore
set_option linter.unusedVariables false
set_option linter.unusedSimpArgs false
theorem StampOrder (a0 a1 : Int) (w0 : (Lit.int .i64 a0).wf = true) (w1 : (Lit.int .i64 a1).wf = true) : ∃ k, gonglaw03_StampOrder.f k a0 a1 = some true := by
  obtain ⟨k, hk⟩ : ∃ k : Nat, 1000 ≤ k := ⟨_, Nat.le_refl _⟩
  refine ⟨k, ?_⟩
  obtain ⟨t, t0, t1, ht⟩ := below_eq a0 2305843009213693953 (by omega) (by omega)
  obtain ⟨u, u0, u1, hu⟩ := below_eq a1 2305843009213693953 (by omega) (by omega)
  obtain ⟨l, hl, hp⟩ := print_eq t t0 (by omega) k (by omega)
  obtain ⟨m, hm, hq⟩ := print_eq u u0 (by omega) k (by omega)
  obtain ⟨o, ho, hr⟩ := print_eq (t - t % 1000000000) (by omega) (by omega) k (by omega)
  have hll := hl.len
  have hml := hm.len
  have hol := ho.len
  have f1 := fracL_len (t % 1000000000).toNat
  have f3 : fracL ((t - t % 1000000000) % 1000000000).toNat = [] := by
    rw [show ((t - t % 1000000000) % 1000000000).toNat = 0 from by omega]
    rfl
  unfold gonglaw03_StampOrder.f
  rw [works_at k (by omega), Option.bind_some, if_pos rfl, ht, hu, Option.bind_some, Option.bind_some, hp, hq, Option.bind_some, Option.bind_some, tmod_nn t0, wrap_id (by omega) (by omega), hr, Option.bind_some]
  simp only [if_true]
  rw [f3, if_pos (by rw [Bs_size]; simp [hol]), if_neg (by rw [Bs_size]; simp only [List.length_append, List.length_cons, List.length_nil, hll]; omega)]
  by_cases c : ((Bs (l ++ (fracL (t % 1000000000).toNat ++ [90]))).size : Int) = ((Bs (m ++ (fracL (u % 1000000000).toNat ++ [90]))).size : Int)
  · rw [if_pos c]
    rw [Bs_size, Bs_size] at c
    obtain ⟨b1, b2⟩ := stamps_order hl hm t0 (by omega) u0 (by omega) [90] (by omega)
    rw [toList_L, toList_L, L_Bs, L_Bs, b1, if_pos (by simp)]
    congr 1
    rw [beq_iff_eq, Bool.eq_iff_iff, beq_iff_eq, beq_iff_eq]
    exact b2.symm
  · rw [if_neg c]
end Go.Proofs.YtjcenencgnfffaaDoor.Pure
