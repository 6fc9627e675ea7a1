/- Layer 5: what Wrap, Canon, Deep, the example and Below answer. -/
import Derived.Test.YteidlffajcogcaaBerWalk
import Derived.Test.YteidlffajcogcaaXBerx
namespace Go.Proofs.Yteidlffajcogcaa.BerS
open Go.RowKit Gong Go.Proofs.Yteidlffajcogcaa.XBer Go.Proofs.YteidlffajcogcaaW.PrintWords Go.Proofs.YteidlffajcogcaaW.PrintLast Go.Proofs.YteidlffajcogcaaW.PrintMore
set_option linter.unusedVariables false
set_option linter.unusedSimpArgs false
theorem walk_at (s : ByteArray) (hs : s.size ≤ 4000000000) : ∃ K, ∀ k, K ≤ k → ber_walk.f k s = some (walkS (L s)) := by
  obtain ⟨K, h⟩ := walk_eq s hs
  exact ⟨K, fun k hk => leo_le (fun k => ber_walk.mono s k) hk h⟩
theorem wrap_at (t : Nat) (b : List UInt8) (ht : t < 256) (ht2 : t % 32 ≠ 31) (hb : b.length ≤ 16777216) (k : Nat) (hk : 4 ≤ k) : ber_Wrap.f k (t : Int) (Bs b) = some (Bs (enc t b), 0) := by
  unfold ber_Wrap.f
  rw [isTag_eq t ht]
  simp only [Option.bind_some]
  rw [if_pos (by simp [ht2]), if_neg (by rw [size_Bs]; omega), put_eq k t b ht (by omega) hk]
  rfl
theorem below_at (x : Int) (n : Nat) (h0 : -9223372036854775808 ≤ x) (h1 : x ≤ 9223372036854775807) (hn : 0 < n) (hn2 : n ≤ 1000000) : ∃ m : Nat, gongbook_Below.f x (n : Int) = some (m : Int) ∧ m < n := by
  unfold gongbook_Below.f
  rw [if_neg (by omega)]
  have a1 := Int.tmod_lt_of_pos x (show (0 : Int) < n by omega)
  have a2 : -(n : Int) < Int.tmod x n := by
    rcases Int.le_total 0 x with hx | hx
    · rw [Int.tmod_eq_emod_of_nonneg hx]
      have := Int.emod_nonneg x (show (n : Int) ≠ 0 by omega)
      omega
    · have e := Int.neg_tmod (-x) n
      rw [Int.neg_neg] at e
      rw [e, Int.tmod_eq_emod_of_nonneg (by omega)]
      have := Int.emod_lt_of_pos (-x) (show (0 : Int) < n by omega)
      omega
  have e : wrap64 (Int.tmod x n + n) = Int.tmod x n + n := wrap_id (by omega) (by omega)
  rw [e, Int.tmod_eq_emod_of_nonneg (by omega)]
  have b1 := Int.emod_nonneg (Int.tmod x n + n) (show (n : Int) ≠ 0 by omega)
  have b2 := Int.emod_lt_of_pos (Int.tmod x n + n) (show (0 : Int) < n by omega)
  refine ⟨((Int.tmod x n + n) % n).toNat, ?_, by omega⟩
  congr 1
  omega
theorem wf_i64 {x : Int} (h : (Lit.int .i64 x).wf = true) : -9223372036854775808 ≤ x ∧ x ≤ 9223372036854775807 := by
  simp [Lit.wf, IntKind.min, IntKind.max, IntKind.signed, IntKind.bits] at h
  exact h
theorem works_at : ∃ K, ∀ k, K ≤ k → gonglaw05_works.f k = some true := by
  obtain ⟨K, hK⟩ := walk_at ⟨#[2, 130, 0, 1, 5]⟩ (by decide)
  refine ⟨K + 1, fun k hk => ?_⟩
  unfold gonglaw05_works.f ber_Canon.f
  rw [hK k (by omega)]
  have e : walkS (L ⟨#[2, 130, 0, 1, 5]⟩) = (Bs [2, 1, 5], 1, 0) := by decide +kernel
  rw [e]
  simp only [Option.bind_some]
  rw [next_eq k (by omega) _ (by decide), L_Bs]
  have e2 : nextS [2, 1, 5] = some (2, [5], []) := by decide +kernel
  rw [e2]
  decide +kernel
end Go.Proofs.Yteidlffajcogcaa.BerS
