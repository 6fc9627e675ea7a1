/- The program's arcs and octets of an identifier are the reference's, whatever was done to an earlier answer. -/
import Derived.Test.YtjcenencgnfffaaDoorQOidRefC
namespace Go.Proofs.YtjcenencgnfffaaDoor.Pure
open Go.RowKit Gong Go.Proofs.YtjcenencgnfffaaDoor.OidS Go.Proofs.YtjcenencgnfffaaDoor.XOiR Go.Proofs.YtjcenencgnfffaaDoor.DecS Go.Proofs.YtjcenencgnfffaaDoorW.PrintWords Go.Proofs.YtjcenencgnfffaaDoorW.PrintLast Go.Proofs.YtjcenencgnfffaaDoorW.PrintMore
set_option linter.unusedVariables false
set_option linter.unusedSimpArgs false
theorem spoil_loop : ∀ (d i k : Nat) (x : List Int), i + d = x.length → x.length ≤ 1000 → d < k → ∃ r, gongbook_SpoilInts.l0 k x (i : Int) = some r := by
  intro d
  induction d with
  | zero =>
    intro i k x hi hx hk
    obtain ⟨k, rfl⟩ : ∃ m, k = m + 1 := ⟨k - 1, by omega⟩
    simp only [gongbook_SpoilInts.l0]
    rw [if_neg (by omega)]
    exact ⟨_, rfl⟩
  | succ d ih =>
    intro i k x hi hx hk
    obtain ⟨k, rfl⟩ : ∃ m, k = m + 1 := ⟨k - 1, by omega⟩
    simp only [gongbook_SpoilInts.l0]
    rw [if_pos (by omega), if_pos (by omega), wrap_succ i (by omega)]
    exact ih (i + 1) k _ (by rw [List.length_set]; omega) (by rw [List.length_set]; omega) (by omega)
theorem arcsR_len (s : List UInt8) : (arcsR s).1.length ≤ 128 := by
  unfold arcsR
  cases h : arcsS s with
  | none => simp
  | some l => exact (isS_parts (arcs_some h).1).2.1
theorem OidReads (a0 a1 : ByteArray) (w0 : a0.size ≤ 140737488351232) (w1 : a1.size ≤ 140737488351232) : ∃ k, gonglaw06_OidReads.f k a0 a1 = some true := by
  obtain ⟨k, hk⟩ : ∃ k : Nat, 10000 ≤ k := ⟨_, Nat.le_refl _⟩
  refine ⟨k + 1, ?_⟩
  have hw := works_at k (by omega)
  unfold gonglaw06_OidReads.f
  have hbig : gonglaw06_OidReads.j0 (k + 1) a0 a1 true = some true := by
    simp only [gonglaw06_OidReads.j0]
    rw [if_pos trivial, hw]
    rfl
  by_cases c0 : (a0.size : Int) > 5000
  · rw [if_pos c0]; exact hbig
  · rw [if_neg c0]
    by_cases c1 : (a1.size : Int) > 5000
    · rw [decide_eq_true c1]; exact hbig
    · rw [decide_eq_false c1]
      have hl := arcsR_len (L a0)
      obtain ⟨e, he1, he2⟩ := enc_same a0 (by omega) k (by omega)
      obtain ⟨d, hd1, hd2⟩ := dec_same a1 k (by omega)
      obtain ⟨sp, hsp⟩ := spoil_loop (arcsR (L a0)).1.length 0 k (arcsR (L a0)).1 (by omega) (by omega) (by omega)
      rw [Int.natCast_zero] at hsp
      have hsp2 : gongbook_SpoilInts.f k (arcsR (L a0)).1 = some sp := hsp
      simp only [gonglaw06_OidReads.j0]
      rw [if_neg (by decide), arcs_eq a0 (by omega) k (by omega), rarcs_eq a0 k (by omega), he1, he2, hd1, hd2]
      simp only [Option.bind_some]
      rw [same_eq _ (by omega) k (by omega), hsp2]
      simp only [Option.bind_some, if_true]
      rw [hw]
      rfl
end Go.Proofs.YtjcenencgnfffaaDoor.Pure
