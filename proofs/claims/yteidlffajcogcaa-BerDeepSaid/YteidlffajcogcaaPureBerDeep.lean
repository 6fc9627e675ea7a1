/- Elements within one another, each the only part of the next, are as deep as they are many; more than 32 of them are refused.
   For every number and every body. -/
import Derived.Test.YteidlffajcogcaaBerBasic
namespace Go.Proofs.Yteidlffajcogcaa.Pure
open Go.RowKit Gong Go.Proofs.Yteidlffajcogcaa.XBer Go.Proofs.Yteidlffajcogcaa.BerS Go.Proofs.YteidlffajcogcaaW.PrintWords Go.Proofs.YteidlffajcogcaaW.PrintLast
set_option linter.unusedVariables false
set_option linter.unusedSimpArgs false
/-- An element of 4, within so many others. -/
def nest (b : List UInt8) : Nat → List UInt8
  | 0 => enc 4 b
  | j + 1 => enc 48 (nest b j)
theorem nest_len (b : List UInt8) (hb : b.length ≤ 300) : ∀ j, (nest b j).length ≤ 306 + 6 * j
  | 0 => by
    have h1 := enc_len 4 b
    have h2 := lenEnc_len b.length
    have h3 := (nby_le b.length (by omega)).2.1
    unfold nest
    split at h2 <;> omega
  | j + 1 => by
    have ih := nest_len b hb j
    have h1 := enc_len 48 (nest b j)
    have h2 := lenEnc_len (nest b j).length
    unfold nest
    by_cases h : (nest b j).length < 4294967296
    · have h3 := (nby_le (nest b j).length h).2.1
      split at h2 <;> omega
    · unfold nby at h2
      repeat' split at h2
      all_goals omega
theorem walk_nest (b : List UInt8) (hb : b.length ≤ 300) : ∀ (j d f : Nat), j ≤ 100 → (nest b j).length < f → d ≤ 33 → walkR f d (nest b j) = if d + j ≤ 32 then .ok (nest b j, j + 1) else .error 51
  | 0, d, f, hj, hf, hd => by
    have hne : nest b 0 ≠ [] := by simp [nest, enc]
    have hn : nextS (nest b 0) = some (4, b, []) := by
      have := next_enc 4 b [] (by omega) (by omega) (by omega)
      rw [List.append_nil] at this
      exact this
    have hlen := (next_len hn).2.2.2.2
    obtain ⟨f, rfl⟩ : ∃ m, f = m + 2 := ⟨f - 2, by omega⟩
    rw [walkR]
    rw [if_neg hne, hn]
    simp only
    by_cases h : 32 < d
    · rw [if_pos h, if_neg (by omega)]
    · rw [if_neg h, if_neg (by decide), if_pos (by omega)]
      simp [nest, walkR]
  | j + 1, d, f, hj, hf, hd => by
    have ih := walk_nest b hb j
    have hl := nest_len b hb j
    have hne : nest b (j + 1) ≠ [] := by simp [nest, enc]
    have hn : nextS (nest b (j + 1)) = some (48, nest b j, []) := by
      have := next_enc 48 (nest b j) [] (by omega) (by omega) (by omega)
      rw [List.append_nil] at this
      exact this
    have hlen := (next_len hn).2.2.2.2
    obtain ⟨f, rfl⟩ : ∃ m, f = m + 2 := ⟨f - 2, by omega⟩
    rw [walkR]
    rw [if_neg hne, hn]
    simp only
    by_cases h : 32 < d
    · rw [if_pos h, if_neg (by omega)]
    · rw [if_neg h, if_pos (by decide), ih (d + 1) (f + 1) (by omega) (by omega) (by omega)]
      by_cases h2 : d + (j + 1) ≤ 32
      · rw [if_pos (by omega), if_pos h2]
        simp [nest, walkR]
      · rw [if_neg (by omega), if_neg h2]
theorem walkS_nest (b : List UInt8) (hb : b.length ≤ 300) (j : Nat) (hj : j ≤ 100) : walkS (nest b j) = if j + 1 ≤ 32 then (Bs (nest b j), ((j + 1 : Nat) : Int), 0) else (Bs [], 0, 51) := by
  have hl := nest_len b hb j
  have hn : ∃ t c, nextS (nest b j) = some (t, c, []) := by
    cases j with
    | zero => exact ⟨4, b, by have := next_enc 4 b [] (by omega) (by omega) (by omega); rw [List.append_nil] at this; exact this⟩
    | succ j =>
      have hl := nest_len b hb j
      exact ⟨48, nest b j, by have := next_enc 48 (nest b j) [] (by omega) (by omega) (by omega); rw [List.append_nil] at this; exact this⟩
  obtain ⟨t, c, hn⟩ := hn
  unfold walkS
  rw [hn]
  simp only
  rw [walk_nest b hb j 1 ((nest b j).length + 1) hj (by omega) (by omega)]
  by_cases h : j + 1 ≤ 32
  · rw [if_pos (by omega), if_pos h]
  · rw [if_neg (by omega), if_neg h]
theorem loop (b : List UInt8) (hb : b.length ≤ 300) (many K : Nat) (hm : many < 40) (hK : ∀ k, K ≤ k → ber_walk.f k (Bs (nest b many)) = some (walkS (nest b many))) :
    ∀ (n j k : Nat), n + j = many → n + K + 10 ≤ k → gonglaw05_BerDeep.l0 k (many : Int) (Bs (nest b j)) 0 (many : Int) (j : Int) = some true
  | 0, j, k, hj, hk => by
    obtain ⟨k, rfl⟩ : ∃ m, k = m + 1 := ⟨k - 1, by omega⟩
    have hj : j = many := by omega
    subst hj
    simp only [gonglaw05_BerDeep.l0]
    rw [if_neg (by omega)]
    unfold ber_Deep.f
    rw [hK k (by omega), walkS_nest b hb j (by omega), wrap_id (by omega) (by omega)]
    simp only [Option.bind_some]
    by_cases h : j + 1 ≤ 32
    · rw [if_pos h, if_neg (by omega), if_pos rfl]
      simp
    · rw [if_neg h, if_pos (by omega)]
      rfl
  | n + 1, j, k, hj, hk => by
    obtain ⟨k, rfl⟩ : ∃ m, k = m + 1 := ⟨k - 1, by omega⟩
    have ih := loop b hb many K hm hK n (j + 1) k (by omega) (by omega)
    have hl := nest_len b hb j
    simp only [gonglaw05_BerDeep.l0]
    rw [if_pos (by omega), if_pos trivial, show (48 : Int) = ((48 : Nat) : Int) from rfl, wrap_at 48 (nest b j) (by omega) (by omega) (by omega) k (by omega)]
    simp only [Option.bind_some]
    rw [wrap_id (by omega) (by omega), show (j : Int) + 1 = ((j + 1 : Nat) : Int) from by omega]
    exact ih
theorem BerDeep : gonglaw05_BerDeep.Pure := by
  intro a0 a1 h0 h1
  obtain ⟨K1, hw⟩ := works_at
  by_cases hb : (a1.size : Int) > 300
  · refine ⟨K1, ?_⟩
    unfold gonglaw05_BerDeep.f
    rw [hw K1 (by omega)]
    simp only [Option.bind_some]
    rw [if_pos trivial, if_pos hb]
  · have hwf := wf_i64 h0
    obtain ⟨m, hm, hlt⟩ := below_at a0 40 hwf.1 hwf.2 (by omega) (by omega)
    have hbl : (L a1).length ≤ 300 := by rw [← size_L]; omega
    have hl := nest_len (L a1) hbl m
    obtain ⟨K2, hK⟩ := walk_at (Bs (nest (L a1) m)) (by rw [size_Bs]; omega)
    rw [L_Bs] at hK
    refine ⟨K1 + m + K2 + 10, ?_⟩
    unfold gonglaw05_BerDeep.f
    rw [hw _ (by omega)]
    simp only [Option.bind_some]
    rw [if_pos trivial, if_neg hb, show (40 : Int) = ((40 : Nat) : Int) from rfl, hm]
    simp only [Option.bind_some]
    rw [← Bs_L a1, show (4 : Int) = ((4 : Nat) : Int) from rfl, wrap_at 4 (L a1) (by omega) (by omega) (by omega) _ (by omega)]
    simp only [Option.bind_some]
    exact loop (L a1) hbl m K2 hlt hK m 0 _ (by omega) (by omega)
end Go.Proofs.Yteidlffajcogcaa.Pure
