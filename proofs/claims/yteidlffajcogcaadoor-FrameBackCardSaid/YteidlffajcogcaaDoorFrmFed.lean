/- Layer 12: what a framer tells of a stream that is cut at places. -/
import Derived.Test.YteidlffajcogcaaDoorFrmSpec
namespace Go.Proofs.YteidlffajcogcaaDoor.FrmS
open Go.RowKit Gong Go.Proofs.YteidlffajcogcaaDoor.XFb Go.Proofs.YteidlffajcogcaaDoorW.PrintWords Go.Proofs.YteidlffajcogcaaDoorW.PrintLast
set_option linter.unusedVariables false
set_option linter.unusedSimpArgs false
theorem fed_loop (F0 : Fm) (h0 : Inv F0) (hs0 : F0.state = 0) (s : ByteArray) (hs : s.size ≤ 500000) (cuts : List Int) (hc : cuts.length ≤ 1000) (hw : ∀ x ∈ cuts, -9223372036854775808 ≤ x ∧ x ≤ 9223372036854775807) :
    ∀ (d i fr k : Nat) (F : Fm) (out : List ByteArray), i + d = cuts.length + 1 → fr ≤ s.size → (d = 0 → fr = s.size) → d + s.size + 2 < k → out = (brun F0 ((L s).take fr) []).1 →
      (F = (brun F0 ((L s).take fr) []).2 ∨ (F.state = 3 ∧ (brun F0 ((L s).take fr) []).2.state = 3)) →
      gonglaw12_fed.l0 k s cuts F out (fr : Int) (i : Int) = some ((brun F0 (L s) []).1, (brun F0 (L s) []).2.state == 3, (brun F0 (L s) []).2.held) := by
  have hlen := L_len s
  have hs3 : F0.state ≠ 3 := by omega
  intro d
  induction d with
  | zero =>
    intro i fr k F out hi hf hd hk ho hF
    obtain ⟨k, rfl⟩ : ∃ m, k = m + 1 := ⟨k - 1, by omega⟩
    simp only [gonglaw12_fed.l0]
    rw [if_neg (by omega)]
    have e : (L s).take fr = L s := by rw [hd rfl, ← hlen, List.take_length]
    rw [e] at ho hF
    rw [ho]
    rcases hF with rfl | ⟨h1, h2⟩
    · rfl
    · unfold Fm.held
      rw [h1, h2]
      rfl
  | succ d ih =>
    intro i fr k F out hi hf hd hk ho hF
    obtain ⟨k, rfl⟩ : ∃ m, k = m + 1 := ⟨k - 1, by omega⟩
    simp only [gonglaw12_fed.l0]
    rw [if_pos (by omega)]
    obtain ⟨tz, ht, ht1, ht2, ht3⟩ : ∃ tz : Nat, (if (i : Int) < (cuts.length : Int) then (if 0 ≤ (i : Int) then (gongbook_Below.f (rd cuts i) (wrap64 (wrap64 ((s.size : Int) - fr) + 1))).bind fun t => some (wrap64 ((fr : Int) + t)) else none) else some (s.size : Int)) = some (tz : Int) ∧ fr ≤ tz ∧ tz ≤ s.size ∧ (d = 0 → tz = s.size) := by
      by_cases c : (i : Int) < (cuts.length : Int)
      · rw [if_pos c, if_pos (by omega)]
        have e1 : wrap64 (wrap64 ((s.size : Int) - fr) + 1) = ((s.size - fr + 1 : Nat) : Int) := by
          have : wrap64 ((s.size : Int) - fr) = (s.size : Int) - fr := by unfold wrap64; omega
          rw [this]; unfold wrap64; omega
        have hx : rd cuts i ∈ cuts := by
          unfold rd
          rw [Int.toNat_natCast, List.getD_eq_getElem?_getD, List.getElem?_eq_getElem (by omega)]
          exact List.getElem_mem _
        obtain ⟨m, hm1, hm2⟩ := below_at (rd cuts i) (s.size - fr + 1) (hw _ hx).1 (hw _ hx).2 (by omega) (by omega)
        rw [e1, hm1]
        refine ⟨fr + m, ?_, by omega, by omega, fun h => by omega⟩
        simp only [Option.bind_some, Option.some.injEq]
        unfold wrap64; omega
      · rw [if_neg c]
        exact ⟨s.size, rfl, hf, Nat.le_refl _, fun _ => rfl⟩
    rw [ht]
    simp only [Option.bind_some]
    rw [if_pos (by omega), if_pos (by omega), if_pos (by omega)]
    simp only [Int.toNat_natCast]
    have he : L (s.extract fr tz) = ((L s).take tz).drop fr := L_extract s fr tz
    have hT : (L s).take tz = (L s).take fr ++ L (s.extract fr tz) := by
      rw [he]
      conv => lhs; rw [← List.take_append_drop fr ((L s).take tz)]
      rw [List.take_take, Nat.min_eq_left ht1]
    have hsz : (s.extract fr tz).size ≤ s.size := by rw [ByteArray.size_extract]; omega
    have hb := brun_inv h0 hs3 ((L s).take fr) []
    have hap := brun_append h0 hs3 ((L s).take fr) (L (s.extract fr tz)) []
    rw [← hT] at hap
    have hw1 : wrap64 ((i : Int) + 1) = ((i + 1 : Nat) : Int) := by unfold wrap64; omega
    have hlo : out.length ≤ fr := by
      rw [ho]
      have := hb.2.2.2
      rw [List.length_take] at this
      simp only [List.length_nil] at this
      omega
    by_cases c3 : F.state = 3
    · have c4 : (brun F0 ((L s).take fr) []).2.state = 3 := by
        rcases hF with rfl | h
        · exact c3
        · exact h.2
      rw [if_pos c4] at hap
      rw [feed_dead k F _ c3]
      simp only [Option.bind_some, List.length_nil, List.append_nil]
      rw [if_pos (by omega), hw1]
      refine ih (i + 1) tz k _ out (by omega) ht2 ht3 (by omega) (by rw [hap]; exact ho) (.inr ⟨c3, by rw [hap]; exact c4⟩)
    · have c4 : F = (brun F0 ((L s).take fr) []).2 := by
        rcases hF with h | h
        · exact h
        · exact absurd h.1 c3
      have c5 : ¬ (brun F0 ((L s).take fr) []).2.state = 3 := by rw [← c4]; exact c3
      rw [if_neg c5, ← c4, ← ho, brun_out (F := F)] at hap
      have hI : Inv F := by rw [c4]; exact hb.1
      rw [feed_eq k F _ (by omega) hI c3 (by omega)]
      simp only [Option.bind_some]
      have hl2 := (brun_inv hI c3 (L (s.extract fr tz)) []).2.2.2
      rw [L_len] at hl2
      simp only [List.length_nil] at hl2
      rw [if_pos (by omega), hw1]
      exact ih (i + 1) tz k _ _ (by omega) ht2 ht3 (by omega) (by rw [hap]) (.inl (by rw [hap]))
theorem fed_eq (most : Int) (h1 : 1 ≤ most) (h2 : most ≤ 65535) (s : ByteArray) (hs : s.size ≤ 500000) (cuts : List Int) (hc : cuts.length ≤ 1000) (hw : ∀ x ∈ cuts, -9223372036854775808 ≤ x ∧ x ≤ 9223372036854775807) (k : Nat) (hk : 600000 ≤ k) :
    gonglaw12_fed.f k most s cuts = some ((brun ⟨most, 0, 0, 0, [], 0⟩ (L s) []).1, (brun ⟨most, 0, 0, 0, [], 0⟩ (L s) []).2.state == 3, (brun ⟨most, 0, 0, 0, [], 0⟩ (L s) []).2.held) := by
  unfold gonglaw12_fed.f
  rw [if_pos ⟨h1, h2⟩]
  have h := fed_loop ⟨most, 0, 0, 0, [], 0⟩ (inv_new most h1 h2) rfl s hs cuts hc hw (cuts.length + 1) 0 0 k ⟨most, 0, 0, 0, [], 0⟩ [] (by omega) (by omega) (by omega) (by omega) (by rw [List.take_zero, brun]) (.inl (by rw [List.take_zero, brun]))
  rw [Int.natCast_zero] at h
  exact h
end Go.Proofs.YteidlffajcogcaaDoor.FrmS
