/- Layer 3: the span of a number. -/
import Derived.Test.YtjcenencgnfffaaDoorVStpShow
namespace Go.Proofs.YtjcenencgnfffaaDoor.StpS
open Go.RowKit Gong Go.Proofs.YtjcenencgnfffaaDoor.XStW Go.Proofs.YtjcenencgnfffaaDoor.DecS Go.Proofs.YtjcenencgnfffaaDoorW.PrintWords Go.Proofs.YtjcenencgnfffaaDoorW.PrintLast Go.Proofs.YtjcenencgnfffaaDoorW.PrintMore
set_option linter.unusedVariables false
set_option linter.unusedSimpArgs false
theorem spellGo_eq (n : Int) (n0 : 0 < n) : ∀ us : List (List UInt8 × Int), (match spellGo n us with | some u => (if 999999999 < n / u.2 then none else some (Lib.decDigits (n / u.2).toNat ++ u.1)) | none => none) = findSpell us n
  | [] => rfl
  | u :: us => by
    rw [spellGo, findSpell]
    by_cases c : n % u.2 = 0
    · rw [if_pos c, if_pos c]
    · rw [if_neg c, if_neg c]
      exact spellGo_eq n n0 us
theorem spellGo_one (n : Int) : ∃ u ∈ spellRow, spellGo n spellRow = some u := by
  have key : ∀ us : List (List UInt8 × Int), ([110, 115], 1) ∈ us → ∃ u ∈ us, spellGo n us = some u := by
    intro us
    induction us with
    | nil => intro h; simp at h
    | cons v us ih =>
      intro h
      rw [spellGo]
      by_cases c : n % v.2 = 0
      · rw [if_pos c]; exact ⟨v, by simp, rfl⟩
      · rw [if_neg c]
        rcases List.mem_cons.1 h with h | h
        · exfalso; apply c; rw [← h]; exact Int.emod_one n
        · obtain ⟨u, h1, h2⟩ := ih h
          exact ⟨u, by simp [h1], h2⟩
  exact key spellRow (by simp [spellRow])
/-- The span of a number, and why there is none. -/
def spellR (n : Int) : ByteArray × Int := if n < 0 ∨ 2305843009213693952 < n then (⟨#[]⟩, 1) else match spellL n with | some w => (Bs w, 0) | none => (⟨#[]⟩, 1)
theorem spell_eq (n : Int) : stamp_Spell.f n = some (spellR n) := by
  unfold stamp_Spell.f spellR spellL
  by_cases c0 : n < 0
  · rw [if_pos c0, if_pos (.inl c0)]
  · rw [if_neg c0]
    by_cases c1 : 2305843009213693952 < n
    · rw [if_pos c1, if_pos (.inr c1)]
    · rw [if_neg c1, if_neg (show ¬ (n < 0 ∨ 2305843009213693952 < n) from fun h => h.elim c0 c1)]
      by_cases c2 : n = 0
      · rw [if_pos c2, if_pos c2]
        rfl
      · rw [if_neg c2, if_neg c2]
        have h := spellGo_eq n (by omega) spellRow
        obtain ⟨u, hu, he⟩ := spellGo_one n
        rw [he] at h ⊢
        simp only at h ⊢
        rw [show unitsL = spellRow from rfl, ← h]
        by_cases c3 : 999999999 < n / u.2
        · rw [if_pos c3, if_pos c3]
        · rw [if_neg c3, if_neg c3]
          simp only
          have hp : 0 ≤ n / u.2 := Int.ediv_nonneg (by omega) (by
            have : ∀ v ∈ spellRow, 0 ≤ v.2 := by decide
            exact this u hu)
          rw [itoa_nn _ hp]
          congr 2
theorem spellL_len (n : Int) (w : List UInt8) (n0 : 0 ≤ n) (n1 : n ≤ 2305843009213693952) (h : spellL n = some w) : w.length ≤ 30 := by
  have hs := span_spell n n0 n1 w h
  unfold spanL at hs
  by_cases c : (w.takeWhile isD).length < 1 ∨ 9 < (w.takeWhile isD).length ∨ (1 < (w.takeWhile isD).length ∧ w.head? = some 48)
  · rw [if_pos c] at hs; simp at hs
  · rw [if_neg c] at hs
    have key : ∀ (us : List (List UInt8 × Int)) (nm : List UInt8) (v x : Int), (∀ u ∈ us, u.1.length ≤ 2) → findSpan us nm v = some x → nm.length ≤ 2 := by
      intro us nm v x hu
      induction us with
      | nil => intro h; simp [findSpan] at h
      | cons u us ih =>
        intro h
        rw [findSpan] at h
        by_cases d : u.1 = nm ∧ v ≤ 2305843009213693952 / u.2
        · rw [← d.1]; exact hu u (by simp)
        · rw [if_neg d] at h
          exact ih (fun y hy => hu y (by simp [hy])) h
    have h2 := key unitsL _ _ _ (by decide) hs
    have h3 := congrArg List.length (List.takeWhile_append_dropWhile (p := isD) (l := w))
    rw [List.length_append] at h3
    omega
end Go.Proofs.YtjcenencgnfffaaDoor.StpS
