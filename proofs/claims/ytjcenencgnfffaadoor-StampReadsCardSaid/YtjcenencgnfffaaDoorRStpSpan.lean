/- Layer 3: the nanoseconds of a span. -/
import Derived.Test.YtjcenencgnfffaaDoorRStpBase
namespace Go.Proofs.YtjcenencgnfffaaDoor.StpS
open Go.RowKit Gong Go.Proofs.YtjcenencgnfffaaDoor.XStR Go.Proofs.YtjcenencgnfffaaDoor.DecS Go.Proofs.YtjcenencgnfffaaDoorW.PrintWords Go.Proofs.YtjcenencgnfffaaDoorW.PrintLast Go.Proofs.YtjcenencgnfffaaDoorW.PrintMore
set_option linter.unusedVariables false
set_option linter.unusedSimpArgs false
/-! Spans. -/
theorem digit_set (b : UInt8) : ([48, 49, 50, 51, 52, 53, 54, 55, 56, 57] : List UInt8).contains b = isD b := by
  have : ∀ n : Fin 256, ([48, 49, 50, 51, 52, 53, 54, 55, 56, 57] : List UInt8).contains (UInt8.ofNat n.val) = isD (UInt8.ofNat n.val) := by decide +kernel
  have h := this ⟨b.toNat, b.toNat_lt⟩
  rw [UInt8.ofNat_toNat] at h
  exact h
theorem spanName_eq (l : List UInt8) : spanName l = l.dropWhile isD := by
  unfold spanName Lib.trimLeftS
  congr 1
  funext b
  exact digit_set b
theorem spanDigits_eq (l : List UInt8) : spanDigits l = l.takeWhile isD := by
  unfold spanDigits
  rw [spanName_eq]
  have h := List.takeWhile_append_dropWhile (p := isD) (l := l)
  have hl := congrArg List.length h
  rw [List.length_append] at hl
  rw [show l.length - (l.dropWhile isD).length = (l.takeWhile isD).length from by omega]
  exact (List.prefix_iff_eq_take.1 (List.takeWhile_prefix _)).symm
theorem spanGo_eq (nm : List UInt8) (n : Int) (n0 : 0 ≤ n) : ∀ us : List (List UInt8 × Int), (∀ u ∈ us, 0 < u.2 ∧ u.2 ≤ 86400000000000) → spanGo nm n us = (match findSpan us nm n with | some t => (t, 0) | none => (0, 30))
  | [], _ => rfl
  | u :: us, h => by
    rw [spanGo, findSpan]
    by_cases c : u.1 = nm ∧ n ≤ 2305843009213693952 / u.2
    · rw [if_pos c, if_pos c]
      have hu := h u (by simp)
      have h1 : n * u.2 ≤ 2305843009213693952 := Int.le_trans (Int.mul_le_mul_of_nonneg_right c.2 (by omega)) (Int.ediv_mul_le _ (by omega))
      have h2 : 0 ≤ n * u.2 := Int.mul_nonneg n0 (by omega)
      rw [wrap_id (by omega) (by omega)]
    · rw [if_neg c, if_neg c]
      exact spanGo_eq nm n n0 us (fun v hv => h v (by simp [hv]))
def spanR (l : List UInt8) : Int × Int := match spanL l with | some t => (t, 0) | none => (0, 30)
theorem span_eq (s : ByteArray) (hs : s.size ≤ 1000) : stamp_Span.f s = some (spanR (L s)) := by
  unfold stamp_Span.f spanR spanL
  rw [if_pos hs, show s.data.toList = L s from rfl, spanDigits_eq, spanName_eq]
  have hd : ∀ b ∈ (L s).takeWhile isD, isD b = true := fun b hb => tw_mem hb
  have hh : (L s).takeWhile isD ≠ [] → ((L s).takeWhile isD).head? = (L s).head? := by
    intro hne
    cases hL : L s with
    | nil => rfl
    | cons b r =>
      rw [hL] at hne
      rw [List.takeWhile_cons] at hne ⊢
      by_cases c : isD b = true
      · rw [if_pos c]; rfl
      · rw [if_neg c] at hne; exact absurd rfl hne
  by_cases c0 : (L s).takeWhile isD = []
  · rw [if_pos c0, if_pos (by rw [c0]; simp)]
  · rw [if_neg c0]
    have hp := List.length_pos_iff.2 c0
    by_cases c1 : 9 < ((L s).takeWhile isD).length
    · rw [if_pos c1, if_pos (.inr (.inl c1))]
    · rw [if_neg c1]
      by_cases c2 : ¬ (L s).takeWhile isD = [48] ∧ ((L s).takeWhile isD).head? = some 48
      · rw [if_pos c2, if_pos]
        right; right
        rw [← hh c0]
        refine ⟨?_, c2.2⟩
        cases hT : (L s).takeWhile isD with
        | nil => exact absurd hT c0
        | cons b r =>
          rw [hT] at c2
          cases r with
          | nil =>
            exfalso
            have h2 := c2.2
            simp only [List.head?_cons, Option.some.injEq] at h2
            exact c2.1 (by rw [h2])
          | cons b2 r => simp
      · rw [if_neg c2, show Lib.atoiAll ((L s).takeWhile isD) = .ok (val ((L s).takeWhile isD) : Int) from atoi_digits hd c0 (by omega), if_neg]
        · simp only
          rw [spanGo_eq _ _ (by omega) unitRow (by decide)]
          rfl
        · rintro (h | h | ⟨h1, h2⟩)
          · omega
          · omega
          · rw [← hh c0] at h2
            exact c2 ⟨fun e => by rw [e] at h1; simp at h1, h2⟩
end Go.Proofs.YtjcenencgnfffaaDoor.StpS
