/- Layer 3: the reference's calendar. -/
import Derived.Test.YtjcenencgnfffaaDoorRStpBase
namespace Go.Proofs.YtjcenencgnfffaaDoor.StpS
open Go.RowKit Gong Go.Proofs.YtjcenencgnfffaaDoor.XStR Go.Proofs.YtjcenencgnfffaaDoor.DecS Go.Proofs.YtjcenencgnfffaaDoorW.PrintWords Go.Proofs.YtjcenencgnfffaaDoorW.PrintLast Go.Proofs.YtjcenencgnfffaaDoorW.PrintMore
set_option linter.unusedVariables false
set_option linter.unusedSimpArgs false
theorem rleap_eq (y : Int) (h : 0 ≤ y) : gongref03_leap.f y = some (decide (leapI y = 1)) := by
  unfold gongref03_leap.f leapI
  rw [tmod_nn h, tmod_nn h, tmod_nn h]
  by_cases c3 : y % 400 = 0
  · rw [if_pos c3, if_pos ⟨by omega, .inr c3⟩]
    rfl
  · rw [if_neg c3]
    by_cases c1 : y % 4 = 0
    · rw [if_pos c1]
      by_cases c2 : y % 100 = 0
      · rw [if_neg (by rintro ⟨_, h | h⟩; exact h c2; exact c3 h), c2]
        rfl
      · rw [if_pos ⟨c1, .inl c2⟩]
        congr 1
        rw [decide_eq_true rfl]
        simpa using c2
    · rw [if_neg c1, if_neg (fun h => c1 h.1)]
      rfl
theorem rdays_eq (y m : Int) (h : 0 ≤ y) (k : Nat) (hk : 1 ≤ k) : gongref03_days.f k y m = some (daysI y m) := by
  obtain ⟨k, rfl⟩ : ∃ j, k = j + 1 := ⟨k - 1, by omega⟩
  have hl := leap_01 y
  unfold gongref03_days.f daysI
  by_cases c : m = 2
  · rw [if_pos c, rleap_eq y h, Option.bind_some, if_pos c]
    simp only [gongref03_days.j0]
    by_cases d : leapI y = 1
    · rw [decide_eq_true d, if_pos rfl, d]
      rfl
    · rw [decide_eq_false d, if_neg (by decide), if_pos c, show leapI y = 0 from by omega]
      rfl
  · rw [if_neg c, if_neg c]
    simp only [gongref03_days.j0]
    rw [if_neg (by decide), if_neg c]
    by_cases c4 : m = 4
    · rw [if_pos c4, if_pos (.inl c4)]
    · rw [if_neg c4]
      by_cases c6 : m = 6
      · rw [if_pos c6, if_pos (.inr (.inl c6))]
      · rw [if_neg c6]
        by_cases c9 : m = 9
        · rw [if_pos c9, if_pos (.inr (.inr (.inl c9)))]
        · rw [if_neg c9]
          by_cases c11 : m = 11
          · rw [if_pos c11, if_pos (.inr (.inr (.inr c11)))]
          · rw [if_neg c11, if_neg (by rintro (h | h | h | h); exact c4 h; exact c6 h; exact c9 h; exact c11 h)]
theorem rpast_loop (y : Int) (hy : y ≤ 2200) : ∀ (d : Nat) (i n : Int) (k : Nat), i + d = y → 1970 ≤ i → d < k → n = sinceI i → gongref03_past.l0 k y n i = some (sinceI y) := by
  intro d
  induction d with
  | zero =>
    intro i n k hi h0 hk hn
    obtain ⟨k, rfl⟩ : ∃ m, k = m + 1 := ⟨k - 1, by omega⟩
    simp only [gongref03_past.l0]
    rw [if_neg (by omega), hn]
    congr 2
    omega
  | succ d ih =>
    intro i n k hi h0 hk hn
    obtain ⟨k, rfl⟩ : ∃ m, k = m + 1 := ⟨k - 1, by omega⟩
    have hr := since_range i (by omega) (by omega)
    have hs := since_succ i
    have hl := leap_01 i
    simp only [gongref03_past.l0]
    rw [if_pos (by omega), rleap_eq i (by omega), Option.bind_some, wrap_id (x := n + 365) (by omega) (by omega), wrap_id (x := i + 1) (by omega) (by omega)]
    by_cases c : leapI i = 1
    · rw [decide_eq_true c, if_pos rfl, wrap_id (x := n + 365 + 1) (by omega) (by omega)]
      exact ih (i + 1) _ k (by omega) (by omega) (by omega) (by omega)
    · rw [decide_eq_false c, if_neg (by decide)]
      exact ih (i + 1) _ k (by omega) (by omega) (by omega) (by omega)
theorem rpast_eq (y : Int) (h0 : 1970 ≤ y) (h1 : y ≤ 2200) (k : Nat) (hk : 250 ≤ k) : gongref03_past.f k y = some (sinceI y) := by
  unfold gongref03_past.f
  exact rpast_loop y h1 (y - 1970).toNat 1970 0 k (by omega) (by omega) (by omega) (by decide)
theorem runit_at (i : Nat) (h : i < 7) : ∃ u, unitsL.drop i = u :: unitsL.drop (i + 1) ∧ rd [86400000000000, 3600000000000, 60000000000, 1000000000, 1000000, 1000, 1] (i : Int) = u.2 ∧
    rdOf ByteArray.empty [(⟨#[100]⟩ : ByteArray), (⟨#[104]⟩ : ByteArray), (⟨#[109]⟩ : ByteArray), (⟨#[115]⟩ : ByteArray), (⟨#[109, 115]⟩ : ByteArray), (⟨#[117, 115]⟩ : ByteArray), (⟨#[110, 115]⟩ : ByteArray)] (i : Int) = Bs u.1 ∧ 0 < u.2 ∧ u.1.length ≤ 2 := by
  have : i = 0 ∨ i = 1 ∨ i = 2 ∨ i = 3 ∨ i = 4 ∨ i = 5 ∨ i = 6 := by omega
  rcases this with rfl | rfl | rfl | rfl | rfl | rfl | rfl <;> exact ⟨_, rfl, rfl, rfl, by decide, by decide⟩
end Go.Proofs.YtjcenencgnfffaaDoor.StpS
