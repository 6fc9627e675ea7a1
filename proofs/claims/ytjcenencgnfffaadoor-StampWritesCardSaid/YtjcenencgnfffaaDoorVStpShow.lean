/- Layer 3: what the program prints of a time: the date and the clock that it has. -/
import Derived.Test.YtjcenencgnfffaaDoorVStpBase
namespace Go.Proofs.YtjcenencgnfffaaDoor.StpS
open Go.RowKit Gong Go.Proofs.YtjcenencgnfffaaDoor.XStW Go.Proofs.YtjcenencgnfffaaDoor.DecS Go.Proofs.YtjcenencgnfffaaDoorW.PrintWords Go.Proofs.YtjcenencgnfffaaDoorW.PrintLast Go.Proofs.YtjcenencgnfffaaDoorW.PrintMore
set_option linter.unusedVariables false
set_option linter.unusedSimpArgs false
theorem two_eq (n : Int) (h0 : 0 ≤ n) (h1 : n ≤ 99) : stamp_two.f n = some (Bs (digsN n.toNat 2)) := by
  obtain ⟨m, rfl⟩ := Int.eq_ofNat_of_zero_le h0
  unfold stamp_two.f
  rw [tdiv_nn h0, tmod_nn h0, wrap_id (x := (m : Int) / 10) (by omega) (by omega), wrap_id (x := 48 + (m : Int) / 10) (by omega) (by omega), wrap_id (x := 48 + (m : Int) % 10) (by omega) (by omega), Int.toNat_natCast]
  have e1 : (48 + (m : Int) / 10) % 256 = ((48 + m / 10 % 10 : Nat) : Int) := by omega
  have e2 : (48 + (m : Int) % 10) % 256 = ((48 + m % 10 : Nat) : Int) := by omega
  rw [e1, e2]
  rfl
theorem digs_year (y : Nat) : digsN (y / 100) 2 ++ digsN (y % 100) 2 = digsN y 4 := by
  have h1 := digsN_add 2 2 y
  have h2 := digsN_mod 2 y
  rw [show (10 : Nat) ^ 2 = 100 from rfl] at h1 h2
  rw [h2]
  exact h1
theorem show_l1 : ∀ (n : Nat) (y m e left : Int) (k : Nat), m + n = 13 → 1 ≤ m → 1970 ≤ y → y ≤ 9999 → beforeI y m ≤ e → e < beforeI y 13 → 0 ≤ left → left < 86400 → n < k →
    ∃ m' : Nat, 1 ≤ m' ∧ m' ≤ 12 ∧ beforeI y m' ≤ e ∧ e < beforeI y (m' + 1) ∧ stamp_show.l1 k e left y m = some (Bs (showL y.toNat m' (e - beforeI y m' + 1).toNat (left / 3600).toNat (left / 60 % 60).toNat (left % 60).toNat)) := by
  intro n
  induction n with
  | zero =>
    intro y m e left k hm _ _ _ hb he
    have : m = 13 := by omega
    subst this
    omega
  | succ n ih =>
    intro y m e left k hm h1 hy hy2 hb he hl0 hl1 hk
    obtain ⟨k, rfl⟩ : ∃ j, k = j + 1 := ⟨k - 1, by omega⟩
    have hbr := before_range y m
    have hbs := before_succ y m h1 (by omega)
    have hdp := days_pos y m
    simp only [stamp_show.l1]
    rw [wrap_id (x := m + 1) (by omega) (by omega), before_eq y (m + 1) (by omega) (by omega) (by omega), Option.bind_some]
    by_cases c : beforeI y (m + 1) ≤ e
    · rw [if_pos c]
      exact ih y (m + 1) e left k (by omega) (by omega) hy hy2 c he hl0 hl1 (by omega)
    · rw [if_neg c]
      obtain ⟨q, rfl⟩ := Int.eq_ofNat_of_zero_le (show 0 ≤ m by omega)
      refine ⟨q, by omega, by omega, hb, by omega, ?_⟩
      rw [before_eq y q (by omega) (by omega) (by omega)]
      simp only [Option.bind_some]
      have E := show e - beforeI y q + 1 ≤ 31 by omega
      obtain ⟨b, hbe⟩ : ∃ b, b = e - beforeI y q := ⟨_, rfl⟩
      rw [← hbe] at E ⊢
      have hb0 : 0 ≤ b := by omega
      obtain ⟨Y, rfl⟩ := Int.eq_ofNat_of_zero_le (show 0 ≤ y by omega)
      have hq : q ≤ 12 := by omega
      clear hbr hbs hdp hb he c hbe ih hm
      rw [tdiv_nn (a := (Y : Int)) (by omega), tmod_nn (a := (Y : Int)) (by omega), tdiv_nn hl0, tdiv_nn hl0, wrap_id (x := left / 60) (by omega) (by omega), tmod_nn (a := left / 60) (by omega), tmod_nn hl0,
        wrap_id (x := (Y : Int) / 100) (by omega) (by omega), wrap_id (x := b) (by omega) (by omega), wrap_id (x := b + 1) (by omega) (by omega), wrap_id (x := left / 3600) (by omega) (by omega),
        two_eq ((Y : Int) / 100) (by omega) (by omega), two_eq ((Y : Int) % 100) (by omega) (by omega), two_eq (q : Int) (by omega) (by omega), two_eq (b + 1) (by omega) (by omega), two_eq (left / 3600) (by omega) (by omega), two_eq (left / 60 % 60) (by omega) (by omega), two_eq (left % 60) (by omega) (by omega)]
      simp only [Option.bind_some, lit_Bs, Bs_app, Bs_size, List.length_append, digsN_len, List.length_cons, List.length_nil]
      repeat rw [if_pos (by decide)]
      congr 2
      unfold showL
      rw [show ((Y : Int) / 100).toNat = Y / 100 from by omega, show ((Y : Int) % 100).toNat = Y % 100 from by omega, Int.toNat_natCast, Int.toNat_natCast, digs_year]
      simp
theorem show_l0 : ∀ (n : Nat) (y d left : Int) (k : Nat), y + n = 2100 → 1970 ≤ y → sinceI y ≤ d → d ≤ 26700 → n + 20 < k →
    ∃ y' k', 1970 ≤ y' ∧ y' ≤ 2100 ∧ sinceI y' ≤ d ∧ d < sinceI (y' + 1) ∧ 20 ≤ k' ∧ stamp_show.l0 k d left y = stamp_show.l1 k' (d - sinceI y') left y' 1 := by
  intro n
  induction n with
  | zero =>
    intro y d left k hy h1 hs hd
    have : y = 2100 := by omega
    subst this
    have : sinceI 2100 = 47482 := by decide
    omega
  | succ n ih =>
    intro y d left k hy h1 hs hd hk
    obtain ⟨k, rfl⟩ : ∃ j, k = j + 1 := ⟨k - 1, by omega⟩
    have hr := since_range y (by omega) (by omega)
    simp only [stamp_show.l0]
    rw [wrap_id (x := y + 1) (by omega) (by omega), since_eq (y + 1) (by omega) (by omega), since_eq y (by omega) (by omega), Option.bind_some, Option.bind_some]
    by_cases c : sinceI (y + 1) ≤ d
    · rw [if_pos c]
      exact ih (y + 1) d left k (by omega) (by omega) c hd (by omega)
    · rw [if_neg c, wrap_id (by omega) (by omega)]
      exact ⟨y, k, h1, by omega, hs, by omega, by omega, rfl⟩
theorem since_start (d : Int) (h0 : 0 ≤ d) (h1 : d ≤ 26700) : sinceI (1970 + d / 366) ≤ d := by
  have := since_mono (d / 366).toNat 1970
  have e : sinceI 1970 = 0 := by decide
  rw [show (1970 : Int) + ((d / 366).toNat : Int) = 1970 + d / 366 by omega] at this
  omega
/-- A second's date and clock. -/
theorem show_eq (S : Int) (h0 : 0 ≤ S) (h1 : S ≤ 2306000000) (k : Nat) (hk : 200 ≤ k) : ∃ l, Shows S l ∧ stamp_show.f k S = some (Bs l) := by
  unfold stamp_show.f
  rw [tdiv_nn h0, tmod_nn h0, wrap_id (x := S / 86400) (by omega) (by omega), tdiv_nn (by omega), wrap_id (x := S / 86400 / 366) (by omega) (by omega), wrap_id (x := 1970 + S / 86400 / 366) (by omega) (by omega)]
  obtain ⟨y, k', a1, a2, a3, a4, a5, a6⟩ := show_l0 (2100 - (1970 + S / 86400 / 366)).toNat (1970 + S / 86400 / 366) (S / 86400) (S % 86400) k (by omega) (by omega) (since_start _ (by omega) (by omega)) (by omega) (by omega)
  have s1 := since_succ y
  have b13 := before_13 y
  have b1 := before_one y
  obtain ⟨m, c1, c2, c3, c4, c5⟩ := show_l1 12 y 1 (S / 86400 - sinceI y) (S % 86400) k' (by omega) (by omega) a1 (by omega) (by omega) (by omega) (by omega) (by omega) (by omega)
  have hbs := before_succ y m (by omega) (by omega)
  refine ⟨_, ⟨y.toNat, m, (S / 86400 - sinceI y - beforeI y m + 1).toNat, ?_, rfl⟩, ?_⟩
  · rw [Int.toNat_of_nonneg (show 0 ≤ y by omega), Int.toNat_of_nonneg (by omega)]
    exact ⟨by omega, by omega, by omega, by omega, by omega⟩
  · rw [a6, c5]
    congr 4
    · omega
    · omega
    · omega
theorem dd_digs : ∀ (k n : Nat), n < 10 ^ k → Lib.decDigits (10 ^ k + n) = 49 :: digsN n k
  | 0, n, h => by
    have : n = 0 := by simpa using h
    subst this
    rw [dd_one _ (by decide)]
    rfl
  | k + 1, n, h => by
    rw [Nat.pow_succ] at h
    have hp : 1 ≤ 10 ^ k := Nat.pow_pos (by decide)
    rw [Nat.pow_succ, dd_step _ (by omega), show (10 ^ k * 10 + n) / 10 = 10 ^ k + n / 10 from by omega, show (10 ^ k * 10 + n) % 10 = n % 10 from by omega, dd_digs k (n / 10) (by omega), digsN]
    rfl
theorem trimR_eq (l : List UInt8) : Lib.trimRightS l [48] = trimZ l := by
  unfold Lib.trimRightS trimZ
  congr 2
  funext b
  by_cases c : b = 48
  · subst c; rfl
  · simp [c]
theorem itoa_nn (n : Int) (h : 0 ≤ n) : Lib.itoa n = Lib.decDigits n.toNat := by
  unfold Lib.itoa
  rw [if_neg (by omega)]
  try rw [show n.natAbs = n.toNat from by omega]
theorem whole_eq (S n : Int) (h0 : 0 ≤ S) (h1 : S ≤ 2306000000) (n0 : 0 ≤ n) (n1 : n < 1000000000) (k : Nat) (hk : 200 ≤ k) : ∃ l, Shows S l ∧ stamp_whole.f k S n = some (Bs (l ++ fracL n.toNat)) := by
  obtain ⟨l, hs, hf⟩ := show_eq S h0 h1 k hk
  refine ⟨l, hs, ?_⟩
  have hl := hs.len
  unfold stamp_whole.f
  rw [hf, Option.bind_some]
  by_cases c : n = 0
  · rw [if_pos c, c]
    simp [fracL]
  · rw [if_neg c, wrap_id (by omega) (by omega)]
    obtain ⟨m, rfl⟩ := Int.eq_ofNat_of_zero_le n0
    have hm : m < 10 ^ 9 := by omega
    have e1 : strconv_Itoa.f (1000000000 + (m : Int)) = some (Bs (49 :: digsN m 9)) := by
      unfold strconv_Itoa.f
      rw [if_pos ⟨by omega, by omega⟩, itoa_nn _ (by omega), show (1000000000 + (m : Int)).toNat = 10 ^ 9 + m from by omega, dd_digs 9 m hm]
      rfl
    have e2 : L ((Bs (49 :: digsN m 9)).extract 1 (Bs (49 :: digsN m 9)).size) = digsN m 9 := by
      rw [L_drop, L_Bs]
      rfl
    have e3 : strings_TrimRight.f ((Bs (49 :: digsN m 9)).extract 1 (Bs (49 :: digsN m 9)).size) (⟨#[48]⟩ : ByteArray) = some (Bs (trimZ (digsN m 9))) := by
      have hsz : ((Bs (49 :: digsN m 9)).extract 1 (Bs (49 :: digsN m 9)).size).size = 9 := by rw [← L_len, e2, digsN_len]
      unfold strings_TrimRight.f
      rw [if_pos ⟨by omega, by decide, by decide⟩]
      rw [show ((Bs (49 :: digsN m 9)).extract 1 (Bs (49 :: digsN m 9)).size).data.toList = digsN m 9 from e2, show (⟨#[48]⟩ : ByteArray).data.toList = [48] from rfl, trimR_eq]
      rfl
    obtain ⟨j, _, hj⟩ := trimZ_back (digsN m 9)
    rw [digsN_len] at hj
    rw [e1, Option.bind_some, e3, Option.bind_some, if_pos (by rw [Bs_size, hl]; decide), if_pos (by rw [Bs_size, List.length_cons]; omega), lit_Bs, Bs_app, if_pos (by rw [Bs_size, Bs_size, List.length_append, hl, List.length_singleton]; omega), Bs_app, Int.toNat_natCast]
    unfold fracL
    rw [if_neg (by omega)]
    simp
/-- The stamp of a time. -/
theorem print_eq (t : Int) (h0 : 0 ≤ t) (h1 : t ≤ 2305843009213693952) (k : Nat) (hk : 200 ≤ k) : ∃ l, Shows (t / 1000000000) l ∧ stamp_Print.f k t = some (Bs (l ++ (fracL (t % 1000000000).toNat ++ [90])), 0) := by
  obtain ⟨l, hs, hf⟩ := whole_eq (t / 1000000000) (t % 1000000000) (by omega) (by omega) (by omega) (by omega) k hk
  refine ⟨l, hs, ?_⟩
  have hl := hs.len
  have hfl : (fracL (t % 1000000000).toNat).length ≤ 10 := by
    unfold fracL
    split
    · simp
    · obtain ⟨j, _, hj⟩ := trimZ_back (digsN (t % 1000000000).toNat 9)
      rw [digsN_len] at hj
      rw [List.length_cons]
      omega
  unfold stamp_Print.f
  rw [if_neg (by omega), if_neg (by omega), tdiv_nn h0, tmod_nn h0, wrap_id (by omega) (by omega), hf, Option.bind_some, if_pos (by rw [Bs_size, List.length_append, hl]; omega), lit_Bs, Bs_app, List.append_assoc]
end Go.Proofs.YtjcenencgnfffaaDoor.StpS
