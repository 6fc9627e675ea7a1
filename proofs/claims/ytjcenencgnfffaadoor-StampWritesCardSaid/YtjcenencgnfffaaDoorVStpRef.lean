/- Layer 3: the reference's digits and its clock. -/
import Derived.Test.YtjcenencgnfffaaDoorVStpRefCal
import Derived.Test.YtjcenencgnfffaaDoorVStpShow
namespace Go.Proofs.YtjcenencgnfffaaDoor.StpS
open Go.RowKit Gong Go.Proofs.YtjcenencgnfffaaDoor.XStW Go.Proofs.YtjcenencgnfffaaDoor.DecS Go.Proofs.YtjcenencgnfffaaDoorW.PrintWords Go.Proofs.YtjcenencgnfffaaDoorW.PrintLast Go.Proofs.YtjcenencgnfffaaDoorW.PrintMore
set_option linter.unusedVariables false
set_option linter.unusedSimpArgs false
theorem one_byte (x : Int) (h0 : 0 ≤ x) (h1 : x < 10) : strOfNums ([(wrap64 (48 + x)) % 256] : List Int) = Bs [UInt8.ofNat (48 + x.toNat)] := by
  obtain ⟨n, rfl⟩ := Int.eq_ofNat_of_zero_le h0
  rw [wrap_id (by omega) (by omega), show (48 + (n : Int)) % 256 = ((48 + n : Nat) : Int) from by omega, Int.toNat_natCast]
  rfl
theorem rdigits_loop (many : Nat) (hm : many ≤ 20) : ∀ (d i n : Nat) (acc : List UInt8) (k : Nat), i + d = many → acc.length = i → n ≤ 4611686018427387904 → d < k → gongref03_digits.l0 k (n : Int) (many : Int) (Bs acc) (i : Int) = some (Bs (digsN n d ++ acc)) := by
  intro d
  induction d with
  | zero =>
    intro i n acc k hi ha hn hk
    obtain ⟨k, rfl⟩ : ∃ m, k = m + 1 := ⟨k - 1, by omega⟩
    simp only [gongref03_digits.l0]
    rw [if_neg (by omega)]
    rfl
  | succ d ih =>
    intro i n acc k hi ha hn hk
    obtain ⟨k, rfl⟩ : ∃ m, k = m + 1 := ⟨k - 1, by omega⟩
    simp only [gongref03_digits.l0]
    rw [if_pos (by omega), tmod_nn (by omega), tdiv_nn (by omega), wrap_id (x := (n : Int) / 10) (by omega) (by omega), wrap_id (x := (i : Int) + 1) (by omega) (by omega), Option.bind_some, one_byte ((n : Int) % 10) (by omega) (by omega), if_pos (by rw [Bs_size, Bs_size, List.length_singleton]; omega), Bs_app,
      show (n : Int) / 10 = ((n / 10 : Nat) : Int) from by omega, show (i : Int) + 1 = ((i + 1 : Nat) : Int) from by omega]
    rw [ih (i + 1) (n / 10) _ k (by omega) (by simp [ha]) (by omega) (by omega), digsN, show ((n : Int) % 10).toNat = n % 10 from by omega]
    simp
theorem rdigits_eq (n : Int) (many : Nat) (hm : many ≤ 20) (h0 : 0 ≤ n) (h1 : n ≤ 4611686018427387904) (k : Nat) (hk : 30 ≤ k) : gongref03_digits.f k n (many : Int) = some (Bs (digsN n.toNat many)) := by
  obtain ⟨m, rfl⟩ := Int.eq_ofNat_of_zero_le h0
  unfold gongref03_digits.f
  have := rdigits_loop many hm many 0 m [] k (by omega) rfl (by omega) (by omega)
  rw [List.append_nil] at this
  rw [Int.toNat_natCast]
  exact this
/-- Noughts taken off the end, one by one. -/
theorem rtrim_loop (a : ByteArray) (ha : a.size = 19) (n : Nat) (hn : n < 1000000000) (h0 : ¬ n = 0) : ∀ (d i : Nat) (x : List UInt8) (k : Nat), i + d = 9 → x.length = 9 - i → x ++ List.replicate i 48 = digsN n 9 → d < k →
    gongref03_clock.l2 k a (Bs x) (i : Int) = some (a ++ Bs (46 :: trimZ (digsN n 9))) := by
  have hv := digsN_val 9 n
  rw [Nat.mod_eq_of_lt (by omega)] at hv
  have fin : ∀ x : List UInt8, x.length ≤ 9 → a ++ (⟨#[46]⟩ : ByteArray) ++ Bs x = a ++ Bs (46 :: x) := by
    intro x _
    apply L_inj
    rw [L_app, L_app, L_app, L_Bs, L_Bs]
    simp [L]
  intro d
  induction d with
  | zero =>
    intro i x k hi hx he hk
    exfalso
    have e : x = [] := List.eq_nil_of_length_eq_zero (by omega)
    rw [e, List.nil_append] at he
    have h2 := val_app0 [] i
    rw [List.nil_append, he, hv, show val [] = 0 from rfl, Nat.zero_mul] at h2
    exact h0 h2
  | succ d ih =>
    intro i x k hi hx he hk
    obtain ⟨k, rfl⟩ : ∃ m, k = m + 1 := ⟨k - 1, by omega⟩
    have hne : x ≠ [] := fun e => by rw [e] at hx; simp at hx; omega
    have hxe := List.dropLast_concat_getLast hne
    have hlast : bt (Bs x) ((x.length : Int) - 1) = ((x.getLast hne).toNat : Int) := by
      have h1 : x.length - 1 < (L (Bs x)).length := by rw [L_Bs]; have := List.length_pos_iff.2 hne; omega
      have := bt_get (Bs x) (x.length - 1) h1
      rw [show ((x.length - 1 : Nat) : Int) = (x.length : Int) - 1 from by have := List.length_pos_iff.2 hne; omega] at this
      rw [this]
      have e2 : (L (Bs x))[x.length - 1]'h1 = x.getLast hne := by
        rw [List.getLast_eq_getElem]
        congr 1
      rw [e2]
    have hlp := List.length_pos_iff.2 hne
    have e1 : (⟨#[46]⟩ : ByteArray).size = 1 := rfl
    simp only [gongref03_clock.l2]
    rw [if_pos (by omega), Bs_size, wrap_id (x := (x.length : Int) - 1) (by omega) (by omega), wrap_id (x := (i : Int) + 1) (by omega) (by omega), if_pos (by omega), if_pos (by omega), hlast]
    by_cases c : x.getLast hne = 48
    · rw [if_pos (by rw [c]; rfl), if_pos (by omega)]
      have e2 : (Bs x).extract 0 (((x.length : Int) - 1) : Int).toNat = Bs x.dropLast := by
        apply L_inj
        rw [L_take, L_Bs, L_Bs, List.dropLast_eq_take]
        congr 1
        omega
      rw [e2, show (i : Int) + 1 = ((i + 1 : Nat) : Int) from by omega]
      refine ih (i + 1) x.dropLast k (by omega) (by rw [List.length_dropLast]; omega) ?_ (by omega)
      rw [← he, List.replicate_succ]
      conv => rhs; rw [← hxe, c]
      simp
    · rw [if_neg (fun h => c (UInt8.toNat_inj.1 (by have e48 : (48 : UInt8).toNat = 48 := rfl; omega))), if_pos (by omega), if_pos (by rw [ByteArray.size_append, e1, ha]; omega), fin x (by omega)]
      congr 3
      have h2 : trimZ (digsN n 9) = x := by
        rw [← he]
        have key : ∀ j, trimZ (x ++ List.replicate j 48) = x := by
          intro j
          induction j with
          | zero =>
            rw [List.replicate_zero, List.append_nil]
            conv => lhs; rw [← hxe]
            rw [trimZ_snoc _ _ c, hxe]
          | succ j ihj => rw [List.replicate_succ', ← List.append_assoc, trimZ_snoc0, ihj]
        exact key i
      rw [h2]
/-- The month and the day. -/
theorem rclock_l1 (t n y : Int) (hy : 0 ≤ y) (hy2 : y ≤ 9999) : ∀ (d : Nat) (i m e : Int) (k : Nat), i + d = 12 → m = i + 1 → 0 ≤ i → 0 ≤ e → e + beforeI y m < beforeI y 13 → d < k →
    ∃ (m' : Nat) (k' : Nat), 1 ≤ m' ∧ m' ≤ 12 ∧ 0 ≤ e + beforeI y m - beforeI y m' ∧ e + beforeI y m - beforeI y m' < daysI y m' ∧ k ≤ k' + d + 2 ∧ gongref03_clock.l1 k t n y e m i = gongref03_clock.j3 k' t n y (e + beforeI y m - beforeI y m') m' := by
  intro d
  induction d with
  | zero =>
    intro i m e k hi hm h0 he hb
    have : m = 13 := by omega
    subst this
    omega
  | succ d ih =>
    intro i m e k hi hm h0 he hb hk
    obtain ⟨k, rfl⟩ : ∃ j, k = j + 1 := ⟨k - 1, by omega⟩
    have hs := before_succ y m (by omega) (by omega)
    have hdp := days_pos y m
    have hbr := before_range y 13
    have hbr2 := before_range y m
    simp only [gongref03_clock.l1]
    by_cases hk1 : 1 ≤ k
    · rw [if_pos (by omega), rdays_eq y m hy k hk1, Option.bind_some]
      by_cases c : e ≥ daysI y m
      · rw [if_pos c, Option.bind_some, wrap_id (x := e - daysI y m) (by omega) (by omega), wrap_id (x := m + 1) (by omega) (by omega), wrap_id (x := i + 1) (by omega) (by omega)]
        obtain ⟨m', k', a1, a2, a3, a4, a5, a6⟩ := ih (i + 1) (m + 1) (e - daysI y m) k (by omega) (by omega) (by omega) (by omega) (by omega) (by omega)
        rw [show e - daysI y m + beforeI y (m + 1) = e + beforeI y m from by omega] at a3 a4 a6
        exact ⟨m', k', a1, a2, a3, a4, by omega, a6⟩
      · rw [if_neg c]
        obtain ⟨q, rfl⟩ := Int.eq_ofNat_of_zero_le (show 0 ≤ m by omega)
        refine ⟨q, k, by omega, by omega, by omega, by omega, by omega, ?_⟩
        congr 1
        omega
    · omega
theorem rclock_l0 (t n d : Int) (hd : d ≤ 26700) : ∀ (r : Nat) (y i : Int) (k : Nat), y + r = 2100 → i = y - 1970 → 1970 ≤ y → sinceI y ≤ d → r + 300 < k →
    ∃ y' k', 1970 ≤ y' ∧ y' ≤ 2100 ∧ sinceI y' ≤ d ∧ d < sinceI (y' + 1) ∧ 290 ≤ k' ∧ gongref03_clock.l0 k t n y d i = gongref03_clock.j1 k' t n y' d := by
  intro r
  induction r with
  | zero =>
    intro y i k hy hi h0 hs
    have : y = 2100 := by omega
    subst this
    have : sinceI 2100 = 47482 := by decide
    omega
  | succ r ih =>
    intro y i k hy hi h0 hs hk
    obtain ⟨k, rfl⟩ : ∃ j, k = j + 1 := ⟨k - 1, by omega⟩
    simp only [gongref03_clock.l0]
    rw [if_pos (by omega), wrap_id (x := y + 1) (by omega) (by omega), rpast_eq (y + 1) (by omega) (by omega) k (by omega), Option.bind_some]
    by_cases c : d ≥ sinceI (y + 1)
    · rw [if_pos c, wrap_id (x := i + 1) (by omega) (by omega)]
      exact ih (y + 1) (i + 1) k (by omega) (by omega) (by omega) c (by omega)
    · rw [if_neg c]
      exact ⟨y, k, h0, by omega, hs, by omega, by omega, rfl⟩
/-- The reference's date and clock. -/
theorem rclock_eq (S n : Int) (h0 : 0 ≤ S) (h1 : S ≤ 2306000000) (n0 : 0 ≤ n) (n1 : n < 1000000000) (k : Nat) (hk : 800 ≤ k) : ∃ l, Shows S l ∧ gongref03_clock.f k S n = some (Bs (l ++ fracL n.toNat)) := by
  unfold gongref03_clock.f
  rw [tdiv_nn h0, wrap_id (x := S / 86400) (by omega) (by omega)]
  obtain ⟨y, k1, a1, a2, a3, a4, a5, a6⟩ := rclock_l0 S n (S / 86400) (by omega) 130 1970 0 k (by omega) (by omega) (by omega) (by rw [show sinceI 1970 = 0 from by decide]; omega) (by omega)
  have s1 := since_succ y
  have b13 := before_13 y
  have b1 := before_one y
  have hr := since_range y (by omega) (by omega)
  obtain ⟨k2, rfl⟩ : ∃ j, k1 = j + 1 := ⟨k1 - 1, by omega⟩
  rw [a6]
  simp only [gongref03_clock.j1]
  rw [rpast_eq y a1 (by omega) k2 (by omega), Option.bind_some, wrap_id (by omega) (by omega)]
  obtain ⟨m, k3, c1, c2, c3, c4, c5, c6⟩ := rclock_l1 S n y (by omega) (by omega) 12 0 1 (S / 86400 - sinceI y) k2 (by omega) (by omega) (by omega) (by omega) (by omega) (by omega)
  rw [b1, Int.add_zero] at c3 c4 c6
  have hdp := days_pos y m
  refine ⟨_, ⟨y.toNat, m, (S / 86400 - sinceI y - beforeI y m + 1).toNat, ?_, rfl⟩, ?_⟩
  · rw [Int.toNat_of_nonneg (show 0 ≤ y by omega), Int.toNat_of_nonneg (by omega)]
    exact ⟨by omega, by omega, by omega, by omega, by omega⟩
  · obtain ⟨k4, rfl⟩ : ∃ j, k3 = j + 1 := ⟨k3 - 1, by omega⟩
    rw [c6]
    simp only [gongref03_clock.j3]
    have E := show S / 86400 - sinceI y - beforeI y m + 1 ≤ 31 by omega
    generalize hq : S / 86400 - sinceI y - beforeI y m = q at c3 c4 E ⊢
    obtain ⟨Y, rfl⟩ := Int.eq_ofNat_of_zero_le (show 0 ≤ y by omega)
    have d4 := rdigits_eq (Y : Int) 4 (by omega) (by omega) (by omega) k4 (by omega)
    have dm := rdigits_eq (m : Int) 2 (by omega) (by omega) (by omega) k4 (by omega)
    have dq := rdigits_eq (q + 1) 2 (by omega) (by omega) (by omega) k4 (by omega)
    have dh := rdigits_eq (S / 3600 % 24) 2 (by omega) (by omega) (by omega) k4 (by omega)
    have di := rdigits_eq (S / 60 % 60) 2 (by omega) (by omega) (by omega) k4 (by omega)
    have dc := rdigits_eq (S % 60) 2 (by omega) (by omega) (by omega) k4 (by omega)
    have dn := rdigits_eq n 9 (by omega) (by omega) (by omega) k4 (by omega)
    have e4 : ((4 : Nat) : Int) = 4 := rfl
    have e2 : ((2 : Nat) : Int) = 2 := rfl
    have e9 : ((9 : Nat) : Int) = 9 := rfl
    rw [e4] at d4; rw [e2] at dm dq dh di dc; rw [e9] at dn
    rw [tdiv_nn h0, tdiv_nn h0, wrap_id (x := S / 3600) (by omega) (by omega), wrap_id (x := S / 60) (by omega) (by omega), tmod_nn (show 0 ≤ S / 3600 by omega), tmod_nn (show 0 ≤ S / 60 by omega), tmod_nn h0, wrap_id (x := q + 1) (by omega) (by omega), d4, dm, dq, dh, di, dc, dn]
    simp only [Option.bind_some, lit_Bs, Bs_app, Bs_size, List.length_append, digsN_len, List.length_cons, List.length_nil]
    repeat rw [if_pos (by decide)]
    have hbase : ∀ z : List UInt8, digsN ((Y : Int).toNat) 4 ++ [45] ++ digsN ((m : Int).toNat) 2 ++ [45] ++ digsN ((q + 1).toNat) 2 ++ [84] ++ digsN ((S / 3600 % 24).toNat) 2 ++ [58] ++ digsN ((S / 60 % 60).toNat) 2 ++ [58] ++ digsN ((S % 60).toNat) 2 = showL (Y : Int).toNat m (q + 1).toNat (S / 3600 % 24).toNat (S / 60 % 60).toNat (S % 60).toNat := by
      intro z
      unfold showL
      rw [Int.toNat_natCast, Int.toNat_natCast]
      simp
    rw [hbase []]
    have hsl := showL_len (Y : Int).toNat m (q + 1).toNat (S / 3600 % 24).toNat (S / 60 % 60).toNat (S % 60).toNat
    by_cases c : n = 0
    · rw [if_pos c, c]
      simp [fracL]
    · rw [if_neg c]
      have := rtrim_loop (Bs (showL (Y : Int).toNat m (q + 1).toNat (S / 3600 % 24).toNat (S / 60 % 60).toNat (S % 60).toNat)) (by rw [Bs_size, hsl]) n.toNat (by omega) (by omega) 9 0 (digsN n.toNat 9) k4 (by omega) (digsN_len 9 _) (by simp) (by omega)
      rw [Int.natCast_zero] at this
      rw [this, Bs_app]
      unfold fracL
      rw [if_neg (by omega)]
end Go.Proofs.YtjcenencgnfffaaDoor.StpS
