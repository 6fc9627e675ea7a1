/- 'gonglaw05.BerWrites': what the printed function answers is true. -/
import Derived.Test.YteidlffajcogcaaBerBasic
import Derived.Test.YteidlffajcogcaaBerNum
namespace Go.Proofs.Yteidlffajcogcaa.Pure
open Go.RowKit Gong Go.Proofs.Yteidlffajcogcaa.XBer Go.Proofs.Yteidlffajcogcaa.BerS Go.Proofs.YteidlffajcogcaaW.PrintWords Go.Proofs.YteidlffajcogcaaW.PrintLast Go.Proofs.YteidlffajcogcaaW.PrintMore
set_option linter.unusedVariables false
set_option linter.unusedSimpArgs false
theorem Bs_app (a b : List UInt8) : Bs a ++ Bs b = Bs (a ++ b) := by apply L_inj; rw [L_append, L_Bs, L_Bs, L_Bs]
def u8 (x : Int) : UInt8 := UInt8.ofNat (x % 256).toNat
theorem one_byte (x : Int) : strOfNums [x % 256] = Bs [u8 x] := rfl
/-- The last w bytes of a number. -/
def last : Nat → Nat → List UInt8
  | n, 0 => []
  | n, w + 1 => last (n / 256) w ++ [u8 (n : Int)]
theorem last_len : ∀ (w n : Nat), (last n w).length = w
  | 0, _ => rfl
  | w + 1, n => by rw [last, List.length_append, last_len w]; rfl
theorem last_wide (n w : Nat) (hw : w ≤ 8) : wideB n w = last n w := by
  have hr : List.range 8 = [0, 1, 2, 3, 4, 5, 6, 7] := rfl
  have q1 : (2 : Int) ^ 8 = 256 := rfl
  have q2 : (2 : Int) ^ 16 = 65536 := rfl
  have q3 : (2 : Int) ^ 24 = 16777216 := rfl
  have hw' : w = 0 ∨ w = 1 ∨ w = 2 ∨ w = 3 ∨ w = 4 ∨ 5 ≤ w := by omega
  have d2 : n / 256 / 256 = n / 65536 := by omega
  have d3 : n / 65536 / 256 = n / 16777216 := by omega
  have d4 : n / 16777216 / 256 = n / 4294967296 := by omega
  have d5 : n / 4294967296 / 256 = n / 1099511627776 := by omega
  have d6 : n / 1099511627776 / 256 = n / 281474976710656 := by omega
  have d7 : n / 281474976710656 / 256 = n / 72057594037927936 := by omega
  have q4 : (2 : Int) ^ 32 = 4294967296 := rfl
  have q5 : (2 : Int) ^ 40 = 1099511627776 := rfl
  have q6 : (2 : Int) ^ 48 = 281474976710656 := rfl
  have q7 : (2 : Int) ^ 56 = 72057594037927936 := rfl
  have h : w = 0 ∨ w = 1 ∨ w = 2 ∨ w = 3 ∨ w = 4 ∨ w = 5 ∨ w = 6 ∨ w = 7 ∨ w = 8 := by omega
  rcases h with rfl | rfl | rfl | rfl | rfl | rfl | rfl | rfl | rfl <;> simp [wideB, bytes8, hr, last, u8, q1, q2, q3, q4, q5, q6, q7, d2, d3, d4, d5, d6, d7]
theorem padded_eq : ∀ (r i w n k : Nat) (acc : List UInt8), r + i = w → w ≤ 8 → n < 4294967296 → r + 2 ≤ k → acc.length + r ≤ 100 → gongref01_Padded.l0 k (n : Int) (w : Int) (Bs acc) (i : Int) = some (Bs (last n r ++ acc))
  | 0, i, w, n, k, acc, hi, hw, hn, hk, ha => by
    obtain ⟨k, rfl⟩ : ∃ m, k = m + 1 := ⟨k - 1, by omega⟩
    simp only [gongref01_Padded.l0]
    rw [if_neg (by omega)]
    rfl
  | r + 1, i, w, n, k, acc, hi, hw, hn, hk, ha => by
    obtain ⟨k, rfl⟩ : ∃ m, k = m + 1 := ⟨k - 1, by omega⟩
    simp only [gongref01_Padded.l0]
    have e : Int.tmod (n : Int) 256 % 256 = (n : Int) % 256 := by rw [Int.tmod_eq_emod_of_nonneg (by omega)]; omega
    have e2 : wrap64 (Int.tdiv (n : Int) 256) = ((n / 256 : Nat) : Int) := by rw [Int.tdiv_eq_ediv_of_nonneg (by omega), wrap_id (by omega) (by omega)]; omega
    rw [if_pos (by omega)]
    simp only [Option.bind_some]
    rw [e, e2, one_byte, if_pos (by rw [size_Bs, size_Bs]; simp; omega), Bs_app, wrap_id (by omega) (by omega), show (i : Int) + 1 = ((i + 1 : Nat) : Int) from by omega]
    rw [padded_eq r (i + 1) w (n / 256) k ([u8 (n : Int)] ++ acc) (by omega) hw (by omega) (by omega) (by simp; omega)]
    simp [last]
theorem short_eq (n k : Nat) (hn : n < 4294967296) (hk : 30 ≤ k) : gongref05_short.f k (n : Int) = some (Bs (lenEnc n)) := by
  unfold gongref05_short.f lenEnc
  by_cases h : n < 128
  · rw [if_pos (by omega), if_pos h, one_byte]
    congr 3
    unfold u8
    congr 1
    omega
  · rw [if_neg (by omega), if_neg h]
    obtain ⟨h1, h4, h5⟩ := nby_le n hn
    have step : ∀ (r w k : Nat), r + w = nby n → 1 ≤ w → r + 20 ≤ k → gongref05_short.l0 k (n : Int) (w : Int) = some (Bs (UInt8.ofNat (128 + nby n) :: wideB n (nby n))) := by
      intro r
      induction r with
      | zero =>
        intro w k hw hw1 hk
        obtain ⟨k, rfl⟩ : ∃ m, k = m + 1 := ⟨k - 1, by omega⟩
        have hw : w = nby n := by omega
        subst hw
        have e8 : wrap64 (8 * ((nby n : Nat) : Int)) = 8 * ((nby n : Nat) : Int) := wrap_id (by omega) (by omega)
        have hs := shr8 n (nby n) (by omega)
        simp only [gongref05_short.l0]
        rw [hs, Nat.div_eq_of_lt h5, if_pos (by rw [e8]; omega), if_neg (by decide)]
        simp only [Option.bind_some]
        have hp := padded_eq (nby n) 0 (nby n) n k [] (by omega) (by omega) hn (by omega) (by simp; omega)
        rw [List.append_nil, ← last_wide n (nby n) (by omega)] at hp
        unfold gongref01_Padded.f
        rw [show (⟨#[]⟩ : ByteArray) = Bs [] from rfl, show (0 : Int) = ((0 : Nat) : Int) from rfl, hp]
        simp only [Option.bind_some]
        have e1 : wrap64 (128 + ((nby n : Nat) : Int)) = ((128 + nby n : Nat) : Int) := by rw [wrap_id (by omega) (by omega)]; omega
        rw [e1, one_byte, if_pos (by rw [size_Bs, size_Bs, wideB_len _ _ (by omega)]; simp; omega), Bs_app]
        have e2 : u8 ((128 + nby n : Nat) : Int) = UInt8.ofNat (128 + nby n) := by unfold u8; congr 1; omega
        rw [e2]
        rfl
      | succ r ih =>
        intro w k hw hw1 hk
        obtain ⟨k, rfl⟩ : ∃ m, k = m + 1 := ⟨k - 1, by omega⟩
        have e8 : wrap64 (8 * (w : Int)) = 8 * (w : Int) := wrap_id (by omega) (by omega)
        have hs := shr8 n w (by omega)
        have hge : 256 ^ w ≤ n := by
          have p1 : 256 ^ 1 = 256 := rfl
          have p2 : 256 ^ 2 = 65536 := rfl
          have p3 : 256 ^ 3 = 16777216 := rfl
          have hw' : w = 1 ∨ w = 2 ∨ w = 3 := by omega
          unfold nby at hw
          rcases hw' with rfl | rfl | rfl
          · rw [p1]; repeat' split at hw
            all_goals omega
          · rw [p2]; repeat' split at hw
            all_goals omega
          · rw [p3]; repeat' split at hw
            all_goals omega
        have hpos : 0 < n / 256 ^ w := Nat.div_pos hge (Nat.pow_pos (by decide))
        simp only [gongref05_short.l0]
        rw [hs, if_pos (by rw [e8]; omega), if_pos (by omega), wrap_id (by omega) (by omega), show (w : Int) + 1 = ((w + 1 : Nat) : Int) from by omega]
        exact ih (w + 1) k (by omega) (by omega) (by omega)
    exact step (nby n - 1) 1 k (by omega) (by omega) (by omega)
theorem refPut_eq (t : Nat) (b : List UInt8) (ht : t < 256) (hb : b.length ≤ 100000) (k : Nat) (hk : 30 ≤ k) : gongref05_Put.f k (t : Int) (Bs b) = some (Bs (enc t b)) := by
  unfold gongref05_Put.f
  simp only [Option.bind_some]
  have hl := lenEnc_len b.length
  have h3 := (nby_le b.length (by omega)).2.1
  have h9 : (lenEnc b.length).length ≤ 5 := by split at hl <;> omega
  rw [size_Bs, short_eq _ k (by omega) hk]
  simp only [Option.bind_some]
  rw [one_byte, if_pos (by rw [size_Bs, size_Bs]; simp only [List.length_cons, List.length_nil]; omega), Bs_app, if_pos (by rw [size_Bs, List.length_append]; simp only [List.length_cons, List.length_nil]; omega), Bs_app]
  have e : u8 (t : Int) = UInt8.ofNat t := by unfold u8; congr 1; omega
  rw [e]
  simp [enc]
theorem wrap_same (a0 : Int) (b : List UInt8) (hb : b.length ≤ 100000) (k : Nat) (hk : 30 ≤ k) : ∃ r, ber_Wrap.f k a0 (Bs b) = some r ∧ gongref05_Wrap.f k a0 (Bs b) = some r := by
  unfold gongref05_Wrap.f
  by_cases h : 0 ≤ a0 ∧ a0 ≤ 255
  · obtain ⟨t, rfl⟩ : ∃ t : Nat, a0 = (t : Int) := ⟨a0.toNat, by omega⟩
    have e1 := isTag_eq t (by omega)
    have e2 : gongref05_IsTag.f (t : Int) = some (decide (t % 32 ≠ 31)) := by
      unfold gongref05_IsTag.f
      rw [if_pos (by omega), if_pos (by omega), Int.tmod_eq_emod_of_nonneg (by omega)]
      congr 1
      rw [Bool.eq_iff_iff]
      simp
      omega
    by_cases h31 : t % 32 = 31
    · refine ⟨(⟨#[]⟩, 1), ?_, ?_⟩
      · unfold ber_Wrap.f
        rw [e1]
        simp [h31]
      · rw [e2]
        simp [h31]
    · refine ⟨(Bs (enc t b), 0), wrap_at t b (by omega) h31 (by omega) k (by omega), ?_⟩
      rw [e2]
      simp only [Option.bind_some]
      rw [if_pos (by simp [h31]), if_neg (by rw [size_Bs]; omega), refPut_eq t b (by omega) hb k hk]
      rfl
  · refine ⟨(⟨#[]⟩, 1), ?_, ?_⟩
    · unfold ber_Wrap.f ber_isTag.f
      by_cases h0 : a0 ≥ 0
      · rw [if_pos h0, if_neg (by omega)]
        rfl
      · rw [if_neg h0]
        rfl
    · unfold gongref05_IsTag.f
      by_cases h0 : a0 ≥ 0
      · rw [if_pos h0, if_neg (by omega)]
        rfl
      · rw [if_neg h0]
        rfl
theorem refTrim : ∀ (l : List UInt8) (i k : Nat), l.length + i = 8 → i ≤ 7 → l.length + 2 ≤ k → gongref05_PutNumber.l1 k (Bs l) (i : Int) = some (Bs (trimS l))
  | [], i, k, hl, hi, hk => by simp at hl; omega
  | [a], i, k, hl, hi, hk => by
    obtain ⟨k, rfl⟩ : ∃ m, k = m + 1 := ⟨k - 1, by omega⟩
    simp only [List.length_cons, List.length_nil] at hl
    simp only [gongref05_PutNumber.l1]
    rw [if_neg (by omega)]
    rfl
  | a :: b :: r, i, k, hl, hi, hk => by
    simp only [List.length_cons] at hl hk
    obtain ⟨k, rfl⟩ : ∃ m, k = m + 1 := ⟨k - 1, by omega⟩
    have ih := refTrim (b :: r) (i + 1) k (by simp only [List.length_cons]; omega) (by omega) (by simp only [List.length_cons]; omega)
    have ea : bt (Bs (a :: b :: r)) 0 = (a.toNat : Int) := by rw [bt_L]; rfl
    have eb : bt (Bs (a :: b :: r)) 1 = (b.toNat : Int) := by rw [bt_L]; rfl
    have es : (Bs (a :: b :: r)).extract 1 (Bs (a :: b :: r)).size = Bs (b :: r) := by
      apply L_inj; rw [L_extract, L_Bs, L_Bs, size_Bs, List.take_of_length_le (Nat.le_refl _)]; rfl
    have s0 : (0 : Int) < ((Bs (a :: b :: r)).size : Int) := by rw [size_Bs]; simp only [List.length_cons]; omega
    have s1 : (1 : Int) < ((Bs (a :: b :: r)).size : Int) := by rw [size_Bs]; simp only [List.length_cons]; omega
    have s2 : (1 : Int) ≤ ((Bs (a :: b :: r)).size : Int) := by omega
    have hw : wrap64 ((i : Int) + 1) = ((i + 1 : Nat) : Int) := by rw [wrap_id (by omega) (by omega)]; omega
    have ha := a.toNat_lt
    have hb := b.toNat_lt
    simp only [gongref05_PutNumber.l1]
    rw [if_pos (by omega)]
    simp only [s0, s1, s2, if_true, ea, eb, es, hw, ih]
    have hsp : spareS (a :: b :: r) = ((decide (a.toNat = 0) && decide (b.toNat < 128)) || (decide (a.toNat = 255) && decide (128 ≤ b.toNat))) := rfl
    have htr : trimS (a :: b :: r) = if spareS (a :: b :: r) = true then trimS (b :: r) else a :: b :: r := rfl
    rw [htr, hsp]
    by_cases h0 : a.toNat = 0
    · rw [if_pos (by omega)]
      by_cases h1 : b.toNat < 128
      · rw [if_pos (by omega)]; simp [h0, h1]
      · rw [if_neg (by omega), if_neg (by omega)]; simp [h0, h1]
    · rw [if_neg (by omega)]
      by_cases h2 : a.toNat = 255
      · rw [if_pos (by omega)]
        by_cases h3 : 128 ≤ b.toNat
        · rw [if_pos (by omega)]; simp [h2, h3]
        · rw [if_neg (by omega)]; simp [h2, h3]
      · rw [if_neg (by omega)]; simp [h0, h2]
theorem shrI (n : Int) (j : Nat) (hj : j ≤ 7) (kd : IntKind) (hk : kd.bits = 64) : shr kd n (8 * (j : Int)) = n / 2 ^ (8 * j) := by
  unfold shr
  have e : (8 * (j : Int)).toNat = 8 * j := by omega
  rw [e, hk, Nat.min_eq_left (by omega)]
theorem refNumber (n : Int) (k : Nat) (hk : 20 ≤ k) : gongref05_PutNumber.f k n = some (Bs (trimS (W8 n))) := by
  obtain ⟨k, rfl⟩ : ∃ m, k = m + 9 := ⟨k - 9, by omega⟩
  have ht := refTrim (W8 n) 0 k (by rw [W8_len]) (by omega) (by rw [W8_len]; omega)
  have st : ∀ (j k : Nat) (acc : List UInt8), j ≤ 7 → acc.length ≤ 10 → gongref05_PutNumber.l0 (k + 1) n (Bs acc) (j : Int) = gongref05_PutNumber.l0 k n (Bs (acc ++ [u8 (n / 2 ^ (8 * j))])) ((j : Int) - 1) := by
    intro j k acc hj ha
    simp only [gongref05_PutNumber.l0]
    rw [if_pos (by omega), wrap_id (by omega) (by omega), if_pos (by omega), shrI n j hj .i64 rfl]
    simp only [Option.bind_some]
    rw [one_byte, if_pos (by rw [size_Bs, size_Bs]; simp; omega), Bs_app, wrap_id (by omega) (by omega)]
  unfold gongref05_PutNumber.f
  refine (st 7 (k + 8) [] (by omega) (by simp)).trans ?_
  refine (st 6 (k + 7) _ (by omega) (by simp)).trans ?_
  refine (st 5 (k + 6) _ (by omega) (by simp)).trans ?_
  refine (st 4 (k + 5) _ (by omega) (by simp)).trans ?_
  refine (st 3 (k + 4) _ (by omega) (by simp)).trans ?_
  refine (st 2 (k + 3) _ (by omega) (by simp)).trans ?_
  refine (st 1 (k + 2) _ (by omega) (by simp)).trans ?_
  refine (st 0 (k + 1) _ (by omega) (by simp)).trans ?_
  simp only [gongref05_PutNumber.l0]
  rw [if_neg (by omega)]
  exact ht
theorem ref9 (n : Int) (k : Nat) (hk : 20 ≤ k) : gongref05_PutNumber9.f k n = some (Bs (W8 n)) := by
  obtain ⟨k, rfl⟩ : ∃ m, k = m + 9 := ⟨k - 9, by omega⟩
  have st : ∀ (j k : Nat) (acc : List UInt8), j ≤ 7 → acc.length ≤ 10 → gongref05_PutNumber9.l0 (k + 1) n (Bs acc) (j : Int) = gongref05_PutNumber9.l0 k n (Bs (acc ++ [u8 (n / 2 ^ (8 * j))])) ((j : Int) - 1) := by
    intro j k acc hj ha
    simp only [gongref05_PutNumber9.l0]
    rw [if_pos (by omega), wrap_id (by omega) (by omega), if_pos (by omega), shrI n j hj .u64 rfl]
    simp only [Option.bind_some]
    rw [one_byte, if_pos (by rw [size_Bs, size_Bs]; simp; omega), Bs_app, wrap_id (by omega) (by omega)]
  unfold gongref05_PutNumber9.f
  refine (st 7 (k + 8) [] (by omega) (by simp)).trans ?_
  refine (st 6 (k + 7) _ (by omega) (by simp)).trans ?_
  refine (st 5 (k + 6) _ (by omega) (by simp)).trans ?_
  refine (st 4 (k + 5) _ (by omega) (by simp)).trans ?_
  refine (st 3 (k + 4) _ (by omega) (by simp)).trans ?_
  refine (st 2 (k + 3) _ (by omega) (by simp)).trans ?_
  refine (st 1 (k + 2) _ (by omega) (by simp)).trans ?_
  refine (st 0 (k + 1) _ (by omega) (by simp)).trans ?_
  simp only [gongref05_PutNumber9.l0]
  rw [if_neg (by omega)]
  rfl
theorem refUnsigned (n : Int) (h0 : 0 ≤ n) (h1 : n ≤ 18446744073709551615) (k : Nat) (hk : 20 ≤ k) : gongref05_PutUnsigned.f k n = some (Bs (trimS (0 :: W8 n))) := by
  have q7 : (2 : Int) ^ 56 = 72057594037927936 := rfl
  have hb := u8_ofInt (n / 2 ^ 56 % 256) (by omega) (by omega)
  have hs : spareS (0 :: W8 n) = decide (n < 9223372036854775808) := by
    rw [W8_eq]
    simp only [spareS]
    rw [q7] at hb
    rw [q7]
    rw [Bool.eq_iff_iff]
    simp
    simp at hb
    omega
  unfold gongref05_PutUnsigned.f
  rw [trimS, hs]
  by_cases h : n ≥ 9223372036854775808
  · rw [if_pos h, ref9 n k hk]
    simp only [Option.bind_some]
    rw [if_pos (by rw [size_Bs, W8_len]; omega), if_neg (by simp; omega), show (⟨#[0]⟩ : ByteArray) = Bs [0] from rfl, Bs_app]
    rfl
  · rw [if_neg h, wrap_id (by omega) (by omega), refNumber n k hk, if_pos (by simp; omega)]
    rfl
theorem BerWrites : gonglaw05_BerWrites.Pure := by
  intro a0 a1 a2 h0 h1 h2
  obtain ⟨K1, hw⟩ := works_at
  have hwf := wf_i64 h2
  refine ⟨K1 + 40, ?_⟩
  unfold gonglaw05_BerWrites.f
  rw [hw _ (by omega)]
  by_cases hb : (a1.size : Int) > 100000
  · rw [if_pos hb]
    rfl
  · obtain ⟨r, e1, e2⟩ := wrap_same a0 (L a1) (by rw [← size_L]; omega) (K1 + 40) (by omega)
    rw [Bs_L] at e1 e2
    have e : IntKind.u64.wrap a2 = a2 % 18446744073709551616 := by
      simp [IntKind.wrap, IntKind.bits, IntKind.signed]
    rw [if_neg hb, e1, e2, e, putN _ _ (by omega), refNumber _ _ (by omega), putU _ _ (by omega), refUnsigned _ (by omega) (by omega) _ (by omega)]
    simp
end Go.Proofs.Yteidlffajcogcaa.Pure
