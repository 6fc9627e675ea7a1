/- Layer 5: whole numbers in their shortest forms, and back. -/
import Derived.Test.YteidlffajcogcaaBerPut
import Derived.Test.YteidlffajcogcaaXBerx6
import Derived.Test.YteidlffajcogcaaXBerx7
import Derived.Test.YteidlffajcogcaaXBerx8
namespace Go.Proofs.Yteidlffajcogcaa.BerS
open Go.RowKit Gong Go.Proofs.Yteidlffajcogcaa.XBer Go.Proofs.YteidlffajcogcaaW.PrintWords Go.Proofs.YteidlffajcogcaaW.PrintLast Go.Proofs.YteidlffajcogcaaW.PrintMore
set_option linter.unusedVariables false
set_option linter.unusedSimpArgs false
/-- The first byte tells nothing. -/
def spareS : List UInt8 → Bool
  | a :: b :: _ => (a.toNat = 0 && decide (b.toNat < 128)) || (a.toNat = 255 && decide (128 ≤ b.toNat))
  | _ => false
theorem spare_eq (s : ByteArray) : ber_spare.f s = some (spareS (L s)) := by
  unfold ber_spare.f
  have hs := size_L s
  cases h : L s with
  | nil => rw [h] at hs; rw [if_neg (by rw [hs]; decide)]; rfl
  | cons a l =>
    cases l with
    | nil => rw [h] at hs; rw [if_neg (by rw [hs]; simp)]; rfl
    | cons b r =>
      rw [h] at hs
      simp only [List.length_cons] at hs
      have ea : bt s 0 = (a.toNat : Int) := by rw [bt_L, h]; rfl
      have eb : bt s 1 = (b.toNat : Int) := by rw [bt_L, h]; rfl
      have ha := a.toNat_lt
      have hb := b.toNat_lt
      rw [if_pos (by omega), if_pos (by omega), ea, eb]
      simp only [spareS]
      have h1s : (1 : Int) < (s.size : Int) := by omega
      simp only [h1s, if_true]
      by_cases h0 : a.toNat = 0
      · rw [if_pos (by omega)]
        by_cases h1 : b.toNat < 128
        · rw [if_pos (by omega)]; simp [h0, h1]
        · rw [if_neg (by omega), if_neg (by omega)]; simp [h0, h1]
      · rw [if_neg (by omega)]
        by_cases h2 : a.toNat = 255
        · rw [if_pos (by omega)]
          congr 1
          rw [Bool.eq_iff_iff]
          simp [h0, h2]
          omega
        · rw [if_neg (by omega)]; simp [h0, h2]
/-- Without the spare bytes in front. -/
def trimS : List UInt8 → List UInt8
  | [] => []
  | a :: l => if spareS (a :: l) = true then trimS l else a :: l
theorem trim_at : ∀ (l : List UInt8) (k : Nat), l.length < k → ber_trimmed.l0 k (Bs l) = some (Bs (trimS l))
  | [], k, h => by
    obtain ⟨k, rfl⟩ : ∃ m, k = m + 1 := ⟨k - 1, by omega⟩
    simp only [ber_trimmed.l0]
    rw [spare_eq, L_Bs]
    rfl
  | a :: l, k, h => by
    simp only [List.length_cons] at h
    obtain ⟨k, rfl⟩ : ∃ m, k = m + 1 := ⟨k - 1, by omega⟩
    simp only [ber_trimmed.l0]
    rw [spare_eq, L_Bs]
    simp only [Option.bind_some, trimS]
    by_cases hs : spareS (a :: l) = true
    · have e : (Bs (a :: l)).extract 1 (Bs (a :: l)).size = Bs l := by
        apply L_inj; rw [L_extract, L_Bs, L_Bs, size_Bs, List.take_of_length_le (Nat.le_refl _)]; rfl
      rw [if_pos hs, if_pos hs, if_pos (by rw [size_Bs]; simp only [List.length_cons]; omega), e]
      exact trim_at l k (by omega)
    · rw [if_neg hs, if_neg hs]
theorem onto_cons (n : Int) (b : UInt8) (l : List UInt8) : onto n (b :: l) = onto (n * 256 + (b.toNat : Int)) l := rfl
theorem trim_sNum : ∀ l : List UInt8, sNum (trimS l) = sNum l
  | [] => rfl
  | a :: l => by
    rw [trimS]
    by_cases hs : spareS (a :: l) = true
    · rw [if_pos hs, trim_sNum l]
      cases l with
      | nil => simp [spareS] at hs
      | cons b r =>
        show onto (sByte (b.toNat : Int)) r = onto (sByte (a.toNat : Int)) (b :: r)
        rw [onto_cons]
        congr 1
        simp [spareS] at hs
        have hb := b.toNat_lt
        unfold sByte
        rcases hs with ⟨h1, h2⟩ | ⟨h1, h2⟩
        · rw [h1]; simp; omega
        · rw [h1]; simp; omega
    · rw [if_neg hs]
theorem trim_spare : ∀ l : List UInt8, spareS (trimS l) = false
  | [] => rfl
  | a :: l => by
    rw [trimS]
    by_cases hs : spareS (a :: l) = true
    · rw [if_pos hs]; exact trim_spare l
    · rw [if_neg hs]; simpa using hs
theorem trim_len : ∀ l : List UInt8, (trimS l).length ≤ l.length ∧ ((trimS l).length = l.length → trimS l = l) ∧ (l ≠ [] → trimS l ≠ [])
  | [] => ⟨Nat.le_refl _, fun _ => rfl, fun h => h⟩
  | a :: l => by
    rw [trimS]
    have ih := trim_len l
    by_cases hs : spareS (a :: l) = true
    · rw [if_pos hs]
      simp only [List.length_cons]
      refine ⟨by omega, fun h => by omega, fun _ => ih.2.2 ?_⟩
      intro h
      rw [h] at hs
      simp [spareS] at hs
    · rw [if_neg hs]
      exact ⟨Nat.le_refl _, fun _ => rfl, fun h => h⟩
/-- The eight bytes of a number. -/
def W8 (n : Int) : List UInt8 := (bytes8 n).map fun x => UInt8.ofNat x.toNat
theorem W8_eq (n : Int) : W8 n = [UInt8.ofNat (n / 2 ^ 56 % 256).toNat, UInt8.ofNat (n / 2 ^ 48 % 256).toNat, UInt8.ofNat (n / 2 ^ 40 % 256).toNat, UInt8.ofNat (n / 2 ^ 32 % 256).toNat, UInt8.ofNat (n / 2 ^ 24 % 256).toNat, UInt8.ofNat (n / 2 ^ 16 % 256).toNat, UInt8.ofNat (n / 2 ^ 8 % 256).toNat, UInt8.ofNat (n / 2 ^ 0 % 256).toNat] := rfl
theorem onto_W8 (m n : Int) : onto m (W8 n) = m * 18446744073709551616 + n % 18446744073709551616 := by
  have u := fun j : Nat => u8_ofInt (n / 2 ^ j % 256) (by omega) (by omega)
  rw [W8_eq]
  simp only [onto_cons, u]
  have e : ∀ z : Int, onto z [] = z := fun _ => rfl
  rw [e]
  have q0 : (2 : Int) ^ 0 = 1 := rfl
  have q1 : (2 : Int) ^ 8 = 256 := rfl
  have q2 : (2 : Int) ^ 16 = 65536 := rfl
  have q3 : (2 : Int) ^ 24 = 16777216 := rfl
  have q4 : (2 : Int) ^ 32 = 4294967296 := rfl
  have q5 : (2 : Int) ^ 40 = 1099511627776 := rfl
  have q6 : (2 : Int) ^ 48 = 281474976710656 := rfl
  have q7 : (2 : Int) ^ 56 = 72057594037927936 := rfl
  rw [q0, q1, q2, q3, q4, q5, q6, q7]
  omega
theorem sNum_W8 (n : Int) (h0 : -9223372036854775808 ≤ n) (h1 : n ≤ 9223372036854775807) : sNum (W8 n) = n := by
  have h := onto_W8 0 n
  rw [W8_eq, onto_cons, u8_ofInt _ (by omega) (by omega)] at h
  have e : sNum (W8 n) = onto (sByte (n / 2 ^ 56 % 256)) (W8 n).tail := by
    rw [W8_eq]
    show onto (sByte (((UInt8.ofNat (n / 2 ^ 56 % 256).toNat).toNat : Int))) _ = _
    rw [u8_ofInt _ (by omega) (by omega)]
  have lin : ∀ (l : List UInt8) (a b : Int), onto (a + b) l = onto a l + b * 256 ^ l.length := by
    intro l
    induction l with
    | nil => intro a b; simp [onto]
    | cons x l ih =>
      intro a b
      rw [onto_cons, onto_cons, show (a + b) * 256 + (x.toNat : Int) = (a * 256 + (x.toNat : Int)) + b * 256 from by omega, ih, List.length_cons, Int.pow_succ]
      rw [Int.mul_assoc, Int.mul_comm 256]
  rw [e, W8_eq]
  simp only [List.tail_cons]
  have q7 : (2 : Int) ^ 56 = 72057594037927936 := rfl
  have p7 : (256 : Int) ^ 7 = 72057594037927936 := rfl
  unfold sByte
  by_cases ht : 128 ≤ n / 2 ^ 56 % 256
  · rw [if_pos ht, show n / 2 ^ 56 % 256 - 256 = (0 * 256 + n / 2 ^ 56 % 256) + (-256) from by omega, lin, h]
    simp only [List.length_cons, List.length_nil]
    rw [p7]
    rw [q7] at ht
    omega
  · rw [if_neg ht, show n / 2 ^ 56 % 256 = 0 * 256 + n / 2 ^ 56 % 256 from by omega, h]
    rw [q7] at ht
    omega
theorem W9_eq (n : Int) : (bytes9 n).map (fun x => UInt8.ofNat x.toNat) = 0 :: W8 n := rfl
theorem sNum_W9 (n : Int) (h0 : 0 ≤ n) (h1 : n ≤ 18446744073709551615) : sNum (0 :: W8 n) = n := by
  show onto (sByte 0) (W8 n) = n
  have e : sByte 0 = 0 := rfl
  rw [e, onto_W8]
  omega
theorem putN (n : Int) (k : Nat) (hk : 9 ≤ k) : ber_PutNumber.f k n = some (Bs (trimS (W8 n))) := by
  unfold ber_PutNumber.f ber_trimmed.f
  exact trim_at (W8 n) k (by simp [W8, bytes8]; omega)
theorem putU (n : Int) (k : Nat) (hk : 10 ≤ k) : ber_PutUnsigned.f k n = some (Bs (trimS (0 :: W8 n))) := by
  unfold ber_PutUnsigned.f ber_trimmed.f
  exact trim_at (0 :: W8 n) k (by simp [W8, bytes8]; omega)
theorem W8_len (n : Int) : (W8 n).length = 8 := by simp [W8, bytes8]
theorem number_back (n : Int) (h0 : -9223372036854775808 ≤ n) (h1 : n ≤ 9223372036854775807) : ber_Number.f (Bs (trimS (W8 n))) = some (n, 0) := by
  have hl := trim_len (W8 n)
  rw [W8_len] at hl
  have hne : trimS (W8 n) ≠ [] := hl.2.2 (by intro h; have := W8_len n; rw [h] at this; simp at this)
  have hp := List.length_pos_iff.mpr hne
  unfold ber_Number.f
  rw [if_pos (by rw [size_Bs]; omega), spare_eq, L_Bs, trim_spare]
  simp only [Option.bind_some]
  rw [if_neg (by decide), data_Bs, trim_sNum, sNum_W8 n h0 h1]
theorem unsigned_back (n : Int) (h0 : 0 ≤ n) (h1 : n ≤ 18446744073709551615) : ber_Unsigned.f (Bs (trimS (0 :: W8 n))) = some (n, 0) := by
  have hl := trim_len (0 :: W8 n)
  simp only [List.length_cons, W8_len] at hl
  have hne : trimS (0 :: W8 n) ≠ [] := hl.2.2 (by simp)
  have hp := List.length_pos_iff.mpr hne
  have hv : sNum (trimS (0 :: W8 n)) = n := by rw [trim_sNum, sNum_W9 n h0 h1]
  obtain ⟨a, r, hr⟩ : ∃ a r, trimS (0 :: W8 n) = a :: r := by
    cases h : trimS (0 :: W8 n) with
    | nil => exact absurd h hne
    | cons a r => exact ⟨a, r, rfl⟩
  have ha := a.toNat_lt
  have neg : ∀ (l : List UInt8) (x : Int), x < 0 → onto x l < 0 := by
    intro l
    induction l with
    | nil => intro x hx; exact hx
    | cons b l ih => intro x hx; rw [onto_cons]; have := b.toNat_lt; exact ih _ (by omega)
  have hv2 : onto (sByte (a.toNat : Int)) r = n := by rw [← hv, hr]; rfl
  have ha7 : a.toNat < 128 := by
    by_cases h : a.toNat < 128
    · exact h
    · have hs : sByte (a.toNat : Int) < 0 := by unfold sByte; rw [if_pos (by omega)]; omega
      have := neg r _ hs
      omega
  have hb : beNum (a :: r) = n := by
    rw [← hv2]
    show onto (0 * 256 + (a.toNat : Int)) r = _
    congr 1
    unfold sByte
    rw [if_neg (by omega)]
    omega
  have hsp := trim_spare (0 :: W8 n)
  rw [hr] at hsp hp hl ⊢
  have ebt : bt (Bs (a :: r)) 0 = (a.toNat : Int) := by rw [bt_L]; rfl
  unfold ber_Unsigned.f
  rw [ebt, if_pos (by rw [size_Bs]; omega), spare_eq, L_Bs, hsp]
  simp only [Option.bind_some]
  rw [if_neg (by decide), data_Bs, hb]
  by_cases h9 : 8 < (Bs (a :: r)).size ∧ (a.toNat : Int) ≠ 0
  · obtain ⟨h9, h10⟩ := h9
    rw [size_Bs] at h9
    have := hl.2.1 (by omega)
    rw [List.cons.injEq] at this
    rw [this.1] at h10
    exact absurd rfl h10
  · rw [if_neg h9]
end Go.Proofs.Yteidlffajcogcaa.BerS
