/- Layer 5: what 'put' answers, in plain lists. -/
import Derived.Test.YteidlffajcogcaaBerSpec
import Derived.Test.YteidlffajcogcaaXBerx3
namespace Go.Proofs.Yteidlffajcogcaa.BerS
open Go.RowKit Gong Go.Proofs.Yteidlffajcogcaa.XBer Go.Proofs.YteidlffajcogcaaW.PrintWords Go.Proofs.YteidlffajcogcaaW.PrintLast Go.Proofs.YteidlffajcogcaaW.PrintMore
set_option linter.unusedVariables false
set_option linter.unusedSimpArgs false
/-- A number's last w bytes, the highest first. -/
def wideB (n w : Nat) : List UInt8 := ((bytes8 (n : Int)).drop (8 - w)).map fun x => UInt8.ofNat x.toNat
theorem wideB_len (n w : Nat) (h : w ≤ 8) : (wideB n w).length = w := by simp [wideB, bytes8]; omega
theorem strOf_map (xs : List Int) : strOfNums xs = Bs (xs.map fun x => UInt8.ofNat x.toNat) := rfl
theorem pow256 (w : Nat) : (2 : Int) ^ (8 * w) = ((256 ^ w : Nat) : Int) := by
  rw [Int.pow_mul, Int.natCast_pow]; rfl
theorem wide_small (n w : Nat) (h1 : 1 ≤ w) (h8 : w ≤ 8) (h : n < 256 ^ w) : octet_Wide.f (n : Int) (w : Int) = some (Bs (wideB n w), 0) := by
  unfold octet_Wide.f
  rw [if_pos ⟨by omega, by omega, by omega⟩, Int.toNat_natCast, pow256]
  have : (n : Int) / ((256 ^ w : Nat) : Int) = 0 := Int.ediv_eq_zero_of_lt (by omega) (by omega)
  rw [this, if_neg (by omega)]
  rfl
theorem shr8 (n w : Nat) (h8 : w ≤ 7) : shr .i64 (n : Int) (wrap64 (8 * (w : Int))) = ((n / 256 ^ w : Nat) : Int) := by
  rw [wrap_id (by omega) (by omega)]
  unfold shr
  have e : (8 * (w : Int)).toNat = 8 * w := by omega
  have e2 : IntKind.i64.bits = 64 := rfl
  rw [e, e2, Nat.min_eq_left (by omega), pow256]
  rfl
theorem bytesOf_map (l : List UInt8) : (Go.Proofs.YteidlffajcogcaaW.PrintWords.bytesOf (Bs l)).map (fun x => UInt8.ofNat x.toNat) = l := by
  unfold Go.Proofs.YteidlffajcogcaaW.PrintWords.bytesOf
  rw [data_Bs, List.map_map]
  conv => rhs; rw [← List.map_id l]
  congr 1
  funext b
  simp
/-- The tag's byte, and the first one of a long length. -/
theorem put_step (k n w : Nat) (tag : Int) (body : List UInt8) (h0 : 0 ≤ tag) (h1 : tag < 256) (hw1 : 1 ≤ w) (hw : w ≤ 4) (hn : n < 4294967296) (hb : body.length ≤ 140737488355328) :
    ber_put.l0 (k + 1) (Bs body) (n : Int) [tag % 256, (n : Int) % 256] (w : Int) =
      if n < 256 ^ w then some (Bs (UInt8.ofNat tag.toNat :: UInt8.ofNat (128 + w) :: (wideB n w ++ body))) else ber_put.l0 k (Bs body) (n : Int) [tag % 256, (n : Int) % 256] ((w + 1 : Nat) : Int) := by
  simp only [ber_put.l0]
  rw [shr8 n w (by omega), wrap_id (by omega) (by omega), if_pos (by omega)]
  by_cases h : n < 256 ^ w
  · rw [if_pos h, Nat.div_eq_of_lt h, if_neg (by decide), wide_small n w hw1 (by omega) h]
    simp only [Option.bind_some]
    rw [if_pos (by simp)]
    have e1 : wrap64 (128 + (w : Int)) % 256 = ((128 + w : Nat) : Int) := by rw [wrap_id (by omega) (by omega)]; omega
    have e2 : tag % 256 = tag := by omega
    rw [e1, e2]
    have e3 : ([tag, (n : Int) % 256].set (1 : Int).toNat ((128 + w : Nat) : Int)) = [tag, ((128 + w : Nat) : Int)] := rfl
    rw [e3, size_Bs, wideB_len n w (by omega), if_pos (by simp; omega)]
    have e4 : strOfNums ([tag, ((128 + w : Nat) : Int)] ++ Go.Proofs.YteidlffajcogcaaW.PrintWords.bytesOf (Bs (wideB n w))) = Bs (UInt8.ofNat tag.toNat :: UInt8.ofNat (128 + w) :: wideB n w) := by
      rw [strOf_map, List.map_append, bytesOf_map]
      rfl
    rw [e4, if_pos (by rw [size_Bs, size_Bs]; simp [wideB_len n w (by omega)]; omega)]
    rfl
  · rw [if_neg h, if_pos (by have : 0 < n / 256 ^ w := Nat.div_pos (by omega) (Nat.pow_pos (by decide)); omega)]
    rw [wrap_id (by omega) (by omega)]
    rfl
/-- How many bytes a number takes (below 2^32), at least one. -/
def nby (n : Nat) : Nat := if n < 256 then 1 else if n < 65536 then 2 else if n < 16777216 then 3 else 4
/-- A length in its shortest form. -/
def lenEnc (n : Nat) : List UInt8 := if n < 128 then [UInt8.ofNat n] else UInt8.ofNat (128 + nby n) :: wideB n (nby n)
/-- An element. -/
def enc (t : Nat) (body : List UInt8) : List UInt8 := UInt8.ofNat t :: (lenEnc body.length ++ body)
theorem put_eq (k t : Nat) (body : List UInt8) (ht : t < 256) (hb : body.length < 4294967296) (hk : 4 ≤ k) : ber_put.f k (t : Int) (Bs body) = some (Bs (enc t body)) := by
  unfold ber_put.f
  simp only [Option.bind_some, size_Bs]
  by_cases h : body.length < 128
  · rw [if_neg (by omega), if_pos (by rw [strOf_map, size_Bs]; simp; omega)]
    congr 1
    apply L_inj
    rw [L_append, strOf_map, L_Bs, L_Bs, L_Bs]
    have e1 : (t : Int) % 256 = (t : Int) := by omega
    have e2 : (body.length : Int) % 256 = (body.length : Int) := by omega
    simp [enc, lenEnc, h, e1, e2]
  · rw [if_pos (by omega)]
    obtain ⟨k, rfl⟩ : ∃ m, k = m + 4 := ⟨k - 4, by omega⟩
    have st := fun j w hw1 hw => put_step j body.length w (t : Int) body (by omega) (by omega) hw1 hw hb (by omega)
    have s1 := st (k + 3) 1 (by omega) (by omega)
    have s2 := st (k + 2) 2 (by omega) (by omega)
    have s3 := st (k + 1) 3 (by omega) (by omega)
    have s4 := st k 4 (by omega) (by omega)
    rw [show ((1 : Nat) : Int) = 1 from rfl] at s1
    rw [show k + 4 = k + 3 + 1 from rfl, s1]
    have p1 : 256 ^ 1 = 256 := rfl
    have p2 : 256 ^ 2 = 65536 := rfl
    have p3 : 256 ^ 3 = 16777216 := rfl
    have p4 : 256 ^ 4 = 4294967296 := rfl
    rw [p1]
    by_cases h1 : body.length < 256
    · rw [if_pos h1]
      simp [enc, lenEnc, h, nby, h1]
    · rw [if_neg h1, s2, p2]
      by_cases h2 : body.length < 65536
      · rw [if_pos h2]
        simp [enc, lenEnc, h, nby, h1, h2]
      · rw [if_neg h2, s3, p3]
        by_cases h3 : body.length < 16777216
        · rw [if_pos h3]
          simp [enc, lenEnc, h, nby, h1, h2, h3]
        · rw [if_neg h3, s4, p4, if_pos (by omega)]
          simp [enc, lenEnc, h, nby, h1, h2, h3]
theorem u8_ofInt (x : Int) (h0 : 0 ≤ x) (h1 : x < 256) : ((UInt8.ofNat x.toNat).toNat : Int) = x := by
  rw [UInt8.toNat_ofNat']
  omega
theorem beN_wide (n w : Nat) (hw1 : 1 ≤ w) (hw : w ≤ 4) (hn : n < 256 ^ w) : beN (wideB n w) = n := by
  have hr : List.range 8 = [0, 1, 2, 3, 4, 5, 6, 7] := rfl
  have p1 : 256 ^ 1 = 256 := rfl
  have p2 : 256 ^ 2 = 65536 := rfl
  have p3 : 256 ^ 3 = 16777216 := rfl
  have p4 : 256 ^ 4 = 4294967296 := rfl
  have q1 : (2 : Int) ^ 8 = 256 := rfl
  have q2 : (2 : Int) ^ 16 = 65536 := rfl
  have q3 : (2 : Int) ^ 24 = 16777216 := rfl
  have key : ((beN (wideB n w) : Nat) : Int) = (n : Int) := by
    have hw' : w = 1 ∨ w = 2 ∨ w = 3 ∨ w = 4 := by omega
    rcases hw' with rfl | rfl | rfl | rfl
    · have e := u8_ofInt ((n : Int) % 256) (by omega) (by omega)
      simp [wideB, bytes8, hr, beN] at e ⊢
      omega
    · have e := u8_ofInt ((n : Int) % 256) (by omega) (by omega)
      have e2 := u8_ofInt ((n : Int) / 256 % 256) (by omega) (by omega)
      simp [wideB, bytes8, hr, beN, q1] at e e2 ⊢
      omega
    · have e := u8_ofInt ((n : Int) % 256) (by omega) (by omega)
      have e2 := u8_ofInt ((n : Int) / 256 % 256) (by omega) (by omega)
      have e3 := u8_ofInt ((n : Int) / 65536 % 256) (by omega) (by omega)
      simp [wideB, bytes8, hr, beN, q1, q2] at e e2 e3 ⊢
      omega
    · have e := u8_ofInt ((n : Int) % 256) (by omega) (by omega)
      have e2 := u8_ofInt ((n : Int) / 256 % 256) (by omega) (by omega)
      have e3 := u8_ofInt ((n : Int) / 65536 % 256) (by omega) (by omega)
      have e4 := u8_ofInt ((n : Int) / 16777216 % 256) (by omega) (by omega)
      simp [wideB, bytes8, hr, beN, q1, q2, q3] at e e2 e3 e4 ⊢
      omega
  omega
theorem nby_le (n : Nat) (hn : n < 4294967296) : 1 ≤ nby n ∧ nby n ≤ 4 ∧ n < 256 ^ nby n := by
  have p1 : 256 ^ 1 = 256 := rfl
  have p2 : 256 ^ 2 = 65536 := rfl
  have p3 : 256 ^ 3 = 16777216 := rfl
  have p4 : 256 ^ 4 = 4294967296 := rfl
  unfold nby
  split
  · omega
  · split
    · omega
    · split <;> omega
theorem lenEnc_len (n : Nat) : (lenEnc n).length = if n < 128 then 1 else 1 + nby n := by
  unfold lenEnc
  split
  · rfl
  · rw [List.length_cons, wideB_len _ _ (by unfold nby; split <;> (try split) <;> (try split) <;> omega)]
    omega
theorem lenS_enc (n : Nat) (r : List UInt8) (hn : n < 4294967296) : lenS (lenEnc n ++ r) = some (n, (lenEnc n).length) := by
  rw [lenEnc_len]
  unfold lenEnc
  by_cases h : n < 128
  · rw [if_pos h, if_pos h]
    have e : (UInt8.ofNat n).toNat = n := by rw [UInt8.toNat_ofNat']; omega
    simp only [List.cons_append, List.nil_append, lenS, e]
    rw [if_pos h]
  · rw [if_neg h, if_neg h]
    obtain ⟨h1, h4, h5⟩ := nby_le n hn
    have e : (UInt8.ofNat (128 + nby n)).toNat = 128 + nby n := by rw [UInt8.toNat_ofNat']; omega
    have hl := wideB_len n (nby n) (by omega)
    simp only [List.cons_append, lenS, e]
    rw [if_neg (by omega), if_neg (by omega), if_neg (by rw [List.length_append, hl]; omega)]
    have e2 : 128 + nby n - 128 = nby n := by omega
    rw [e2, List.take_append_of_le_length (by omega), List.take_of_length_le (by omega), beN_wide n _ h1 h4 h5]
theorem next_enc (t : Nat) (b r : List UInt8) (ht : t < 256) (ht2 : t % 32 ≠ 31) (hb : b.length < 4294967296) : nextS (enc t b ++ r) = some (t, b, r) := by
  have e : (UInt8.ofNat t).toNat = t := by rw [UInt8.toNat_ofNat']; omega
  unfold enc
  simp only [List.cons_append, List.append_assoc, nextS, e]
  rw [if_neg ht2, lenS_enc _ _ hb]
  simp only [List.drop_left]
  rw [if_neg (by rw [List.length_append]; omega)]
  simp
theorem lenEnc_pos (n : Nat) : 1 ≤ (lenEnc n).length := by rw [lenEnc_len]; split <;> omega
theorem enc_len (t : Nat) (b : List UInt8) : (enc t b).length = 1 + (lenEnc b.length).length + b.length := by
  simp [enc]; omega
end Go.Proofs.Yteidlffajcogcaa.BerS
