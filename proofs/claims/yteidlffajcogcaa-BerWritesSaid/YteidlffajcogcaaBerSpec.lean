/- Layer 5 in plain lists: lengths, elements, their shortest forms; what the printed functions answer in these words. -/
import Derived.Test.YteidlffajcogcaaXBerx2
namespace Go.Proofs.Yteidlffajcogcaa.BerS
open Go.RowKit Gong Go.Proofs.Yteidlffajcogcaa.XBer Go.Proofs.YteidlffajcogcaaW.PrintWords Go.Proofs.YteidlffajcogcaaW.PrintLast Go.Proofs.YteidlffajcogcaaW.PrintMore
set_option linter.unusedVariables false
set_option linter.unusedSimpArgs false
/-- A text's bytes, and back. -/
def L (s : ByteArray) : List UInt8 := s.data.toList
def Bs (l : List UInt8) : ByteArray := ⟨l.toArray⟩
theorem L_Bs (l : List UInt8) : L (Bs l) = l := rfl
theorem data_Bs (l : List UInt8) : (Bs l).data.toList = l := rfl
theorem data_L (s : ByteArray) : s.data.toList = L s := rfl
theorem Bs_L (s : ByteArray) : Bs (L s) = s := by rcases s with ⟨⟨l⟩⟩; rfl
theorem L_inj {a b : ByteArray} (h : L a = L b) : a = b := by rw [← Bs_L a, h, Bs_L]
theorem size_L (s : ByteArray) : s.size = (L s).length := by simp [L]
theorem size_Bs (l : List UInt8) : (Bs l).size = l.length := by rw [size_L, L_Bs]
theorem L_extract (s : ByteArray) (a b : Nat) : L (s.extract a b) = ((L s).take b).drop a := by
  unfold L
  simp [List.drop_take]
theorem L_append (a b : ByteArray) : L (a ++ b) = L a ++ L b := by simp [L]
theorem toList_L (s : ByteArray) : s.toList = L s := ByteArray.toList_eq s
theorem bt_L (s : ByteArray) (i : Int) : bt s i = (((L s).getD i.toNat 0).toNat : Int) := by
  unfold bt
  by_cases h : i.toNat < s.size
  · rw [dif_pos h]
    rcases s with ⟨⟨l⟩⟩
    have h' : i.toNat < l.length := by simpa [ByteArray.size] using h
    simp [L, List.getD, h', ByteArray.getElem_eq_getElem_data]
  · rw [dif_neg h]
    rcases s with ⟨⟨l⟩⟩
    have h' : l.length ≤ i.toNat := by have : ¬ i.toNat < l.length := h; omega
    simp [L, List.getD, List.getElem?_eq_none h']
theorem wrap_id {n : Int} (h0 : -9223372036854775808 ≤ n) (h1 : n ≤ 9223372036854775807) : wrap64 n = n := by unfold wrap64; omega
/-- A number of bytes, the highest first. -/
def beN (l : List UInt8) : Nat := l.foldl (fun n b => n * 256 + b.toNat) 0
theorem beNum_beN (l : List UInt8) : beNum l = (beN l : Int) := by
  have key : ∀ (l : List UInt8) (a : Nat), l.foldl (fun (n : Int) b => n * 256 + (b.toNat : Int)) (a : Int) = ((l.foldl (fun n b => n * 256 + b.toNat) a : Nat) : Int) := by
    intro l
    induction l with
    | nil => intro a; rfl
    | cons b l ih => intro a; simp only [List.foldl_cons]; rw [← ih]; simp
  exact key l 0
theorem beN_lt (l : List UInt8) : beN l < 256 ^ l.length := by
  have h := (beNum_lt l).2
  rw [beNum_beN] at h
  have e : (256 : Int) ^ l.length = ((256 ^ l.length : Nat) : Int) := by rw [Int.natCast_pow]; rfl
  rw [e] at h
  omega
/-- The length that stands at the beginning, and how many bytes it has. -/
def lenS : List UInt8 → Option (Nat × Nat)
  | [] => none
  | b :: l => if b.toNat < 128 then some (b.toNat, 1) else if b.toNat = 128 ∨ 132 < b.toNat then none else if l.length < b.toNat - 128 then none else some (beN (l.take (b.toNat - 128)), 1 + (b.toNat - 128))
theorem bytes_zero (s : ByteArray) (c : Int) (w : Nat) (h : w ≤ s.size) (hc : c = 0) : octet_Reader_Bytes.f s c w = some (Bs ((L s).take w), Bs ((L s).drop w), 0) := by
  subst hc
  unfold octet_Reader_Bytes.f
  rw [if_pos rfl, if_neg (by omega), if_neg (by omega), if_pos (by omega), if_pos (by omega)]
  have e1 : s.extract 0 w = Bs ((L s).take w) := by apply L_inj; rw [L_extract, L_Bs]; simp
  have e2 : s.extract w s.size = Bs ((L s).drop w) := by
    apply L_inj; rw [L_extract, L_Bs, List.take_of_length_le (by rw [← size_L]; exact Nat.le_refl _)]
  simp [e1, e2]
theorem wide_ok (s : ByteArray) (w : Nat) (h1 : 1 ≤ w) (h7 : w ≤ 7) (h : w ≤ s.size) : octet_Reader_Wide.f s 0 w = some ((beN ((L s).take w) : Int), Bs ((L s).drop w), 0) := by
  unfold octet_Reader_Wide.f octet_Reader_Wide.code
  rw [if_pos (by omega), bytes_zero s 0 w h rfl]
  simp only [Option.bind_some]
  have hb := beN_lt ((L s).take w)
  have h2 : 256 ^ ((L s).take w).length ≤ 72057594037927936 := Nat.pow_le_pow_right (j := 7) (by decide : 0 < 256) (by have := List.length_take_le w (L s); omega)
  have hx : ¬ (beNum (Bs ((L s).take w)).data.toList ≥ 9223372036854775808) := by rw [data_Bs, beNum_beN]; omega
  rw [if_neg hx, data_Bs, beNum_beN]
theorem wide_end (s : ByteArray) (w : Nat) (h1 : 1 ≤ w) (h7 : w ≤ 7) (h : s.size < w) : octet_Reader_Wide.f s 0 w = some (0, s, 10) := by
  have hc : octet_Reader_Wide.code 0 w = 0 := by unfold octet_Reader_Wide.code; rw [if_pos (by omega)]
  unfold octet_Reader_Wide.f
  rw [hc]
  unfold octet_Reader_Bytes.f
  rw [if_pos rfl, if_neg (by omega), if_pos (by omega)]
  simp only [octet_Reader_Refuse.f, if_true, Option.bind_some]
  have e0 : beNum ((⟨#[]⟩ : ByteArray)).data.toList = 0 := rfl
  rw [e0, if_neg (by decide)]
theorem length_eq (k : Nat) (hk : 1 ≤ k) (s : ByteArray) (hs : s.size ≤ 140737488355328) :
    ber_length.f k s = some (match lenS (L s) with | none => (0, 0) | some (n, l) => ((n : Int), (l : Int))) := by
  obtain ⟨k, rfl⟩ : ∃ m, k = m + 1 := ⟨k - 1, by omega⟩
  unfold ber_length.f octet_Read.f
  simp only [Option.bind_some]
  by_cases h0 : s.size = 0
  · have hl : L s = [] := List.length_eq_zero_iff.mp (by rw [← size_L]; exact h0)
    rw [show (1 : Int) = ((1 : Nat) : Int) from rfl, wide_end s 1 (by omega) (by omega) (by omega)]
    simp only [Option.bind_some, hl, lenS]
    rw [if_pos (by omega)]
    simp [octet_Reader_Left.f, h0, wrap64]
  · rw [show (1 : Int) = ((1 : Nat) : Int) from rfl, wide_ok s 1 (by omega) (by omega) (by omega)]
    obtain ⟨b, l, hl⟩ : ∃ b l, L s = b :: l := by
      cases h : L s with
      | nil => exact absurd (by rw [size_L, h]; rfl) h0
      | cons b l => exact ⟨b, l, rfl⟩
    have hlen : s.size = l.length + 1 := by rw [size_L, hl]; rfl
    have hb := b.toNat_lt
    simp only [Option.bind_some, hl, List.take_succ_cons, List.take_zero, List.drop_succ_cons, List.drop_zero, lenS]
    have e1 : beN [b] = b.toNat := by simp [beN]
    rw [e1]
    by_cases h1 : b.toNat < 128
    · rw [if_pos (by omega), if_pos h1]
      simp only [octet_Reader_Left.f, Option.bind_some, size_Bs]
      rw [wrap_id (by omega) (by omega)]
      congr 2
      omega
    · rw [if_neg (by omega), if_neg h1]
      by_cases h2 : b.toNat = 128
      · rw [if_pos (by omega), if_pos (.inl h2)]
        simp [ber_length.j0]
      · rw [if_neg (by omega)]
        by_cases h3 : 132 < b.toNat
        · rw [if_pos (.inr h3)]
          have : decide ((b.toNat : Int) > 132) = true := decide_eq_true (by omega)
          rw [this]
          simp [ber_length.j0]
        · rw [if_neg (by omega)]
          have : decide ((b.toNat : Int) > 132) = false := decide_eq_false (by omega)
          rw [this]
          simp only [ber_length.j0]
          rw [if_neg (by decide), wrap_id (by omega) (by omega), show (b.toNat : Int) - 128 = ((b.toNat - 128 : Nat) : Int) from by omega]
          by_cases h4 : l.length < b.toNat - 128
          · rw [if_pos h4, wide_end _ _ (by omega) (by omega) (by rw [size_Bs]; exact h4)]
            simp [octet_Reader_Code.f]
          · rw [if_neg h4, wide_ok _ _ (by omega) (by omega) (by rw [size_Bs]; omega)]
            simp only [octet_Reader_Code.f, octet_Reader_Left.f, Option.bind_some, if_true, size_Bs, L_Bs, List.length_drop]
            have hw : wrap64 ((s.size : Int) - ((l.length - (b.toNat - 128) : Nat) : Int)) = ((1 + (b.toNat - 128) : Nat) : Int) := by unfold wrap64; omega
            rw [hw]
/-- The element at the beginning: its tag, its body, and what stands behind it. -/
def nextS : List UInt8 → Option (Nat × List UInt8 × List UInt8)
  | [] => none
  | t :: l => if t.toNat % 32 = 31 then none else
    match lenS l with
    | none => none
    | some (n, g) => if (l.drop g).length < n then none else some (t.toNat, (l.drop g).take n, (l.drop g).drop n)
theorem lenS_le {l : List UInt8} {n g : Nat} (h : lenS l = some (n, g)) : 1 ≤ g ∧ g ≤ 5 ∧ g ≤ l.length := by
  cases l with
  | nil => exact absurd h (by simp [lenS])
  | cons b l =>
    simp only [lenS] at h
    have hb := b.toNat_lt
    by_cases h1 : b.toNat < 128
    · rw [if_pos h1] at h
      simp only [Option.some.injEq, Prod.mk.injEq] at h
      simp only [List.length_cons]; omega
    · rw [if_neg h1] at h
      by_cases h2 : b.toNat = 128 ∨ 132 < b.toNat
      · rw [if_pos h2] at h; simp at h
      · rw [if_neg h2] at h
        by_cases h3 : l.length < b.toNat - 128
        · rw [if_pos h3] at h; simp at h
        · rw [if_neg h3] at h
          simp only [Option.some.injEq, Prod.mk.injEq] at h
          simp only [List.length_cons]; omega
theorem and31 (t : Nat) (h : t < 256) : Go.bits .and .i64 (t : Int) 31 = ((t % 32 : Nat) : Int) := by
  have := bits_mask .i64 63 (by decide) (fun n h0 h1 => by rw [IntKind.wrap_i64]; have : (2 : Int) ^ 63 = 9223372036854775808 := rfl; omega) 5 (by decide) (t : Int) (by omega) (by have : (2 : Int) ^ 63 = 9223372036854775808 := rfl; omega)
  have e : ((2 : Int) ^ 5 - 1) = 31 := rfl
  have e2 : ((2 : Int) ^ 5) = 32 := rfl
  rw [e, e2] at this
  rw [this]; omega
theorem isTag_eq (t : Nat) (h : t < 256) : ber_isTag.f (t : Int) = some (decide (t % 32 ≠ 31)) := by
  unfold ber_isTag.f
  rw [if_pos (by omega), if_pos (by omega), and31 t h]
  congr 1
  rw [Bool.eq_iff_iff]
  simp
  omega
theorem next_eq (k : Nat) (hk : 1 ≤ k) (s : ByteArray) (hs : s.size ≤ 140737488355328) :
    ber_Next.f k s = some (match nextS (L s) with | none => (0, Bs [], Bs [], 50) | some (t, b, r) => ((t : Int), Bs b, Bs r, 0)) := by
  unfold ber_Next.f
  by_cases h0 : s.size = 0
  · have hl : L s = [] := List.length_eq_zero_iff.mp (by rw [← size_L]; exact h0)
    rw [if_pos h0, hl]
    rfl
  · rw [if_neg h0]
    obtain ⟨t, l, hl⟩ : ∃ b l, L s = b :: l := by
      cases h : L s with
      | nil => exact absurd (by rw [size_L, h]; rfl) h0
      | cons b l => exact ⟨b, l, rfl⟩
    have hlen : s.size = l.length + 1 := by rw [size_L, hl]; rfl
    have ht := t.toNat_lt
    have e1 : bt s 0 = (t.toNat : Int) := by rw [bt_L, hl]; rfl
    have e2 : s.extract 1 s.size = Bs l := by
      apply L_inj; rw [L_extract, L_Bs, List.take_of_length_le (by rw [← size_L]; exact Nat.le_refl _), hl]; rfl
    rw [e1, isTag_eq _ (by omega), hl]
    simp only [Option.bind_some, nextS]
    by_cases h31 : t.toNat % 32 = 31
    · rw [if_pos (by simp [h31]), if_pos h31]
      rfl
    · rw [if_neg (by simp [h31]), if_neg h31, e2, length_eq k hk _ (by rw [size_Bs]; omega)]
      simp only [Option.bind_some, L_Bs]
      cases hls : lenS l with
      | none =>
        simp only
        rw [if_pos (by omega), if_pos trivial]
        rfl
      | some q =>
        obtain ⟨n, g⟩ := q
        have hg := lenS_le hls
        simp only
        rw [if_pos (by omega), if_neg (by omega)]
        have e3 : (1 + (g : Int)).toNat = 1 + g := by omega
        have e4 : s.extract (1 + g) s.size = Bs (l.drop g) := by
          apply L_inj
          rw [L_extract, L_Bs, List.take_of_length_le (by rw [← size_L]; exact Nat.le_refl _), hl, Nat.add_comm, List.drop_succ_cons]
        rw [e3, e4]
        have e5 : s.size - (1 + g) = (l.drop g).length := by rw [List.length_drop]; omega
        rw [e5]
        by_cases hn : (l.drop g).length < n
        · rw [if_pos (by omega), if_pos hn]
          rfl
        · rw [if_neg (by omega), if_neg hn, if_pos (by omega), Int.toNat_natCast]
          have e6 : (Bs (l.drop g)).extract 0 n = Bs ((l.drop g).take n) := by
            apply L_inj; rw [L_extract, L_Bs, L_Bs]; simp
          have e7 : (Bs (l.drop g)).extract n (l.drop g).length = Bs ((l.drop g).drop n) := by
            apply L_inj; rw [L_extract, L_Bs, L_Bs, List.take_of_length_le (Nat.le_refl _)]
          rw [e6, e7]
end Go.Proofs.Yteidlffajcogcaa.BerS
