/- Plain lemmas on numbers and bytes: no program in sight. -/
import Derived.Laws.BitsLemmas
import Derived.Lib.ConvBytes
import Derived.Laws.Strings
import Derived.RowKit
import Derived.WalkKit
namespace Gong
open Go Go.RowKit
set_option linter.unusedVariables false
set_option linter.unusedSimpArgs false
def beNum (l : List UInt8) : Int := l.foldl (fun (n : Int) b => n * 256 + (b.toNat : Int)) 0
def codeOr (c e : Int) : Int := if c = 0 then e else c
theorem beNum_snoc (l : List UInt8) (b : UInt8) : beNum (l ++ [b]) = beNum l * 256 + (b.toNat : Int) := by
  simp [beNum]
theorem beNum_lt_aux : ∀ (l : List UInt8) (a : Int), 0 ≤ a → 0 ≤ l.foldl (fun (n : Int) b => n * 256 + (b.toNat : Int)) a ∧ l.foldl (fun (n : Int) b => n * 256 + (b.toNat : Int)) a < (a + 1) * 256 ^ l.length
  | [], a, h => by simp; omega
  | b :: l, a, h => by
    have hb := b.toNat_lt
    obtain ⟨h1, h2⟩ := beNum_lt_aux l (a * 256 + (b.toNat : Int)) (by omega)
    refine ⟨h1, Int.lt_of_lt_of_le h2 ?_⟩
    have e : (a + 1) * 256 ^ (b :: l).length = ((a + 1) * 256) * 256 ^ l.length := by
      rw [List.length_cons, Int.pow_succ, Int.mul_assoc, Int.mul_comm (256 ^ l.length) 256]
    rw [e]
    exact Int.mul_le_mul_of_nonneg_right (by omega) (Int.pow_nonneg (by decide))
theorem beNum_lt (l : List UInt8) : 0 ≤ beNum l ∧ beNum l < 256 ^ l.length := by
  have := beNum_lt_aux l 0 (by omega)
  simpa [beNum] using this
theorem wraps_u64 (n : Int) (h₀ : 0 ≤ n) (h₁ : n < 2 ^ 64) : IntKind.u64.wrap n = n := by
  simp [IntKind.wrap, IntKind.bits, IntKind.signed]; omega
theorem u64_or8 (x : Int) (b : UInt8) (h0 : 0 ≤ x) (h1 : x < 72057594037927936) : bits .or .u64 (IntKind.u64.wrap (x * 256)) (IntKind.u64.wrap (b.toNat : Int)) = x * 256 + (b.toNat : Int) := by
  have hb := b.toNat_lt
  rw [wraps_u64 _ (by omega) (by omega), wraps_u64 _ (by omega) (by omega)]
  exact bits_join .u64 64 (by decide) wraps_u64 8 _ _ (by omega) (by show _ % (256 : Int) = 0; omega) (by show _ < (18446744073709551616 : Int); omega) (by omega) (by show _ < (256 : Int); omega) (by show _ < (18446744073709551616 : Int); omega)
theorem beNum_take (l : List UInt8) (k : Nat) (h : k < l.length) : beNum (l.take (k + 1)) = beNum (l.take k) * 256 + ((l.getD k 0).toNat : Int) := by
  rw [List.take_succ_eq_append_getElem h, beNum_snoc]
  simp [List.getD, h]
theorem beNum_le (l : List UInt8) (k : Nat) (h : k < 8) : beNum (l.take k) < 72057594037927936 := by
  have h1 := (beNum_lt (l.take k)).2
  have h2 : 256 ^ (l.take k).length ≤ 72057594037927936 := Nat.pow_le_pow_right (j := 7) (by decide : 0 < 256) (by have := List.length_take_le k l; omega)
  have e1 : (256 : Int) ^ (l.take k).length = ((256 ^ (l.take k).length : Nat) : Int) := by rw [Int.natCast_pow]; rfl
  rw [e1] at h1
  omega
theorem i64_wrap (n : Int) : IntKind.i64.wrap n = (n + 9223372036854775808) % 18446744073709551616 - 9223372036854775808 := IntKind.wrap_i64 n
theorem i64_or8 (x : Int) (b : Nat) (h1 : -9223372036854775808 ≤ x) (h2 : x + b ≤ 9223372036854775807) (hx : x % 256 = 0) (hb : b < 256) : bits .or .i64 x (b : Int) = x + b := by
  have e : ∀ n : Int, ((BitVec.ofInt 64 n).toNat : Int) = n % 18446744073709551616 := by
    intro n
    rw [BitVec.toNat_ofInt]
    have : 0 ≤ n % 18446744073709551616 := Int.emod_nonneg _ (by decide)
    have e2 : ((2 ^ 64 : Nat) : Int) = 18446744073709551616 := rfl
    rw [e2]; omega
  obtain ⟨X, hX⟩ : ∃ X : Nat, (BitVec.ofInt 64 x).toNat = X := ⟨_, rfl⟩
  have hX1 := e x
  rw [hX] at hX1
  have hB : (BitVec.ofInt 64 (b : Int)).toNat = b := by
    have := e b
    omega
  have hXm : X % 256 = 0 := by omega
  have hor : X ||| b = X + b := by
    have h3 := Nat.two_pow_add_eq_or_of_lt (i := 8) (b := b) (by simpa using hb) (X / 256)
    have h4 : 2 ^ 8 * (X / 256) = X := by omega
    rw [h4] at h3
    exact h3.symm
  simp only [bits]
  show IntKind.i64.wrap ((((BitVec.ofInt 64 x) ||| (BitVec.ofInt 64 (b : Int))).toNat : Nat) : Int) = _
  rw [BitVec.toNat_or, hX, hB, hor, i64_wrap]
  omega
theorem size_zero {a : ByteArray} (h : a.size = 0) : a = ⟨#[]⟩ := by
  rcases a with ⟨d⟩
  have : d.size = 0 := h
  rw [Array.eq_empty_of_size_eq_zero this]
theorem toList_ne {a : ByteArray} (h : ¬ a.size = 0) : (a.toList == ([] : List UInt8)) = false := by
  rw [beq_eq_false_iff_ne, Go.ByteArray.toList_eq]
  intro e
  apply h
  have := congrArg List.length e
  simpa using this
/-- Bytes behind a number. -/
def onto (n : Int) (l : List UInt8) : Int := l.foldl (fun (n : Int) b => n * 256 + (b.toNat : Int)) n
theorem onto_snoc (n : Int) (l : List UInt8) (b : UInt8) : onto n (l ++ [b]) = onto n l * 256 + (b.toNat : Int) := by simp [onto]
theorem onto_take (n : Int) (l : List UInt8) (k : Nat) (h : k < l.length) : onto n (l.take (k + 1)) = onto n (l.take k) * 256 + ((l.getD k 0).toNat : Int) := by
  rw [List.take_succ_eq_append_getElem h, onto_snoc]
  simp [List.getD, h]
theorem onto_bounds : ∀ (l : List UInt8) (a A : Int), -A ≤ a → a ≤ A - 1 → -(A * 256 ^ l.length) ≤ onto a l ∧ onto a l ≤ A * 256 ^ l.length - 1
  | [], a, A, h1, h2 => by simp [onto]; omega
  | b :: l, a, A, h1, h2 => by
    have hb := b.toNat_lt
    have ih := onto_bounds l (a * 256 + (b.toNat : Int)) (A * 256) (by omega) (by omega)
    have e : A * 256 ^ (b :: l).length = A * 256 * 256 ^ l.length := by
      rw [List.length_cons, Int.pow_succ, Int.mul_assoc, Int.mul_comm (256 ^ l.length) 256]
    rw [e]
    exact ih
/-- A byte, as a signed one. -/
def sByte (b : Int) : Int := if 128 ≤ b then b - 256 else b
theorem sByte_i8 (b : Int) (h0 : 0 ≤ b) (h1 : b ≤ 255) : wrap64 (IntKind.i8.wrap b) = sByte b := by
  have e : IntKind.i8.wrap b = sByte b := by
    have e1 : IntKind.i8.wrap b = if 128 ≤ b % 256 then b % 256 - 256 else b % 256 := by
      simp [IntKind.wrap, IntKind.bits, IntKind.signed]
    rw [e1]
    unfold sByte
    have hm : b % 256 = b := by omega
    rw [hm]
  rw [e]
  unfold wrap64 sByte
  split <;> omega
/-- The signed number of bytes, the highest first. -/
def sNum (l : List UInt8) : Int := onto (sByte ((l.headD 0).toNat : Int)) l.tail
theorem onto_small (b : Int) (l : List UInt8) (k : Nat) (h0 : 0 ≤ b) (h1 : b ≤ 255) (h : k ≤ 6) : -36028797018963968 ≤ onto (sByte b) (l.take k) ∧ onto (sByte b) (l.take k) ≤ 36028797018963967 := by
  have hb := onto_bounds (l.take k) (sByte b) 128 (by unfold sByte; split <;> omega) (by unfold sByte; split <;> omega)
  have h2 : 256 ^ (l.take k).length ≤ 281474976710656 := Nat.pow_le_pow_right (j := 6) (by decide : 0 < 256) (by have := List.length_take_le k l; omega)
  have e1 : (256 : Int) ^ (l.take k).length = ((256 ^ (l.take k).length : Nat) : Int) := by rw [Int.natCast_pow]; rfl
  rw [e1] at hb
  omega
theorem extract_tail (a : ByteArray) : (a.extract 1 a.size).data.toList = a.data.toList.tail := by
  simp
  rw [List.take_of_length_le (by simp)]
theorem head_get (a : ByteArray) (h : 0 < a.size) : (a[0]'h) = a.data.toList.headD 0 := by
  rcases a with ⟨⟨l⟩⟩
  cases l with
  | nil => exact absurd h (by decide)
  | cons x l => rfl
theorem i64_or_byte (x : Int) (b : UInt8) (h1 : -36028797018963968 ≤ x) (h2 : x ≤ 36028797018963967) : bits .or .i64 (wrap64 (x * 256)) (wrap64 (b.toNat : Int)) = x * 256 + (b.toNat : Int) := by
  have hb := b.toNat_lt
  have e1 : wrap64 (x * 256) = x * 256 := by unfold wrap64; omega
  have e2 : wrap64 (b.toNat : Int) = (b.toNat : Int) := by unfold wrap64; omega
  rw [e1, e2]
  exact i64_or8 _ _ (by omega) (by omega) (by omega) (by omega)
theorem beNum_le9 (l : List UInt8) (k : Nat) (h : k < 9) (hz : 8 ≤ k → l.headD 0 = 0) : beNum (l.take k) < 72057594037927936 := by
  by_cases h8 : k < 8
  · exact beNum_le l k h8
  · have hk : k = 8 := by omega
    subst hk
    cases l with
    | nil => simp [beNum]
    | cons x l =>
      have hx : x = 0 := hz (by omega)
      subst hx
      have := beNum_le l 7 (by omega)
      simpa [beNum] using this
/-- A number's eight bytes, the highest first. -/
def bytes8 (n : Int) : List Int := (List.range 8).map fun i => n / 2 ^ (8 * (7 - i)) % 256
/-- A row of m bytes of which those that a test names are told by a function; the others are 0. -/
def rowIf (m : Nat) (f : Nat → Int) (p : Nat → Bool) : Array Value := Array.ofFn (n := m) fun i => Value.int .u8 (if p i.val then f i.val else 0)
theorem rowIf_size (m : Nat) (f : Nat → Int) (p : Nat → Bool) : (rowIf m f p).size = m := by simp [rowIf]
theorem rowIf_get (m : Nat) (f : Nat → Int) (p : Nat → Bool) (i : Nat) (h : i < m) : (rowIf m f p)[i]? = some (.int .u8 (if p i then f i else 0)) := by simp [rowIf, h]
theorem rowIf_set (m : Nat) (f : Nat → Int) (p q : Nat → Bool) (i : Nat) (h : ∀ j, j < m → q j = (p j || j == i)) : (rowIf m f p).setIfInBounds i (.int .u8 (f i)) = rowIf m f q := by
  apply Array.ext
  · simp [rowIf]
  · intro j h1 h2
    have hj : j < m := by simpa [rowIf] using h1
    have := h j hj
    by_cases e : i = j
    · subst e
      simp [rowIf, Array.getElem_setIfInBounds, this]
    · have e' : ¬ j = i := fun x => e x.symm
      have e2 : (j == i) = false := beq_eq_false_iff_ne.mpr e'
      rw [Array.getElem_setIfInBounds_ne (hj := by simpa [rowIf] using hj) (h := e)]
      simp [rowIf, this, e2]
/-- A number's nine bytes, the highest first, a 0 ahead. -/
def byte9 (n : Int) (i : Nat) : Int := if i = 0 then 0 else n / 2 ^ (8 * (7 - (i - 1))) % 256
def bytes9 (n : Int) : List Int := (List.range 9).map fun i => byte9 n i
theorem byte9_succ (n : Int) (j : Nat) : byte9 n (1 + j) = n / 2 ^ (8 * (7 - j)) % 256 := by
  unfold byte9
  rw [if_neg (by omega), Nat.add_sub_cancel_left]
theorem div256 (a : Int) (m : Nat) : a / 2 ^ (8 * m) / 256 = a / 2 ^ (8 * (m + 1)) := by
  have h0 : (0 : Int) ≤ 2 ^ (8 * m) := Int.pow_nonneg (by decide)
  rw [Int.ediv_ediv_of_nonneg h0]
  congr 1
  rw [Nat.mul_add, Int.pow_add]
  rfl
theorem isEmpty_bne (l : List UInt8) : l.isEmpty = !(l != []) := by cases l <;> rfl
theorem size_lit1 (a : UInt8) : (⟨#[a]⟩ : ByteArray).size = 1 := rfl
theorem size_lit2 (a b : UInt8) : (⟨#[a, b]⟩ : ByteArray).size = 2 := rfl
theorem size_lit3 (a b c : UInt8) : (⟨#[a, b, c]⟩ : ByteArray).size = 3 := rfl
theorem size_lit4 (a b c d : UInt8) : (⟨#[a, b, c, d]⟩ : ByteArray).size = 4 := rfl
end Gong
