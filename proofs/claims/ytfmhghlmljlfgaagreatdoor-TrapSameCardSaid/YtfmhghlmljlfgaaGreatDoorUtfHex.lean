/- Bytes as digits; what is shown of bytes: plain lists. -/
import Derived.Test.YtfmhghlmljlfgaaGreatDoorGPre
namespace Gong
open Go Go.RowKit
/-- A digit of sixteen. -/
def hexD (n : Nat) : UInt8 := if n < 10 then UInt8.ofNat (48 + n) else UInt8.ofNat (87 + n)
def hexB (c : UInt8) : List UInt8 := [hexD (c.toNat / 16), hexD (c.toNat % 16)]
def hexTxt : ByteArray := ⟨#[48, 49, 50, 51, 52, 53, 54, 55, 56, 57, 97, 98, 99, 100, 101, 102]⟩
theorem hexTxt_at (n : Nat) (h : n < 16) (h' : n < hexTxt.size) : hexTxt[n]'h' = hexD n := by
  have : ∀ i : Fin 16, hexTxt[i.val]'(by have := i.isLt; show _ < 16; exact this) = hexD i.val := by decide +kernel
  exact this ⟨n, h⟩
theorem hex_to (c : UInt8) : ((c.toNat : Int) / 16).toNat = c.toNat / 16 := by omega
theorem hex_at (n : Nat) (h : n < 16) (h' : n < (⟨#[48, 49, 50, 51, 52, 53, 54, 55, 56, 57, 97, 98, 99, 100, 101, 102]⟩ : ByteArray).size) : (⟨#[48, 49, 50, 51, 52, 53, 54, 55, 56, 57, 97, 98, 99, 100, 101, 102]⟩ : ByteArray)[n]'h' = hexD n := hexTxt_at n h h'
theorem hex_and (c : UInt8) : bits .and .u8 (c.toNat : Int) 15 = (c.toNat : Int) % 16 := by
  have : ∀ i : Fin 256, bits .and .u8 (i.val : Int) 15 = (i.val : Int) % 16 := by decide +kernel
  exact this ⟨c.toNat, c.toNat_lt⟩
theorem hex_to2 (c : UInt8) : ((c.toNat : Int) % 16).toNat = c.toNat % 16 := by omega
def hexL (l : List UInt8) : List UInt8 := l.flatMap hexB
theorem hexL_take {l : List UInt8} {k : Nat} {c : UInt8} (h : l[k]? = some c) : hexL (l.take (k + 1)) = hexL (l.take k) ++ [hexD (c.toNat / 16)] ++ [hexD (c.toNat % 16)] := by
  obtain ⟨hk, rfl⟩ := List.getElem?_eq_some_iff.1 h
  unfold hexL
  rw [List.take_succ_eq_append_getElem hk, List.flatMap_append]
  simp [hexB]
theorem hexL_len (l : List UInt8) : (hexL l).length = 2 * l.length := by
  unfold hexL
  induction l with
  | nil => rfl
  | cons c l ih => rw [List.flatMap_cons, List.length_append, ih]; simp [hexB]; omega
end Gong
