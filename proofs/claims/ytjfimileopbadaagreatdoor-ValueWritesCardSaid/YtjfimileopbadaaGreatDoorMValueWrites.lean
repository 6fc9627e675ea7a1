/- The plain texts behind the law, one after the other. -/
import Derived.Test.YtjfimileopbadaaGreatDoorXVaAx
import Derived.Lib.ItoaNum
import Derived.Lib.AtoiAll
import Derived.Lib.SplitLaws
import Derived.Lib.IndexBytes
import Derived.Lib.Join
import Derived.Lib.SlTrimSet
/- Layer 4: the first character of a text; the program's answer and the reference's are one. -/
namespace Go.Proofs.YtjfimileopbadaaGreatDoor.UtfS
open Go.RowKit Gong Go.Proofs.YtjfimileopbadaaGreatDoor.XVaA Go.Proofs.YtjfimileopbadaaGreatDoorW.PrintWords Go.Proofs.YtjfimileopbadaaGreatDoorW.PrintLast Go.Proofs.YtjfimileopbadaaGreatDoorW.PrintMore
set_option linter.unusedVariables false
set_option linter.unusedSimpArgs false
/-- The byte at a place, as a number. -/
def ua (l : List UInt8) (i : Nat) : Nat := (l.getD i 0).toNat
theorem ua_lt (l : List UInt8) (i : Nat) : ua l i < 256 := by unfold ua; exact UInt8.toNat_lt _
def c2 (l : List UInt8) : Nat := ua l 0 % 32 * 64 + ua l 1 % 64
def c3 (l : List UInt8) : Nat := (ua l 0 % 16 * 64 + ua l 1 % 64) * 64 + ua l 2 % 64
def c4 (l : List UInt8) : Nat := ((ua l 0 % 8 * 64 + ua l 1 % 64) * 64 + ua l 2 % 64) * 64 + ua l 3 % 64
def isC (c : Nat) : Bool := decide (c ≤ 1114111) && !(decide (55296 ≤ c) && decide (c ≤ 57343))
def ok1 (l : List UInt8) : Bool := decide (1 ≤ l.length) && decide (ua l 0 < 128)
def ok2 (l : List UInt8) : Bool := decide (2 ≤ l.length) && decide (ua l 0 / 32 = 6) && decide (ua l 1 / 64 = 2) && decide (128 ≤ c2 l)
def ok3 (l : List UInt8) : Bool := decide (3 ≤ l.length) && decide (ua l 0 / 16 = 14) && decide (ua l 1 / 64 = 2) && decide (ua l 2 / 64 = 2) && decide (2048 ≤ c3 l) && isC (c3 l)
def ok4 (l : List UInt8) : Bool := decide (4 ≤ l.length) && decide (ua l 0 / 8 = 30) && decide (ua l 1 / 64 = 2) && decide (ua l 2 / 64 = 2) && decide (ua l 3 / 64 = 2) && decide (65536 ≤ c4 l) && isC (c4 l)
/-- What is told of a text's beginning: the character, its length, the code. -/
def utfA (l : List UInt8) : Int × Int × Int :=
  if ok1 l then (((ua l 0 : Nat) : Int), (1 : Int), (0 : Int)) else if ok2 l then (((c2 l : Nat) : Int), (2 : Int), (0 : Int)) else if ok3 l then (((c3 l : Nat) : Int), (3 : Int), (0 : Int)) else if ok4 l then (((c4 l : Nat) : Int), (4 : Int), (0 : Int)) else (0, 0, 40)
theorem bt_at (s : ByteArray) (i : Nat) : bt s (i : Int) = ((ua s.data.toList i : Nat) : Int) := by
  unfold bt ua
  by_cases h : i < s.size
  · rw [dif_pos (show (i : Int).toNat < s.size from h)]
    rcases s with ⟨⟨l⟩⟩
    have h' : i < l.length := by simpa [ByteArray.size] using h
    simp [List.getD, h', ByteArray.getElem_eq_getElem_data]
  · rw [dif_neg (show ¬ (i : Int).toNat < s.size from h)]
    rcases s with ⟨⟨l⟩⟩
    have h' : ¬ i < l.length := by simpa [ByteArray.size] using h
    simp [List.getD, h']
theorem and31 (a : Nat) (h : a < 256) : wrap64 (Go.bits .and .u8 (a : Int) 31) = ((a % 32 : Nat) : Int) := by
  have : ∀ i : Fin 256, wrap64 (Go.bits .and .u8 ((i.val : Nat) : Int) 31) = ((i.val % 32 : Nat) : Int) := by decide +kernel
  exact this ⟨a, h⟩
theorem and15 (a : Nat) (h : a < 256) : wrap64 (Go.bits .and .u8 (a : Int) 15) = ((a % 16 : Nat) : Int) := by
  have : ∀ i : Fin 256, wrap64 (Go.bits .and .u8 ((i.val : Nat) : Int) 15) = ((i.val % 16 : Nat) : Int) := by decide +kernel
  exact this ⟨a, h⟩
theorem and7 (a : Nat) (h : a < 256) : wrap64 (Go.bits .and .u8 (a : Int) 7) = ((a % 8 : Nat) : Int) := by
  have : ∀ i : Fin 256, wrap64 (Go.bits .and .u8 ((i.val : Nat) : Int) 7) = ((i.val % 8 : Nat) : Int) := by decide +kernel
  exact this ⟨a, h⟩
theorem and63 (a : Nat) (h : a < 256) : wrap64 (Go.bits .and .u8 (a : Int) 63) = ((a % 64 : Nat) : Int) := by
  have : ∀ i : Fin 256, wrap64 (Go.bits .and .u8 ((i.val : Nat) : Int) 63) = ((i.val % 64 : Nat) : Int) := by decide +kernel
  exact this ⟨a, h⟩
theorem wraps_i63 (n : Int) (h0 : 0 ≤ n) (h1 : n < 2 ^ 63) : IntKind.i64.wrap n = n := by
  have : (2 : Int) ^ 63 = 9223372036854775808 := rfl
  rw [IntKind.wrap_i64]; omega
theorem or6 (a c : Nat) (ha : a ≤ 4294967295) (hc : c < 64) : Go.bits .or .i64 (wrap64 ((a : Int) * 64)) (c : Int) = ((a * 64 + c : Nat) : Int) := by
  have e : wrap64 ((a : Int) * 64) = (a : Int) * 64 := by unfold wrap64; omega
  rw [e]
  have := bits_join .i64 63 (by decide) wraps_i63 6 ((a : Int) * 64) (c : Int) (by omega) (by show _ % (64 : Int) = 0; omega) (by show _ < (9223372036854775808 : Int); omega) (by omega) (by show _ < (64 : Int); omega) (by show _ < (9223372036854775808 : Int); omega)
  rw [this]
  omega
theorem wrap_n (n : Nat) (h : n ≤ 4294967295) : wrap64 (n : Int) = (n : Int) := by unfold wrap64; omega
theorem is_eq (c : Nat) (h : c ≤ 4294967295) : utf_is.f (c : Int) = some (isC c) := by
  unfold utf_is.f isC
  rw [if_pos (by omega)]
  by_cases h1 : c ≤ 1114111
  · rw [if_pos (by omega)]
    by_cases h2 : c < 55296
    · rw [if_pos (by omega)]
      simp [h1, show ¬ 55296 ≤ c by omega]
    · rw [if_neg (by omega)]
      by_cases h3 : c ≤ 57343
      · simp [h1, h3, show 55296 ≤ c by omega, show ¬ (57343 < (c : Int)) by omega]
      · simp [h1, h3, show (57343 < (c : Int)) by omega]
  · rw [if_neg (by omega)]
    simp [h1]
/-- The least character of a length. -/
def least (n : Nat) : Nat := if n = 2 then 128 else if n = 3 then 2048 else if n = 4 then 65536 else 0
theorem least_eq (n : Nat) : utf_least.f (n : Int) = some ((least n : Nat) : Int) := by
  unfold utf_least.f least
  by_cases h2 : n = 2
  · subst h2; rfl
  by_cases h3 : n = 3
  · subst h3; rfl
  by_cases h4 : n = 4
  · subst h4; rfl
  rw [if_neg (by omega), if_neg (by omega), if_neg (by omega), if_neg h2, if_neg h3, if_neg h4]; rfl
theorem lp (s : ByteArray) (k c n i : Nat) (hi : i < n) (hn : n ≤ 4) (hs : n ≤ s.size) (hc : c ≤ 4294967295) :
    utf_First.l0 (k + 1) s (c : Int) (n : Int) (i : Int) = if ua s.data.toList i / 64 = 2 then utf_First.l0 k s ((c * 64 + ua s.data.toList i % 64 : Nat) : Int) (n : Int) ((i + 1 : Nat) : Int) else some (0, 0, 40) := by
  rw [utf_First.l0]
  rw [if_pos (by omega), if_pos (by omega), if_pos (by omega), bt_at, and63 _ (ua_lt _ _), or6 _ _ hc (by omega)]
  have e1 : wrap64 ((i : Int) + 1) = ((i + 1 : Nat) : Int) := by unfold wrap64; omega
  rw [e1]
  by_cases h : ua s.data.toList i / 64 = 2
  · rw [if_pos (by omega), if_pos h]
  · rw [if_neg (by omega), if_neg h]
theorem le (s : ByteArray) (k c n : Nat) (hc : c ≤ 4294967295) :
    utf_First.l0 (k + 1) s (c : Int) (n : Int) (n : Int) = if isC c = true ∧ least n ≤ c then some ((c : Int), (n : Int), 0) else some (0, 0, 40) := by
  rw [utf_First.l0]
  rw [if_neg (by omega), is_eq c hc]
  show (if isC c = true then _ else _) = _
  by_cases h : isC c = true
  · rw [if_pos h, least_eq]
    show (if (c : Int) < (least n : Nat) then _ else _) = _
    by_cases h2 : least n ≤ c
    · rw [if_neg (by omega), if_pos ⟨h, h2⟩]
    · rw [if_pos (by omega), if_neg (fun x => h2 x.2)]
  · rw [if_neg h, if_neg (fun x => h x.1)]
theorem long_eq (a : Nat) (h : a < 256) : utf_long.f (a : Int) = some (if a < 128 then (1, (a : Int)) else if a / 32 = 6 then (2, ((a % 32 : Nat) : Int)) else if a / 16 = 14 then (3, ((a % 16 : Nat) : Int)) else if a / 8 = 30 then (4, ((a % 8 : Nat) : Int)) else (0, 0)) := by
  unfold utf_long.f
  rw [and31 a h, and15 a h, and7 a h, wrap_n a (by omega)]
  by_cases h1 : a < 128
  · rw [if_pos (by omega), if_pos h1]
  rw [if_neg (by omega), if_neg h1]
  by_cases h2 : a / 32 = 6
  · rw [if_pos (by omega), if_pos h2]
  rw [if_neg (by omega), if_neg h2]
  by_cases h3 : a / 16 = 14
  · rw [if_pos (by omega), if_pos h3]
  rw [if_neg (by omega), if_neg h3]
  by_cases h4 : a / 8 = 30
  · rw [if_pos (by omega), if_pos h4]
  rw [if_neg (by omega), if_neg h4]
theorem utfA_of1 (l : List UInt8) (hl : 1 ≤ l.length) (h : ua l 0 < 128) : utfA l = (((ua l 0 : Nat) : Int), (1 : Int), (0 : Int)) := by
  unfold utfA
  rw [if_pos (show ok1 l = true by simp [ok1, h]; omega)]
theorem utfA_of2 (l : List UInt8) (h : ua l 0 / 32 = 6) : utfA l = if ok2 l then (((c2 l : Nat) : Int), (2 : Int), (0 : Int)) else (0, 0, 40) := by
  unfold utfA
  rw [if_neg (show ¬ ok1 l = true from fun x => by simp [ok1] at x; omega), if_neg (show ¬ ok3 l = true from fun x => by simp [ok3] at x; omega), if_neg (show ¬ ok4 l = true from fun x => by simp [ok4] at x; omega)]
theorem utfA_of3 (l : List UInt8) (h : ua l 0 / 16 = 14) : utfA l = if ok3 l then (((c3 l : Nat) : Int), (3 : Int), (0 : Int)) else (0, 0, 40) := by
  unfold utfA
  rw [if_neg (show ¬ ok1 l = true from fun x => by simp [ok1] at x; omega), if_neg (show ¬ ok2 l = true from fun x => by simp [ok2] at x; omega), if_neg (show ¬ ok4 l = true from fun x => by simp [ok4] at x; omega)]
theorem utfA_of4 (l : List UInt8) (h : ua l 0 / 8 = 30) : utfA l = if ok4 l then (((c4 l : Nat) : Int), (4 : Int), (0 : Int)) else (0, 0, 40) := by
  unfold utfA
  rw [if_neg (show ¬ ok1 l = true from fun x => by simp [ok1] at x; omega), if_neg (show ¬ ok2 l = true from fun x => by simp [ok2] at x; omega), if_neg (show ¬ ok3 l = true from fun x => by simp [ok3] at x; omega)]
theorem utfA_of0 (l : List UInt8) (h1 : ¬ ua l 0 < 128) (h2 : ua l 0 / 32 ≠ 6) (h3 : ua l 0 / 16 ≠ 14) (h4 : ua l 0 / 8 ≠ 30) : utfA l = (0, 0, 40) := by
  unfold utfA
  rw [if_neg (show ¬ ok1 l = true from fun x => by simp [ok1] at x; omega), if_neg (show ¬ ok2 l = true from fun x => by simp [ok2] at x; omega), if_neg (show ¬ ok3 l = true from fun x => by simp [ok3] at x; omega), if_neg (show ¬ ok4 l = true from fun x => by simp [ok4] at x; omega)]
theorem j0_no (s : ByteArray) (k : Nat) (c n : Int) : utf_First.j0 (k + 1) s c n true = some (0, 0, 40) := by rw [utf_First.j0, if_pos rfl]
theorem j0_yes (s : ByteArray) (k : Nat) (c n : Int) : utf_First.j0 (k + 1) s c n false = utf_First.l0 k s c n 1 := by rw [utf_First.j0, if_neg (by simp)]
/-- The program's answer. -/
theorem first_eq (s : ByteArray) (k : Nat) : utf_First.f (k + 6) s = some (utfA s.data.toList) := by
  have hsz : s.size = s.data.toList.length := by simp
  unfold utf_First.f
  by_cases h0 : s.toList = ([] : List UInt8)
  · rw [if_pos h0]
    rw [Go.ByteArray.toList_eq] at h0
    rw [h0]; rfl
  rw [if_neg h0]
  have hpos : 0 < s.size := by
    rcases Nat.eq_zero_or_pos s.size with h | h
    · rw [Go.ByteArray.toList_eq] at h0
      exact absurd (List.eq_nil_of_length_eq_zero (by rw [← hsz]; exact h)) h0
    · exact h
  rw [if_pos (by omega)]
  obtain ⟨l, hl⟩ : ∃ l, l = s.data.toList := ⟨_, rfl⟩
  have eb : bt s 0 = ((ua s.data.toList 0 : Nat) : Int) := bt_at s 0
  rw [eb, long_eq _ (ua_lt _ _)]
  show (if (_ : Int) = 0 then _ else _) = _
  have q0 := ua_lt s.data.toList 0
  have q1 := ua_lt s.data.toList 1
  have q2 := ua_lt s.data.toList 2
  have q3 := ua_lt s.data.toList 3
  have o0 : ((0 + 1 : Nat) : Int) = 1 := rfl
  by_cases h1 : ua s.data.toList 0 < 128
  · rw [if_pos h1, utfA_of1 _ (by omega) h1]
    show (if (1 : Int) = 0 then _ else utf_First.j0 (k + 6) s _ 1 (decide ((1 : Int) > s.size))) = _
    rw [if_neg (by omega), decide_eq_false (by omega), j0_yes]
    rw [show (1 : Int) = ((1 : Nat) : Int) from rfl, le s _ _ 1 (by omega), if_pos ⟨by simp [isC]; omega, by unfold least; simp⟩]
  rw [if_neg h1]
  by_cases h2 : ua s.data.toList 0 / 32 = 6
  · rw [if_pos h2, utfA_of2 _ h2]
    show (if (2 : Int) = 0 then _ else utf_First.j0 (k + 6) s _ 2 (decide ((2 : Int) > s.size))) = _
    rw [if_neg (by omega)]
    by_cases hs : 2 ≤ s.size
    case neg => rw [decide_eq_true (by omega), j0_no, if_neg (show ¬ ok2 s.data.toList = true from fun x => by simp [ok2] at x; omega)]
    rw [decide_eq_false (by omega), j0_yes]
    rw [show (1 : Int) = ((1 : Nat) : Int) from rfl, show (2 : Int) = ((2 : Nat) : Int) from rfl, lp s _ _ 2 1 (by omega) (by omega) hs (by omega)]
    by_cases d1 : ua s.data.toList 1 / 64 = 2
    case neg => rw [if_neg d1, if_neg (show ¬ ok2 s.data.toList = true from fun x => by simp [ok2] at x; omega)]
    rw [if_pos d1, le s _ _ 2 (by omega)]
    by_cases d2 : 128 ≤ c2 s.data.toList
    · rw [if_pos ⟨by simp [isC]; omega, d2⟩, if_pos (show ok2 s.data.toList = true by simp [ok2, h2, d1, d2]; omega)]; rfl
    · rw [if_neg (fun x => d2 x.2), if_neg (show ¬ ok2 s.data.toList = true from fun x => by simp [ok2] at x; omega)]
  rw [if_neg h2]
  by_cases h3 : ua s.data.toList 0 / 16 = 14
  · rw [if_pos h3, utfA_of3 _ h3]
    show (if (3 : Int) = 0 then _ else utf_First.j0 (k + 6) s _ 3 (decide ((3 : Int) > s.size))) = _
    rw [if_neg (by omega)]
    by_cases hs : 3 ≤ s.size
    case neg => rw [decide_eq_true (by omega), j0_no, if_neg (show ¬ ok3 s.data.toList = true from fun x => by simp [ok3] at x; omega)]
    rw [decide_eq_false (by omega), j0_yes]
    rw [show (1 : Int) = ((1 : Nat) : Int) from rfl, show (3 : Int) = ((3 : Nat) : Int) from rfl, lp s _ _ 3 1 (by omega) (by omega) hs (by omega)]
    by_cases d1 : ua s.data.toList 1 / 64 = 2
    case neg => rw [if_neg d1, if_neg (show ¬ ok3 s.data.toList = true from fun x => by simp [ok3] at x; omega)]
    rw [if_pos d1, lp s _ _ 3 (1 + 1) (by omega) (by omega) hs (by omega)]
    by_cases d2 : ua s.data.toList 2 / 64 = 2
    case neg => rw [if_neg d2, if_neg (show ¬ ok3 s.data.toList = true from fun x => by simp [ok3] at x; omega)]
    rw [if_pos d2]
    show utf_First.l0 _ _ ((c3 s.data.toList : Nat) : Int) _ ((3 : Nat) : Int) = _
    rw [le s _ _ 3 (by unfold c3; omega), show least 3 = 2048 from rfl]
    by_cases d3 : isC (c3 s.data.toList) = true ∧ 2048 ≤ c3 s.data.toList
    · rw [if_pos d3, if_pos (show ok3 s.data.toList = true by simp [ok3, h3, d1, d2, d3.1, d3.2]; omega)]
    · rw [if_neg d3, if_neg (show ¬ ok3 s.data.toList = true from fun x => d3 (by simp [ok3] at x; exact ⟨x.2, x.1.2⟩))]
  rw [if_neg h3]
  by_cases h4 : ua s.data.toList 0 / 8 = 30
  · rw [if_pos h4, utfA_of4 _ h4]
    show (if (4 : Int) = 0 then _ else utf_First.j0 (k + 6) s _ 4 (decide ((4 : Int) > s.size))) = _
    rw [if_neg (by omega)]
    by_cases hs : 4 ≤ s.size
    case neg => rw [decide_eq_true (by omega), j0_no, if_neg (show ¬ ok4 s.data.toList = true from fun x => by simp [ok4] at x; omega)]
    rw [decide_eq_false (by omega), j0_yes]
    rw [show (1 : Int) = ((1 : Nat) : Int) from rfl, show (4 : Int) = ((4 : Nat) : Int) from rfl, lp s _ _ 4 1 (by omega) (by omega) hs (by omega)]
    by_cases d1 : ua s.data.toList 1 / 64 = 2
    case neg => rw [if_neg d1, if_neg (show ¬ ok4 s.data.toList = true from fun x => by simp [ok4] at x; omega)]
    rw [if_pos d1, lp s _ _ 4 (1 + 1) (by omega) (by omega) hs (by omega)]
    by_cases d2 : ua s.data.toList 2 / 64 = 2
    case neg => rw [if_neg d2, if_neg (show ¬ ok4 s.data.toList = true from fun x => by simp [ok4] at x; omega)]
    rw [if_pos d2, lp s _ _ 4 (1 + 1 + 1) (by omega) (by omega) hs (by omega)]
    by_cases d3 : ua s.data.toList 3 / 64 = 2
    case neg => rw [if_neg d3, if_neg (show ¬ ok4 s.data.toList = true from fun x => by simp [ok4] at x; omega)]
    rw [if_pos d3]
    show utf_First.l0 _ _ ((c4 s.data.toList : Nat) : Int) _ ((4 : Nat) : Int) = _
    rw [le s _ _ 4 (by unfold c4; omega), show least 4 = 65536 from rfl]
    by_cases d4 : isC (c4 s.data.toList) = true ∧ 65536 ≤ c4 s.data.toList
    · rw [if_pos d4, if_pos (show ok4 s.data.toList = true by simp [ok4, h4, d1, d2, d3, d4.1, d4.2]; omega)]
    · rw [if_neg d4, if_neg (show ¬ ok4 s.data.toList = true from fun x => d4 (by simp [ok4] at x; exact ⟨x.2, x.1.2⟩))]
  rw [if_neg h4, utfA_of0 _ h1 h2 h3 h4]
  show (if (0 : Int) = 0 then _ else _) = _
  rw [if_pos rfl, j0_no]
end Go.Proofs.YtjfimileopbadaaGreatDoor.UtfS
/- Layer 4: the reference's first character. -/
namespace Go.Proofs.YtjfimileopbadaaGreatDoor.UtfS
open Go.RowKit Gong Go.Proofs.YtjfimileopbadaaGreatDoor.XVaA Go.Proofs.YtjfimileopbadaaGreatDoorW.PrintWords Go.Proofs.YtjfimileopbadaaGreatDoorW.PrintLast Go.Proofs.YtjfimileopbadaaGreatDoorW.PrintMore
set_option linter.unusedVariables false
set_option linter.unusedSimpArgs false
theorem ris_eq (c : Nat) (h : c ≤ 4294967295) : gongref04_Is.f (c : Int) = some (isC c) := is_eq c h
def u8 (n : Nat) : UInt8 := UInt8.ofNat n
theorem u8_eq (n : Nat) (h : n < 256) (b : UInt8) : u8 n = b ↔ n = b.toNat := by
  unfold u8
  rw [← UInt8.toNat_inj, UInt8.toNat_ofNat', Nat.mod_eq_of_lt h]
/-- A character's bytes. -/
def madeL (c : Nat) : List UInt8 := if c < 128 then [u8 c] else if c < 2048 then [u8 (192 + c / 64), u8 (128 + c % 64)] else if c < 65536 then [u8 (224 + c / 4096), u8 (128 + c / 64 % 64), u8 (128 + c % 64)] else [u8 (240 + c / 262144), u8 (128 + c / 4096 % 64), u8 (128 + c / 64 % 64), u8 (128 + c % 64)]
theorem td (c m : Nat) : Int.tdiv (c : Int) (m : Int) = ((c / m : Nat) : Int) := (Int.ofNat_tdiv c m).symm
theorem tm (c m : Nat) : Int.tmod (c : Int) (m : Int) = ((c % m : Nat) : Int) := (Int.ofNat_tmod c m).symm
theorem wr (x : Nat) (h : x ≤ 4294967295) : wrap64 (x : Int) = (x : Int) := by unfold wrap64; omega
theorem num (x : Nat) (h : x < 256) : UInt8.ofNat (((x : Int) % 256).toNat) = u8 x := by
  unfold u8; congr 1; omega
theorem wadd (m x : Nat) (h : m + x ≤ 4294967295) : wrap64 ((m : Int) + (x : Int)) = ((m + x : Nat) : Int) := by unfold wrap64; omega
theorem lt_div (c m : Nat) (h : c < 2097152) : c / m ≤ 4294967295 := Nat.le_trans (Nat.div_le_self _ _) (by omega)
theorem lt_div' (c : Nat) (h : c < 2097152) : c / 64 ≤ 32767 ∧ c / 4096 ≤ 511 ∧ c / 262144 ≤ 7 := by omega
theorem made_eq (c : Nat) (h : c < 2097152) : gongref04_Made.f (c : Int) = some ⟨(madeL c).toArray⟩ := by
  unfold gongref04_Made.f madeL
  have d1 : Int.tdiv (c : Int) 64 = ((c / 64 : Nat) : Int) := td c 64
  have d2 : Int.tdiv (c : Int) 4096 = ((c / 4096 : Nat) : Int) := td c 4096
  have d3 : Int.tdiv (c : Int) 262144 = ((c / 262144 : Nat) : Int) := td c 262144
  have m1 : Int.tmod (c : Int) 64 = ((c % 64 : Nat) : Int) := tm c 64
  have m2 : Int.tmod ((c / 64 : Nat) : Int) 64 = ((c / 64 % 64 : Nat) : Int) := tm _ 64
  have m3 : Int.tmod ((c / 4096 : Nat) : Int) 64 = ((c / 4096 % 64 : Nat) : Int) := tm _ 64
  have w1 := wr (c / 64) (lt_div c _ h)
  have w2 := wr (c / 4096) (lt_div c _ h)
  have w3 := wr (c / 262144) (lt_div c _ h)
  obtain ⟨g1, g2, g3⟩ := lt_div' c h
  have v1 := wadd 128 (c % 64) (by have := Nat.mod_lt c (show 0 < 64 by decide); clear d1 d2 d3 m1 m2 m3 w1 w2 w3; omega)
  have v2 := wadd 128 (c / 64 % 64) (by have := Nat.mod_lt (c / 64) (show 0 < 64 by decide); clear d1 d2 d3 m1 m2 m3 w1 w2 w3; omega)
  have v3 := wadd 128 (c / 4096 % 64) (by have := Nat.mod_lt (c / 4096) (show 0 < 64 by decide); clear d1 d2 d3 m1 m2 m3 w1 w2 w3; omega)
  have v4 := wadd 192 (c / 64) (by clear d1 d2 d3 m1 m2 m3 w1 w2 w3; omega)
  have v5 := wadd 224 (c / 4096) (by clear d1 d2 d3 m1 m2 m3 w1 w2 w3; omega)
  have v6 := wadd 240 (c / 262144) (by clear d1 d2 d3 m1 m2 m3 w1 w2 w3; omega)
  have k1 : ((128 : Nat) : Int) = 128 := rfl
  have k2 : ((192 : Nat) : Int) = 192 := rfl
  have k3 : ((224 : Nat) : Int) = 224 := rfl
  have k4 : ((240 : Nat) : Int) = 240 := rfl
  rw [k1] at v1 v2 v3
  rw [k2] at v4
  rw [k3] at v5
  rw [k4] at v6
  rw [d1, d2, d3, m1, w1, w2, w3, m2, m3, v1, v2, v3, v4, v5, v6]
  clear k1 k2 k3 k4 d1 d2 d3 m1 m2 m3 w1 w2 w3 v1 v2 v3 v4 v5 v6
  by_cases h1 : c < 128
  · rw [if_pos (by omega), if_pos h1]
    show some (⟨([UInt8.ofNat (((c : Int) % 256).toNat)] : List UInt8).toArray⟩ : ByteArray) = _
    rw [num c (by omega)]
  rw [if_neg (by omega), if_neg h1]
  by_cases h2 : c < 2048
  · rw [if_pos (by omega), if_pos h2]
    show some (⟨([UInt8.ofNat ((((192 + c / 64 : Nat) : Int) % 256).toNat), UInt8.ofNat ((((128 + c % 64 : Nat) : Int) % 256).toNat)] : List UInt8).toArray⟩ : ByteArray) = _
    rw [num _ (by omega), num _ (by omega)]
  rw [if_neg (by omega), if_neg h2]
  by_cases h3 : c < 65536
  · rw [if_pos (by omega), if_pos h3]
    show some (⟨([UInt8.ofNat ((((224 + c / 4096 : Nat) : Int) % 256).toNat), UInt8.ofNat ((((128 + c / 64 % 64 : Nat) : Int) % 256).toNat), UInt8.ofNat ((((128 + c % 64 : Nat) : Int) % 256).toNat)] : List UInt8).toArray⟩ : ByteArray) = _
    rw [num _ (by omega), num _ (by omega), num _ (by omega)]
  rw [if_neg (by omega), if_neg h3]
  show some (⟨([UInt8.ofNat ((((240 + c / 262144 : Nat) : Int) % 256).toNat), UInt8.ofNat ((((128 + c / 4096 % 64 : Nat) : Int) % 256).toNat), UInt8.ofNat ((((128 + c / 64 % 64 : Nat) : Int) % 256).toNat), UInt8.ofNat ((((128 + c % 64 : Nat) : Int) % 256).toNat)] : List UInt8).toArray⟩ : ByteArray) = _
  rw [num _ (by omega), num _ (by omega), num _ (by omega), num _ (by omega)]
theorem gl (s : ByteArray) (k c n i : Nat) (hi : i < n) (hs : n ≤ s.size) (hn : n ≤ 4) (hc : c ≤ 4294967295) :
    gongref04_guess.l0 (k + 1) s (n : Int) (c : Int) (i : Int) = gongref04_guess.l0 k s (n : Int) ((c * 64 + ua s.data.toList i % 64 : Nat) : Int) ((i + 1 : Nat) : Int) := by
  rw [gongref04_guess.l0]
  have e0 : Int.tmod ((ua s.data.toList i : Nat) : Int) 64 = ((ua s.data.toList i % 64 : Nat) : Int) := tm _ 64
  rw [if_pos (by omega), if_pos (by omega), if_pos (by omega), bt_at, e0, wr _ (by omega)]
  have e1 : wrap64 ((c : Int) * 64) = ((c * 64 : Nat) : Int) := by unfold wrap64; omega
  have e2 : wrap64 (((c * 64 : Nat) : Int) + ((ua s.data.toList i % 64 : Nat) : Int)) = ((c * 64 + ua s.data.toList i % 64 : Nat) : Int) := by unfold wrap64; omega
  have e3 : wrap64 ((i : Int) + 1) = ((i + 1 : Nat) : Int) := by unfold wrap64; omega
  rw [e1, e2, e3]
theorem ge (s : ByteArray) (k c n : Nat) : gongref04_guess.l0 (k + 1) s (n : Int) (c : Int) (n : Int) = some (c : Int) := by
  rw [gongref04_guess.l0, if_neg (by omega)]
/-- What the first n bytes would be. -/
def gs (l : List UInt8) (n : Nat) : Nat := if n = 1 then ua l 0 else if n = 2 then c2 l else if n = 3 then c3 l else c4 l
theorem guess_eq (s : ByteArray) (k n : Nat) (h1 : 1 ≤ n) (h4 : n ≤ 4) (hs : n ≤ s.size) : gongref04_guess.f (k + 6) s (n : Int) = some ((gs s.data.toList n : Nat) : Int) := by
  unfold gongref04_guess.f
  have eb : bt s 0 = ((ua s.data.toList 0 : Nat) : Int) := bt_at s 0
  have q0 := ua_lt s.data.toList 0
  have t1 : Int.tmod ((ua s.data.toList 0 : Nat) : Int) 32 = ((ua s.data.toList 0 % 32 : Nat) : Int) := tm _ 32
  have t2 : Int.tmod ((ua s.data.toList 0 : Nat) : Int) 16 = ((ua s.data.toList 0 % 16 : Nat) : Int) := tm _ 16
  have t3 : Int.tmod ((ua s.data.toList 0 : Nat) : Int) 8 = ((ua s.data.toList 0 % 8 : Nat) : Int) := tm _ 8
  rw [if_pos (by omega), eb, wr _ (by omega), t1, t2, t3]
  have o1 : (1 : Int) = ((1 : Nat) : Int) := rfl
  rcases (show n = 1 ∨ n = 2 ∨ n = 3 ∨ n = 4 by omega) with rfl | rfl | rfl | rfl
  · rw [if_pos (show ((1 : Nat) : Int) = 1 from rfl)]; rfl
  · rw [if_neg (show ¬ ((2 : Nat) : Int) = 1 by omega), if_pos (show ((2 : Nat) : Int) = 2 from rfl), gongref04_guess.j0, o1, gl s _ _ 2 1 (by omega) hs h4 (by omega)]
    exact ge s _ _ 2
  · rw [if_neg (show ¬ ((3 : Nat) : Int) = 1 by omega), if_neg (show ¬ ((3 : Nat) : Int) = 2 by omega), if_pos (show ((3 : Nat) : Int) = 3 from rfl), gongref04_guess.j0, o1, gl s _ _ 3 1 (by omega) hs h4 (by omega), gl s _ _ 3 (1 + 1) (by omega) hs h4 (by omega)]
    exact ge s _ _ 3
  · rw [if_neg (show ¬ ((4 : Nat) : Int) = 1 by omega), if_neg (show ¬ ((4 : Nat) : Int) = 2 by omega), if_neg (show ¬ ((4 : Nat) : Int) = 3 by omega), gongref04_guess.j0, o1, gl s _ _ 4 1 (by omega) hs h4 (by omega), gl s _ _ 4 (1 + 1) (by omega) hs h4 (by omega), gl s _ _ 4 (1 + 1 + 1) (by omega) hs h4 (by omega)]
    exact ge s _ _ 4
/-- One round of the reference. -/
def hit (l : List UInt8) (n : Nat) : Bool := isC (gs l n) && decide (madeL (gs l n) = l.take n)
theorem gs_lt (l : List UInt8) (n : Nat) : gs l n < 2097152 := by
  have q0 := ua_lt l 0
  unfold gs c2 c3 c4
  split
  · omega
  split
  · omega
  split <;> omega
theorem rl (s : ByteArray) (k n : Nat) (h1 : 1 ≤ n) (h4 : n ≤ 4) (hs : n ≤ s.size) : gongref04_First.l0 (k + 8) s (n : Int) = if hit s.data.toList n then some (((gs s.data.toList n : Nat) : Int), (n : Int), 0) else gongref04_First.l0 (k + 6) s ((n + 1 : Nat) : Int) := by
  have hlt := gs_lt s.data.toList n
  rw [gongref04_First.l0, if_pos (by omega), gongref04_First.j1, decide_eq_true (by omega), if_pos rfl, guess_eq s _ n h1 h4 hs]
  show ((gongref04_Is.f _).bind _) = _
  rw [ris_eq _ (by omega)]
  have e1 : wrap64 ((n : Int) + 1) = ((n + 1 : Nat) : Int) := by unfold wrap64; omega
  rw [e1]
  show (if isC _ = true then _ else _) = _
  by_cases c1 : isC (gs s.data.toList n) = true
  · rw [if_pos c1, made_eq _ hlt]
    show (if (0 : Int) ≤ n then (if (n : Int) ≤ (s.size : Int) then (if (⟨(madeL (gs s.data.toList n)).toArray⟩ : ByteArray).toList = (s.extract 0 ((n : Int)).toNat).toList then some (((gs s.data.toList n : Nat) : Int), (n : Int), (0 : Int)) else gongref04_First.l0 (k + 6) s ((n + 1 : Nat) : Int)) else none) else none) = _
    rw [if_pos (by omega), if_pos (by omega)]
    have e2 : ((⟨(madeL (gs s.data.toList n)).toArray⟩ : ByteArray).toList = (s.extract 0 ((n : Int)).toNat).toList) ↔ madeL (gs s.data.toList n) = s.data.toList.take n := by
      rw [Go.ByteArray.toList_eq, Go.ByteArray.toList_eq]
      simp [List.drop_take]
    by_cases c2 : madeL (gs s.data.toList n) = s.data.toList.take n
    · rw [if_pos (e2.2 c2), if_pos (show hit s.data.toList n = true by simp [hit, c1, c2])]
    · rw [if_neg (fun x => c2 (e2.1 x)), if_neg (show ¬ hit s.data.toList n = true from fun x => c2 (by simp [hit] at x; exact x.2))]
  · rw [if_neg c1, if_neg (show ¬ hit s.data.toList n = true from fun x => c1 (by simp [hit] at x; exact x.1))]
theorem rl_end (s : ByteArray) (k n : Nat) (h : 4 < n ∨ s.size < n) : gongref04_First.l0 (k + 2) s (n : Int) = some (0, 0, 40) := by
  rw [gongref04_First.l0]
  by_cases c : (n : Int) ≤ 4
  · rw [if_pos c, gongref04_First.j1, decide_eq_false (by omega), if_neg (by simp)]
  · rw [if_neg c, gongref04_First.j1, if_neg (by simp)]
end Go.Proofs.YtjfimileopbadaaGreatDoor.UtfS
/- Layer 4: the reference's first character is the program's. -/
namespace Go.Proofs.YtjfimileopbadaaGreatDoor.UtfS
open Go.RowKit Gong Go.Proofs.YtjfimileopbadaaGreatDoor.XVaA Go.Proofs.YtjfimileopbadaaGreatDoorW.PrintWords Go.Proofs.YtjfimileopbadaaGreatDoorW.PrintLast Go.Proofs.YtjfimileopbadaaGreatDoorW.PrintMore
set_option linter.unusedVariables false
set_option linter.unusedSimpArgs false
theorem isC_small (c : Nat) (h : c < 55296) : isC c = true := by simp [isC]; omega
theorem hit_iff (l : List UInt8) (n : Nat) : hit l n = true ↔ isC (gs l n) = true ∧ madeL (gs l n) = l.take n := by
  unfold hit
  rw [Bool.and_eq_true, decide_eq_true_eq]
theorem hit1 (l : List UInt8) (hl : 1 ≤ l.length) : hit l 1 = ok1 l := by
  obtain ⟨b, t, rfl⟩ : ∃ b t, l = b :: t := by
    cases l with
    | nil => simp at hl
    | cons b t => exact ⟨b, t, rfl⟩
  have e0 : ua (b :: t) 0 = b.toNat := rfl
  have hb : b.toNat < 256 := UInt8.toNat_lt b
  rw [Bool.eq_iff_iff, hit_iff]
  unfold ok1
  rw [show gs (b :: t) 1 = b.toNat from rfl, isC_small _ (by omega), e0]
  simp only [true_and, decide_eq_true_eq, Bool.and_eq_true, List.take_succ_cons, List.take_zero, List.length_cons]
  unfold madeL
  by_cases h : b.toNat < 128
  · rw [if_pos h]
    refine ⟨fun _ => ⟨by omega, h⟩, fun _ => ?_⟩
    rw [(u8_eq b.toNat hb b).2 rfl]
  · rw [if_neg h, if_pos (by omega)]
    exact ⟨fun x => by simp at x, fun x => absurd x.2 h⟩
theorem hit2 (l : List UInt8) (hl : 2 ≤ l.length) : hit l 2 = ok2 l := by
  obtain ⟨b, d, t, rfl⟩ : ∃ b d t, l = b :: d :: t := by
    match l, hl with
    | b :: d :: t, _ => exact ⟨b, d, t, rfl⟩
  have e0 : ua (b :: d :: t) 0 = b.toNat := rfl
  have e1 : ua (b :: d :: t) 1 = d.toNat := rfl
  have hb : b.toNat < 256 := UInt8.toNat_lt b
  have hd : d.toNat < 256 := UInt8.toNat_lt d
  have ec : c2 (b :: d :: t) = b.toNat % 32 * 64 + d.toNat % 64 := rfl
  obtain ⟨c, hc⟩ : ∃ c, c = b.toNat % 32 * 64 + d.toNat % 64 := ⟨_, rfl⟩
  rw [← hc] at ec
  rw [Bool.eq_iff_iff, hit_iff]
  unfold ok2
  rw [show gs (b :: d :: t) 2 = c2 (b :: d :: t) from rfl, ec, isC_small _ (by omega), e0, e1]
  simp only [true_and, decide_eq_true_eq, Bool.and_eq_true, List.take_succ_cons, List.take_zero, List.length_cons]
  unfold madeL
  by_cases h : c < 128
  · rw [if_pos h]
    exact ⟨fun x => by simp at x, fun x => by omega⟩
  · rw [if_neg h, if_pos (by omega)]
    rw [List.cons.injEq, List.cons.injEq, u8_eq _ (by omega), u8_eq _ (by omega)]
    simp only [and_true]
    constructor
    · rintro ⟨x, y⟩
      exact ⟨⟨⟨by omega, by omega⟩, by omega⟩, by omega⟩
    · rintro ⟨⟨⟨_, x⟩, y⟩, z⟩
      exact ⟨by omega, by omega⟩
theorem hit3 (l : List UInt8) (hl : 3 ≤ l.length) : hit l 3 = ok3 l := by
  obtain ⟨b, d, e, t, rfl⟩ : ∃ b d e t, l = b :: d :: e :: t := by
    match l, hl with
    | b :: d :: e :: t, _ => exact ⟨b, d, e, t, rfl⟩
  have e0 : ua (b :: d :: e :: t) 0 = b.toNat := rfl
  have e1 : ua (b :: d :: e :: t) 1 = d.toNat := rfl
  have e2 : ua (b :: d :: e :: t) 2 = e.toNat := rfl
  have hb : b.toNat < 256 := UInt8.toNat_lt b
  have hd : d.toNat < 256 := UInt8.toNat_lt d
  have he : e.toNat < 256 := UInt8.toNat_lt e
  have ec : c3 (b :: d :: e :: t) = (b.toNat % 16 * 64 + d.toNat % 64) * 64 + e.toNat % 64 := rfl
  obtain ⟨c, hc⟩ : ∃ c, c = (b.toNat % 16 * 64 + d.toNat % 64) * 64 + e.toNat % 64 := ⟨_, rfl⟩
  rw [← hc] at ec
  rw [Bool.eq_iff_iff, hit_iff]
  unfold ok3
  rw [show gs (b :: d :: e :: t) 3 = c3 (b :: d :: e :: t) from rfl, ec, e0, e1, e2]
  simp only [decide_eq_true_eq, Bool.and_eq_true, List.take_succ_cons, List.take_zero, List.length_cons]
  unfold madeL
  by_cases h : c < 128
  · rw [if_pos h]
    exact ⟨fun x => by simp at x, fun x => by omega⟩
  rw [if_neg h]
  by_cases h2 : c < 2048
  · rw [if_pos h2]
    exact ⟨fun x => by simp at x, fun x => by omega⟩
  rw [if_neg h2, if_pos (by omega)]
  rw [List.cons.injEq, List.cons.injEq, List.cons.injEq, u8_eq _ (by omega), u8_eq _ (by omega), u8_eq _ (by omega)]
  simp only [and_true]
  constructor
  · rintro ⟨w, x, y, z⟩
    exact ⟨⟨⟨⟨⟨by omega, by omega⟩, by omega⟩, by omega⟩, by omega⟩, w⟩
  · rintro ⟨⟨⟨⟨⟨_, x⟩, y⟩, z⟩, _⟩, w⟩
    exact ⟨w, by omega, by omega, by omega⟩
theorem hit4 (l : List UInt8) (hl : 4 ≤ l.length) : hit l 4 = ok4 l := by
  obtain ⟨b, d, e, f, t, rfl⟩ : ∃ b d e f t, l = b :: d :: e :: f :: t := by
    match l, hl with
    | b :: d :: e :: f :: t, _ => exact ⟨b, d, e, f, t, rfl⟩
  have e0 : ua (b :: d :: e :: f :: t) 0 = b.toNat := rfl
  have e1 : ua (b :: d :: e :: f :: t) 1 = d.toNat := rfl
  have e2 : ua (b :: d :: e :: f :: t) 2 = e.toNat := rfl
  have e3 : ua (b :: d :: e :: f :: t) 3 = f.toNat := rfl
  have hb : b.toNat < 256 := UInt8.toNat_lt b
  have hd : d.toNat < 256 := UInt8.toNat_lt d
  have he : e.toNat < 256 := UInt8.toNat_lt e
  have hf : f.toNat < 256 := UInt8.toNat_lt f
  have ec : c4 (b :: d :: e :: f :: t) = ((b.toNat % 8 * 64 + d.toNat % 64) * 64 + e.toNat % 64) * 64 + f.toNat % 64 := rfl
  obtain ⟨c, hc⟩ : ∃ c, c = ((b.toNat % 8 * 64 + d.toNat % 64) * 64 + e.toNat % 64) * 64 + f.toNat % 64 := ⟨_, rfl⟩
  rw [← hc] at ec
  rw [Bool.eq_iff_iff, hit_iff]
  unfold ok4
  rw [show gs (b :: d :: e :: f :: t) 4 = c4 (b :: d :: e :: f :: t) from rfl, ec, e0, e1, e2, e3]
  simp only [decide_eq_true_eq, Bool.and_eq_true, List.take_succ_cons, List.take_zero, List.length_cons]
  unfold madeL
  by_cases h : c < 128
  · rw [if_pos h]
    exact ⟨fun x => by simp at x, fun x => by omega⟩
  rw [if_neg h]
  by_cases h2 : c < 2048
  · rw [if_pos h2]
    exact ⟨fun x => by simp at x, fun x => by omega⟩
  rw [if_neg h2]
  by_cases h3 : c < 65536
  · rw [if_pos h3]
    exact ⟨fun x => by simp at x, fun x => by omega⟩
  rw [if_neg h3]
  rw [List.cons.injEq, List.cons.injEq, List.cons.injEq, List.cons.injEq, u8_eq _ (by omega), u8_eq _ (by omega), u8_eq _ (by omega), u8_eq _ (by omega)]
  simp only [and_true]
  constructor
  · rintro ⟨w, x, y, z, v⟩
    exact ⟨⟨⟨⟨⟨⟨by omega, by omega⟩, by omega⟩, by omega⟩, by omega⟩, by omega⟩, w⟩
  · rintro ⟨⟨⟨⟨⟨⟨_, x⟩, y⟩, z⟩, v⟩, _⟩, w⟩
    exact ⟨w, by omega, by omega, by omega, by omega⟩
/-- The reference's answer. -/
theorem rfirst_eq (s : ByteArray) (k : Nat) : gongref04_First.f (k + 20) s = some (utfA s.data.toList) := by
  have hsz : s.size = s.data.toList.length := by simp
  unfold gongref04_First.f utfA
  have o1 : (1 : Int) = ((1 : Nat) : Int) := rfl
  rw [o1]
  by_cases l1 : 1 ≤ s.size
  case neg =>
    rw [rl_end s _ 1 (by omega), if_neg (show ¬ ok1 s.data.toList = true from fun x => by simp [ok1] at x; omega), if_neg (show ¬ ok2 s.data.toList = true from fun x => by simp [ok2] at x; omega), if_neg (show ¬ ok3 s.data.toList = true from fun x => by simp [ok3] at x; omega), if_neg (show ¬ ok4 s.data.toList = true from fun x => by simp [ok4] at x; omega)]
  rw [rl s (k + 12) 1 (by omega) (by omega) l1, hit1 _ (by omega)]
  by_cases k1 : ok1 s.data.toList = true
  · rw [if_pos k1, if_pos k1]; rfl
  rw [if_neg k1, if_neg k1]
  by_cases l2 : 2 ≤ s.size
  case neg =>
    rw [rl_end s _ (1 + 1) (by omega), if_neg (show ¬ ok2 s.data.toList = true from fun x => by simp [ok2] at x; omega), if_neg (show ¬ ok3 s.data.toList = true from fun x => by simp [ok3] at x; omega), if_neg (show ¬ ok4 s.data.toList = true from fun x => by simp [ok4] at x; omega)]
  rw [rl s (k + 10) (1 + 1) (by omega) (by omega) l2, hit2 _ (by omega)]
  by_cases k2 : ok2 s.data.toList = true
  · rw [if_pos k2, if_pos k2]; rfl
  rw [if_neg k2, if_neg k2]
  by_cases l3 : 3 ≤ s.size
  case neg =>
    rw [rl_end s _ (1 + 1 + 1) (by omega), if_neg (show ¬ ok3 s.data.toList = true from fun x => by simp [ok3] at x; omega), if_neg (show ¬ ok4 s.data.toList = true from fun x => by simp [ok4] at x; omega)]
  rw [rl s (k + 8) (1 + 1 + 1) (by omega) (by omega) l3, hit3 _ (by omega)]
  by_cases k3 : ok3 s.data.toList = true
  · rw [if_pos k3, if_pos k3]; rfl
  rw [if_neg k3, if_neg k3]
  by_cases l4 : 4 ≤ s.size
  case neg =>
    rw [rl_end s _ (1 + 1 + 1 + 1) (by omega), if_neg (show ¬ ok4 s.data.toList = true from fun x => by simp [ok4] at x; omega)]
  rw [rl s (k + 6) (1 + 1 + 1 + 1) (by omega) (by omega) l4, hit4 _ (by omega)]
  by_cases k4 : ok4 s.data.toList = true
  · rw [if_pos k4, if_pos k4]; rfl
  rw [if_neg k4, if_neg k4, rl_end s _ (1 + 1 + 1 + 1 + 1) (by omega)]
end Go.Proofs.YtjfimileopbadaaGreatDoor.UtfS
/- Layer 4: what is shown of a text; the reference's answer is the program's. -/
namespace Go.Proofs.YtjfimileopbadaaGreatDoor.UtfS
open Go.RowKit Gong Go.Proofs.YtjfimileopbadaaGreatDoor.XVaA Go.Proofs.YtjfimileopbadaaGreatDoorW.PrintWords Go.Proofs.YtjfimileopbadaaGreatDoorW.PrintLast Go.Proofs.YtjfimileopbadaaGreatDoorW.PrintMore
set_option linter.unusedVariables false
set_option linter.unusedSimpArgs false
theorem utfA_ok (l : List UInt8) (h : (utfA l).2.2 = 0) : ∃ n c : Nat, utfA l = ((c : Int), (n : Int), 0) ∧ 1 ≤ n ∧ n ≤ l.length ∧ n ≤ 4 ∧ (c < 128 → n = 1) := by
  unfold utfA at h ⊢
  by_cases k1 : ok1 l = true
  · rw [if_pos k1]
    exact ⟨1, ua l 0, rfl, by omega, by simp [ok1] at k1; omega, by omega, fun _ => rfl⟩
  rw [if_neg k1] at h ⊢
  by_cases k2 : ok2 l = true
  · rw [if_pos k2]
    exact ⟨2, c2 l, rfl, by omega, by simp [ok2] at k2; omega, by omega, fun x => by simp [ok2] at k2; omega⟩
  rw [if_neg k2] at h ⊢
  by_cases k3 : ok3 l = true
  · rw [if_pos k3]
    exact ⟨3, c3 l, rfl, by omega, by simp [ok3] at k3; omega, by omega, fun x => by simp [ok3] at k3; omega⟩
  rw [if_neg k3] at h ⊢
  by_cases k4 : ok4 l = true
  · rw [if_pos k4]
    exact ⟨4, c4 l, rfl, by omega, by simp [ok4] at k4; omega, by omega, fun x => by simp [ok4] at k4; omega⟩
  rw [if_neg k4] at h
  exact absurd h (by decide)
/-- Is the first byte shown as digits? -/
def ctl (l : List UInt8) : Prop := (utfA l).2.2 ≠ 0 ∨ (utfA l).1 < 32 ∨ (utfA l).1 = 127
instance (l : List UInt8) : Decidable (ctl l) := by unfold ctl; infer_instance
/-- What is shown of a text. -/
def utfS : Nat → List UInt8 → List UInt8
  | 0, _ => []
  | _ + 1, [] => []
  | k + 1, b :: t => if ctl (b :: t) then [92, 120] ++ hexB b ++ utfS k t else
    (if (utfA (b :: t)).1 = 92 then [92, 92] else (b :: t).take (utfA (b :: t)).2.1.toNat) ++ utfS k ((b :: t).drop (utfA (b :: t)).2.1.toNat)
theorem exg (s : ByteArray) (a b : Nat) : (s.extract a b).data.toList = (s.data.toList.take b).drop a := by
  simp [List.drop_take]
theorem ext1 (s : ByteArray) (n : Nat) : (s.extract n s.size).data.toList = s.data.toList.drop n := by
  rw [exg, List.take_of_length_le (by simp)]
theorem ext0 (s : ByteArray) (n : Nat) : (s.extract 0 n).data.toList = s.data.toList.take n := by
  simp [List.drop_take]
theorem go_eq : ∀ (n : Nat) (s : ByteArray) (acc : List UInt8) (k : Nat), s.data.toList.length ≤ n → acc.length + 4 * n ≤ 100000000 → n + 8 ≤ k → utf_Shown.go k s acc = some (acc ++ utfS n s.data.toList) := by
  intro n
  induction n with
  | zero =>
    intro s acc k hl ha hk
    obtain ⟨m, rfl⟩ : ∃ m, k = m + 1 := ⟨k - 1, by omega⟩
    have h0 : s.data.toList = [] := List.eq_nil_of_length_eq_zero (by omega)
    rw [utf_Shown.go, if_pos (by omega), h0, utfS, List.append_nil]
  | succ n ih =>
    intro s acc k hl ha hk
    obtain ⟨m, rfl⟩ : ∃ m, k = m + 6 + 1 := ⟨k - 7, by omega⟩
    have hsz : s.size = s.data.toList.length := by simp
    rw [utf_Shown.go, if_pos (by omega), first_eq s m]
    cases hs : s.data.toList with
    | nil => rw [utfS, List.append_nil]
    | cons b t =>
      have hlen : s.data.toList.length = t.length + 1 := by rw [hs]; rfl
      show (if ctl (b :: t) then _ else _) = _
      rw [utfS]
      by_cases hc : ctl (b :: t)
      · rw [if_pos hc, if_pos hc]
        rw [ih _ _ _ (by rw [ext1, hs]; simp; omega) (by simp [hexB]; omega) (by omega), ext1, hs]
        simp
      · rw [if_neg hc, if_neg hc]
        have h0 : (utfA (b :: t)).2.2 = 0 := by
          by_cases x : (utfA (b :: t)).2.2 = 0
          · exact x
          · exact absurd (Or.inl x) hc
        obtain ⟨q, c, e, g1, g2, g3, g4⟩ := utfA_ok _ h0
        rw [e]
        have g2' : q ≤ t.length + 1 := g2
        show (if 0 ≤ (q : Int) ∧ (q : Int) ≤ (s.size : Int) ∧ (q : Int) ≤ 1000 then _ else _) = _
        rw [if_pos ⟨by omega, by omega, by omega⟩]
        have eq1 : ((q : Int)).toNat = q := Int.toNat_natCast q
        have hlq : (s.extract q s.size).data.toList.length ≤ n := by rw [ext1, List.length_drop]; omega
        show (if (c : Int) = 92 then utf_Shown.go (m + 6) (s.extract ((q : Int)).toNat s.size) (acc ++ [92, 92]) else utf_Shown.go (m + 6) (s.extract ((q : Int)).toNat s.size) (acc ++ (s.extract 0 ((q : Int)).toNat).data.toList)) = some (acc ++ ((if (c : Int) = 92 then [92, 92] else (b :: t).take ((q : Int)).toNat) ++ utfS n ((b :: t).drop ((q : Int)).toNat)))
        rw [eq1]
        by_cases h92 : (c : Int) = 92
        · rw [if_pos h92, if_pos h92, ih _ _ _ hlq (by simp; omega) (by omega), ext1, hs, List.append_assoc]
        · rw [if_neg h92, if_neg h92, ih _ _ _ hlq (by rw [List.length_append, ext0, List.length_take]; omega) (by omega), ext1, ext0, hs, List.append_assoc]
/-- The program's answer. -/
theorem shown_eq (s : ByteArray) (k : Nat) (h : s.size ≤ 1000000) (hk : s.size + 8 ≤ k) : utf_Shown.f k s = some ⟨(utfS s.size s.data.toList).toArray⟩ := by
  have hsz : s.size = s.data.toList.length := by simp
  unfold utf_Shown.f
  rw [go_eq s.size s [] k (by omega) (by simp; omega) hk]
  rfl
/-- The reference's digits. -/
theorem rhex_eq (b : UInt8) : gongref04_hex.f ((b.toNat : Nat) : Int) = some ⟨([92, 120] ++ hexB b).toArray⟩ := by
  unfold gongref04_hex.f
  have := UInt8.toNat_lt b
  rw [if_pos ⟨by omega, by omega⟩]
  rfl
theorem app (a : ByteArray) (l : List UInt8) : (⟨(a.data.toList ++ l).toArray⟩ : ByteArray) = a ++ ⟨l.toArray⟩ := by
  apply ByteArray.ext
  simp
theorem j2_yes (s x : ByteArray) (k a q : Nat) (c : Int) (b : UInt8) (hb : s.data.toList[a]? = some b) (hx : x.size ≤ 100000000) (hq : q ≤ 4) (hs : s.size ≤ 1000000) :
    gongref04_Shown.j2 (k + 1) s x (a : Int) c (q : Int) true = gongref04_Shown.l0 k s (x ++ ⟨([92, 120] ++ hexB b).toArray⟩) ((a + q : Nat) : Int) := by
  have ha : a < s.size := by have := (List.getElem?_eq_some_iff.1 hb).1; simpa using this
  have eb : ua s.data.toList a = b.toNat := by unfold ua; rw [List.getD_eq_getElem?_getD, hb]; rfl
  have e1 : wrap64 ((a : Int) + (q : Int)) = ((a + q : Nat) : Int) := by unfold wrap64; omega
  rw [gongref04_Shown.j2, if_pos rfl, if_pos (by omega), if_pos (by omega), bt_at, eb, rhex_eq, e1]
  have hz : (⟨([92, 120] ++ hexB b).toArray⟩ : ByteArray).size = 4 := rfl
  show (if x.size + (⟨([92, 120] ++ hexB b).toArray⟩ : ByteArray).size ≤ 9223372036854775807 then _ else _) = _
  rw [if_pos (by rw [hz]; omega)]
theorem j2_no (s x : ByteArray) (k a q : Nat) (c : Int) (hx : x.size ≤ 100000000) (hq : q ≤ 4) (hs : s.size ≤ 1000000) (ha : a + q ≤ s.size) :
    gongref04_Shown.j2 (k + 1) s x (a : Int) c (q : Int) false = gongref04_Shown.l0 k s (x ++ ⟨(if c = 92 then [92, 92] else (s.data.toList.drop a).take q).toArray⟩) ((a + q : Nat) : Int) := by
  have e1 : wrap64 ((a : Int) + (q : Int)) = ((a + q : Nat) : Int) := by unfold wrap64; omega
  have eq1 : (((a + q : Nat) : Int)).toNat = a + q := Int.toNat_natCast _
  have eq2 : ((a : Nat) : Int).toNat = a := Int.toNat_natCast _
  have ee : s.extract a (a + q) = ⟨((s.data.toList.drop a).take q).toArray⟩ := by
    apply ByteArray.ext
    apply Array.ext'
    rw [exg, List.drop_take]
    show _ = (s.data.toList.drop a).take q
    congr 1 <;> omega
  have hz : (s.extract a (a + q)).size ≤ s.size := by simp; omega
  rw [gongref04_Shown.j2, if_neg (by simp), e1]
  by_cases h : c = 92
  · rw [if_pos h, if_pos h, if_pos (by omega)]
  · rw [if_neg h, if_neg h, if_pos (by omega), if_pos (by omega), if_pos (by omega), eq1, eq2, if_pos (by omega), ee]
theorem rl0_eq : ∀ (n : Nat) (s x : ByteArray) (a k : Nat), s.size - a ≤ n → a ≤ s.size → s.size ≤ 1000000 → x.size + 4 * n ≤ 100000000 → 3 * n + 30 ≤ k → gongref04_Shown.l0 k s x (a : Int) = some (x ++ ⟨(utfS n (s.data.toList.drop a)).toArray⟩) := by
  intro n
  induction n with
  | zero =>
    intro s x a k h1 h2 h3 h4 hk
    obtain ⟨m, rfl⟩ : ∃ m, k = m + 1 := ⟨k - 1, by omega⟩
    rw [gongref04_Shown.l0, if_neg (by omega)]
    have : x ++ (⟨([] : List UInt8).toArray⟩ : ByteArray) = x := by apply ByteArray.ext; simp
    rw [utfS, this]
  | succ n ih =>
    intro s x a k h1 h2 h3 h4 hk
    obtain ⟨m, rfl⟩ : ∃ m, k = m + 20 + 1 := ⟨k - 21, by omega⟩
    have hsz : s.size = s.data.toList.length := by simp
    rw [gongref04_Shown.l0]
    by_cases hlt : a < s.size
    case neg =>
      have hd : s.data.toList.drop a = [] := List.drop_eq_nil_of_le (by omega)
      have : x ++ (⟨([] : List UInt8).toArray⟩ : ByteArray) = x := by apply ByteArray.ext; simp
      rw [if_neg (by omega), hd, utfS, this]
    obtain ⟨b, t, hd⟩ : ∃ b t, s.data.toList.drop a = b :: t := by
      cases hd : s.data.toList.drop a with
      | nil => have := congrArg List.length hd; rw [List.length_drop, List.length_nil] at this; omega
      | cons b t => exact ⟨b, t, rfl⟩
    have hb : s.data.toList[a]? = some b := by
      have := congrArg List.head? hd
      rw [List.head?_drop] at this
      exact this
    have hdl : s.size - a = t.length + 1 := by have := congrArg List.length hd; rw [List.length_drop, ← hsz] at this; exact this
    have ea : ((a : Nat) : Int).toNat = a := Int.toNat_natCast _
    rw [if_pos (by omega), if_pos (by omega), if_pos (by omega), ea, rfirst_eq _ m, ext1, hd]
    have hx4 : ∀ l : List UInt8, l.length ≤ 4 → (x ++ (⟨l.toArray⟩ : ByteArray)).size + 4 * n ≤ 100000000 := by
      intro l hl
      rw [ByteArray.size_append]
      have : (⟨l.toArray⟩ : ByteArray).size = l.length := rfl
      omega
    have asc : ∀ l r : List UInt8, (x ++ (⟨l.toArray⟩ : ByteArray)) ++ (⟨r.toArray⟩ : ByteArray) = x ++ (⟨(l ++ r).toArray⟩ : ByteArray) := by
      intro l r
      apply ByteArray.ext
      simp
    have d1 : s.data.toList.drop (a + 1) = t := by rw [← List.drop_drop, hd]; rfl
    show (if (utfA (b :: t)).2.2 = 0 then _ else _) = _
    rw [utfS]
    by_cases h0 : (utfA (b :: t)).2.2 = 0
    · obtain ⟨q, c, e, g1, g2, g3, g4⟩ := utfA_ok _ h0
      have g2' : q ≤ t.length + 1 := g2
      rw [if_pos h0]
      have hcc : ctl (b :: t) ↔ (c < 32 ∨ c = 127) := by
        unfold ctl
        rw [e]
        constructor
        · rintro (h | h | h)
          · exact absurd rfl h
          · exact Or.inl (by have : (c : Int) < 32 := h; omega)
          · exact Or.inr (by have : (c : Int) = 127 := h; omega)
        · rintro (h | h)
          · exact Or.inr (Or.inl (show (c : Int) < 32 by omega))
          · exact Or.inr (Or.inr (show (c : Int) = 127 by omega))
      rw [e]
      show gongref04_Shown.j1 (m + 19 + 1) s x (a : Int) (c : Int) (q : Int) 0 = _
      rw [gongref04_Shown.j1, if_pos rfl]
      have ej : (if (c : Int) < 32 then gongref04_Shown.j2 (m + 18 + 1) s x (a : Int) (c : Int) (q : Int) true else gongref04_Shown.j2 (m + 18 + 1) s x (a : Int) (c : Int) (q : Int) ((c : Int) == 127)) = gongref04_Shown.j2 (m + 18 + 1) s x (a : Int) (c : Int) (q : Int) (decide (ctl (b :: t))) := by
        by_cases k1 : (c : Int) < 32
        · rw [if_pos k1, decide_eq_true (hcc.2 (Or.inl (by omega)))]
        · rw [if_neg k1]
          congr 1
          rw [Bool.eq_iff_iff, decide_eq_true_eq, hcc, beq_iff_eq]
          omega
      show (if (c : Int) < 32 then gongref04_Shown.j2 (m + 18 + 1) s x (a : Int) (c : Int) (q : Int) true else gongref04_Shown.j2 (m + 18 + 1) s x (a : Int) (c : Int) (q : Int) ((c : Int) == 127)) = _
      rw [ej]
      have eq1 : ((q : Int)).toNat = q := Int.toNat_natCast q
      by_cases hc : ctl (b :: t)
      · have hq1 : q = 1 := g4 (by have := hcc.1 hc; omega)
        subst hq1
        rw [decide_eq_true hc, if_pos hc, j2_yes s x _ a 1 _ b hb (by omega) (by omega) h3]
        rw [ih s _ (a + 1) _ (by omega) (by omega) h3 (hx4 _ (by simp [hexB])) (by omega), asc, d1]
      · rw [decide_eq_false hc, if_neg hc, j2_no s x _ a q _ (by omega) g3 h3 (by omega)]
        have hl4 : (if (c : Int) = 92 then [92, 92] else (s.data.toList.drop a).take q).length ≤ 4 := by
          split
          · simp
          · rw [List.length_take]; omega
        rw [ih s _ (a + q) _ (by omega) (by omega) h3 (hx4 _ hl4) (by omega), asc, ← List.drop_drop, hd]
        show _ = some (x ++ (⟨((if (c : Int) = 92 then [92, 92] else (b :: t).take ((q : Int)).toNat) ++ utfS n ((b :: t).drop ((q : Int)).toNat)).toArray⟩ : ByteArray))
        rw [eq1]
    · have hc : ctl (b :: t) := Or.inl h0
      rw [if_neg h0, if_pos hc]
      show gongref04_Shown.j1 (m + 19 + 1) s x (a : Int) _ 1 _ = _
      rw [gongref04_Shown.j1, if_neg h0]
      show gongref04_Shown.j2 (m + 18 + 1) s x (a : Int) _ ((1 : Nat) : Int) true = _
      rw [j2_yes s x _ a 1 _ b hb (by omega) (by omega) h3]
      rw [ih s _ (a + 1) _ (by omega) (by omega) h3 (hx4 _ (by simp [hexB])) (by omega), asc, d1]
/-- The reference's answer. -/
theorem rshown_eq (s : ByteArray) (k : Nat) (h : s.size ≤ 1000000) (hk : 3 * s.size + 30 ≤ k) : gongref04_Shown.f k s = some ⟨(utfS s.size s.data.toList).toArray⟩ := by
  unfold gongref04_Shown.f
  have := rl0_eq s.size s (⟨#[]⟩ : ByteArray) 0 k (by omega) (by omega) h (by show 0 + _ ≤ _; omega) hk
  rw [show (0 : Int) = ((0 : Nat) : Int) from rfl, this, List.drop_zero]
  congr 1
end Go.Proofs.YtjfimileopbadaaGreatDoor.UtfS
/- Layer 7: the reference's numbers are the program's digits. -/
namespace Go.Proofs.YtjfimileopbadaaGreatDoor.UtfS
open Go.RowKit Gong Go.Proofs.YtjfimileopbadaaGreatDoor.XVaA Go.Proofs.YtjfimileopbadaaGreatDoorW.PrintWords Go.Proofs.YtjfimileopbadaaGreatDoorW.PrintLast Go.Proofs.YtjfimileopbadaaGreatDoorW.PrintMore
set_option linter.unusedVariables false
set_option linter.unusedSimpArgs false
theorem uw (x : Nat) (h : x < 18446744073709551616) : IntKind.u64.wrap (x : Int) = (x : Int) := by rw [IntKind.wrap_u64]; omega
theorem dig (n : Nat) : strOfNums ([(IntKind.u64.wrap (48 + (Int.tmod (n : Int) 10))) % 256] : List Int) = (⟨([UInt8.ofNat (48 + n % 10)] : List UInt8).toArray⟩ : ByteArray) := by
  have e : Int.tmod (n : Int) 10 = ((n % 10 : Nat) : Int) := tm n 10
  have e2 : (48 : Int) + ((n % 10 : Nat) : Int) = ((48 + n % 10 : Nat) : Int) := by omega
  rw [e, e2, uw _ (by omega)]
  show (⟨([UInt8.ofNat ((((48 + n % 10 : Nat) : Int) % 256).toNat)] : List UInt8).toArray⟩ : ByteArray) = _
  rw [num _ (by omega)]
  rfl
def upper (n : Nat) : List UInt8 := if n < 10 then [] else Lib.decDigits (n / 10)
theorem ul (m : Nat) : ∀ (n k : Nat) (x : ByteArray), n < 18446744073709551616 → n < 10 ^ (m + 1) → m + 1 ≤ k → x.size + m ≤ 1000 → gongref07_unsigned.l0 k (n : Int) x = some ((⟨(upper n).toArray⟩ : ByteArray) ++ x) := by
  induction m with
  | zero =>
    intro n k x h0 h1 hk hx
    obtain ⟨j, rfl⟩ : ∃ j, k = j + 1 := ⟨k - 1, by omega⟩
    have : (⟨([] : List UInt8).toArray⟩ : ByteArray) ++ x = x := by apply ByteArray.ext; simp
    rw [gongref07_unsigned.l0, if_neg (by omega), upper, if_pos (by omega), this]
  | succ m ih =>
    intro n k x h0 h1 hk hx
    obtain ⟨j, rfl⟩ : ∃ j, k = j + 1 := ⟨k - 1, by omega⟩
    have e1 : Int.tdiv (n : Int) 10 = ((n / 10 : Nat) : Int) := td n 10
    rw [gongref07_unsigned.l0, e1, uw _ (by omega)]
    by_cases h : n < 10
    · have : (⟨([] : List UInt8).toArray⟩ : ByteArray) ++ x = x := by apply ByteArray.ext; simp
      rw [if_neg (by omega), upper, if_pos h, this]
    · rw [if_pos (by omega)]
      have hz : (⟨([UInt8.ofNat (48 + n / 10 % 10)] : List UInt8).toArray⟩ : ByteArray).size = 1 := rfl
      show (if (strOfNums ([(IntKind.u64.wrap (48 + (Int.tmod ((n / 10 : Nat) : Int) 10))) % 256] : List Int)).size + x.size ≤ 9223372036854775807 then gongref07_unsigned.l0 j ((n / 10 : Nat) : Int) (strOfNums ([(IntKind.u64.wrap (48 + (Int.tmod ((n / 10 : Nat) : Int) 10))) % 256] : List Int) ++ x) else none) = _
      rw [dig]
      rw [if_pos (by rw [hz]; omega)]
      rw [ih (n / 10) j _ (by omega) (by rw [Nat.pow_succ] at h1; omega) (by omega) (by rw [ByteArray.size_append, hz]; omega)]
      have e5 : upper n = upper (n / 10) ++ [UInt8.ofNat (48 + n / 10 % 10)] := by
        rw [upper, if_neg h, upper]
        by_cases h2 : n / 10 < 10
        · rw [if_pos h2, Lib.decDigits, dif_pos h2, List.nil_append, Nat.mod_eq_of_lt h2]
        · rw [if_neg h2, Lib.decDigits, dif_neg h2]
      rw [e5]
      congr 1
      apply ByteArray.ext
      simp
theorem unsigned_eq (n k : Nat) (h : n < 18446744073709551616) (hk : 20 ≤ k) : gongref07_unsigned.f k (n : Int) = some ⟨(Lib.decDigits n).toArray⟩ := by
  unfold gongref07_unsigned.f
  have hz : (⟨([UInt8.ofNat (48 + n % 10)] : List UInt8).toArray⟩ : ByteArray).size = 1 := rfl
  rw [dig, ul 19 n k _ h (by have : (10 : Nat) ^ (19 + 1) = 100000000000000000000 := by decide
                             omega) hk (by rw [hz]; omega)]
  congr 1
  have e5 : Lib.decDigits n = upper n ++ [UInt8.ofNat (48 + n % 10)] := by
    rw [upper]
    by_cases h2 : n < 10
    · rw [if_pos h2, Lib.decDigits, dif_pos h2, List.nil_append, Nat.mod_eq_of_lt h2]
    · rw [if_neg h2, Lib.decDigits, dif_neg h2]
  rw [e5]
  apply ByteArray.ext
  simp
end Go.Proofs.YtjfimileopbadaaGreatDoor.UtfS
/- Layer 7: the reference's digits of sixteen are the program's. -/
namespace Go.Proofs.YtjfimileopbadaaGreatDoor.UtfS
open Go.RowKit Gong Go.Proofs.YtjfimileopbadaaGreatDoor.XVaA Go.Proofs.YtjfimileopbadaaGreatDoorW.PrintWords Go.Proofs.YtjfimileopbadaaGreatDoorW.PrintLast Go.Proofs.YtjfimileopbadaaGreatDoorW.PrintMore
set_option linter.unusedVariables false
set_option linter.unusedSimpArgs false
theorem bt_hex (i : Nat) (h : i < 16) : bt (⟨#[48, 49, 50, 51, 52, 53, 54, 55, 56, 57, 97, 98, 99, 100, 101, 102]⟩ : ByteArray) (i : Int) = (((hexD i).toNat : Nat) : Int) := by
  have : ∀ j : Fin 16, bt (⟨#[48, 49, 50, 51, 52, 53, 54, 55, 56, 57, 97, 98, 99, 100, 101, 102]⟩ : ByteArray) ((j.val : Nat) : Int) = (((hexD j.val).toNat : Nat) : Int) := by decide +kernel
  exact this ⟨i, h⟩
theorem two (a b : UInt8) : strOfNums ([((a.toNat : Nat) : Int), ((b.toNat : Nat) : Int)] : List Int) = (⟨([a, b] : List UInt8).toArray⟩ : ByteArray) := by
  show (⟨([UInt8.ofNat (((a.toNat : Nat) : Int)).toNat, UInt8.ofNat (((b.toNat : Nat) : Int)).toNat] : List UInt8).toArray⟩ : ByteArray) = _
  rw [Int.toNat_natCast, Int.toNat_natCast, UInt8.ofNat_toNat, UInt8.ofNat_toNat]
theorem hexs_test (n : Nat) (h : n < 256) : (0 ≤ ((n / 16 : Nat) : Int)) ∧ ((n / 16 : Nat) : Int) < 16 ∧ (0 ≤ ((n % 16 : Nat) : Int)) ∧ ((n % 16 : Nat) : Int) < 16 := by omega
theorem hexs_eq (k0 k1 : Int) : ∀ (n : Nat) (s x : ByteArray) (a k : Nat), s.size - a ≤ n → a ≤ s.size → s.size ≤ 1000000 → x.size + 2 * n ≤ 100000000 → n + 1 ≤ k →
    gongref07_Show.l1 k x (⟨#[48, 49, 50, 51, 52, 53, 54, 55, 56, 57, 97, 98, 99, 100, 101, 102]⟩ : ByteArray) (a : Int) k0 k1 s = some (x ++ ⟨(hexL (s.data.toList.drop a)).toArray⟩, 0) := by
  intro n
  induction n with
  | zero =>
    intro s x a k h1 h2 h3 h4 hk
    obtain ⟨m, rfl⟩ : ∃ m, k = m + 1 := ⟨k - 1, by omega⟩
    have hsz : s.size = s.data.toList.length := by simp
    have hd : s.data.toList.drop a = [] := List.drop_eq_nil_of_le (by omega)
    have : x ++ (⟨([] : List UInt8).toArray⟩ : ByteArray) = x := by apply ByteArray.ext; simp
    rw [gongref07_Show.l1, if_neg (by omega), hd]
    show _ = some (x ++ (⟨([] : List UInt8).toArray⟩ : ByteArray), (0 : Int))
    rw [this]
  | succ n ih =>
    intro s x a k h1 h2 h3 h4 hk
    obtain ⟨m, rfl⟩ : ∃ m, k = m + 1 := ⟨k - 1, by omega⟩
    have hsz : s.size = s.data.toList.length := by simp
    rw [gongref07_Show.l1]
    by_cases hlt : a < s.size
    case neg =>
      have hd : s.data.toList.drop a = [] := List.drop_eq_nil_of_le (by omega)
      have : x ++ (⟨([] : List UInt8).toArray⟩ : ByteArray) = x := by apply ByteArray.ext; simp
      rw [if_neg (by omega), hd]
      show _ = some (x ++ (⟨([] : List UInt8).toArray⟩ : ByteArray), (0 : Int))
      rw [this]
    obtain ⟨b, t, hd⟩ : ∃ b t, s.data.toList.drop a = b :: t := by
      cases hd : s.data.toList.drop a with
      | nil => have := congrArg List.length hd; rw [List.length_drop, List.length_nil] at this; omega
      | cons b t => exact ⟨b, t, rfl⟩
    have hb : s.data.toList[a]? = some b := by
      have := congrArg List.head? hd
      rw [List.head?_drop] at this
      exact this
    have d1 : s.data.toList.drop (a + 1) = t := by rw [← List.drop_drop, hd]; rfl
    have eb : ua s.data.toList a = b.toNat := by unfold ua; rw [List.getD_eq_getElem?_getD, hb]; rfl
    have hbl := UInt8.toNat_lt b
    have e0 : Int.tdiv ((b.toNat : Nat) : Int) 16 % 256 = ((b.toNat / 16 : Nat) : Int) := by
      rw [show Int.tdiv ((b.toNat : Nat) : Int) 16 = ((b.toNat / 16 : Nat) : Int) from td _ 16]
      omega
    have tb := hexs_test b.toNat hbl
    have e1 : Int.tmod ((b.toNat : Nat) : Int) 16 = ((b.toNat % 16 : Nat) : Int) := tm _ 16
    have e2 : wrap64 ((a : Int) + 1) = ((a + 1 : Nat) : Int) := by unfold wrap64; omega
    obtain ⟨C, hC⟩ : ∃ C : ByteArray, C = (⟨#[48, 49, 50, 51, 52, 53, 54, 55, 56, 57, 97, 98, 99, 100, 101, 102]⟩ : ByteArray) := ⟨_, rfl⟩
    have hz : (C.size : Int) = 16 := by rw [hC]; rfl
    have b1 : bt C ((b.toNat / 16 : Nat) : Int) = (((hexD (b.toNat / 16)).toNat : Nat) : Int) := by rw [hC]; exact bt_hex _ (by clear hC hz e0 e1 e2; omega)
    have b2 : bt C ((b.toNat % 16 : Nat) : Int) = (((hexD (b.toNat % 16)).toNat : Nat) : Int) := by rw [hC]; exact bt_hex _ (by clear hC hz e0 e1 e2; omega)
    rw [← hC] at ih ⊢
    clear hC
    rw [if_pos (by clear tb e0 e1 e2 hz b1 b2; omega), if_pos (by clear tb e0 e1 e2 hz b1 b2; omega), bt_at, eb, e0, e1, hz, if_pos tb.1, if_pos tb.2.1, if_pos tb.2.2.1, if_pos tb.2.2.2, b1, b2, e2]
    clear e0 e1 e2 hz b1 b2 tb
    have hw : (⟨([hexD (b.toNat / 16), hexD (b.toNat % 16)] : List UInt8).toArray⟩ : ByteArray).size = 2 := rfl
    rw [Option.bind_some, two, if_pos (by rw [hw]; omega)]
    rw [ih s _ (a + 1) m (by omega) (by omega) h3 (by rw [ByteArray.size_append, hw]; omega) (by omega), d1, hd]
    congr 2
    apply ByteArray.ext
    simp [hexL, hexB]
end Go.Proofs.YtjfimileopbadaaGreatDoor.UtfS
/- Layer 7: the reference's address is the program's. -/
namespace Go.Proofs.YtjfimileopbadaaGreatDoor.UtfS
open Go.RowKit Gong Go.Proofs.YtjfimileopbadaaGreatDoor.XVaA Go.Proofs.YtjfimileopbadaaGreatDoorW.PrintWords Go.Proofs.YtjfimileopbadaaGreatDoorW.PrintLast Go.Proofs.YtjfimileopbadaaGreatDoorW.PrintMore
set_option linter.unusedVariables false
set_option linter.unusedSimpArgs false
theorem dl1 (n : Nat) (h : n < 10) : (Lib.decDigits n).length ≤ 1 := by rw [Lib.decDigits, dif_pos h]; simp
theorem dl2 (n : Nat) (h : n < 100) : (Lib.decDigits n).length ≤ 2 := by
  by_cases c : n < 10
  · have := dl1 n c; omega
  · rw [Lib.decDigits, dif_neg c, List.length_append]
    have := dl1 (n / 10) (by omega)
    simp
    omega
theorem dl3 (n : Nat) (h : n < 1000) : (Lib.decDigits n).length ≤ 3 := by
  by_cases c : n < 10
  · have := dl1 n c; omega
  · rw [Lib.decDigits, dif_neg c, List.length_append]
    have := dl2 (n / 10) (by omega)
    simp
    omega
def dec (n : Nat) : ByteArray := ⟨(Lib.decDigits n).toArray⟩
theorem dec_size (n : Nat) (h : n < 256) : (dec n).size ≤ 3 := dl3 n (by omega)
/-- One number of the address. -/
theorem pt_step (k0 k1 : Int) (s x : ByteArray) (a k : Nat) (ha : a < 4) (hs : 4 ≤ s.size) (hx : x.size ≤ 1000) (hk : 20 ≤ k) :
    gongref07_Show.l0 (k + 1) x (a : Int) k0 k1 s = gongref07_Show.l0 k ((if 0 < a then x ++ (⟨#[46]⟩ : ByteArray) else x) ++ dec (ua s.data.toList a)) ((a + 1 : Nat) : Int) k0 k1 s := by
  have hu := ua_lt s.data.toList a
  have hd := dec_size _ hu
  have ew := uw (ua s.data.toList a) (by omega)
  have e2 : wrap64 ((a : Int) + 1) = ((a + 1 : Nat) : Int) := by unfold wrap64; omega
  have hq := unsigned_eq (ua s.data.toList a) k (by omega) hk
  have hp : (x ++ (⟨#[46]⟩ : ByteArray)).size = x.size + 1 := by rw [ByteArray.size_append]; rfl
  rw [gongref07_Show.l0, if_pos (show (a : Int) < 4 by clear ew e2; omega), bt_at, ew, hq, e2]
  clear ew e2 hq
  by_cases h : 0 < a
  · rw [if_pos (show (a : Int) > 0 by omega), if_pos (by omega), if_pos (by omega), if_pos (by omega), if_pos h, Option.bind_some]
    show (if (x ++ (⟨#[46]⟩ : ByteArray)).size + (dec (ua s.data.toList a)).size ≤ 9223372036854775807 then _ else _) = _
    rw [if_pos (by rw [hp]; omega)]
    rfl
  · rw [if_neg (show ¬ (a : Int) > 0 by omega), if_pos (by omega), if_pos (by omega), if_neg h, Option.bind_some]
    show (if x.size + (dec (ua s.data.toList a)).size ≤ 9223372036854775807 then _ else _) = _
    rw [if_pos (by omega)]
    rfl
theorem pt_end (k0 k1 : Int) (s x : ByteArray) (k : Nat) : gongref07_Show.l0 (k + 1) x ((4 : Nat) : Int) k0 k1 s = some (x, 0) := by
  rw [gongref07_Show.l0, if_neg (by omega)]
/-- The address: both. -/
theorem point_eq (k0 k1 : Int) (s : ByteArray) (k : Nat) (hs : s.size = 4) : ∃ r, value_pointed.f s = some r ∧ gongref07_Show.l0 (k + 30) (⟨#[]⟩ : ByteArray) 0 k0 k1 s = some (r, 0) := by
  have hsz : s.size = s.data.toList.length := by simp
  obtain ⟨a, b, c, d, hl⟩ : ∃ a b c d, s.data.toList = [a, b, c, d] := by
    match hq : s.data.toList, (show s.data.toList.length = 4 by omega) with
    | [a, b, c, d], _ => exact ⟨a, b, c, d, rfl⟩
  have ha := dec_size a.toNat (UInt8.toNat_lt a)
  have hb := dec_size b.toNat (UInt8.toNat_lt b)
  have hc := dec_size c.toNat (UInt8.toNat_lt c)
  have hd := dec_size d.toNat (UInt8.toNat_lt d)
  have hp : (⟨#[46]⟩ : ByteArray).size = 1 := rfl
  have h0 : (⟨#[]⟩ : ByteArray).size = 0 := rfl
  refine ⟨dec a.toNat ++ ⟨#[46]⟩ ++ dec b.toNat ++ ⟨#[46]⟩ ++ dec c.toNat ++ ⟨#[46]⟩ ++ dec d.toNat, ?_, ?_⟩
  · unfold value_pointed.f
    rw [if_pos (by omega), hl]
    unfold strings_Join.f
    have e : Lib.join ((pointedL [a, b, c, d]).map (·.data.toList)) [46] = (dec a.toNat ++ ⟨#[46]⟩ ++ dec b.toNat ++ ⟨#[46]⟩ ++ dec c.toNat ++ ⟨#[46]⟩ ++ dec d.toNat).data.toList := by
      simp [pointedL, Lib.join, dec, List.intercalate, List.intersperse]
    show (if _ ∧ (Lib.join ((pointedL [a, b, c, d]).map (·.data.toList)) [46]).length ≤ 140737488355328 then some (⟨(Lib.join ((pointedL [a, b, c, d]).map (·.data.toList)) [46]).toArray⟩ : ByteArray) else none) = _
    rw [e]
    have hlen : (dec a.toNat ++ ⟨#[46]⟩ ++ dec b.toNat ++ ⟨#[46]⟩ ++ dec c.toNat ++ ⟨#[46]⟩ ++ dec d.toNat).data.toList.length ≤ 15 := by
      have : (dec a.toNat ++ ⟨#[46]⟩ ++ dec b.toNat ++ ⟨#[46]⟩ ++ dec c.toNat ++ ⟨#[46]⟩ ++ dec d.toNat).size ≤ 15 := by
        simp only [ByteArray.size_append, hp]; omega
      exact this
    rw [if_pos ⟨by simp [pointedL], by omega⟩]
  · rw [show (0 : Int) = ((0 : Nat) : Int) from rfl, pt_step k0 k1 s _ 0 (k + 29) (by omega) (by omega) (by rw [h0]; omega) (by omega), if_neg (by omega), hl]
    show gongref07_Show.l0 (k + 28 + 1) ((⟨#[]⟩ : ByteArray) ++ dec a.toNat) ((1 : Nat) : Int) k0 k1 s = _
    have z : (⟨#[]⟩ : ByteArray) ++ dec a.toNat = dec a.toNat := by apply ByteArray.ext; simp
    rw [z, pt_step k0 k1 s _ 1 (k + 28) (by omega) (by omega) (by omega) (by omega), if_pos (by omega), hl]
    show gongref07_Show.l0 (k + 27 + 1) (dec a.toNat ++ ⟨#[46]⟩ ++ dec b.toNat) ((2 : Nat) : Int) k0 k1 s = _
    rw [pt_step k0 k1 s _ 2 (k + 27) (by omega) (by omega) (by simp only [ByteArray.size_append, hp]; omega) (by omega), if_pos (by omega), hl]
    show gongref07_Show.l0 (k + 26 + 1) (dec a.toNat ++ ⟨#[46]⟩ ++ dec b.toNat ++ ⟨#[46]⟩ ++ dec c.toNat) ((3 : Nat) : Int) k0 k1 s = _
    rw [pt_step k0 k1 s _ 3 (k + 26) (by omega) (by omega) (by simp only [ByteArray.size_append, hp]; omega) (by omega), if_pos (by omega), hl]
    show gongref07_Show.l0 (k + 25 + 1) (dec a.toNat ++ ⟨#[46]⟩ ++ dec b.toNat ++ ⟨#[46]⟩ ++ dec c.toNat ++ ⟨#[46]⟩ ++ dec d.toNat) ((4 : Nat) : Int) k0 k1 s = _
    rw [pt_end]
    rfl
end Go.Proofs.YtjfimileopbadaaGreatDoor.UtfS
/- Layer 7: the shown numbers of the reference and the program are one. -/
namespace Go.Proofs.YtjfimileopbadaaGreatDoor.UtfS
open Go.RowKit Gong Go.Proofs.YtjfimileopbadaaGreatDoor.XVaA Go.Proofs.YtjfimileopbadaaGreatDoorW.PrintWords Go.Proofs.YtjfimileopbadaaGreatDoorW.PrintLast Go.Proofs.YtjfimileopbadaaGreatDoorW.PrintMore
set_option linter.unusedVariables false
set_option linter.unusedSimpArgs false
theorem uwt (n : Int) : ∃ u : Nat, IntKind.u64.wrap n = (u : Int) ∧ u < 18446744073709551616 := by
  rw [IntKind.wrap_u64]
  exact ⟨(n % 18446744073709551616).toNat, by omega, by omega⟩
/-- A number of the greatest kind: both. -/
theorem big_eq (n : Int) (k : Nat) (hk : 20 ≤ k) : ∃ r, strconv_FormatUint.f (IntKind.u64.wrap n) 10 = some r ∧ gongref07_unsigned.f k (IntKind.u64.wrap n) = some r := by
  obtain ⟨u, hu, hl⟩ := uwt n
  rw [hu]
  refine ⟨⟨(Lib.decDigits u).toArray⟩, ?_, unsigned_eq u k hl hk⟩
  unfold strconv_FormatUint.f
  rw [if_pos ⟨by clear hu; omega, by clear hu; omega, rfl⟩, Int.toNat_natCast]
theorem dlen : ∀ (m u : Nat), u < 10 ^ (m + 1) → (Lib.decDigits u).length ≤ m + 1 := by
  intro m
  induction m with
  | zero => intro u h; have := dl1 u (by omega); omega
  | succ m ih =>
    intro u h
    by_cases c : u < 10
    · have := dl1 u c; omega
    · rw [Lib.decDigits, dif_neg c, List.length_append]
      have := ih (u / 10) (by rw [Nat.pow_succ] at h; omega)
      simp
      omega
theorem dl_size (u : Nat) (h : u < 18446744073709551616) : (⟨(Lib.decDigits u).toArray⟩ : ByteArray).size ≤ 20 := by
  show (Lib.decDigits u).length ≤ 20
  exact dlen 19 u (Nat.lt_of_lt_of_le h (by decide))
/-- A signed number: both. -/
theorem int_eq (n : Int) (k : Nat) (hk : 20 ≤ k) (h0 : -2147483648 ≤ n) (h1 : n ≤ 2147483647) : ∃ r, strconv_Itoa.f n = some r ∧
    (if n < 0 then ((gongref07_unsigned.f k (IntKind.u64.wrap (wrap64 (-n)))).bind fun t271 => (if 1 + t271.size ≤ 9223372036854775807 then (some ((⟨#[45]⟩ : ByteArray) ++ t271, (0 : Int))) else (none))) else ((gongref07_unsigned.f k (IntKind.u64.wrap n)).bind fun t272 => (some (t272, (0 : Int))))) = some (r, 0) := by
  unfold strconv_Itoa.f
  rw [if_pos ⟨by omega, by omega⟩]
  refine ⟨_, rfl, ?_⟩
  by_cases hn : n < 0
  · obtain ⟨u, rfl⟩ : ∃ u : Nat, n = -(u : Int) := ⟨n.natAbs, by omega⟩
    have e1 : wrap64 (-(-(u : Int))) = (u : Int) := by unfold wrap64; omega
    have hz := dl_size u (by omega)
    have hu := unsigned_eq u k (by omega) hk
    rw [if_pos hn, e1, uw u (by omega), hu, Option.bind_some, if_pos (by omega), Lib.itoa_neg u (by omega)]
    congr 2
  · obtain ⟨u, rfl⟩ : ∃ u : Nat, n = (u : Int) := ⟨n.toNat, by omega⟩
    have hu := unsigned_eq u k (by omega) hk
    rw [if_neg hn, uw u (by omega), hu, Option.bind_some, Lib.itoa_nonneg]
end Go.Proofs.YtjfimileopbadaaGreatDoor.UtfS
/- Numbers as decimal digits, and texts cut at a byte: plain lists. -/
namespace Go.Proofs.YtjfimileopbadaaGreatDoor.DecS
open Go
set_option linter.unusedVariables false
set_option linter.unusedSimpArgs false
theorem snoc_ind {α : Type} {P : List α → Prop} (h0 : P []) (h1 : ∀ l b, P l → P (l ++ [b])) : ∀ l, P l := by
  intro l
  have : ∀ (n : Nat) (l : List α), l.length = n → P l := by
    intro n
    induction n with
    | zero => intro l h; rw [List.eq_nil_of_length_eq_zero h]; exact h0
    | succ n ih =>
      intro l h
      have hn : l ≠ [] := by rintro rfl; simp at h
      rw [← List.dropLast_concat_getLast hn]
      exact h1 _ _ (ih _ (by rw [List.length_dropLast, h]; rfl))
  exact this _ l rfl
theorem head_app {α : Type} {l : List α} (h : l ≠ []) (m : List α) : (l ++ m).head? = l.head? := by
  cases l with
  | nil => exact absurd rfl h
  | cons a l => rfl
theorem dw_nil {α : Type} {p : α → Bool} : ∀ {l : List α}, l.dropWhile p = [] ↔ ∀ x ∈ l, p x = true
  | [] => by simp
  | a :: l => by
    rw [List.dropWhile_cons]
    by_cases h : p a = true
    · rw [if_pos h, dw_nil]
      simp [h]
    · rw [if_neg h]
      simp [h]
theorem tw_mem {α : Type} {p : α → Bool} {x : α} : ∀ {l : List α}, x ∈ l.takeWhile p → p x = true
  | [], h => by simp at h
  | a :: l, h => by
    rw [List.takeWhile_cons] at h
    by_cases ha : p a = true
    · rw [if_pos ha, List.mem_cons] at h
      rcases h with rfl | h
      · exact ha
      · exact tw_mem h
    · rw [if_neg ha] at h
      simp at h
/-- A digit. -/
def isD (b : UInt8) : Bool := decide (48 ≤ b.toNat ∧ b.toNat ≤ 57)
/-- What digits tell. -/
def val (l : List UInt8) : Nat := l.foldl (fun a b => a * 10 + (b.toNat - 48)) 0
theorem val_snoc (l : List UInt8) (b : UInt8) : val (l ++ [b]) = val l * 10 + (b.toNat - 48) := by simp [val]
/-- Digits without a nought ahead. -/
structure Canon (l : List UInt8) : Prop where
  ne : l ≠ []
  dig : ∀ b ∈ l, isD b = true
  hd : 1 < l.length → l.head? ≠ some 48
theorem digit_byte (u : Nat) (h : u < 10) : (UInt8.ofNat (48 + u)).toNat = 48 + u := by
  rw [UInt8.toNat_ofNat']
  omega
theorem isD_byte (u : Nat) (h : u < 10) : isD (UInt8.ofNat (48 + u)) = true := by
  unfold isD
  rw [digit_byte u h]
  simp
  omega
theorem isD_iff {b : UInt8} (h : isD b = true) : 48 ≤ b.toNat ∧ b.toNat ≤ 57 := by simpa [isD] using h
theorem byte_of {b : UInt8} (h : isD b = true) : UInt8.ofNat (48 + (b.toNat - 48)) = b := by
  have := isD_iff h
  rw [show 48 + (b.toNat - 48) = b.toNat from by omega, UInt8.ofNat_toNat]
theorem dd_step (u : Nat) (h : ¬ u < 10) : Lib.decDigits u = Lib.decDigits (u / 10) ++ [UInt8.ofNat (48 + u % 10)] := by
  conv => lhs; rw [Lib.decDigits, dif_neg h]
theorem dd_one (u : Nat) (h : u < 10) : Lib.decDigits u = [UInt8.ofNat (48 + u)] := by rw [Lib.decDigits, dif_pos h]
theorem val_dd : ∀ u : Nat, val (Lib.decDigits u) = u := by
  intro u
  induction u using Nat.strongRecOn with
  | _ u ih =>
    by_cases h : u < 10
    · rw [dd_one u h, show val [UInt8.ofNat (48 + u)] = 0 * 10 + ((UInt8.ofNat (48 + u)).toNat - 48) from rfl, digit_byte u h]
      omega
    · rw [dd_step u h, val_snoc, ih (u / 10) (by omega), digit_byte _ (by omega)]
      omega
theorem dd_ne (u : Nat) : Lib.decDigits u ≠ [] := by
  rw [Lib.decDigits]
  split <;> simp
theorem dd_head : ∀ u : Nat, 10 ≤ u → (Lib.decDigits u).head? ≠ some 48 := by
  intro u
  induction u using Nat.strongRecOn with
  | _ u ih =>
    intro h
    rw [dd_step u (by omega), head_app (dd_ne _)]
    by_cases h2 : u / 10 < 10
    · rw [dd_one _ h2]
      simp only [List.head?_cons, ne_eq, Option.some.injEq]
      intro e
      have := digit_byte (u / 10) h2
      rw [e] at this
      have e48 : (48 : UInt8).toNat = 48 := rfl
      omega
    · exact ih (u / 10) (by omega) (by omega)
theorem dd_dig : ∀ u : Nat, ∀ b ∈ Lib.decDigits u, isD b = true := by
  intro u
  induction u using Nat.strongRecOn with
  | _ u ih =>
    intro b hb
    by_cases h : u < 10
    · rw [dd_one u h, List.mem_singleton] at hb
      rw [hb]; exact isD_byte u h
    · rw [dd_step u h, List.mem_append, List.mem_singleton] at hb
      rcases hb with hb | hb
      · exact ih (u / 10) (by omega) b hb
      · rw [hb]; exact isD_byte _ (by omega)
theorem dd_canon (u : Nat) : Canon (Lib.decDigits u) := by
  refine ⟨dd_ne u, dd_dig u, fun h => ?_⟩
  by_cases h2 : u < 10
  · rw [dd_one u h2] at h; simp at h
  · exact dd_head u (by omega)
theorem val_pos {l : List UInt8} (hd : ∀ b ∈ l, isD b = true) (hh : l.head? ≠ some 48) (hn : l ≠ []) : 0 < val l := by
  induction l using snoc_ind with
  | h0 => exact absurd rfl hn
  | h1 l b ih =>
    rw [val_snoc]
    by_cases h0 : l = []
    · subst h0
      have h1 := isD_iff (hd b (by simp))
      have h2 : b.toNat ≠ 48 := fun e => by
        apply hh
        have : b = 48 := UInt8.toNat_inj.1 e
        rw [this]; rfl
      omega
    · have := ih (fun x hx => hd x (by simp [hx])) (by rwa [head_app h0] at hh) h0
      omega
theorem dd_val {l : List UInt8} (h : Canon l) : Lib.decDigits (val l) = l := by
  induction l using snoc_ind with
  | h0 => exact absurd rfl h.ne
  | h1 l b ih =>
    have hb := h.dig b (by simp)
    have h1 := isD_iff hb
    rw [val_snoc]
    by_cases h0 : l = []
    · subst h0
      rw [show val [] = 0 from rfl, Nat.zero_mul, Nat.zero_add, dd_one _ (by omega), byte_of hb]
      rfl
    · have hdl : ∀ x ∈ l, isD x = true := fun x hx => h.dig x (by simp [hx])
      have hl : 1 < (l ++ [b]).length := by
        have := List.length_pos_iff.2 h0
        simp only [List.length_append, List.length_cons, List.length_nil]
        omega
      have hh := h.hd hl
      rw [head_app h0] at hh
      have hp := val_pos hdl hh h0
      have hc : Canon l := ⟨h0, hdl, fun _ => hh⟩
      rw [dd_step _ (by omega), show (val l * 10 + (b.toNat - 48)) / 10 = val l from by omega, show (val l * 10 + (b.toNat - 48)) % 10 = b.toNat - 48 from by omega, ih hc, byte_of hb]
theorem val_lt {l : List UInt8} (h : ∀ b ∈ l, isD b = true) : val l < 10 ^ l.length := by
  induction l using snoc_ind with
  | h0 => simp [val]
  | h1 l b ih =>
    have h1 := isD_iff (h b (by simp))
    have := ih (fun x hx => h x (by simp [hx]))
    rw [val_snoc, List.length_append, List.length_cons, List.length_nil, Nat.pow_succ]
    omega
theorem parse_digits : ∀ (l : List UInt8) (acc : Nat), (∀ b ∈ l, isD b = true) → acc * 10 ^ l.length + 10 ^ l.length ≤ 1000000000000000000 → Lib.parseUint10 acc l = .ok (l.foldl (fun a b => a * 10 + (b.toNat - 48)) acc)
  | [], acc, _, _ => rfl
  | b :: l, acc, hd, hb => by
    have h1 := isD_iff (hd b (by simp))
    have hp : 1 ≤ 10 ^ l.length := Nat.pow_pos (by decide)
    rw [List.length_cons, Nat.pow_succ] at hb
    have h2 : acc * 10 + 10 ≤ 1000000000000000000 := by
      have h3 : (acc * 10 + 10) * 1 ≤ (acc * 10 + 10) * 10 ^ l.length := Nat.mul_le_mul_left _ hp
      have h4 : (acc * 10 + 10) * 10 ^ l.length = acc * (10 ^ l.length * 10) + 10 ^ l.length * 10 := by
        rw [Nat.add_mul, Nat.mul_assoc, Nat.mul_comm 10 (10 ^ l.length)]
      omega
    unfold Lib.parseUint10
    rw [if_pos h1, if_neg (by omega), if_neg (by omega)]
    refine parse_digits l _ (fun x hx => hd x (by simp [hx])) ?_
    have h5 : (acc * 10 + (b.toNat - 48)) * 10 ^ l.length + 10 ^ l.length ≤ acc * (10 ^ l.length * 10) + 10 ^ l.length * 10 := by
      have h6 : (b.toNat - 48) * 10 ^ l.length ≤ 9 * 10 ^ l.length := Nat.mul_le_mul_right _ (by omega)
      rw [Nat.add_mul, Nat.mul_assoc, Nat.mul_comm 10 (10 ^ l.length)]
      omega
    omega
theorem atoi_digits {l : List UInt8} (hd : ∀ b ∈ l, isD b = true) (hn : l ≠ []) (hl : l.length ≤ 17) : Lib.atoiAll l = .ok (val l : Int) := by
  cases l with
  | nil => exact absurd rfl hn
  | cons c r =>
    have h1 := isD_iff (hd c (by simp))
    have hp : (10 : Nat) ^ (c :: r).length ≤ 10 ^ 17 := Nat.pow_le_pow_right (by decide) hl
    have hpm : Lib.parseMag (c :: r) = .ok (val (c :: r)) := by
      unfold Lib.parseMag
      rw [if_neg (by simp)]
      exact parse_digits (c :: r) 0 hd (by rw [Nat.zero_mul, Nat.zero_add]; exact Nat.le_trans hp (by decide))
    have hv := val_lt hd
    unfold Lib.atoiAll
    simp only
    rw [if_neg (by omega), hpm]
    simp only
    have h45 : ¬ c.toNat = 45 := by omega
    have hlt : val (c :: r) < 10 ^ 17 := Nat.lt_of_lt_of_le hv hp
    rw [if_neg (by rintro ⟨_, h⟩; omega), if_neg (by rintro ⟨h, _⟩; exact h45 h), if_neg h45]
/-- All digits: nothing is left by Trim. -/
theorem trim_nil {l : List UInt8} : Lib.trimS l [48, 49, 50, 51, 52, 53, 54, 55, 56, 57] = [] ↔ ∀ b ∈ l, isD b = true := by
  have hc : ∀ b : UInt8, ([48, 49, 50, 51, 52, 53, 54, 55, 56, 57] : List UInt8).contains b = isD b := by
    have : ∀ n : Fin 256, ([48, 49, 50, 51, 52, 53, 54, 55, 56, 57] : List UInt8).contains (UInt8.ofNat n.val) = isD (UInt8.ofNat n.val) := by decide +kernel
    intro b
    have h := this ⟨b.toNat, b.toNat_lt⟩
    rw [UInt8.ofNat_toNat] at h
    exact h
  have hf : (fun b : UInt8 => ([48, 49, 50, 51, 52, 53, 54, 55, 56, 57] : List UInt8).contains b) = isD := funext hc
  unfold Lib.trimS Lib.trimLeftS Lib.trimRightS
  rw [hf]
  constructor
  · intro h b hb
    have h1 : ∀ x ∈ (l.reverse.dropWhile isD).reverse, isD x = true := by
      intro x hx
      have := dw_nil.1 h
      exact this x hx
    by_cases hm : b ∈ l.reverse.dropWhile isD
    · exact h1 b (List.mem_reverse.2 hm)
    · have hs := List.takeWhile_append_dropWhile (p := isD) (l := l.reverse)
      have hb2 : b ∈ l.reverse.takeWhile isD ++ l.reverse.dropWhile isD := by rw [hs]; exact List.mem_reverse.2 hb
      rcases List.mem_append.1 hb2 with hb3 | hb3
      · exact tw_mem hb3
      · exact absurd hb3 hm
  · intro h
    have h1 : l.reverse.dropWhile isD = [] := dw_nil.2 (fun x hx => h x (List.mem_reverse.1 hx))
    rw [h1]
    rfl
end Go.Proofs.YtjfimileopbadaaGreatDoor.DecS
/- Texts cut at a byte, and put together again: plain lists. -/
namespace Go.Proofs.YtjfimileopbadaaGreatDoor.DecS
open Go
set_option linter.unusedVariables false
set_option linter.unusedSimpArgs false
def splitL (c : UInt8) : List UInt8 → List (List UInt8)
  | [] => [[]]
  | b :: l => if b = c then [] :: splitL c l else (match splitL c l with
    | [] => [[b]]
    | w :: ws => (b :: w) :: ws)
def joinL (c : UInt8) : List (List UInt8) → List UInt8
  | [] => []
  | [w] => w
  | w :: v :: ws => w ++ c :: joinL c (v :: ws)
theorem splitL_cons (c : UInt8) (l : List UInt8) : ∃ w ws, splitL c l = w :: ws := by
  cases l with
  | nil => exact ⟨[], [], rfl⟩
  | cons b l =>
    unfold splitL
    split
    · exact ⟨_, _, rfl⟩
    · split <;> exact ⟨_, _, rfl⟩
theorem splitL_sep (c : UInt8) (l : List UInt8) : splitL c (c :: l) = [] :: splitL c l := by
  rw [splitL, if_pos rfl]
theorem splitL_other {c b : UInt8} (h : b ≠ c) {l : List UInt8} {w : List UInt8} {ws : List (List UInt8)} (hl : splitL c l = w :: ws) : splitL c (b :: l) = (b :: w) :: ws := by
  rw [splitL, if_neg h, hl]
theorem join_split (c : UInt8) : ∀ l : List UInt8, joinL c (splitL c l) = l
  | [] => rfl
  | b :: l => by
    obtain ⟨w, ws, hw⟩ := splitL_cons c l
    have ih := join_split c l
    rw [hw] at ih
    by_cases h : b = c
    · subst h
      rw [splitL_sep, hw]
      show [] ++ b :: joinL b (w :: ws) = _
      rw [ih]; rfl
    · rw [splitL_other h hw]
      cases ws with
      | nil => show b :: w = b :: l; rw [show joinL c [w] = w from rfl] at ih; rw [ih]
      | cons v ws =>
        show (b :: w) ++ c :: joinL c (v :: ws) = b :: l
        rw [show joinL c (w :: v :: ws) = w ++ c :: joinL c (v :: ws) from rfl] at ih
        rw [List.cons_append, ih]
theorem split_free (c : UInt8) : ∀ (l : List UInt8), ∀ w ∈ splitL c l, c ∉ w
  | [], w, hw => by
    rw [splitL, List.mem_singleton] at hw
    rw [hw]; simp
  | b :: l, w, hw => by
    obtain ⟨v, vs, hv⟩ := splitL_cons c l
    have ih := split_free c l
    by_cases h : b = c
    · subst h
      rw [splitL_sep, List.mem_cons] at hw
      rcases hw with rfl | hw
      · simp
      · exact ih w hw
    · rw [splitL_other h hv, List.mem_cons] at hw
      rcases hw with rfl | hw
      · have := ih v (by rw [hv]; simp)
        simp only [List.mem_cons, not_or]
        exact ⟨fun e => h e.symm, this⟩
      · exact ih w (by rw [hv]; simp [hw])
theorem split_app (c : UInt8) : ∀ (w l : List UInt8), c ∉ w → splitL c (w ++ c :: l) = w :: splitL c l
  | [], l, _ => splitL_sep c l
  | b :: w, l, h => by
    simp only [List.mem_cons, not_or] at h
    exact splitL_other (fun e => h.1 e.symm) (split_app c w l h.2)
theorem split_none (c : UInt8) : ∀ (w : List UInt8), c ∉ w → splitL c w = [w]
  | [], _ => rfl
  | b :: w, h => by
    simp only [List.mem_cons, not_or] at h
    exact splitL_other (fun e => h.1 e.symm) (split_none c w h.2)
theorem split_join (c : UInt8) : ∀ (ws : List (List UInt8)), ws ≠ [] → (∀ w ∈ ws, c ∉ w) → splitL c (joinL c ws) = ws
  | [], h, _ => absurd rfl h
  | [w], _, h => split_none c w (h w (by simp))
  | w :: v :: ws, _, h => by
    show splitL c (w ++ c :: joinL c (v :: ws)) = _
    rw [split_app c w _ (h w (by simp)), split_join c (v :: ws) (by simp) (fun x hx => h x (by simp only [List.mem_cons] at hx ⊢; exact .inr hx))]
theorem split_len (c : UInt8) : ∀ l : List UInt8, (splitL c l).length = l.count c + 1
  | [] => rfl
  | b :: l => by
    obtain ⟨v, vs, hv⟩ := splitL_cons c l
    have ih := split_len c l
    by_cases h : b = c
    · subst h
      rw [splitL_sep, List.length_cons, ih, List.count_cons_self]
    · rw [splitL_other h hv, List.length_cons, List.count_cons_of_ne h, ← ih, hv, List.length_cons]
theorem lib_join (c : UInt8) : ∀ ws : List (List UInt8), Lib.join ws [c] = joinL c ws
  | [] => rfl
  | [w] => Lib.join_one w [c]
  | w :: v :: ws => by
    have ih := lib_join c (v :: ws)
    show _ = w ++ c :: joinL c (v :: ws)
    rw [← ih, Lib.join_cons, Lib.join_cons]
    simp [Lib.joinTail]
theorem splitK_one (c : UInt8) : ∀ (l : List UInt8), Lib.splitK [c] 0 (l.count c) l = splitL c l
  | [] => rfl
  | b :: l => by
    have ih := splitK_one c l
    obtain ⟨v, vs, hv⟩ := splitL_cons c l
    by_cases h : b = c
    · subst h
      rw [List.count_cons_self, splitL_sep]
      have hx : Lib.index (b :: l) [b] = 0 := by rw [Lib.index_one, Lib.indexByte, if_pos (by simp)]
      unfold Lib.splitK
      rw [hx, if_neg (by decide)]
      show [] :: Lib.splitK [b] 0 (l.count b) l = _
      rw [ih]
    · rw [List.count_cons_of_ne h, splitL_other h hv]
      have hx : Lib.index (b :: l) [c] = if Lib.index l [c] == -1 then -1 else Lib.index l [c] + 1 := by
        rw [Lib.index_one, Lib.index_one, Lib.indexByte, if_neg (by simpa using h)]
      cases hk : l.count c with
      | zero =>
        rw [hk] at ih
        have e : [l] = splitL c l := ih
        rw [hv] at e
        injection e with e1 e2
        show [b :: l] = _
        rw [e1, ← e2]
      | succ k =>
        rw [hk] at ih
        unfold Lib.splitK at ih ⊢
        by_cases hm : Lib.index l [c] = -1
        · have hx2 : Lib.index (b :: l) [c] = -1 := by rw [hx, hm]; rfl
          rw [hx2, if_pos (by decide)]
          rw [hm, if_pos (by decide), hv] at ih
          injection ih with e1 e2
          rw [e1, ← e2]
        · have hge := Lib.index_ge l [c]
          obtain ⟨j, hj⟩ : ∃ j : Nat, Lib.index l [c] = j := ⟨(Lib.index l [c]).toNat, by omega⟩
          have n1 : ((j : Int) == -1) = false := beq_eq_false_iff_ne.mpr (by omega)
          have n2 : ((j : Int) + 1 == -1) = false := beq_eq_false_iff_ne.mpr (by omega)
          have hx2 : Lib.index (b :: l) [c] = (j : Int) + 1 := by rw [hx, hj, n1]; rfl
          rw [hj, n1, if_neg (by decide), hv] at ih
          rw [hx2, n2, if_neg (by decide)]
          injection ih with e1 e2
          have t1 : ((j : Int) + 1).toNat = j + 1 := by omega
          rw [t1]
          simp only [Int.toNat_natCast, Nat.add_zero, List.length_cons, List.length_nil, Nat.zero_add] at e1 e2 ⊢
          rw [show j + 1 + 1 = (j + 1) + 1 from rfl, List.take_succ_cons, List.drop_succ_cons, e1, e2]
end Go.Proofs.YtjfimileopbadaaGreatDoor.DecS
/- Layer 6: what Arcs, Text, Less, Within, Child and Rest answer, over lists. -/
namespace Go.Proofs.YtjfimileopbadaaGreatDoor.OidS
open Go.RowKit Gong Go.Proofs.YtjfimileopbadaaGreatDoor.XVaA Go.Proofs.YtjfimileopbadaaGreatDoor.DecS Go.Proofs.YtjfimileopbadaaGreatDoorW.PrintWords Go.Proofs.YtjfimileopbadaaGreatDoorW.PrintLast Go.Proofs.YtjfimileopbadaaGreatDoorW.PrintMore
set_option linter.unusedVariables false
set_option linter.unusedSimpArgs false
theorem leo_le {α : Type} {f : Nat → Option α} (hm : ∀ k, LeO (f k) (f (k + 1))) {a b : Nat} (h : a ≤ b) {r : α} (hr : f a = some r) : f b = some r := by
  induction h with
  | refl => exact hr
  | step _ ih => exact hm _ _ ih
theorem wrap_id {x : Int} (h1 : -9223372036854775808 ≤ x) (h2 : x ≤ 9223372036854775807) : wrap64 x = x := by unfold wrap64; omega
theorem wrap_succ (i : Nat) (h : i ≤ 4611686018427387904) : wrap64 ((i : Int) + 1) = ((i + 1 : Nat) : Int) := by unfold wrap64; omega
def L (s : ByteArray) : List UInt8 := s.data.toList
def Bs (l : List UInt8) : ByteArray := ⟨l.toArray⟩
theorem L_Bs (l : List UInt8) : L (Bs l) = l := by simp [L, Bs]
theorem Bs_L (s : ByteArray) : Bs (L s) = s := by cases s; simp [L, Bs]
theorem L_inj {a b : ByteArray} (h : L a = L b) : a = b := by rw [← Bs_L a, h, Bs_L]
theorem L_len (s : ByteArray) : (L s).length = s.size := by simp [L]
theorem toList_L (s : ByteArray) : s.toList = L s := Go.ByteArray.toList_eq s
/-- An arc; below 0: it is none. -/
def arcOf (w : List UInt8) : Int := if w ≠ [] ∧ w.length ≤ 10 ∧ ¬ (1 < w.length ∧ w.head? = some 48) ∧ w.all isD = true then (val w : Int) else -1
theorem arcOf_canon {w : List UInt8} (h : 0 ≤ arcOf w) : Canon w ∧ arcOf w = (val w : Int) ∧ w.length ≤ 10 := by
  unfold arcOf at h ⊢
  by_cases c : w ≠ [] ∧ w.length ≤ 10 ∧ ¬ (1 < w.length ∧ w.head? = some 48) ∧ w.all isD = true
  · rw [if_pos c]
    obtain ⟨c1, c2, c3, c4⟩ := c
    exact ⟨⟨c1, fun b hb => List.all_eq_true.1 c4 b hb, fun h1 e => c3 ⟨h1, e⟩⟩, rfl, c2⟩
  · rw [if_neg c] at h
    omega
theorem dd_short : ∀ (n : Nat), n < 10000000000 → (Lib.decDigits n).length ≤ 10 := by
  have key : ∀ (m n : Nat), n < 10 ^ (m + 1) → (Lib.decDigits n).length ≤ m + 1 := by
    intro m
    induction m with
    | zero => intro n h; rw [dd_one n (by omega)]; exact Nat.le_refl _
    | succ m ih =>
      intro n h
      by_cases c : n < 10
      · rw [dd_one n c]; simp
      · rw [dd_step n c, List.length_append]
        have := ih (n / 10) (by rw [Nat.pow_succ] at h; omega)
        simp only [List.length_cons, List.length_nil]
        omega
  intro n h
  exact key 9 n h
theorem arcOf_dd (n : Nat) (h : n < 10000000000) : arcOf (Lib.decDigits n) = (n : Int) := by
  have hc := dd_canon n
  unfold arcOf
  rw [if_pos ⟨hc.ne, dd_short n h, fun h1 => hc.hd h1.1 h1.2, List.all_eq_true.2 hc.dig⟩, val_dd]
theorem dd_arcOf {w : List UInt8} (h : 0 ≤ arcOf w) : Lib.decDigits (arcOf w).toNat = w := by
  obtain ⟨hc, e, _⟩ := arcOf_canon h
  rw [e, Int.toNat_natCast]
  exact dd_val hc
theorem bt_head (s : ByteArray) (h : 0 < s.size) : bt s 0 = 48 ↔ (L s).head? = some 48 := by
  have h1 : bt s 0 = ((s[0]'h).toNat : Int) := (bt_at s 0 h).symm
  have h2 : (L s).head? = some (s[0]'h) := by
    have h3 : 0 < (L s).length := by rw [L_len]; exact h
    rw [List.head?_eq_getElem?, List.getElem?_eq_getElem h3]
    rfl
  rw [h1, h2]
  constructor
  · intro e
    rw [Option.some.injEq]
    exact UInt8.toNat_inj.1 (by have e48 : (48 : UInt8).toNat = 48 := rfl; omega)
  · intro e
    rw [Option.some.injEq] at e
    rw [e]; rfl
theorem arc_eq (s : ByteArray) : oid_arc.f s = some (arcOf (L s)) := by
  have hl := L_len s
  unfold oid_arc.f arcOf
  by_cases c0 : s.size = 0
  · rw [if_pos c0, if_neg (fun h => h.1 (List.eq_nil_of_length_eq_zero (by omega)))]
  · rw [if_neg c0]
    by_cases c1 : 10 < s.size
    · rw [if_pos c1, if_neg (fun h => by have := h.2.1; omega)]
    · rw [if_neg c1]
      by_cases c2 : 1 < s.size ∧ bt s 0 = 48
      · rw [if_pos c2, if_neg (fun h => h.2.2.1 ⟨by omega, (bt_head s (by omega)).1 c2.2⟩)]
      · rw [if_neg c2]
        by_cases c3 : Lib.trimS s.data.toList [48, 49, 50, 51, 52, 53, 54, 55, 56, 57] = []
        · rw [if_pos c3]
          have hd := trim_nil.1 c3
          have hne : L s ≠ [] := fun e => by rw [e] at hl; simp at hl; omega
          have ha : Lib.atoiAll s.data.toList = .ok (val (L s) : Int) := atoi_digits hd hne (by show (L s).length ≤ 17; omega)
          rw [ha, if_pos ⟨hne, by omega, fun h => c2 ⟨by omega, (bt_head s (by omega)).2 h.2⟩, List.all_eq_true.2 hd⟩]
        · rw [if_neg c3, if_neg (fun h => c3 (trim_nil.2 (List.all_eq_true.1 h.2.2.2)))]
/-- Are arcs an identifier's? -/
def heads : List Int → Bool
  | a :: b :: _ => decide ((a < 2 ∧ b < 40) ∨ (a = 2 ∧ b ≤ 4294967215))
  | _ => false
def isS (l : List Int) : Bool := decide (2 ≤ l.length) && decide (l.length ≤ 128) && l.all (fun x => decide (0 ≤ x ∧ x ≤ 4294967295)) && heads l
theorem rd_get (l : List Int) (i : Nat) (h : i < l.length) : rd l (i : Int) = l[i]'h := by
  unfold rd
  rw [Int.toNat_natCast, List.getD_eq_getElem?_getD, List.getElem?_eq_getElem h]
  rfl
theorem is_loop (l : List Int) (h2 : 2 ≤ l.length) (h3 : l.length ≤ 128) : ∀ (d i k : Nat), i + d = l.length → d < k →
    oid_is.l0 k l l (l.length : Int) (i : Int) = some ((l.drop i).all (fun x => decide (0 ≤ x ∧ x ≤ 4294967295)) && heads l) := by
  intro d
  induction d with
  | zero =>
    intro i k hi hk
    obtain ⟨k, rfl⟩ : ∃ m, k = m + 1 := ⟨k - 1, by omega⟩
    simp only [oid_is.l0]
    have e : l.drop i = [] := List.drop_eq_nil_of_le (by omega)
    rw [if_neg (by omega), e]
    match l, h2 with
    | a :: b :: r, _ =>
      have r0 : rd (a :: b :: r) 0 = a := rfl
      have r1 : rd (a :: b :: r) 1 = b := rfl
      rw [r0, r1, if_pos (by simp only [List.length_cons]; omega)]
      simp only [List.all_nil, Bool.true_and, heads]
      by_cases c : a < 2
      · rw [if_pos c, if_pos (by simp only [List.length_cons]; omega)]
        congr 1
        rw [Bool.eq_iff_iff]
        simp only [decide_eq_true_eq]
        omega
      · rw [if_neg c]
        by_cases c2 : a = 2
        · rw [if_pos c2, if_pos (by simp only [List.length_cons]; omega)]
          congr 1
          rw [Bool.eq_iff_iff]
          simp only [decide_eq_true_eq]
          omega
        · rw [if_neg c2]
          congr 1
          rw [eq_comm, decide_eq_false_iff_not]
          omega
  | succ d ih =>
    intro i k hi hk
    obtain ⟨k, rfl⟩ : ∃ m, k = m + 1 := ⟨k - 1, by omega⟩
    have hlt : i < l.length := by omega
    simp only [oid_is.l0]
    rw [if_pos (by omega), if_pos (by omega), if_pos (by omega), rd_get l i hlt, List.drop_eq_getElem_cons hlt, List.all_cons]
    by_cases c1 : l[i] < 0
    · rw [if_pos c1, decide_eq_false (by omega)]
      rfl
    · rw [if_neg c1]
      by_cases c2 : l[i] > 4294967295
      · rw [if_pos c2, decide_eq_false (by omega)]
        rfl
      · rw [if_neg c2, wrap_succ i (by omega), decide_eq_true (by omega), Bool.true_and]
        exact ih (i + 1) k (by omega) (by omega)
theorem is_eq (l : List Int) (k : Nat) (hk : 200 ≤ k) : oid_is.f k l = some (isS l) := by
  obtain ⟨k, rfl⟩ : ∃ m, k = m + 1 := ⟨k - 1, by omega⟩
  unfold oid_is.f isS
  by_cases c1 : (l.length : Int) < 2
  · rw [if_pos c1]
    simp only [oid_is.j0, if_true]
    rw [decide_eq_false (by omega)]
    rfl
  · rw [if_neg c1, decide_eq_true (show 2 ≤ l.length by omega)]
    by_cases c2 : (l.length : Int) > 128
    · rw [decide_eq_true c2, decide_eq_false (show ¬ l.length ≤ 128 by omega)]
      simp only [oid_is.j0, if_true]
      rfl
    · rw [decide_eq_false c2, decide_eq_true (show l.length ≤ 128 by omega)]
      simp only [oid_is.j0]
      rw [if_neg (by decide)]
      have := is_loop l (by omega) (by omega) l.length 0 k (by omega) (by omega)
      rw [Int.natCast_zero] at this
      rw [this]
      rfl
end Go.Proofs.YtjfimileopbadaaGreatDoor.OidS
/- Layer 6: Arcs and Text, there and back. -/
namespace Go.Proofs.YtjfimileopbadaaGreatDoor.OidS
open Go.RowKit Gong Go.Proofs.YtjfimileopbadaaGreatDoor.XVaA Go.Proofs.YtjfimileopbadaaGreatDoor.DecS Go.Proofs.YtjfimileopbadaaGreatDoorW.PrintWords Go.Proofs.YtjfimileopbadaaGreatDoorW.PrintLast Go.Proofs.YtjfimileopbadaaGreatDoorW.PrintMore
set_option linter.unusedVariables false
set_option linter.unusedSimpArgs false
/-- The arcs of a text. -/
def arcsS (s : List UInt8) : Option (List Int) := if s.count 46 < 128 ∧ isS ((splitL 46 s).map arcOf) = true then some ((splitL 46 s).map arcOf) else none
def arcsR (s : List UInt8) : List Int × Int := match arcsS s with
  | some l => (l, 0)
  | none => ([], 60)
theorem rdOf_get (l : List ByteArray) (i : Nat) (h : i < l.length) : rdOf ByteArray.empty l (i : Int) = l[i]'h := by
  unfold rdOf
  rw [Int.toNat_natCast, List.getD_eq_getElem?_getD, List.getElem?_eq_getElem h]
  rfl
theorem arcs_loop (W : List ByteArray) (hW : W.length ≤ 128) : ∀ (d i k : Nat), i + d = W.length → d + 300 ≤ k →
    oid_Arcs.l0 k ((W.take i).map fun w => arcOf (L w)) W (W.length : Int) (i : Int) = some (if isS (W.map fun w => arcOf (L w)) = true then (W.map fun w => arcOf (L w), 0) else ([], 60)) := by
  intro d
  induction d with
  | zero =>
    intro i k hi hk
    obtain ⟨k, rfl⟩ : ∃ m, k = m + 1 := ⟨k - 1, by omega⟩
    simp only [oid_Arcs.l0]
    rw [if_neg (by omega), List.take_of_length_le (by omega), is_eq _ k (by omega)]
    simp only [Option.bind_some]
    split <;> rfl
  | succ d ih =>
    intro i k hi hk
    obtain ⟨k, rfl⟩ : ∃ m, k = m + 1 := ⟨k - 1, by omega⟩
    have hlt : i < W.length := by omega
    simp only [oid_Arcs.l0]
    rw [if_pos (by omega), if_pos (by omega), if_pos (by omega), rdOf_get W i hlt, arc_eq]
    simp only [Option.bind_some]
    have hl : ((W.take i).map fun w => arcOf (L w)).length = i := by rw [List.length_map, List.length_take]; omega
    rw [if_pos (by omega), wrap_succ i (by omega)]
    have e : ((W.take i).map fun w => arcOf (L w)) ++ [arcOf (L W[i])] = (W.take (i + 1)).map fun w => arcOf (L w) := by
      rw [List.take_succ_eq_append_getElem hlt, List.map_append]
      rfl
    rw [e]
    exact ih (i + 1) k (by omega) (by omega)
theorem count_eq (a : ByteArray) : strings_Count.f a (⟨#[46]⟩ : ByteArray) = some (((L a).count 46 : Nat) : Int) := rfl
theorem split_eq (a : ByteArray) (h : a.size ≤ 1000000000) : ∃ W : List ByteArray, strings_Split.f a (⟨#[46]⟩ : ByteArray) = some W ∧ W.map L = splitL 46 (L a) := by
  unfold strings_Split.f
  rw [if_pos ⟨by omega, by decide⟩]
  refine ⟨_, rfl, ?_⟩
  have h1 := Lib.splitB_data (⟨#[46]⟩ : ByteArray) 0 (Lib.countB a (⟨#[46]⟩ : ByteArray)) a
  have h2 : Lib.countB a (⟨#[46]⟩ : ByteArray) = (L a).count 46 := Lib.count_one 46 (L a)
  rw [h2] at h1 ⊢
  exact h1.trans (splitK_one 46 (L a))
theorem arcs_eq (a : ByteArray) (h : a.size ≤ 1000000000) (k : Nat) (hk : 500 ≤ k) : oid_Arcs.f k a = some (arcsR (L a)) := by
  unfold oid_Arcs.f
  rw [count_eq]
  simp only [Option.bind_some]
  by_cases c : (L a).count 46 < 128
  · rw [if_neg (by omega)]
    obtain ⟨W, hW, hm⟩ := split_eq a h
    rw [hW]
    simp only [Option.bind_some]
    have hl : W.length = (L a).count 46 + 1 := by rw [← split_len, ← hm, List.length_map]
    have := arcs_loop W (by omega) W.length 0 k (by omega) (by omega)
    rw [Int.natCast_zero] at this
    have e0 : ((W.take 0).map fun w => arcOf (L w)) = [] := rfl
    rw [e0] at this
    rw [this]
    have e1 : (W.map fun w => arcOf (L w)) = (splitL 46 (L a)).map arcOf := by rw [← hm, List.map_map]; rfl
    rw [e1]
    unfold arcsR arcsS
    by_cases c2 : isS ((splitL 46 (L a)).map arcOf) = true
    · rw [if_pos c2, if_pos ⟨c, c2⟩]
    · rw [if_neg c2, if_neg (fun h => c2 h.2)]
  · rw [if_pos (by omega)]
    unfold arcsR arcsS
    rw [if_neg (fun h => c h.1)]
/-- The text of arcs. -/
def putL (l : List Int) : List UInt8 := joinL 46 (l.map fun x => Lib.decDigits x.toNat)
theorem isS_parts {l : List Int} (h : isS l = true) : 2 ≤ l.length ∧ l.length ≤ 128 ∧ (∀ x ∈ l, 0 ≤ x ∧ x ≤ 4294967295) ∧ heads l = true := by
  unfold isS at h
  simp only [Bool.and_eq_true, decide_eq_true_eq, List.all_eq_true] at h
  exact ⟨h.1.1.1, h.1.1.2, h.1.2, h.2⟩
theorem dot_free (n : Nat) : (46 : UInt8) ∉ Lib.decDigits n := fun h => by
  have := dd_dig n 46 h
  exact absurd this (by decide)
theorem arcs_put {l : List Int} (h : isS l = true) : arcsS (putL l) = some l := by
  obtain ⟨h1, h2, h3, h4⟩ := isS_parts h
  have hs : splitL 46 (putL l) = l.map fun x => Lib.decDigits x.toNat := split_join 46 _ (by intro e; rw [List.map_eq_nil_iff] at e; rw [e] at h1; simp at h1) (fun w hw => by
    obtain ⟨x, _, rfl⟩ := List.mem_map.1 hw
    exact dot_free _)
  have hm : (splitL 46 (putL l)).map arcOf = l := by
    rw [hs, List.map_map]
    conv => rhs; rw [← List.map_id l]
    apply List.map_congr_left
    intro x hx
    have := h3 x hx
    show arcOf (Lib.decDigits x.toNat) = x
    rw [arcOf_dd _ (by omega)]
    omega
  have hc : (putL l).count 46 < 128 := by
    have := split_len 46 (putL l)
    rw [hs, List.length_map] at this
    omega
  unfold arcsS
  rw [hm, if_pos ⟨hc, h⟩]
theorem arcs_some {s : List UInt8} {l : List Int} (h : arcsS s = some l) : isS l = true ∧ putL l = s := by
  unfold arcsS at h
  by_cases c : s.count 46 < 128 ∧ isS ((splitL 46 s).map arcOf) = true
  · rw [if_pos c] at h
    injection h with h
    subst h
    refine ⟨c.2, ?_⟩
    obtain ⟨_, _, h3, _⟩ := isS_parts c.2
    unfold putL
    rw [List.map_map]
    have : (splitL 46 s).map ((fun x : Int => Lib.decDigits x.toNat) ∘ arcOf) = splitL 46 s := by
      conv => rhs; rw [← List.map_id (splitL 46 s)]
      apply List.map_congr_left
      intro w hw
      exact dd_arcOf (h3 _ (List.mem_map.2 ⟨w, hw, rfl⟩)).1
    rw [this, join_split]
  · rw [if_neg c] at h
    cases h
theorem arcsR_put {l : List Int} (h : isS l = true) : arcsR (putL l) = (l, 0) := by
  unfold arcsR
  rw [arcs_put h]
theorem putL_inj {l m : List Int} (hl : isS l = true) (hm : isS m = true) (h : putL l = putL m) : l = m := by
  have h1 := arcs_put hl
  rw [h, arcs_put hm] at h1
  injection h1 with h1
  exact h1.symm
theorem itoa_nat (n : Nat) (h : n ≤ 9223372036854775807) : strconv_Itoa.f (n : Int) = some (Bs (Lib.decDigits n)) := by
  unfold strconv_Itoa.f
  rw [if_pos (by omega)]
  unfold Lib.itoa
  rw [if_neg (by omega)]
  rfl
theorem joinL_len : ∀ ws : List (List UInt8), (∀ w ∈ ws, w.length ≤ 10) → (joinL 46 ws).length ≤ 11 * ws.length
  | [], _ => by simp [joinL]
  | [w], h => by have := h w (by simp); simp only [joinL, List.length_cons, List.length_nil]; omega
  | w :: v :: ws, h => by
    have h1 := h w (by simp)
    have h2 := joinL_len (v :: ws) (fun x hx => h x (by simp only [List.mem_cons] at hx ⊢; exact .inr hx))
    show (w ++ 46 :: joinL 46 (v :: ws)).length ≤ _
    simp only [List.length_append, List.length_cons] at h2 ⊢
    omega
theorem putL_len {l : List Int} (h : ∀ x ∈ l, 0 ≤ x ∧ x ≤ 4294967295) : (putL l).length ≤ 11 * l.length := by
  have := joinL_len (l.map fun x => Lib.decDigits x.toNat) (fun w hw => by
    obtain ⟨x, hx, rfl⟩ := List.mem_map.1 hw
    have := h x hx
    exact dd_short _ (by omega))
  rw [List.length_map] at this
  exact this
end Go.Proofs.YtjfimileopbadaaGreatDoor.OidS
/- Layer 7: which values may be; the program's answer and the reference's are one. -/
namespace Go.Proofs.YtjfimileopbadaaGreatDoor.ValS
open Go.RowKit Gong Go.Proofs.YtjfimileopbadaaGreatDoor.XVaA Go.Proofs.YtjfimileopbadaaGreatDoor.OidS Go.Proofs.YtjfimileopbadaaGreatDoorW.PrintWords Go.Proofs.YtjfimileopbadaaGreatDoorW.PrintLast Go.Proofs.YtjfimileopbadaaGreatDoorW.PrintMore
set_option linter.unusedVariables false
set_option linter.unusedSimpArgs false
/-- The forms of kinds. -/
def formOf (k : Int) : Int := if k = 2 then 1 else if k = 6 then 4 else if k = 5 then 5 else if k = 65 ∨ k = 66 ∨ k = 67 ∨ k = 70 then 2 else if k = 4 ∨ k = 64 ∨ k = 68 then 3 else 0
theorem of_eq (k : Int) : value_of.f k = some (formOf k) := by
  unfold value_of.f formOf
  by_cases h2 : k = 2
  · rw [if_pos h2, if_pos h2]
  rw [if_neg h2, if_neg h2]
  by_cases h6 : k = 6
  · rw [if_pos h6, if_pos h6]
  rw [if_neg h6, if_neg h6]
  by_cases h5 : k = 5
  · rw [if_pos h5, if_pos h5]
  rw [if_neg h5, if_neg h5]
  by_cases h65 : k = 65
  · rw [if_pos h65, if_pos (.inl h65)]
  rw [if_neg h65]
  by_cases h66 : k = 66
  · rw [if_pos h66, if_pos (.inr (.inl h66))]
  rw [if_neg h66]
  by_cases h67 : k = 67
  · rw [if_pos h67, if_pos (.inr (.inr (.inl h67)))]
  rw [if_neg h67]
  by_cases h70 : k = 70
  · rw [if_pos h70, if_pos (.inr (.inr (.inr h70)))]
  rw [if_neg h70, if_neg (show ¬ (k = 65 ∨ k = 66 ∨ k = 67 ∨ k = 70) from fun h => by omega)]
  by_cases h4 : k = 4
  · rw [if_pos h4, if_pos (.inl h4)]
  rw [if_neg h4]
  by_cases h64 : k = 64
  · rw [if_pos h64, if_pos (.inr (.inl h64))]
  rw [if_neg h64]
  by_cases h68 : k = 68
  · rw [if_pos h68, if_pos (.inr (.inr h68))]
  rw [if_neg h68, if_neg (show ¬ (k = 4 ∨ k = 64 ∨ k = 68) from fun h => by omega)]
/-- May a value be? -/
def okV (k n : Int) (s : ByteArray) : Bool :=
  if k = 2 then decide (s.toList = [] ∧ -2147483648 ≤ n ∧ n ≤ 2147483647) else
  if k = 6 then decide (n = 0 ∧ (arcsR (L s)).2 = 0) else
  if k = 5 then decide (n = 0 ∧ s.toList = []) else
  if k = 65 ∨ k = 66 ∨ k = 67 then decide (s.toList = [] ∧ 0 ≤ n ∧ n ≤ 4294967295) else
  if k = 70 then decide (s.toList = []) else
  if k = 64 then decide (n = 0 ∧ s.size = 4) else
  if k = 4 ∨ k = 68 then decide (n = 0 ∧ s.size ≤ 65535) else false
theorem ok2 (n : Int) (s : ByteArray) : okV 2 n s = decide (s.toList = [] ∧ -2147483648 ≤ n ∧ n ≤ 2147483647) := by unfold okV; rw [if_pos rfl]
theorem ok6 (n : Int) (s : ByteArray) : okV 6 n s = decide (n = 0 ∧ (arcsR (L s)).2 = 0) := by unfold okV; rw [if_neg (by decide), if_pos rfl]
theorem ok5 (n : Int) (s : ByteArray) : okV 5 n s = decide (n = 0 ∧ s.toList = []) := by unfold okV; rw [if_neg (by decide), if_neg (by decide), if_pos rfl]
theorem okU {k : Int} (n : Int) (s : ByteArray) (h : k = 65 ∨ k = 66 ∨ k = 67) : okV k n s = decide (s.toList = [] ∧ 0 ≤ n ∧ n ≤ 4294967295) := by unfold okV; rw [if_neg (by omega), if_neg (by omega), if_neg (by omega), if_pos h]
theorem ok70 (n : Int) (s : ByteArray) : okV 70 n s = decide (s.toList = []) := by unfold okV; rw [if_neg (by decide), if_neg (by decide), if_neg (by decide), if_neg (by decide), if_pos rfl]
theorem ok64 (n : Int) (s : ByteArray) : okV 64 n s = decide (n = 0 ∧ s.size = 4) := by unfold okV; rw [if_neg (by decide), if_neg (by decide), if_neg (by decide), if_neg (by decide), if_neg (by decide), if_pos rfl]
theorem ok4 {k : Int} (n : Int) (s : ByteArray) (h : k = 4 ∨ k = 68) : okV k n s = decide (n = 0 ∧ s.size ≤ 65535) := by unfold okV; rw [if_neg (by omega), if_neg (by omega), if_neg (by omega), if_neg (by omega), if_neg (by omega), if_neg (by omega), if_pos h]
theorem ok0 {k : Int} (n : Int) (s : ByteArray) (h : ¬ (k = 2 ∨ k = 6 ∨ k = 5 ∨ k = 65 ∨ k = 66 ∨ k = 67 ∨ k = 70 ∨ k = 64 ∨ k = 4 ∨ k = 68)) : okV k n s = false := by unfold okV; rw [if_neg (by omega), if_neg (by omega), if_neg (by omega), if_neg (by omega), if_neg (by omega), if_neg (by omega), if_neg (by omega)]
theorem right_eq (kd n : Int) (s : ByteArray) (hs : s.size ≤ 1000000000) (k : Nat) (hk : 500 ≤ k) : value_right.f k kd n s = some (okV kd n s) := by
  unfold value_right.f okV
  rw [of_eq]
  simp only [Option.bind_some]
  by_cases h2 : kd = 2
  · subst h2
    rw [if_pos (show formOf 2 = 1 from rfl), if_pos rfl]
    by_cases a : s.toList = []
    · rw [if_pos a]
      by_cases b : n ≥ -2147483648
      · rw [if_pos b]; congr 1; exact decide_eq_decide.2 ⟨fun h => ⟨a, b, h⟩, fun h => h.2.2⟩
      · rw [if_neg b]; congr 1; exact (decide_eq_false (fun h => b h.2.1)).symm
    · rw [if_neg a]; congr 1; exact (decide_eq_false (fun h => a h.1)).symm
  rw [if_neg h2]
  by_cases h6 : kd = 6
  · subst h6
    rw [if_neg (by decide), if_neg (by decide), if_neg (by decide), if_pos (show formOf 6 = 4 from rfl), if_pos rfl, arcs_eq s hs k hk]
    simp only [Option.bind_some]
    by_cases a : n = 0
    · rw [if_pos a]; congr 1; rw [Bool.eq_iff_iff, beq_iff_eq, decide_eq_true_iff]; exact ⟨fun h => ⟨a, h⟩, fun h => h.2⟩
    · rw [if_neg a]; congr 1; exact (decide_eq_false (fun h => a h.1)).symm
  rw [if_neg h6]
  by_cases h5 : kd = 5
  · subst h5
    rw [if_neg (by decide), if_neg (by decide), if_neg (by decide), if_neg (by decide), if_pos (show formOf 5 = 5 from rfl), if_pos rfl]
    congr 1
    rw [Bool.eq_iff_iff, Bool.and_eq_true, beq_iff_eq, beq_iff_eq, decide_eq_true_iff]
  rw [if_neg h5]
  by_cases hu : kd = 65 ∨ kd = 66 ∨ kd = 67
  · have e : formOf kd = 2 := by rcases hu with rfl | rfl | rfl <;> rfl
    rw [e, if_neg (by decide), if_pos rfl, if_pos hu]
    by_cases a : s.toList = []
    · rw [if_pos a, if_neg (show ¬ kd = 70 by omega)]
      by_cases b : n ≥ 0
      · rw [if_pos b]; congr 1; exact decide_eq_decide.2 ⟨fun h => ⟨a, b, h⟩, fun h => h.2.2⟩
      · rw [if_neg b]; congr 1; exact (decide_eq_false (fun h => b h.2.1)).symm
    · rw [if_neg a]; congr 1; exact (decide_eq_false (fun h => a h.1)).symm
  rw [if_neg hu]
  by_cases h70 : kd = 70
  · subst h70
    rw [if_neg (by decide), if_pos (show formOf 70 = 2 from rfl), if_pos rfl, if_pos rfl]
    by_cases a : s.toList = []
    · rw [if_pos a, decide_eq_true a]
    · rw [if_neg a, decide_eq_false a]
  simp only [if_neg h70]
  by_cases h64 : kd = 64
  · subst h64
    rw [if_neg (by decide), if_neg (by decide), if_pos (show formOf 64 = 3 from rfl), if_pos rfl]
    unfold value_long.f
    rw [if_pos rfl]
    simp only [Option.bind_some]
    by_cases a : n = 0
    · rw [if_pos a]; congr 1; rw [Bool.eq_iff_iff, beq_iff_eq, decide_eq_true_iff]; exact ⟨fun h => ⟨a, by omega⟩, fun h => by omega⟩
    · rw [if_neg a]; congr 1; exact (decide_eq_false (fun h => a h.1)).symm
  rw [if_neg h64]
  by_cases h4 : kd = 4 ∨ kd = 68
  · have e : formOf kd = 3 := by rcases h4 with rfl | rfl <;> rfl
    rw [e, if_neg (by decide), if_neg (by decide), if_pos rfl, if_pos h4]
    unfold value_long.f
    rw [if_neg h64]
    simp only [Option.bind_some]
    by_cases a : n = 0
    · rw [if_pos a]; congr 1; exact decide_eq_decide.2 ⟨fun h => ⟨a, by omega⟩, fun h => by omega⟩
    · rw [if_neg a]; congr 1; exact (decide_eq_false (fun h => a h.1)).symm
  rw [if_neg h4]
  have e : formOf kd = 0 := by
    unfold formOf
    rw [if_neg h2, if_neg h6, if_neg h5, if_neg (by omega), if_neg (by omega)]
  rw [e, if_neg (by decide), if_neg (by decide), if_neg (by decide), if_neg (by decide), if_neg (by decide)]
end Go.Proofs.YtjfimileopbadaaGreatDoor.ValS
/- Layer 6: the example; the arcs of a text that was put together; one arc more. -/
namespace Go.Proofs.YtjfimileopbadaaGreatDoor.OidS
open Go.RowKit Gong Go.Proofs.YtjfimileopbadaaGreatDoor.XVaA Go.Proofs.YtjfimileopbadaaGreatDoor.DecS Go.Proofs.YtjfimileopbadaaGreatDoorW.PrintWords Go.Proofs.YtjfimileopbadaaGreatDoorW.PrintLast Go.Proofs.YtjfimileopbadaaGreatDoorW.PrintMore
set_option linter.unusedVariables false
set_option linter.unusedSimpArgs false
theorem put_size {l : List Int} (h : isS l = true) : (Bs (putL l)).size ≤ 1000000000 := by
  obtain ⟨h1, h2, h3, h4⟩ := isS_parts h
  have := putL_len h3
  rw [← L_len, L_Bs]
  omega
theorem arcs_of {l : List Int} (h : isS l = true) (k : Nat) (hk : 500 ≤ k) : oid_Arcs.f k (Bs (putL l)) = some (l, 0) := by
  rw [arcs_eq _ (put_size h) k hk, L_Bs, arcsR_put h]
theorem joinL_snoc (w : List UInt8) : ∀ ws : List (List UInt8), ws ≠ [] → joinL 46 (ws ++ [w]) = joinL 46 ws ++ 46 :: w
  | [], h => absurd rfl h
  | [v], _ => rfl
  | v :: u :: ws, _ => by
    show v ++ 46 :: joinL 46 ((u :: ws) ++ [w]) = (v ++ 46 :: joinL 46 (u :: ws)) ++ 46 :: w
    rw [joinL_snoc w (u :: ws) (by simp)]
    simp
theorem putL_snoc (r : List Int) (n : Int) (h : r ≠ []) : putL (r ++ [n]) = putL r ++ 46 :: Lib.decDigits n.toNat := by
  unfold putL
  rw [List.map_append]
  exact joinL_snoc _ _ (by simpa using h)
end Go.Proofs.YtjfimileopbadaaGreatDoor.OidS
/- Layer 6: numbers by seven bits, there and back. -/
namespace Go.Proofs.YtjfimileopbadaaGreatDoor.OidS
open Go.RowKit Gong Go.Proofs.YtjfimileopbadaaGreatDoor.XVaA Go.Proofs.YtjfimileopbadaaGreatDoor.DecS Go.Proofs.YtjfimileopbadaaGreatDoorW.PrintWords Go.Proofs.YtjfimileopbadaaGreatDoorW.PrintLast Go.Proofs.YtjfimileopbadaaGreatDoorW.PrintMore
set_option linter.unusedVariables false
set_option linter.unusedSimpArgs false
/-- The groups ahead of the last one. -/
def hiG : Nat → List UInt8
  | n => if h : n < 128 then [UInt8.ofNat (n + 128)] else hiG (n / 128) ++ [UInt8.ofNat (n % 128 + 128)]
termination_by n => n
decreasing_by omega
def grp (n : Nat) : List UInt8 := if n < 128 then [UInt8.ofNat n] else hiG (n / 128) ++ [UInt8.ofNat (n % 128)]
theorem hiG_lo {n : Nat} (h : n < 128) : hiG n = [UInt8.ofNat (n + 128)] := by rw [hiG, dif_pos h]
theorem hiG_hi {n : Nat} (h : ¬ n < 128) : hiG n = hiG (n / 128) ++ [UInt8.ofNat (n % 128 + 128)] := by rw [hiG, dif_neg h]
theorem u8_nat (n : Nat) (h : n < 256) : (UInt8.ofNat n).toNat = n := by simp [UInt8.toNat_ofNat]; omega
theorem hiG_pos (n : Nat) : 0 < (hiG n).length := by
  by_cases c : n < 128
  · rw [hiG_lo c]; simp
  · rw [hiG_hi c, List.length_append]; simp
theorem hiG_len : ∀ (m n : Nat), n < 128 ^ (m + 1) → (hiG n).length ≤ m + 1 := by
  intro m
  induction m with
  | zero => intro n h; rw [hiG_lo (by simpa using h)]; exact Nat.le_refl _
  | succ m ih =>
    intro n h
    by_cases c : n < 128
    · rw [hiG_lo c]; simp
    · rw [hiG_hi c, List.length_append]
      have := ih (n / 128) (by rw [Nat.pow_succ] at h; omega)
      simp only [List.length_cons, List.length_nil]
      omega
theorem grp_len (n : Nat) (h : n ≤ 4294967295) : (grp n).length ≤ 5 := by
  unfold grp
  by_cases c : n < 128
  · rw [if_pos c]; simp
  · rw [if_neg c, List.length_append]
    have := hiG_len 3 (n / 128) (by show n / 128 < 268435456; omega)
    simp only [List.length_cons, List.length_nil]
    omega
theorem grp_pos (n : Nat) : 0 < (grp n).length := by
  unfold grp
  by_cases c : n < 128
  · rw [if_pos c]; simp
  · rw [if_neg c, List.length_append]; simp
theorem andn (b : Nat) (h : b < 256) : wrap64 (Go.bits .andNot .u8 (b : Int) 128) = ((b % 128 : Nat) : Int) := by
  have : ∀ m : Fin 256, wrap64 (Go.bits .andNot .u8 ((m.val : Nat) : Int) 128) = ((m.val % 128 : Nat) : Int) := by decide +kernel
  exact this ⟨b, h⟩
theorem wraps_i63 (n : Int) (h0 : 0 ≤ n) (h1 : n < 2 ^ 63) : IntKind.i64.wrap n = n := by
  have : (2 : Int) ^ 63 = 9223372036854775808 := rfl
  rw [IntKind.wrap_i64]; omega
theorem or7 (a c : Nat) (ha : a ≤ 4294967295) (hc : c < 128) : Go.bits .or .i64 (wrap64 ((a : Int) * 128)) (c : Int) = ((a * 128 + c : Nat) : Int) := by
  rw [wrap_id (by omega) (by omega)]
  have := bits_join .i64 63 (by decide) wraps_i63 7 ((a : Int) * 128) (c : Int) (by omega) (by show _ % (128 : Int) = 0; omega) (by show _ < (9223372036854775808 : Int); omega) (by omega) (by show _ < (128 : Int); omega) (by show _ < (9223372036854775808 : Int); omega)
  rw [this]
  omega
theorem bt_get (s : ByteArray) (i : Nat) (h : i < (L s).length) : bt s (i : Int) = (((L s)[i]'h).toNat : Int) := by
  rw [L_len] at h
  exact (bt_at s i h).symm
/-- The groups of a number. -/
theorem pow128 : (128 : Int) ^ 0 = 1 ∧ (128 : Int) ^ 1 = 128 ∧ (128 : Int) ^ 2 = 16384 ∧ (128 : Int) ^ 3 = 2097152 ∧ (128 : Int) ^ 4 = 268435456 ∧ (128 : Int) ^ 5 = 34359738368 := by decide
theorem groups_eq (n : Nat) (h : n ≤ 4294967295) : octet_Groups.f (n : Int) = some (Bs (grp n), 0) := by
  obtain ⟨q0, q1, q2, q3, q4, q5⟩ := pow128
  have drop_range : ∀ k : Nat, k ≤ 8 → (gbytes (n : Int)).drop (8 - k) = (List.range' (8 - k) (k + 1)).map fun i => gbyte (n : Int) i := by
    intro k hk
    unfold gbytes
    rw [← List.map_drop, List.range_eq_range', List.drop_range']
    congr 2 <;> omega
  unfold octet_Groups.f
  rw [if_neg (by omega), if_pos (by omega)]
  congr 2
  apply L_inj
  rw [L_Bs]
  unfold gkOf
  unfold grp
  by_cases c0 : n < 128
  · have e : gkAt 8 (n : Int) 0 = 0 := by unfold gkAt; rw [if_neg (by rw [q1]; omega)]
    rw [e, drop_range 0 (by omega), if_pos c0]
    have b0 : gbyte (n : Int) 8 = (n : Int) := by unfold gbyte; simp only [Nat.sub_self, q0]; rw [if_neg (by omega)]; omega
    simp only [List.range', List.map_cons, List.map_nil, Nat.sub_zero, b0]
    rfl
  · rw [if_neg c0]
    have b0 : gbyte (n : Int) 8 = ((n % 128 : Nat) : Int) := by unfold gbyte; simp only [Nat.sub_self, q0]; rw [if_neg (by omega)]; omega
    by_cases c1 : n < 16384
    · have e : gkAt 8 (n : Int) 0 = 1 := by unfold gkAt; rw [if_pos (by rw [q1]; omega)]; unfold gkAt; rw [if_neg (by rw [q2]; omega)]
      rw [e, drop_range 1 (by omega), hiG_lo (by omega)]
      have b1 : gbyte (n : Int) 7 = ((n / 128 + 128 : Nat) : Int) := by unfold gbyte; simp only [show 8 - 7 = 1 from rfl, q1]; rw [if_pos (by omega)]; omega
      simp only [List.range', List.map_cons, List.map_nil, show 8 - 1 = 7 from rfl, show 7 + 1 = 8 from rfl, b0, b1]
      rfl
    · rw [hiG_hi (show ¬ n / 128 < 128 by omega)]
      have b1 : gbyte (n : Int) 7 = ((n / 128 % 128 + 128 : Nat) : Int) := by unfold gbyte; simp only [show 8 - 7 = 1 from rfl, q1]; rw [if_pos (by omega)]; omega
      by_cases c2 : n < 2097152
      · have e : gkAt 8 (n : Int) 0 = 2 := by unfold gkAt; rw [if_pos (by rw [q1]; omega)]; unfold gkAt; rw [if_pos (by rw [q2]; omega)]; unfold gkAt; rw [if_neg (by rw [q3]; omega)]
        rw [e, drop_range 2 (by omega), hiG_lo (by omega)]
        have b2 : gbyte (n : Int) 6 = ((n / 128 / 128 + 128 : Nat) : Int) := by unfold gbyte; simp only [show 8 - 6 = 2 from rfl, q2]; rw [if_pos (by omega)]; omega
        simp only [List.range', List.map_cons, List.map_nil, show 8 - 2 = 6 from rfl, show 6 + 1 = 7 from rfl, show 7 + 1 = 8 from rfl, b0, b1, b2]
        rfl
      · rw [hiG_hi (show ¬ n / 128 / 128 < 128 by omega)]
        have b2 : gbyte (n : Int) 6 = ((n / 128 / 128 % 128 + 128 : Nat) : Int) := by unfold gbyte; simp only [show 8 - 6 = 2 from rfl, q2]; rw [if_pos (by omega)]; omega
        by_cases c3 : n < 268435456
        · have e : gkAt 8 (n : Int) 0 = 3 := by unfold gkAt; rw [if_pos (by rw [q1]; omega)]; unfold gkAt; rw [if_pos (by rw [q2]; omega)]; unfold gkAt; rw [if_pos (by rw [q3]; omega)]; unfold gkAt; rw [if_neg (by rw [q4]; omega)]
          rw [e, drop_range 3 (by omega), hiG_lo (by omega)]
          have b3 : gbyte (n : Int) 5 = ((n / 128 / 128 / 128 + 128 : Nat) : Int) := by unfold gbyte; simp only [show 8 - 5 = 3 from rfl, q3]; rw [if_pos (by omega)]; omega
          simp only [List.range', List.map_cons, List.map_nil, show 8 - 3 = 5 from rfl, show 5 + 1 = 6 from rfl, show 6 + 1 = 7 from rfl, show 7 + 1 = 8 from rfl, b0, b1, b2, b3]
          rfl
        · have e : gkAt 8 (n : Int) 0 = 4 := by unfold gkAt; rw [if_pos (by rw [q1]; omega)]; unfold gkAt; rw [if_pos (by rw [q2]; omega)]; unfold gkAt; rw [if_pos (by rw [q3]; omega)]; unfold gkAt; rw [if_pos (by rw [q4]; omega)]; unfold gkAt; rw [if_neg (by rw [q5]; omega)]
          rw [e, drop_range 4 (by omega), hiG_hi (show ¬ n / 128 / 128 / 128 < 128 by omega), hiG_lo (by omega)]
          have b3 : gbyte (n : Int) 5 = ((n / 128 / 128 / 128 % 128 + 128 : Nat) : Int) := by unfold gbyte; simp only [show 8 - 5 = 3 from rfl, q3]; rw [if_pos (by omega)]; omega
          have b4 : gbyte (n : Int) 4 = ((n / 128 / 128 / 128 / 128 + 128 : Nat) : Int) := by unfold gbyte; simp only [show 8 - 4 = 4 from rfl, q4]; rw [if_pos (by omega)]; omega
          simp only [List.range', List.map_cons, List.map_nil, show 4 + 1 = 5 from rfl, show 5 + 1 = 6 from rfl, show 6 + 1 = 7 from rfl, show 7 + 1 = 8 from rfl, b0, b1, b2, b3, b4]
          rfl
end Go.Proofs.YtjfimileopbadaaGreatDoor.OidS
/- Layer 6: octets: what is written is read, what is read is written. -/
namespace Go.Proofs.YtjfimileopbadaaGreatDoor.OidS
open Go.RowKit Gong Go.Proofs.YtjfimileopbadaaGreatDoor.XVaA Go.Proofs.YtjfimileopbadaaGreatDoor.DecS Go.Proofs.YtjfimileopbadaaGreatDoorW.PrintWords Go.Proofs.YtjfimileopbadaaGreatDoorW.PrintLast Go.Proofs.YtjfimileopbadaaGreatDoorW.PrintMore
set_option linter.unusedVariables false
set_option linter.unusedSimpArgs false
def catG (l : List Int) : List UInt8 := l.flatMap fun n => grp n.toNat
theorem catG_cons (n : Int) (l : List Int) : catG (n :: l) = grp n.toNat ++ catG l := by unfold catG; rw [List.flatMap_cons]
theorem groups_int (n : Int) (h0 : 0 ≤ n) (h1 : n ≤ 4294967295) : octet_Groups.f n = some (Bs (grp n.toNat), 0) := by
  have := groups_eq n.toNat (by omega)
  rw [show ((n.toNat : Nat) : Int) = n by omega] at this
  exact this
theorem go_eq : ∀ (l : List Int) (acc : List UInt8), (∀ x ∈ l, 0 ≤ x ∧ x ≤ 4294967295) → acc.length + 5 * l.length ≤ 1000000 → oid_Encode.go l acc = some (acc ++ catG l)
  | [], acc, _, _ => by simp [oid_Encode.go, catG]
  | n :: l, acc, h, hb => by
    have hn := h n (by simp)
    have hg := grp_len n.toNat (by omega)
    simp only [List.length_cons] at hb
    have hs : (Bs (grp n.toNat)).size = (grp n.toNat).length := by rw [← L_len, L_Bs]
    unfold oid_Encode.go
    rw [groups_int n hn.1 hn.2]
    simp only [Option.bind_some]
    rw [if_pos (by rw [hs]; omega), go_eq l _ (fun x hx => h x (by simp [hx])) (by rw [List.length_append]; show acc.length + (L (Bs (grp n.toNat))).length + _ ≤ _; rw [L_Bs]; omega), catG_cons]
    show some (acc ++ L (Bs (grp n.toNat)) ++ catG l) = _
    rw [L_Bs, List.append_assoc]
def encL : List Int → List UInt8
  | x0 :: x1 :: l => catG ((x1 + 40 * x0) :: l)
  | _ => []
theorem heads_le {x0 x1 : Int} {l : List Int} (h : isS (x0 :: x1 :: l) = true) : 0 ≤ x0 ∧ 0 ≤ x1 ∧ x1 + 40 * x0 ≤ 4294967295 ∧ mn ((x1 + 40 * x0) / 40) 2 = x0 := by
  obtain ⟨_, _, h3, h4⟩ := isS_parts h
  have a := h3 x0 (by simp)
  have b := h3 x1 (by simp)
  unfold heads at h4
  rw [decide_eq_true_eq] at h4
  refine ⟨a.1, b.1, by omega, ?_⟩
  unfold mn
  by_cases c : 2 < (x1 + 40 * x0) / 40
  · rw [if_pos c]; omega
  · rw [if_neg c]; omega
theorem enc_of {x : List Int} (h : isS x = true) (k : Nat) (hk : 500 ≤ k) : oid_Encode.f k (Bs (putL x)) = some (Bs (encL x), 0) := by
  obtain ⟨h1, h2, h3, h4⟩ := isS_parts h
  unfold oid_Encode.f
  rw [arcs_of h k hk]
  simp only [Option.bind_some, if_true]
  match x, h, h1, h2, h3 with
  | x0 :: x1 :: l, h, h1, h2, h3 =>
    obtain ⟨p0, p1, p2, _⟩ := heads_le h
    have b := h3 x0 (by simp)
    have e : wrap64 (x1 + wrap64 (40 * x0)) = x1 + 40 * x0 := by rw [wrap_id (x := 40 * x0) (by omega) (by omega), wrap_id (by omega) (by omega)]
    simp only [List.length_cons] at h2
    show (oid_Encode.go (wrap64 (x1 + wrap64 (40 * x0)) :: l) []).bind (fun o => some ((⟨o.toArray⟩ : ByteArray), 0)) = _
    rw [e, go_eq _ [] (fun y hy => by
      rcases List.mem_cons.1 hy with rfl | hy
      · exact ⟨by omega, p2⟩
      · exact h3 y (by simp [hy])) (by simp only [List.length_cons, List.length_nil]; omega)]
    rfl
theorem size_L (s : ByteArray) : ((s.size : Int) > 0) ↔ L s ≠ [] := by
  have := L_len s
  constructor
  · intro h e; rw [e] at this; simp at this; omega
  · intro h
    have := List.length_pos_iff.2 h
    omega
/-- What the first number says. -/
theorem first_eq (v : Int) (h0 : 0 ≤ v) (h1 : v ≤ 4294967295) : mn (wrap64 (Int.tdiv v 40)) 2 = mn (v / 40) 2 ∧ wrap64 (v - wrap64 (40 * mn (wrap64 (Int.tdiv v 40)) 2)) = v - 40 * mn (v / 40) 2 := by
  have e : Int.tdiv v 40 = v / 40 := Int.tdiv_eq_ediv_of_nonneg h0
  have hm : mn (v / 40) 2 = if 2 < v / 40 then 2 else v / 40 := rfl
  have hr : 0 ≤ mn (v / 40) 2 ∧ mn (v / 40) 2 ≤ 2 := by rw [hm]; split <;> omega
  rw [e, wrap_id (x := v / 40) (by omega) (by omega)]
  refine ⟨rfl, ?_⟩
  rw [wrap_id (x := 40 * mn (v / 40) 2) (by omega) (by omega), wrap_id (by omega) (by omega)]
end Go.Proofs.YtjfimileopbadaaGreatDoor.OidS
/- Layer 6: the reference's arcs, numbers and octets answer as the program's. -/
namespace Go.Proofs.YtjfimileopbadaaGreatDoor.OidS
open Go.RowKit Gong Go.Proofs.YtjfimileopbadaaGreatDoor.XVaA Go.Proofs.YtjfimileopbadaaGreatDoor.DecS Go.Proofs.YtjfimileopbadaaGreatDoorW.PrintWords Go.Proofs.YtjfimileopbadaaGreatDoorW.PrintLast Go.Proofs.YtjfimileopbadaaGreatDoorW.PrintMore
set_option linter.unusedVariables false
set_option linter.unusedSimpArgs false
theorem ris_loop (l : List Int) (h2 : 2 ≤ l.length) (h3 : l.length ≤ 128) : ∀ (d i k : Nat), i + d = l.length → d < k →
    gongref06_Is.l0 k l (i : Int) = some ((l.drop i).all (fun x => decide (0 ≤ x ∧ x ≤ 4294967295)) && (!(l.take i).all (fun x => decide (0 ≤ x)) || heads l)) ∨ (l.take i).all (fun x => decide (0 ≤ x)) = false := by
  intro d
  induction d with
  | zero =>
    intro i k hi hk
    obtain ⟨k, rfl⟩ : ∃ m, k = m + 1 := ⟨k - 1, by omega⟩
    by_cases hp : (l.take i).all (fun x => decide (0 ≤ x)) = true
    · left
      rw [hp]
      simp only [gongref06_Is.l0]
      have e : l.drop i = [] := List.drop_eq_nil_of_le (by omega)
      rw [if_neg (by omega), e]
      match l, h2, hp with
      | a :: b :: r, _, hp =>
        have r0 : rd (a :: b :: r) 0 = a := rfl
        have r1 : rd (a :: b :: r) 1 = b := rfl
        rw [List.take_of_length_le (by omega)] at hp
        simp only [List.all_cons, Bool.and_eq_true, decide_eq_true_eq] at hp
        rw [r0, r1, if_pos (by simp only [List.length_cons]; omega)]
        simp only [List.all_nil, Bool.true_and, Bool.not_true, Bool.false_or, heads]
        have hlen : (1 : Int) < ((a :: b :: r).length : Int) := by simp only [List.length_cons]; omega
        by_cases c : a < 2
        · rw [if_pos c, if_pos hlen]
          by_cases c1 : b ≤ 39
          · rw [if_pos c1, decide_eq_true (by omega)]
          · rw [if_neg c1]
            by_cases c2 : a = 2
            · omega
            · rw [if_neg c2, decide_eq_false (by omega)]
        · rw [if_neg c]
          by_cases c2 : a = 2
          · rw [if_pos c2, if_pos hlen]
            congr 1
            rw [Bool.eq_iff_iff]
            simp only [decide_eq_true_eq]
            omega
          · rw [if_neg c2, decide_eq_false (by omega)]
    · right
      simpa using hp
  | succ d ih =>
    intro i k hi hk
    obtain ⟨k, rfl⟩ : ∃ m, k = m + 1 := ⟨k - 1, by omega⟩
    have hlt : i < l.length := by omega
    by_cases hp : (l.take i).all (fun x => decide (0 ≤ x)) = true
    · left
      rw [hp]
      simp only [gongref06_Is.l0]
      rw [if_pos (by omega), if_pos (by omega), rd_get l i hlt, List.drop_eq_getElem_cons hlt, List.all_cons]
      by_cases c1 : l[i] < 0
      · rw [if_pos c1, decide_eq_false (by omega)]
        rfl
      · rw [if_neg c1]
        by_cases c2 : l[i] > 4294967295
        · rw [if_pos c2, decide_eq_false (by omega)]
          rfl
        · rw [if_neg c2, wrap_succ i (by omega), decide_eq_true (by omega), Bool.true_and]
          have hp2 : (l.take (i + 1)).all (fun x => decide (0 ≤ x)) = true := by
            rw [List.take_succ_eq_append_getElem hlt, List.all_append, hp]
            simp only [List.all_cons, List.all_nil, Bool.and_true, Bool.true_and, decide_eq_true_eq]
            omega
          rcases ih (i + 1) k (by omega) (by omega) with h | h
          · rw [h, hp2]
          · rw [hp2] at h; cases h
    · right
      simpa using hp
theorem ris_eq (l : List Int) (k : Nat) (hk : 200 ≤ k) : gongref06_Is.f k l = some (isS l) := by
  obtain ⟨k, rfl⟩ : ∃ m, k = m + 1 := ⟨k - 1, by omega⟩
  unfold gongref06_Is.f isS
  by_cases c1 : (l.length : Int) < 2
  · rw [if_pos c1]
    simp only [gongref06_Is.j0, if_true]
    rw [decide_eq_false (by omega)]
    rfl
  · rw [if_neg c1, decide_eq_true (show 2 ≤ l.length by omega)]
    by_cases c2 : (l.length : Int) > 128
    · rw [decide_eq_true c2, decide_eq_false (show ¬ l.length ≤ 128 by omega)]
      simp only [gongref06_Is.j0, if_true]
      rfl
    · rw [decide_eq_false c2, decide_eq_true (show l.length ≤ 128 by omega)]
      simp only [gongref06_Is.j0]
      rw [if_neg (by decide)]
      rcases ris_loop l (by omega) (by omega) l.length 0 k (by omega) (by omega) with h | h
      · rw [Int.natCast_zero] at h
        rw [h]
        rfl
      · cases h
/-- One digit. -/
theorem one_dig (n : Nat) (h : n ≤ 4294967295) : strOfNums ([(wrap64 (48 + (Int.tmod (n : Int) 10))) % 256] : List Int) = Bs [UInt8.ofNat (48 + n % 10)] := by
  have e : Int.tmod (n : Int) 10 = ((n % 10 : Nat) : Int) := by rw [Int.tmod_eq_emod_of_nonneg (by omega)]; omega
  have e2 : (wrap64 (48 + ((n % 10 : Nat) : Int))) % 256 = ((48 + n % 10 : Nat) : Int) := by rw [wrap_id (by omega) (by omega)]; omega
  rw [e, e2]
  rfl
theorem Bs_app (a b : List UInt8) : Bs a ++ Bs b = Bs (a ++ b) := by
  apply L_inj
  rw [L_Bs]
  simp [L, Bs]
theorem Bs_size (a : List UInt8) : (Bs a).size = a.length := by rw [← L_len, L_Bs]
theorem num_loop : ∀ (m n k : Nat) (acc : List UInt8), n < 10 ^ (m + 1) → n ≤ 4294967295 → m < k → acc.length + m ≤ 1000000 →
    gongref06_Number.l0 k (n : Int) (Bs acc) = some (Bs ((if n < 10 then [] else Lib.decDigits (n / 10)) ++ acc)) := by
  intro m
  induction m with
  | zero =>
    intro n k acc h hn hk hb
    obtain ⟨k, rfl⟩ : ∃ m, k = m + 1 := ⟨k - 1, by omega⟩
    have h9 : n < 10 := by simpa using h
    simp only [gongref06_Number.l0]
    rw [if_neg (by omega), if_pos h9]
    rfl
  | succ m ih =>
    intro n k acc h hn hk hb
    obtain ⟨k, rfl⟩ : ∃ m, k = m + 1 := ⟨k - 1, by omega⟩
    simp only [gongref06_Number.l0]
    by_cases c : n < 10
    · rw [if_neg (by omega), if_pos c]
      rfl
    · have e : wrap64 (Int.tdiv (n : Int) 10) = ((n / 10 : Nat) : Int) := by rw [Int.tdiv_eq_ediv_of_nonneg (by omega), wrap_id (by omega) (by omega)]; omega
      rw [if_pos (by omega), if_neg c, e]
      simp only [Option.bind_some]
      rw [one_dig (n / 10) (by omega), Bs_app, Bs_size, Bs_size]
      simp only [List.length_cons, List.length_nil]
      rw [if_pos (by omega), List.singleton_append, ih (n / 10) k _ (by rw [Nat.pow_succ] at h; omega) (by omega) (by omega) (by simp only [List.length_cons]; omega)]
      congr 2
      by_cases c2 : n / 10 < 10
      · rw [if_pos c2, dd_one _ c2, Nat.mod_eq_of_lt c2]
        rfl
      · rw [if_neg c2, dd_step (n / 10) c2, List.append_assoc]
        rfl
theorem num_eq (n : Nat) (h : n ≤ 4294967295) (k : Nat) (hk : 20 ≤ k) : gongref06_Number.f k (n : Int) = some (Bs (Lib.decDigits n)) := by
  unfold gongref06_Number.f
  rw [one_dig n h, num_loop 9 n k _ (by show n < 10000000000; omega) h (by omega) (by simp)]
  congr 2
  by_cases c : n < 10
  · rw [if_pos c, dd_one n c, Nat.mod_eq_of_lt c]
    rfl
  · rw [if_neg c, dd_step n c]
theorem rput_loop (l : List Int) (hl : l.length ≤ 1000) (h : ∀ x ∈ l, 0 ≤ x ∧ x ≤ 4294967295) : ∀ (d i k : Nat), i + d = l.length → d + 20 < k →
    gongref06_Put.l0 k l (Bs (putL (l.take i))) (i : Int) = some (Bs (putL l)) := by
  intro d
  induction d with
  | zero =>
    intro i k hi hk
    obtain ⟨k, rfl⟩ : ∃ m, k = m + 1 := ⟨k - 1, by omega⟩
    simp only [gongref06_Put.l0]
    rw [if_neg (by omega), List.take_of_length_le (by omega)]
  | succ d ih =>
    intro i k hi hk
    obtain ⟨k, rfl⟩ : ∃ m, k = m + 1 := ⟨k - 1, by omega⟩
    have hlt : i < l.length := by omega
    have hx := h l[i] (List.getElem_mem hlt)
    have hp := putL_len (l := l.take i) (fun x hx => h x (List.mem_of_mem_take hx))
    rw [List.length_take] at hp
    have hnum : gongref06_Number.f k l[i] = some (Bs (Lib.decDigits l[i].toNat)) := by
      have := num_eq l[i].toNat (by omega) k (by omega)
      rw [show ((l[i].toNat : Nat) : Int) = l[i] by omega] at this
      exact this
    have hds := dd_short l[i].toNat (by omega)
    have ht : l.take (i + 1) = l.take i ++ [l[i]] := List.take_succ_eq_append_getElem hlt
    simp only [gongref06_Put.l0]
    rw [if_pos (by omega), rd_get l i hlt, hnum]
    simp only [Option.bind_some]
    by_cases c : i = 0
    · subst c
      rw [if_neg (by omega), if_pos (by omega), Bs_app, Bs_size, Bs_size, if_pos (by omega), wrap_succ 0 (by omega)]
      have e : putL (l.take 0) ++ Lib.decDigits l[0].toNat = putL (l.take (0 + 1)) := by rw [ht]; rfl
      rw [e]
      exact ih (0 + 1) k (by omega) (by omega)
    · have hdot : Bs (putL (l.take i)) ++ (⟨#[46]⟩ : ByteArray) = Bs (putL (l.take i) ++ [46]) := Bs_app _ [46]
      rw [if_pos (by omega), hdot, Bs_app, Bs_size, Bs_size, Bs_size, if_pos (by omega), if_pos (by omega), if_pos (by rw [List.length_append]; simp only [List.length_cons, List.length_nil]; omega), wrap_succ i (by omega)]
      have hne : l.take i ≠ [] := fun e => by
        have := congrArg List.length e
        rw [List.length_take] at this
        simp only [List.length_nil] at this
        omega
      have e : putL (l.take i) ++ [46] ++ Lib.decDigits l[i].toNat = putL (l.take (i + 1)) := by
        rw [ht, putL_snoc _ _ hne, List.append_assoc]
        rfl
      rw [e]
      exact ih (i + 1) k (by omega) (by omega)
theorem rput_eq (l : List Int) (hl : l.length ≤ 1000) (h : ∀ x ∈ l, 0 ≤ x ∧ x ≤ 4294967295) (k : Nat) (hk : 2000 ≤ k) : gongref06_Put.f k l = some (Bs (putL l)) := by
  unfold gongref06_Put.f
  have := rput_loop l hl h l.length 0 k (by omega) (by omega)
  rw [Int.natCast_zero] at this
  exact this
/-- One group. -/
theorem one_grp (n : Nat) (h : n ≤ 4294967295) : strOfNums ([(wrap64 ((Int.tmod (n : Int) 128) + 128)) % 256] : List Int) = Bs [UInt8.ofNat (n % 128 + 128)] := by
  have e : Int.tmod (n : Int) 128 = ((n % 128 : Nat) : Int) := by rw [Int.tmod_eq_emod_of_nonneg (by omega)]; omega
  have e2 : (wrap64 (((n % 128 : Nat) : Int) + 128)) % 256 = ((n % 128 + 128 : Nat) : Int) := by rw [wrap_id (by omega) (by omega)]; omega
  rw [e, e2]
  rfl
theorem last_grp (n : Nat) (h : n ≤ 4294967295) : strOfNums ([(Int.tmod (n : Int) 128) % 256] : List Int) = Bs [UInt8.ofNat (n % 128)] := by
  have e : Int.tmod (n : Int) 128 % 256 = ((n % 128 : Nat) : Int) := by rw [Int.tmod_eq_emod_of_nonneg (by omega)]; omega
  rw [e]
  rfl
theorem grp_loop : ∀ (m n k : Nat) (acc : List UInt8), n < 128 ^ (m + 1) → n ≤ 4294967295 → m < k → acc.length + m ≤ 1000000 →
    gongref01_Grouped.l0 k (n : Int) (Bs acc) = some (Bs ((if n < 128 then [] else hiG (n / 128)) ++ acc)) := by
  intro m
  induction m with
  | zero =>
    intro n k acc h hn hk hb
    obtain ⟨k, rfl⟩ : ∃ m, k = m + 1 := ⟨k - 1, by omega⟩
    have h9 : n < 128 := by simpa using h
    simp only [gongref01_Grouped.l0]
    rw [if_neg (by omega), if_pos h9]
    rfl
  | succ m ih =>
    intro n k acc h hn hk hb
    obtain ⟨k, rfl⟩ : ∃ m, k = m + 1 := ⟨k - 1, by omega⟩
    simp only [gongref01_Grouped.l0]
    by_cases c : n < 128
    · rw [if_neg (by omega), if_pos c]
      rfl
    · have e : wrap64 (Int.tdiv (n : Int) 128) = ((n / 128 : Nat) : Int) := by rw [Int.tdiv_eq_ediv_of_nonneg (by omega), wrap_id (by omega) (by omega)]; omega
      rw [if_pos (by omega), if_neg c, e]
      simp only [Option.bind_some]
      rw [one_grp (n / 128) (by omega), Bs_app, Bs_size, Bs_size]
      simp only [List.length_cons, List.length_nil]
      rw [if_pos (by omega), List.singleton_append, ih (n / 128) k _ (by rw [Nat.pow_succ] at h; omega) (by omega) (by omega) (by simp only [List.length_cons]; omega)]
      congr 2
      by_cases c2 : n / 128 < 128
      · rw [if_pos c2, hiG_lo c2, Nat.mod_eq_of_lt c2]
        rfl
      · rw [if_neg c2, hiG_hi c2, List.append_assoc]
        rfl
theorem rgrp_eq (n : Nat) (h : n ≤ 4294967295) (k : Nat) (hk : 20 ≤ k) : gongref01_Grouped.f k (n : Int) = some (Bs (grp n)) := by
  unfold gongref01_Grouped.f
  rw [last_grp n h, grp_loop 4 n k _ (by show n < 34359738368; omega) h (by omega) (by simp)]
  congr 2
  unfold grp
  by_cases c : n < 128
  · rw [if_pos c, if_pos c, Nat.mod_eq_of_lt c]
    rfl
  · rw [if_neg c, if_neg c]
end Go.Proofs.YtjfimileopbadaaGreatDoor.OidS
/- Layer 6: the reference's Arcs, Encode and Decode. -/
namespace Go.Proofs.YtjfimileopbadaaGreatDoor.OidS
open Go.RowKit Gong Go.Proofs.YtjfimileopbadaaGreatDoor.XVaA Go.Proofs.YtjfimileopbadaaGreatDoor.DecS Go.Proofs.YtjfimileopbadaaGreatDoorW.PrintWords Go.Proofs.YtjfimileopbadaaGreatDoorW.PrintLast Go.Proofs.YtjfimileopbadaaGreatDoorW.PrintMore
set_option linter.unusedVariables false
set_option linter.unusedSimpArgs false
theorem wrap_nat (i : Nat) (h : i ≤ 4611686018427387904) : wrap64 (i : Int) = (i : Int) := wrap_id (by omega) (by omega)
theorem arcs_fin (s : ByteArray) (l : List Int) (a : Int) (p k : Nat) (hp : s.size < p) (hk : 2500 ≤ k) : gongref06_Arcs.l0 (k + 1) s l a (p : Int) = some (if isS l = true ∧ putL l = L s then (l, 0) else ([], 60)) := by
  simp only [gongref06_Arcs.l0]
  rw [if_neg (by omega), ris_eq l k (by omega)]
  simp only [Option.bind_some]
  by_cases c : isS l = true
  · obtain ⟨h1, h2, h3, h4⟩ := isS_parts c
    rw [if_pos c, rput_eq l (by omega) h3 k (by omega)]
    simp only [Option.bind_some, toList_L, L_Bs]
    by_cases c2 : putL l = L s
    · rw [if_pos c2, if_pos ⟨c, c2⟩]
    · rw [if_neg c2, if_neg (fun h => c2 h.2)]
  · rw [if_neg c, if_neg (fun h => c h.1)]
theorem arcs_total (s : ByteArray) (hs : s.size ≤ 100000) : ∀ (d p k : Nat) (l : List Int) (a : Int), p + d = s.size + 1 → 2 * d + 2600 ≤ k → 0 ≤ a → a ≤ 99999999999 → l.length ≤ p →
    ∃ r, gongref06_Arcs.l0 k s l a (p : Int) = some r ∧ (r = ([], 60) ∨ ∃ m, isS m = true ∧ putL m = L s ∧ r = (m, 0)) := by
  intro d
  induction d with
  | zero =>
    intro p k l a hp hk h0 h1 hl
    obtain ⟨k, rfl⟩ : ∃ m, k = m + 1 := ⟨k - 1, by omega⟩
    refine ⟨_, arcs_fin s l a p k (by omega) (by omega), ?_⟩
    by_cases c : isS l = true ∧ putL l = L s
    · rw [if_pos c]; exact .inr ⟨l, c.1, c.2, rfl⟩
    · rw [if_neg c]; exact .inl rfl
  | succ d ih =>
    intro p k l a hp hk h0 h1 hl
    obtain ⟨k, rfl⟩ : ∃ m, k = m + 2 := ⟨k - 2, by omega⟩
    have hend : ∃ r, gongref06_Arcs.j1 (k + 1) s l a (p : Int) true = some r ∧ (r = ([], 60) ∨ ∃ m, isS m = true ∧ putL m = L s ∧ r = (m, 0)) := by
      simp only [gongref06_Arcs.j1, if_true]
      rw [if_pos (by omega), wrap_succ p (by omega)]
      exact ih (p + 1) k _ 0 (by omega) (by omega) (by omega) (by omega) (by rw [List.length_append]; simp only [List.length_cons, List.length_nil]; omega)
    have hl0 : gongref06_Arcs.l0 (k + 2) s l a (p : Int) = if (p : Int) ≤ (s.size : Int) then (if (p : Int) = (s.size : Int) then (gongref06_Arcs.j1 (k + 1) s l a (p : Int) true) else (if 0 ≤ (p : Int) then (if (p : Int) < (s.size : Int) then (gongref06_Arcs.j1 (k + 1) s l a (p : Int) ((bt s (p : Int)) == 46)) else (none)) else (none))) else (gongref06_Arcs.l0 (k + 2) s l a (p : Int)) := by
      rw [if_pos (by omega)]
      conv => lhs; unfold gongref06_Arcs.l0
      rw [if_pos (by omega)]
    rw [hl0, if_pos (by omega)]
    by_cases ce : p = s.size
    · rw [if_pos (by omega)]; exact hend
    · rw [if_neg (by omega), if_pos (by omega), if_pos (by omega)]
      have hlt : p < (L s).length := by rw [L_len]; omega
      have hb := bt_get s p hlt
      obtain ⟨b, hbb⟩ : ∃ b : Nat, ((L s)[p]'hlt).toNat = b := ⟨_, rfl⟩
      have hb256 : b < 256 := by rw [← hbb]; exact UInt8.toNat_lt _
      rw [hbb] at hb
      by_cases cd : b = 46
      · rw [hb, show ((b : Int) == 46) = true by rw [beq_iff_eq]; omega]; exact hend
      · rw [hb, show ((b : Int) == 46) = false by rw [beq_eq_false_iff_ne]; omega]
        simp only [gongref06_Arcs.j1]
        rw [if_neg (by decide), if_pos (by omega), if_pos (by omega), hb]
        by_cases c1 : (b : Int) < 48
        · rw [if_pos c1]; exact ⟨_, rfl, .inl rfl⟩
        · rw [if_neg c1]
          by_cases c2 : (b : Int) > 57
          · rw [if_pos c2]; exact ⟨_, rfl, .inl rfl⟩
          · rw [if_neg c2]
            by_cases c3 : a > 4294967295
            · rw [if_pos c3]; exact ⟨_, rfl, .inl rfl⟩
            · rw [if_neg c3, wrap_succ p (by omega)]
              have e : wrap64 (wrap64 (a * 10) + ((b : Int) - 48) % 256) = a * 10 + ((b : Int) - 48) := by rw [wrap_id (x := a * 10) (by omega) (by omega), wrap_id (by omega) (by omega)]; omega
              rw [e]
              exact ih (p + 1) k l _ (by omega) (by omega) (by omega) (by omega) (by omega)
def fv (a : Nat) (w : List UInt8) : Nat := w.foldl (fun a b => a * 10 + (b.toNat - 48)) a
theorem fv_ge : ∀ (w : List UInt8) (a : Nat), a ≤ fv a w
  | [], a => Nat.le_refl _
  | b :: w, a => by
    have := fv_ge w (a * 10 + (b.toNat - 48))
    show a ≤ fv (a * 10 + (b.toNat - 48)) w
    omega
theorem drop_one {l : List UInt8} {p : Nat} {b : UInt8} {r : List UInt8} (h : l.drop p = b :: r) : ∃ hp : p < l.length, l[p]'hp = b ∧ l.drop (p + 1) = r := by
  have hp : p < l.length := by
    have := congrArg List.length h
    rw [List.length_drop] at this
    simp only [List.length_cons] at this
    omega
  rw [List.drop_eq_getElem_cons hp] at h
  injection h with h1 h2
  exact ⟨hp, h1, h2⟩
theorem scan_word (s : ByteArray) (hs : s.size ≤ 100000) (l : List Int) : ∀ (w rest : List UInt8) (a p k : Nat), (∀ b ∈ w, isD b = true) → (L s).drop p = w ++ rest → fv a w ≤ 4294967295 →
    gongref06_Arcs.l0 (k + 2 * w.length) s l (a : Int) (p : Int) = gongref06_Arcs.l0 k s l (fv a w : Int) ((p + w.length : Nat) : Int)
  | [], rest, a, p, k, _, _, _ => rfl
  | b :: w, rest, a, p, k, hd, hL, hv => by
    obtain ⟨hp, hb, hr⟩ := drop_one hL
    have hlen := L_len s
    have hbt := bt_get s p hp
    rw [hb] at hbt
    have hdig := isD_iff (hd b (by simp))
    have hge := fv_ge (b :: w) a
    have ha := fv_ge w (a * 10 + (b.toNat - 48))
    have hv2 : fv (a * 10 + (b.toNat - 48)) w ≤ 4294967295 := hv
    have ih := scan_word s hs l w rest (a * 10 + (b.toNat - 48)) (p + 1) k (fun x hx => hd x (by simp [hx])) hr hv2
    simp only [List.length_cons]
    rw [show k + 2 * (w.length + 1) = (k + 2 * w.length) + 2 by omega]
    generalize k + 2 * w.length = q at ih ⊢
    have e : wrap64 (wrap64 ((a : Int) * 10) + ((b.toNat : Int) - 48) % 256) = ((a * 10 + (b.toNat - 48) : Nat) : Int) := by rw [wrap_id (x := (a : Int) * 10) (by omega) (by omega), wrap_id (by omega) (by omega)]; omega
    conv => lhs; unfold gongref06_Arcs.l0
    rw [if_pos (by omega), if_neg (by omega), if_pos (by omega), if_pos (by omega), hbt, show ((b.toNat : Int) == 46) = false by rw [beq_eq_false_iff_ne]; omega]
    conv => lhs; unfold gongref06_Arcs.j1
    rw [if_neg (by decide), if_pos (by omega), if_pos (by omega), hbt, if_neg (by omega), if_neg (by omega), if_neg (by omega), e, wrap_succ p (by omega), ih]
    congr 1
    omega
theorem scan_end (s : ByteArray) (l : List Int) (a : Int) (p k : Nat) (hs : s.size ≤ 100000) (hl : l.length ≤ 1000) (hp : p = s.size ∨ ∃ r, (L s).drop p = 46 :: r) : gongref06_Arcs.l0 (k + 2) s l a (p : Int) = gongref06_Arcs.l0 k s (l ++ [a]) 0 ((p + 1 : Nat) : Int) := by
  have hlen := L_len s
  have hj : gongref06_Arcs.j1 (k + 1) s l a (p : Int) true = gongref06_Arcs.l0 k s (l ++ [a]) 0 ((p + 1 : Nat) : Int) := by
    have hp2 : p ≤ s.size := by
      rcases hp with h | ⟨r, h⟩
      · omega
      · obtain ⟨h1, _, _⟩ := drop_one h; omega
    conv => lhs; unfold gongref06_Arcs.j1
    rw [if_pos rfl, if_pos (by omega), wrap_succ p (by omega)]
  conv => lhs; unfold gongref06_Arcs.l0
  rcases hp with h | ⟨r, h⟩
  · rw [if_pos (by omega), if_pos (by omega)]
    exact hj
  · obtain ⟨h1, h2, _⟩ := drop_one h
    have hbt := bt_get s p h1
    rw [h2] at hbt
    have e46 : ((46 : UInt8).toNat : Int) = 46 := rfl
    rw [if_pos (by omega), if_neg (by omega), if_pos (by omega), if_pos (by omega), hbt, e46]
    exact hj
theorem scan_all (s : ByteArray) (hs : s.size ≤ 100000) : ∀ (ls l : List Int) (p k d : Nat), ls ≠ [] → (∀ x ∈ ls, 0 ≤ x ∧ x ≤ 4294967295) → l.length + ls.length ≤ 1000 → (L s).drop p = joinL 46 (ls.map fun x => Lib.decDigits x.toNat) → p + d = s.size + 1 →
    gongref06_Arcs.l0 (k + 2 * d) s l 0 (p : Int) = gongref06_Arcs.l0 k s (l ++ ls) 0 ((s.size + 1 : Nat) : Int)
  | [], _, _, _, _, h, _, _, _, _ => absurd rfl h
  | [n], l, p, k, d, _, hr, hl, hL, hd => by
    have hn := hr n (by simp)
    have hL2 : (L s).drop p = Lib.decDigits n.toNat ++ [] := by rw [hL, List.append_nil]; rfl
    have hv : fv 0 (Lib.decDigits n.toNat) = n.toNat := val_dd n.toNat
    have hlen : (Lib.decDigits n.toNat).length + p = s.size := by
      have h0 := congrArg List.length hL2
      rw [List.length_drop, List.append_nil, L_len] at h0
      have := List.length_pos_iff.2 (dd_ne n.toNat)
      omega
    have := scan_word s hs l (Lib.decDigits n.toNat) [] 0 p (k + 2) (dd_dig n.toNat) hL2 (by rw [hv]; omega)
    rw [show k + 2 * d = k + 2 + 2 * (Lib.decDigits n.toNat).length by omega]
    rw [Int.natCast_zero] at this
    rw [this, hv, show ((n.toNat : Nat) : Int) = n by omega, scan_end s l n _ k hs (by simp only [List.length_cons, List.length_nil] at hl; omega) (.inl (by omega)), show p + (Lib.decDigits n.toNat).length + 1 = s.size + 1 by omega]
  | n :: m :: ls, l, p, k, d, _, hr, hl, hL, hd => by
    have hn := hr n (by simp)
    have hL2 : (L s).drop p = Lib.decDigits n.toNat ++ (46 :: joinL 46 ((m :: ls).map fun x => Lib.decDigits x.toNat)) := hL
    have hv : fv 0 (Lib.decDigits n.toNat) = n.toNat := val_dd n.toNat
    have hlen : (Lib.decDigits n.toNat).length + p + 1 ≤ s.size := by
      have h0 := congrArg List.length hL2
      rw [List.length_drop, List.length_append, L_len] at h0
      simp only [List.length_cons] at h0
      omega
    have hdr : (L s).drop (p + (Lib.decDigits n.toNat).length) = 46 :: joinL 46 ((m :: ls).map fun x => Lib.decDigits x.toNat) := by rw [← List.drop_drop, hL2, List.drop_left]
    obtain ⟨d2, rfl⟩ : ∃ d2, d = d2 + 1 + (Lib.decDigits n.toNat).length := ⟨d - 1 - (Lib.decDigits n.toNat).length, by omega⟩
    have := scan_word s hs l (Lib.decDigits n.toNat) _ 0 p (k + 2 * d2 + 2) (dd_dig n.toNat) hL2 (by rw [hv]; omega)
    rw [show k + 2 * (d2 + 1 + (Lib.decDigits n.toNat).length) = k + 2 * d2 + 2 + 2 * (Lib.decDigits n.toNat).length by omega]
    rw [Int.natCast_zero] at this
    simp only [List.length_cons] at hl
    rw [this, hv, show ((n.toNat : Nat) : Int) = n by omega, scan_end s l n _ (k + 2 * d2) hs (by omega) (.inr ⟨_, hdr⟩)]
    obtain ⟨_, _, hdr2⟩ := drop_one hdr
    have := scan_all s hs (m :: ls) (l ++ [n]) (p + (Lib.decDigits n.toNat).length + 1) k d2 (by simp) (fun x hx => hr x (by simp only [List.mem_cons] at hx ⊢; exact .inr hx)) (by simp only [List.length_append, List.length_cons, List.length_nil]; omega) hdr2 (by omega)
    rw [this, List.append_assoc]
    rfl
theorem rarcs_eq (a : ByteArray) (k : Nat) (hk : 9000 ≤ k) : gongref06_Arcs.f k a = some (arcsR (L a)) := by
  have hlen := L_len a
  unfold gongref06_Arcs.f
  by_cases c : (a.size : Int) > 1408
  · rw [if_pos c]
    have : arcsS (L a) = none := by
      cases h : arcsS (L a) with
      | none => rfl
      | some l =>
        obtain ⟨h1, h2⟩ := arcs_some h
        obtain ⟨_, p2, p3, _⟩ := isS_parts h1
        have := putL_len p3
        rw [h2] at this
        omega
    unfold arcsR
    rw [this]
  · rw [if_neg c]
    cases h : arcsS (L a) with
    | none =>
      obtain ⟨r, h1, h2⟩ := arcs_total a (by omega) (a.size + 1) 0 k [] 0 (by omega) (by omega) (by omega) (by omega) (by simp)
      rw [Int.natCast_zero] at h1
      rw [h1]
      unfold arcsR
      rw [h]
      rcases h2 with h2 | ⟨m, p1, p2, _⟩
      · rw [h2]
      · rw [← p2, arcs_put p1] at h; cases h
    | some l =>
      obtain ⟨h1, h2⟩ := arcs_some h
      obtain ⟨q1, q2, q3, _⟩ := isS_parts h1
      obtain ⟨q, rfl⟩ : ∃ q, k = q + 1 + 2 * (a.size + 1) := ⟨k - 1 - 2 * (a.size + 1), by omega⟩
      have := scan_all a (by omega) l [] 0 (q + 1) (a.size + 1) (by intro e; rw [e] at q1; simp at q1) q3 (by simp only [List.length_nil]; omega) (by rw [List.drop_zero, ← h2]; rfl) (by omega)
      rw [Int.natCast_zero] at this
      rw [this, List.nil_append, arcs_fin a l 0 (a.size + 1) q (by omega) (by omega), if_pos ⟨h1, h2⟩]
      unfold arcsR
      rw [h]
theorem renc_loop (x : List Int) (hx : x.length ≤ 1000) (h : ∀ y ∈ x, 0 ≤ y ∧ y ≤ 4294967295) : ∀ (d i k : Nat) (acc : List UInt8), i + d = x.length → d + 20 < k → acc.length + 5 * d ≤ 1000000 →
    gongref06_Encode.l0 k x (Bs acc) (i : Int) = some (Bs (acc ++ catG (x.drop i)), 0) := by
  intro d
  induction d with
  | zero =>
    intro i k acc hi hk hb
    obtain ⟨k, rfl⟩ : ∃ m, k = m + 1 := ⟨k - 1, by omega⟩
    simp only [gongref06_Encode.l0]
    rw [if_neg (by omega), List.drop_eq_nil_of_le (by omega)]
    simp [catG]
  | succ d ih =>
    intro i k acc hi hk hb
    obtain ⟨k, rfl⟩ : ∃ m, k = m + 1 := ⟨k - 1, by omega⟩
    have hlt : i < x.length := by omega
    have hy := h x[i] (List.getElem_mem hlt)
    have hg := grp_len x[i].toNat (by omega)
    have e : gongref01_Grouped.f k x[i] = some (Bs (grp x[i].toNat)) := by
      have := rgrp_eq x[i].toNat (by omega) k (by omega)
      rw [show ((x[i].toNat : Nat) : Int) = x[i] by omega] at this
      exact this
    simp only [gongref06_Encode.l0]
    rw [if_pos (by omega), if_pos (by omega), rd_get x i hlt, e]
    simp only [Option.bind_some]
    rw [Bs_size, Bs_size, if_pos (by omega), Bs_app, wrap_succ i (by omega), ih (i + 1) k _ (by omega) (by omega) (by rw [List.length_append]; omega), List.append_assoc, ← catG_cons, ← List.drop_eq_getElem_cons hlt]
theorem enc_same (a : ByteArray) (ha : a.size ≤ 1000000000) (k : Nat) (hk : 9000 ≤ k) : ∃ r, oid_Encode.f k a = some r ∧ gongref06_Encode.f k a = some r := by
  cases h : arcsS (L a) with
  | none =>
    have e : arcsR (L a) = ([], 60) := by unfold arcsR; rw [h]
    refine ⟨(⟨#[]⟩, 60), ?_, ?_⟩
    · unfold oid_Encode.f
      rw [arcs_eq a ha k (by omega), e]
      rfl
    · unfold gongref06_Encode.f
      rw [rarcs_eq a k hk, e]
      rfl
  | some x =>
    obtain ⟨h1, h2⟩ := arcs_some h
    obtain ⟨q1, q2, q3, _⟩ := isS_parts h1
    have e : arcsR (L a) = (x, 0) := by unfold arcsR; rw [h]
    have ea : a = Bs (putL x) := by rw [h2, Bs_L]
    refine ⟨(Bs (encL x), 0), by rw [ea]; exact enc_of h1 k (by omega), ?_⟩
    unfold gongref06_Encode.f
    rw [rarcs_eq a k hk, e]
    simp only [Option.bind_some, if_true]
    match x, h1, q1, q2, q3 with
    | x0 :: x1 :: l, h1, q1, q2, q3 =>
      obtain ⟨p0, p1, p2, _⟩ := heads_le h1
      have b := q3 x0 (by simp)
      have r0 : rd (x0 :: x1 :: l) 0 = x0 := rfl
      have r1 : rd (x0 :: x1 :: l) 1 = x1 := rfl
      have e2 : wrap64 (wrap64 (40 * x0) + x1) = (((x1 + 40 * x0).toNat : Nat) : Int) := by rw [wrap_id (x := 40 * x0) (by omega) (by omega), wrap_id (by omega) (by omega)]; omega
      simp only [List.length_cons] at q2
      have hg := grp_len (x1 + 40 * x0).toNat (by omega)
      rw [r0, r1, e2, rgrp_eq _ (by omega) k (by omega)]
      simp only [Option.bind_some]
      rw [if_pos (by simp only [List.length_cons]; omega), if_pos (by simp only [List.length_cons]; omega)]
      have := renc_loop (x0 :: x1 :: l) (by simp only [List.length_cons]; omega) q3 l.length 2 k (grp (x1 + 40 * x0).toNat) (by simp only [List.length_cons]; omega) (by omega) (by omega)
      rw [show ((2 : Nat) : Int) = 2 from rfl] at this
      rw [this, List.drop_succ_cons, List.drop_succ_cons, List.drop_zero, ← catG_cons]
      rfl
end Go.Proofs.YtjfimileopbadaaGreatDoor.OidS
/- Layer 7: the reference's Check and Decode answer as the program's. -/
namespace Go.Proofs.YtjfimileopbadaaGreatDoor.ValS
open Go.RowKit Gong Go.Proofs.YtjfimileopbadaaGreatDoor.XVaA Go.Proofs.YtjfimileopbadaaGreatDoor.OidS Go.Proofs.YtjfimileopbadaaGreatDoorW.PrintWords Go.Proofs.YtjfimileopbadaaGreatDoorW.PrintLast Go.Proofs.YtjfimileopbadaaGreatDoorW.PrintMore
set_option linter.unusedVariables false
set_option linter.unusedSimpArgs false
theorem isOid_eq (s : ByteArray) (k : Nat) (hk : 9000 ≤ k) : gongref07_isOid.f k s = some ((arcsR (L s)).2 == 0) := by
  unfold gongref07_isOid.f
  rw [rarcs_eq s k hk]
  rfl
theorem code_of {p : Prop} [Decidable p] : (if p then some (0 : Int) else some 70) = some (if decide p = true then 0 else 70) := by
  by_cases h : p
  · rw [if_pos h, if_pos (decide_eq_true h)]
  · rw [if_neg h, if_neg (by simp [h])]
theorem chk_eq (kd n : Int) (s : ByteArray) (k : Nat) (hk : 9100 ≤ k) : gongref07_Check.f k kd n s = some (if okV kd n s = true then 0 else 70) := by
  obtain ⟨k, rfl⟩ : ∃ m, k = m + 2 := ⟨k - 2, by omega⟩
  unfold gongref07_Check.f
  by_cases h2 : kd = 2
  · subst h2
    rw [ok2, if_pos rfl, ← code_of]
    by_cases a : s.toList = []
    · rw [if_pos a]
      by_cases b : n ≥ -2147483648
      · rw [if_pos b]
        by_cases c : n ≤ 2147483647
        · rw [if_pos c, if_pos ⟨a, b, c⟩]
        · rw [if_neg c, if_neg (fun h => c h.2.2)]
      · rw [if_neg b, if_neg (fun h => b h.2.1)]
    · rw [if_neg a, if_neg (fun h => a h.1)]
  rw [if_neg h2]
  by_cases h4 : kd = 4 ∨ kd = 68
  · have e : (if kd = 4 then gongref07_Check.j0 (k + 2) kd (kd == 4) kd n s else gongref07_Check.j0 (k + 2) kd (kd == 68) kd n s) = gongref07_Check.j0 (k + 2) kd true kd n s := by
      rcases h4 with rfl | rfl
      · rw [if_pos rfl]; rfl
      · rw [if_neg (by decide)]; rfl
    rw [e, ok4 n s h4, ← code_of, gongref07_Check.j0, if_pos rfl]
    by_cases a : n = 0
    · rw [if_pos a]
      by_cases b : (s.size : Int) ≤ 65535
      · rw [if_pos b, if_pos ⟨a, by omega⟩]
      · rw [if_neg b, if_neg (fun h => b (by omega))]
    · rw [if_neg a, if_neg (fun h => a h.1)]
  have e : (if kd = 4 then gongref07_Check.j0 (k + 2) kd (kd == 4) kd n s else gongref07_Check.j0 (k + 2) kd (kd == 68) kd n s) = gongref07_Check.j0 (k + 2) kd false kd n s := by
    rw [if_neg (by omega), show (kd == 68) = false from beq_eq_false_iff_ne.mpr (by omega)]
  rw [e, gongref07_Check.j0, if_neg Bool.false_ne_true]
  by_cases h5 : kd = 5
  · subst h5
    rw [if_pos rfl, ok5, ← code_of]
    by_cases a : n = 0
    · rw [if_pos a]
      by_cases b : s.toList = []
      · rw [if_pos b, if_pos ⟨a, b⟩]
      · rw [if_neg b, if_neg (fun h => b h.2)]
    · rw [if_neg a, if_neg (fun h => a h.1)]
  rw [if_neg h5]
  by_cases h6 : kd = 6
  · subst h6
    rw [if_pos rfl, ok6, ← code_of, isOid_eq s (k + 1) (by omega)]
    simp only [Option.bind_some]
    by_cases a : n = 0
    · rw [if_pos a]
      by_cases b : (arcsR (L s)).2 = 0
      · rw [if_pos (by rw [b]; rfl), if_pos ⟨a, b⟩]
      · rw [if_neg (by rw [beq_iff_eq]; exact b), if_neg (fun h => b h.2)]
    · rw [if_neg a, if_neg (fun h => a h.1)]
  rw [if_neg h6]
  by_cases h64 : kd = 64
  · subst h64
    rw [if_pos rfl, ok64, ← code_of]
    by_cases a : n = 0
    · rw [if_pos a]
      by_cases b : (s.size : Int) = 4
      · rw [if_pos b, if_pos ⟨a, by omega⟩]
      · rw [if_neg b, if_neg (fun h => b (by omega))]
    · rw [if_neg a, if_neg (fun h => a h.1)]
  rw [if_neg h64]
  by_cases hu : kd = 65 ∨ kd = 66 ∨ kd = 67
  · have e : (if kd = 65 then gongref07_Check.j1 (k + 1) kd (kd == 65) kd n s else if kd = 66 then gongref07_Check.j1 (k + 1) kd (kd == 66) kd n s else gongref07_Check.j1 (k + 1) kd (kd == 67) kd n s) = gongref07_Check.j1 (k + 1) kd true kd n s := by
      rcases hu with rfl | rfl | rfl
      · rw [if_pos rfl]; rfl
      · rw [if_neg (by decide), if_pos rfl]; rfl
      · rw [if_neg (by decide), if_neg (by decide)]; rfl
    rw [e, okU n s hu, ← code_of, gongref07_Check.j1, if_pos rfl]
    by_cases a : s.toList = []
    · rw [if_pos a]
      by_cases b : n ≥ 0
      · rw [if_pos b]
        by_cases c : n ≤ 4294967295
        · rw [if_pos c, if_pos ⟨a, b, c⟩]
        · rw [if_neg c, if_neg (fun h => c h.2.2)]
      · rw [if_neg b, if_neg (fun h => b h.2.1)]
    · rw [if_neg a, if_neg (fun h => a h.1)]
  have e : (if kd = 65 then gongref07_Check.j1 (k + 1) kd (kd == 65) kd n s else if kd = 66 then gongref07_Check.j1 (k + 1) kd (kd == 66) kd n s else gongref07_Check.j1 (k + 1) kd (kd == 67) kd n s) = gongref07_Check.j1 (k + 1) kd false kd n s := by
    rw [if_neg (by omega), if_neg (by omega), show (kd == 67) = false from beq_eq_false_iff_ne.mpr (by omega)]
  rw [e, gongref07_Check.j1, if_neg Bool.false_ne_true]
  by_cases h70 : kd = 70
  · subst h70
    rw [if_pos rfl, ok70, ← code_of]
  · rw [if_neg h70, ok0 n s (by omega)]
    rfl
end Go.Proofs.YtjfimileopbadaaGreatDoor.ValS
/- Layer 5 in plain lists: lengths, elements, their shortest forms; what the printed functions answer in these words. -/
namespace Go.Proofs.YtjfimileopbadaaGreatDoor.BerS
open Go.RowKit Gong Go.Proofs.YtjfimileopbadaaGreatDoor.XVaA Go.Proofs.YtjfimileopbadaaGreatDoorW.PrintWords Go.Proofs.YtjfimileopbadaaGreatDoorW.PrintLast Go.Proofs.YtjfimileopbadaaGreatDoorW.PrintMore
set_option linter.unusedVariables false
set_option linter.unusedSimpArgs false
/-- A text's bytes, and back. -/
def L (s : ByteArray) : List UInt8 := s.data.toList
def Bs (l : List UInt8) : ByteArray := ⟨l.toArray⟩
theorem L_Bs (l : List UInt8) : L (Bs l) = l := rfl
theorem data_Bs (l : List UInt8) : (Bs l).data.toList = l := rfl
theorem data_L (s : ByteArray) : s.data.toList = L s := rfl
theorem Bs_L (s : ByteArray) : Bs (L s) = s := by rcases s with ⟨⟨l⟩⟩; rfl
theorem L_inj {a b : ByteArray} (h : L a = L b) : a = b := by rw [← Bs_L a, h, Bs_L]
theorem size_L (s : ByteArray) : s.size = (L s).length := by simp [L]
theorem size_Bs (l : List UInt8) : (Bs l).size = l.length := by rw [size_L, L_Bs]
theorem L_extract (s : ByteArray) (a b : Nat) : L (s.extract a b) = ((L s).take b).drop a := by
  unfold L
  simp [List.drop_take]
theorem L_append (a b : ByteArray) : L (a ++ b) = L a ++ L b := by simp [L]
theorem toList_L (s : ByteArray) : s.toList = L s := ByteArray.toList_eq s
theorem bt_L (s : ByteArray) (i : Int) : bt s i = (((L s).getD i.toNat 0).toNat : Int) := by
  unfold bt
  by_cases h : i.toNat < s.size
  · rw [dif_pos h]
    rcases s with ⟨⟨l⟩⟩
    have h' : i.toNat < l.length := by simpa [ByteArray.size] using h
    simp [L, List.getD, h', ByteArray.getElem_eq_getElem_data]
  · rw [dif_neg h]
    rcases s with ⟨⟨l⟩⟩
    have h' : l.length ≤ i.toNat := by have : ¬ i.toNat < l.length := h; omega
    simp [L, List.getD, List.getElem?_eq_none h']
theorem wrap_id {n : Int} (h0 : -9223372036854775808 ≤ n) (h1 : n ≤ 9223372036854775807) : wrap64 n = n := by unfold wrap64; omega
/-- A number of bytes, the highest first. -/
def beN (l : List UInt8) : Nat := l.foldl (fun n b => n * 256 + b.toNat) 0
theorem beNum_beN (l : List UInt8) : beNum l = (beN l : Int) := by
  have key : ∀ (l : List UInt8) (a : Nat), l.foldl (fun (n : Int) b => n * 256 + (b.toNat : Int)) (a : Int) = ((l.foldl (fun n b => n * 256 + b.toNat) a : Nat) : Int) := by
    intro l
    induction l with
    | nil => intro a; rfl
    | cons b l ih => intro a; simp only [List.foldl_cons]; rw [← ih]; simp
  exact key l 0
theorem beN_lt (l : List UInt8) : beN l < 256 ^ l.length := by
  have h := (beNum_lt l).2
  rw [beNum_beN] at h
  have e : (256 : Int) ^ l.length = ((256 ^ l.length : Nat) : Int) := by rw [Int.natCast_pow]; rfl
  rw [e] at h
  omega
/-- The length that stands at the beginning, and how many bytes it has. -/
def lenS : List UInt8 → Option (Nat × Nat)
  | [] => none
  | b :: l => if b.toNat < 128 then some (b.toNat, 1) else if b.toNat = 128 ∨ 132 < b.toNat then none else if l.length < b.toNat - 128 then none else some (beN (l.take (b.toNat - 128)), 1 + (b.toNat - 128))
/-- The element at the beginning: its tag, its body, and what stands behind it. -/
def nextS : List UInt8 → Option (Nat × List UInt8 × List UInt8)
  | [] => none
  | t :: l => if t.toNat % 32 = 31 then none else
    match lenS l with
    | none => none
    | some (n, g) => if (l.drop g).length < n then none else some (t.toNat, (l.drop g).take n, (l.drop g).drop n)
theorem lenS_le {l : List UInt8} {n g : Nat} (h : lenS l = some (n, g)) : 1 ≤ g ∧ g ≤ 5 ∧ g ≤ l.length := by
  cases l with
  | nil => exact absurd h (by simp [lenS])
  | cons b l =>
    simp only [lenS] at h
    have hb := b.toNat_lt
    by_cases h1 : b.toNat < 128
    · rw [if_pos h1] at h
      simp only [Option.some.injEq, Prod.mk.injEq] at h
      simp only [List.length_cons]; omega
    · rw [if_neg h1] at h
      by_cases h2 : b.toNat = 128 ∨ 132 < b.toNat
      · rw [if_pos h2] at h; simp at h
      · rw [if_neg h2] at h
        by_cases h3 : l.length < b.toNat - 128
        · rw [if_pos h3] at h; simp at h
        · rw [if_neg h3] at h
          simp only [Option.some.injEq, Prod.mk.injEq] at h
          simp only [List.length_cons]; omega
theorem and31 (t : Nat) (h : t < 256) : Go.bits .and .i64 (t : Int) 31 = ((t % 32 : Nat) : Int) := by
  have := bits_mask .i64 63 (by decide) (fun n h0 h1 => by rw [IntKind.wrap_i64]; have : (2 : Int) ^ 63 = 9223372036854775808 := rfl; omega) 5 (by decide) (t : Int) (by omega) (by have : (2 : Int) ^ 63 = 9223372036854775808 := rfl; omega)
  have e : ((2 : Int) ^ 5 - 1) = 31 := rfl
  have e2 : ((2 : Int) ^ 5) = 32 := rfl
  rw [e, e2] at this
  rw [this]; omega
theorem isTag_eq (t : Nat) (h : t < 256) : ber_isTag.f (t : Int) = some (decide (t % 32 ≠ 31)) := by
  unfold ber_isTag.f
  rw [if_pos (by omega), if_pos (by omega), and31 t h]
  congr 1
  rw [Bool.eq_iff_iff]
  simp
  omega
end Go.Proofs.YtjfimileopbadaaGreatDoor.BerS
/- Layer 5: what 'put' answers, in plain lists. -/
namespace Go.Proofs.YtjfimileopbadaaGreatDoor.BerS
open Go.RowKit Gong Go.Proofs.YtjfimileopbadaaGreatDoor.XVaA Go.Proofs.YtjfimileopbadaaGreatDoorW.PrintWords Go.Proofs.YtjfimileopbadaaGreatDoorW.PrintLast Go.Proofs.YtjfimileopbadaaGreatDoorW.PrintMore
set_option linter.unusedVariables false
set_option linter.unusedSimpArgs false
/-- A number's last w bytes, the highest first. -/
def wideB (n w : Nat) : List UInt8 := ((bytes8 (n : Int)).drop (8 - w)).map fun x => UInt8.ofNat x.toNat
theorem wideB_len (n w : Nat) (h : w ≤ 8) : (wideB n w).length = w := by simp [wideB, bytes8]; omega
theorem strOf_map (xs : List Int) : strOfNums xs = Bs (xs.map fun x => UInt8.ofNat x.toNat) := rfl
theorem pow256 (w : Nat) : (2 : Int) ^ (8 * w) = ((256 ^ w : Nat) : Int) := by
  rw [Int.pow_mul, Int.natCast_pow]; rfl
theorem wide_small (n w : Nat) (h1 : 1 ≤ w) (h8 : w ≤ 8) (h : n < 256 ^ w) : octet_Wide.f (n : Int) (w : Int) = some (Bs (wideB n w), 0) := by
  unfold octet_Wide.f
  rw [if_pos ⟨by omega, by omega, by omega⟩, Int.toNat_natCast, pow256]
  have : (n : Int) / ((256 ^ w : Nat) : Int) = 0 := Int.ediv_eq_zero_of_lt (by omega) (by omega)
  rw [this, if_neg (by omega)]
  rfl
theorem shr8 (n w : Nat) (h8 : w ≤ 7) : shr .i64 (n : Int) (wrap64 (8 * (w : Int))) = ((n / 256 ^ w : Nat) : Int) := by
  rw [wrap_id (by omega) (by omega)]
  unfold shr
  have e : (8 * (w : Int)).toNat = 8 * w := by omega
  have e2 : IntKind.i64.bits = 64 := rfl
  rw [e, e2, Nat.min_eq_left (by omega), pow256]
  rfl
theorem bytesOf_map (l : List UInt8) : (Go.Proofs.YtjfimileopbadaaGreatDoorW.PrintWords.bytesOf (Bs l)).map (fun x => UInt8.ofNat x.toNat) = l := by
  unfold Go.Proofs.YtjfimileopbadaaGreatDoorW.PrintWords.bytesOf
  rw [data_Bs, List.map_map]
  conv => rhs; rw [← List.map_id l]
  congr 1
  funext b
  simp
/-- The tag's byte, and the first one of a long length. -/
theorem put_step (k n w : Nat) (tag : Int) (body : List UInt8) (h0 : 0 ≤ tag) (h1 : tag < 256) (hw1 : 1 ≤ w) (hw : w ≤ 4) (hn : n < 4294967296) (hb : body.length ≤ 140737488355328) :
    ber_put.l0 (k + 1) (Bs body) (n : Int) [tag % 256, (n : Int) % 256] (w : Int) =
      if n < 256 ^ w then some (Bs (UInt8.ofNat tag.toNat :: UInt8.ofNat (128 + w) :: (wideB n w ++ body))) else ber_put.l0 k (Bs body) (n : Int) [tag % 256, (n : Int) % 256] ((w + 1 : Nat) : Int) := by
  simp only [ber_put.l0]
  rw [shr8 n w (by omega), wrap_id (by omega) (by omega), if_pos (by omega)]
  by_cases h : n < 256 ^ w
  · rw [if_pos h, Nat.div_eq_of_lt h, if_neg (by decide), wide_small n w hw1 (by omega) h]
    simp only [Option.bind_some]
    rw [if_pos (by simp)]
    have e1 : wrap64 (128 + (w : Int)) % 256 = ((128 + w : Nat) : Int) := by rw [wrap_id (by omega) (by omega)]; omega
    have e2 : tag % 256 = tag := by omega
    rw [e1, e2]
    have e3 : ([tag, (n : Int) % 256].set (1 : Int).toNat ((128 + w : Nat) : Int)) = [tag, ((128 + w : Nat) : Int)] := rfl
    rw [e3, size_Bs, wideB_len n w (by omega), if_pos (by simp; omega)]
    have e4 : strOfNums ([tag, ((128 + w : Nat) : Int)] ++ Go.Proofs.YtjfimileopbadaaGreatDoorW.PrintWords.bytesOf (Bs (wideB n w))) = Bs (UInt8.ofNat tag.toNat :: UInt8.ofNat (128 + w) :: wideB n w) := by
      rw [strOf_map, List.map_append, bytesOf_map]
      rfl
    rw [e4, if_pos (by rw [size_Bs, size_Bs]; simp [wideB_len n w (by omega)]; omega)]
    rfl
  · rw [if_neg h, if_pos (by have : 0 < n / 256 ^ w := Nat.div_pos (by omega) (Nat.pow_pos (by decide)); omega)]
    rw [wrap_id (by omega) (by omega)]
    rfl
/-- How many bytes a number takes (below 2^32), at least one. -/
def nby (n : Nat) : Nat := if n < 256 then 1 else if n < 65536 then 2 else if n < 16777216 then 3 else 4
/-- A length in its shortest form. -/
def lenEnc (n : Nat) : List UInt8 := if n < 128 then [UInt8.ofNat n] else UInt8.ofNat (128 + nby n) :: wideB n (nby n)
/-- An element. -/
def enc (t : Nat) (body : List UInt8) : List UInt8 := UInt8.ofNat t :: (lenEnc body.length ++ body)
theorem put_eq (k t : Nat) (body : List UInt8) (ht : t < 256) (hb : body.length < 4294967296) (hk : 4 ≤ k) : ber_put.f k (t : Int) (Bs body) = some (Bs (enc t body)) := by
  unfold ber_put.f
  simp only [Option.bind_some, size_Bs]
  by_cases h : body.length < 128
  · rw [if_neg (by omega), if_pos (by rw [strOf_map, size_Bs]; simp; omega)]
    congr 1
    apply L_inj
    rw [L_append, strOf_map, L_Bs, L_Bs, L_Bs]
    have e1 : (t : Int) % 256 = (t : Int) := by omega
    have e2 : (body.length : Int) % 256 = (body.length : Int) := by omega
    simp [enc, lenEnc, h, e1, e2]
  · rw [if_pos (by omega)]
    obtain ⟨k, rfl⟩ : ∃ m, k = m + 4 := ⟨k - 4, by omega⟩
    have st := fun j w hw1 hw => put_step j body.length w (t : Int) body (by omega) (by omega) hw1 hw hb (by omega)
    have s1 := st (k + 3) 1 (by omega) (by omega)
    have s2 := st (k + 2) 2 (by omega) (by omega)
    have s3 := st (k + 1) 3 (by omega) (by omega)
    have s4 := st k 4 (by omega) (by omega)
    rw [show ((1 : Nat) : Int) = 1 from rfl] at s1
    rw [show k + 4 = k + 3 + 1 from rfl, s1]
    have p1 : 256 ^ 1 = 256 := rfl
    have p2 : 256 ^ 2 = 65536 := rfl
    have p3 : 256 ^ 3 = 16777216 := rfl
    have p4 : 256 ^ 4 = 4294967296 := rfl
    rw [p1]
    by_cases h1 : body.length < 256
    · rw [if_pos h1]
      simp [enc, lenEnc, h, nby, h1]
    · rw [if_neg h1, s2, p2]
      by_cases h2 : body.length < 65536
      · rw [if_pos h2]
        simp [enc, lenEnc, h, nby, h1, h2]
      · rw [if_neg h2, s3, p3]
        by_cases h3 : body.length < 16777216
        · rw [if_pos h3]
          simp [enc, lenEnc, h, nby, h1, h2, h3]
        · rw [if_neg h3, s4, p4, if_pos (by omega)]
          simp [enc, lenEnc, h, nby, h1, h2, h3]
theorem u8_ofInt (x : Int) (h0 : 0 ≤ x) (h1 : x < 256) : ((UInt8.ofNat x.toNat).toNat : Int) = x := by
  rw [UInt8.toNat_ofNat']
  omega
theorem beN_wide (n w : Nat) (hw1 : 1 ≤ w) (hw : w ≤ 4) (hn : n < 256 ^ w) : beN (wideB n w) = n := by
  have hr : List.range 8 = [0, 1, 2, 3, 4, 5, 6, 7] := rfl
  have p1 : 256 ^ 1 = 256 := rfl
  have p2 : 256 ^ 2 = 65536 := rfl
  have p3 : 256 ^ 3 = 16777216 := rfl
  have p4 : 256 ^ 4 = 4294967296 := rfl
  have q1 : (2 : Int) ^ 8 = 256 := rfl
  have q2 : (2 : Int) ^ 16 = 65536 := rfl
  have q3 : (2 : Int) ^ 24 = 16777216 := rfl
  have key : ((beN (wideB n w) : Nat) : Int) = (n : Int) := by
    have hw' : w = 1 ∨ w = 2 ∨ w = 3 ∨ w = 4 := by omega
    rcases hw' with rfl | rfl | rfl | rfl
    · have e := u8_ofInt ((n : Int) % 256) (by omega) (by omega)
      simp [wideB, bytes8, hr, beN] at e ⊢
      omega
    · have e := u8_ofInt ((n : Int) % 256) (by omega) (by omega)
      have e2 := u8_ofInt ((n : Int) / 256 % 256) (by omega) (by omega)
      simp [wideB, bytes8, hr, beN, q1] at e e2 ⊢
      omega
    · have e := u8_ofInt ((n : Int) % 256) (by omega) (by omega)
      have e2 := u8_ofInt ((n : Int) / 256 % 256) (by omega) (by omega)
      have e3 := u8_ofInt ((n : Int) / 65536 % 256) (by omega) (by omega)
      simp [wideB, bytes8, hr, beN, q1, q2] at e e2 e3 ⊢
      omega
    · have e := u8_ofInt ((n : Int) % 256) (by omega) (by omega)
      have e2 := u8_ofInt ((n : Int) / 256 % 256) (by omega) (by omega)
      have e3 := u8_ofInt ((n : Int) / 65536 % 256) (by omega) (by omega)
      have e4 := u8_ofInt ((n : Int) / 16777216 % 256) (by omega) (by omega)
      simp [wideB, bytes8, hr, beN, q1, q2, q3] at e e2 e3 e4 ⊢
      omega
  omega
theorem nby_le (n : Nat) (hn : n < 4294967296) : 1 ≤ nby n ∧ nby n ≤ 4 ∧ n < 256 ^ nby n := by
  have p1 : 256 ^ 1 = 256 := rfl
  have p2 : 256 ^ 2 = 65536 := rfl
  have p3 : 256 ^ 3 = 16777216 := rfl
  have p4 : 256 ^ 4 = 4294967296 := rfl
  unfold nby
  split
  · omega
  · split
    · omega
    · split <;> omega
theorem lenEnc_len (n : Nat) : (lenEnc n).length = if n < 128 then 1 else 1 + nby n := by
  unfold lenEnc
  split
  · rfl
  · rw [List.length_cons, wideB_len _ _ (by unfold nby; split <;> (try split) <;> (try split) <;> omega)]
    omega
theorem lenS_enc (n : Nat) (r : List UInt8) (hn : n < 4294967296) : lenS (lenEnc n ++ r) = some (n, (lenEnc n).length) := by
  rw [lenEnc_len]
  unfold lenEnc
  by_cases h : n < 128
  · rw [if_pos h, if_pos h]
    have e : (UInt8.ofNat n).toNat = n := by rw [UInt8.toNat_ofNat']; omega
    simp only [List.cons_append, List.nil_append, lenS, e]
    rw [if_pos h]
  · rw [if_neg h, if_neg h]
    obtain ⟨h1, h4, h5⟩ := nby_le n hn
    have e : (UInt8.ofNat (128 + nby n)).toNat = 128 + nby n := by rw [UInt8.toNat_ofNat']; omega
    have hl := wideB_len n (nby n) (by omega)
    simp only [List.cons_append, lenS, e]
    rw [if_neg (by omega), if_neg (by omega), if_neg (by rw [List.length_append, hl]; omega)]
    have e2 : 128 + nby n - 128 = nby n := by omega
    rw [e2, List.take_append_of_le_length (by omega), List.take_of_length_le (by omega), beN_wide n _ h1 h4 h5]
theorem next_enc (t : Nat) (b r : List UInt8) (ht : t < 256) (ht2 : t % 32 ≠ 31) (hb : b.length < 4294967296) : nextS (enc t b ++ r) = some (t, b, r) := by
  have e : (UInt8.ofNat t).toNat = t := by rw [UInt8.toNat_ofNat']; omega
  unfold enc
  simp only [List.cons_append, List.append_assoc, nextS, e]
  rw [if_neg ht2, lenS_enc _ _ hb]
  simp only [List.drop_left]
  rw [if_neg (by rw [List.length_append]; omega)]
  simp
theorem lenEnc_pos (n : Nat) : 1 ≤ (lenEnc n).length := by rw [lenEnc_len]; split <;> omega
theorem enc_len (t : Nat) (b : List UInt8) : (enc t b).length = 1 + (lenEnc b.length).length + b.length := by
  simp [enc]; omega
end Go.Proofs.YtjfimileopbadaaGreatDoor.BerS
/- Layer 5: whole numbers in their shortest forms, and back. -/
namespace Go.Proofs.YtjfimileopbadaaGreatDoor.BerS
open Go.RowKit Gong Go.Proofs.YtjfimileopbadaaGreatDoor.XVaA Go.Proofs.YtjfimileopbadaaGreatDoorW.PrintWords Go.Proofs.YtjfimileopbadaaGreatDoorW.PrintLast Go.Proofs.YtjfimileopbadaaGreatDoorW.PrintMore
set_option linter.unusedVariables false
set_option linter.unusedSimpArgs false
/-- The first byte tells nothing. -/
def spareS : List UInt8 → Bool
  | a :: b :: _ => (a.toNat = 0 && decide (b.toNat < 128)) || (a.toNat = 255 && decide (128 ≤ b.toNat))
  | _ => false
theorem spare_eq (s : ByteArray) : ber_spare.f s = some (spareS (L s)) := by
  unfold ber_spare.f
  have hs := size_L s
  cases h : L s with
  | nil => rw [h] at hs; rw [if_neg (by rw [hs]; decide)]; rfl
  | cons a l =>
    cases l with
    | nil => rw [h] at hs; rw [if_neg (by rw [hs]; simp)]; rfl
    | cons b r =>
      rw [h] at hs
      simp only [List.length_cons] at hs
      have ea : bt s 0 = (a.toNat : Int) := by rw [bt_L, h]; rfl
      have eb : bt s 1 = (b.toNat : Int) := by rw [bt_L, h]; rfl
      have ha := a.toNat_lt
      have hb := b.toNat_lt
      rw [if_pos (by omega), if_pos (by omega), ea, eb]
      simp only [spareS]
      have h1s : (1 : Int) < (s.size : Int) := by omega
      simp only [h1s, if_true]
      by_cases h0 : a.toNat = 0
      · rw [if_pos (by omega)]
        by_cases h1 : b.toNat < 128
        · rw [if_pos (by omega)]; simp [h0, h1]
        · rw [if_neg (by omega), if_neg (by omega)]; simp [h0, h1]
      · rw [if_neg (by omega)]
        by_cases h2 : a.toNat = 255
        · rw [if_pos (by omega)]
          congr 1
          rw [Bool.eq_iff_iff]
          simp [h0, h2]
          omega
        · rw [if_neg (by omega)]; simp [h0, h2]
/-- Without the spare bytes in front. -/
def trimS : List UInt8 → List UInt8
  | [] => []
  | a :: l => if spareS (a :: l) = true then trimS l else a :: l
theorem trim_at : ∀ (l : List UInt8) (k : Nat), l.length < k → ber_trimmed.l0 k (Bs l) = some (Bs (trimS l))
  | [], k, h => by
    obtain ⟨k, rfl⟩ : ∃ m, k = m + 1 := ⟨k - 1, by omega⟩
    simp only [ber_trimmed.l0]
    rw [spare_eq, L_Bs]
    rfl
  | a :: l, k, h => by
    simp only [List.length_cons] at h
    obtain ⟨k, rfl⟩ : ∃ m, k = m + 1 := ⟨k - 1, by omega⟩
    simp only [ber_trimmed.l0]
    rw [spare_eq, L_Bs]
    simp only [Option.bind_some, trimS]
    by_cases hs : spareS (a :: l) = true
    · have e : (Bs (a :: l)).extract 1 (Bs (a :: l)).size = Bs l := by
        apply L_inj; rw [L_extract, L_Bs, L_Bs, size_Bs, List.take_of_length_le (Nat.le_refl _)]; rfl
      rw [if_pos hs, if_pos hs, if_pos (by rw [size_Bs]; simp only [List.length_cons]; omega), e]
      exact trim_at l k (by omega)
    · rw [if_neg hs, if_neg hs]
theorem onto_cons (n : Int) (b : UInt8) (l : List UInt8) : onto n (b :: l) = onto (n * 256 + (b.toNat : Int)) l := rfl
theorem trim_sNum : ∀ l : List UInt8, sNum (trimS l) = sNum l
  | [] => rfl
  | a :: l => by
    rw [trimS]
    by_cases hs : spareS (a :: l) = true
    · rw [if_pos hs, trim_sNum l]
      cases l with
      | nil => simp [spareS] at hs
      | cons b r =>
        show onto (sByte (b.toNat : Int)) r = onto (sByte (a.toNat : Int)) (b :: r)
        rw [onto_cons]
        congr 1
        simp [spareS] at hs
        have hb := b.toNat_lt
        unfold sByte
        rcases hs with ⟨h1, h2⟩ | ⟨h1, h2⟩
        · rw [h1]; simp; omega
        · rw [h1]; simp; omega
    · rw [if_neg hs]
theorem trim_spare : ∀ l : List UInt8, spareS (trimS l) = false
  | [] => rfl
  | a :: l => by
    rw [trimS]
    by_cases hs : spareS (a :: l) = true
    · rw [if_pos hs]; exact trim_spare l
    · rw [if_neg hs]; simpa using hs
theorem trim_len : ∀ l : List UInt8, (trimS l).length ≤ l.length ∧ ((trimS l).length = l.length → trimS l = l) ∧ (l ≠ [] → trimS l ≠ [])
  | [] => ⟨Nat.le_refl _, fun _ => rfl, fun h => h⟩
  | a :: l => by
    rw [trimS]
    have ih := trim_len l
    by_cases hs : spareS (a :: l) = true
    · rw [if_pos hs]
      simp only [List.length_cons]
      refine ⟨by omega, fun h => by omega, fun _ => ih.2.2 ?_⟩
      intro h
      rw [h] at hs
      simp [spareS] at hs
    · rw [if_neg hs]
      exact ⟨Nat.le_refl _, fun _ => rfl, fun h => h⟩
/-- The eight bytes of a number. -/
def W8 (n : Int) : List UInt8 := (bytes8 n).map fun x => UInt8.ofNat x.toNat
theorem W8_eq (n : Int) : W8 n = [UInt8.ofNat (n / 2 ^ 56 % 256).toNat, UInt8.ofNat (n / 2 ^ 48 % 256).toNat, UInt8.ofNat (n / 2 ^ 40 % 256).toNat, UInt8.ofNat (n / 2 ^ 32 % 256).toNat, UInt8.ofNat (n / 2 ^ 24 % 256).toNat, UInt8.ofNat (n / 2 ^ 16 % 256).toNat, UInt8.ofNat (n / 2 ^ 8 % 256).toNat, UInt8.ofNat (n / 2 ^ 0 % 256).toNat] := rfl
theorem onto_W8 (m n : Int) : onto m (W8 n) = m * 18446744073709551616 + n % 18446744073709551616 := by
  have u := fun j : Nat => u8_ofInt (n / 2 ^ j % 256) (by omega) (by omega)
  rw [W8_eq]
  simp only [onto_cons, u]
  have e : ∀ z : Int, onto z [] = z := fun _ => rfl
  rw [e]
  have q0 : (2 : Int) ^ 0 = 1 := rfl
  have q1 : (2 : Int) ^ 8 = 256 := rfl
  have q2 : (2 : Int) ^ 16 = 65536 := rfl
  have q3 : (2 : Int) ^ 24 = 16777216 := rfl
  have q4 : (2 : Int) ^ 32 = 4294967296 := rfl
  have q5 : (2 : Int) ^ 40 = 1099511627776 := rfl
  have q6 : (2 : Int) ^ 48 = 281474976710656 := rfl
  have q7 : (2 : Int) ^ 56 = 72057594037927936 := rfl
  rw [q0, q1, q2, q3, q4, q5, q6, q7]
  omega
theorem sNum_W8 (n : Int) (h0 : -9223372036854775808 ≤ n) (h1 : n ≤ 9223372036854775807) : sNum (W8 n) = n := by
  have h := onto_W8 0 n
  rw [W8_eq, onto_cons, u8_ofInt _ (by omega) (by omega)] at h
  have e : sNum (W8 n) = onto (sByte (n / 2 ^ 56 % 256)) (W8 n).tail := by
    rw [W8_eq]
    show onto (sByte (((UInt8.ofNat (n / 2 ^ 56 % 256).toNat).toNat : Int))) _ = _
    rw [u8_ofInt _ (by omega) (by omega)]
  have lin : ∀ (l : List UInt8) (a b : Int), onto (a + b) l = onto a l + b * 256 ^ l.length := by
    intro l
    induction l with
    | nil => intro a b; simp [onto]
    | cons x l ih =>
      intro a b
      rw [onto_cons, onto_cons, show (a + b) * 256 + (x.toNat : Int) = (a * 256 + (x.toNat : Int)) + b * 256 from by omega, ih, List.length_cons, Int.pow_succ]
      rw [Int.mul_assoc, Int.mul_comm 256]
  rw [e, W8_eq]
  simp only [List.tail_cons]
  have q7 : (2 : Int) ^ 56 = 72057594037927936 := rfl
  have p7 : (256 : Int) ^ 7 = 72057594037927936 := rfl
  unfold sByte
  by_cases ht : 128 ≤ n / 2 ^ 56 % 256
  · rw [if_pos ht, show n / 2 ^ 56 % 256 - 256 = (0 * 256 + n / 2 ^ 56 % 256) + (-256) from by omega, lin, h]
    simp only [List.length_cons, List.length_nil]
    rw [p7]
    rw [q7] at ht
    omega
  · rw [if_neg ht, show n / 2 ^ 56 % 256 = 0 * 256 + n / 2 ^ 56 % 256 from by omega, h]
    rw [q7] at ht
    omega
theorem W9_eq (n : Int) : (bytes9 n).map (fun x => UInt8.ofNat x.toNat) = 0 :: W8 n := rfl
theorem sNum_W9 (n : Int) (h0 : 0 ≤ n) (h1 : n ≤ 18446744073709551615) : sNum (0 :: W8 n) = n := by
  show onto (sByte 0) (W8 n) = n
  have e : sByte 0 = 0 := rfl
  rw [e, onto_W8]
  omega
theorem putN (n : Int) (k : Nat) (hk : 9 ≤ k) : ber_PutNumber.f k n = some (Bs (trimS (W8 n))) := by
  unfold ber_PutNumber.f ber_trimmed.f
  exact trim_at (W8 n) k (by simp [W8, bytes8]; omega)
theorem putU (n : Int) (k : Nat) (hk : 10 ≤ k) : ber_PutUnsigned.f k n = some (Bs (trimS (0 :: W8 n))) := by
  unfold ber_PutUnsigned.f ber_trimmed.f
  exact trim_at (0 :: W8 n) k (by simp [W8, bytes8]; omega)
theorem W8_len (n : Int) : (W8 n).length = 8 := by simp [W8, bytes8]
end Go.Proofs.YtjfimileopbadaaGreatDoor.BerS
/- Layer 5: what Wrap answers. -/
namespace Go.Proofs.YtjfimileopbadaaGreatDoor.BerS
open Go.RowKit Gong Go.Proofs.YtjfimileopbadaaGreatDoor.XVaA Go.Proofs.YtjfimileopbadaaGreatDoorW.PrintWords Go.Proofs.YtjfimileopbadaaGreatDoorW.PrintLast Go.Proofs.YtjfimileopbadaaGreatDoorW.PrintMore
set_option linter.unusedVariables false
set_option linter.unusedSimpArgs false
theorem wrap_at (t : Nat) (b : List UInt8) (ht : t < 256) (ht2 : t % 32 ≠ 31) (hb : b.length ≤ 16777216) (k : Nat) (hk : 4 ≤ k) : ber_Wrap.f k (t : Int) (Bs b) = some (Bs (enc t b), 0) := by
  unfold ber_Wrap.f
  rw [isTag_eq t ht]
  simp only [Option.bind_some]
  rw [if_pos (by simp [ht2]), if_neg (by rw [size_Bs]; omega), put_eq k t b ht (by omega) hk]
  rfl
end Go.Proofs.YtjfimileopbadaaGreatDoor.BerS
/- Layer 7: the chapter's examples. -/
namespace Go.Proofs.YtjfimileopbadaaGreatDoor.ValS
open Go.RowKit Gong Go.Proofs.YtjfimileopbadaaGreatDoor.XVaA Go.Proofs.YtjfimileopbadaaGreatDoor.OidS Go.Proofs.YtjfimileopbadaaGreatDoorW.PrintWords Go.Proofs.YtjfimileopbadaaGreatDoorW.PrintLast Go.Proofs.YtjfimileopbadaaGreatDoorW.PrintMore
set_option linter.unusedVariables false
set_option linter.unusedSimpArgs false
theorem works_at (k : Nat) (hk : 500 ≤ k) : gonglaw07_works.f k = some true := by
  have e1 : value_Encode.f k 67 300 (⟨#[]⟩ : ByteArray) = some (⟨#[67, 2, 1, 44]⟩, 0) := by
    unfold value_Encode.f
    rw [right_eq 67 300 _ (by decide) k hk, show okV 67 300 (⟨#[]⟩ : ByteArray) = true by decide +kernel, of_eq]
    simp only [Option.bind_some]
    rw [if_pos trivial, if_neg (by decide), if_pos (show formOf 67 = 2 from rfl), show IntKind.u64.wrap 300 = 300 by decide +kernel, BerS.putU 300 k (by omega)]
    simp only [Option.bind_some]
    rw [show BerS.trimS (0 :: BerS.W8 300) = [1, 44] by decide +kernel]
    have := BerS.wrap_at 67 [1, 44] (by decide) (by decide) (by decide) k (by omega)
    rw [show ((67 : Nat) : Int) = 67 from rfl] at this
    rw [this]
    rfl
  have e2 : value_Show.f k 64 0 (⟨#[127, 0, 0, 1]⟩ : ByteArray) = some (⟨#[49, 50, 55, 46, 48, 46, 48, 46, 49]⟩, 0) := by
    unfold value_Show.f
    rw [right_eq 64 0 _ (by decide) k hk, show okV 64 0 (⟨#[127, 0, 0, 1]⟩ : ByteArray) = true by decide +kernel, of_eq]
    simp only [Option.bind_some]
    rw [if_pos trivial, if_neg (by decide), if_neg (by decide), if_neg (by decide), if_pos trivial]
    rw [show value_pointed.f (⟨#[127, 0, 0, 1]⟩ : ByteArray) = some (⟨#[49, 50, 55, 46, 48, 46, 48, 46, 49]⟩ : ByteArray) by decide +kernel]
    rfl
  unfold gonglaw07_works.f
  rw [e1, e2]
  simp only [Option.bind_some]
  rw [toList_L, if_pos (show L (⟨#[67, 2, 1, 44]⟩ : ByteArray) = [67, 2, 1, 44] from rfl), if_pos trivial, toList_L, if_pos (show L (⟨#[49, 50, 55, 46, 48, 46, 48, 46, 49]⟩ : ByteArray) = [49, 50, 55, 46, 48, 46, 48, 46, 49] from rfl)]
  rfl
end Go.Proofs.YtjfimileopbadaaGreatDoor.ValS
/- Layer 7: a value that may be is told by its element, and an element that tells a value is that of it. -/
namespace Go.Proofs.YtjfimileopbadaaGreatDoor.ValS
open Go.RowKit Gong Go.Proofs.YtjfimileopbadaaGreatDoor.XVaA Go.Proofs.YtjfimileopbadaaGreatDoor.OidS Go.Proofs.YtjfimileopbadaaGreatDoorW.PrintWords Go.Proofs.YtjfimileopbadaaGreatDoorW.PrintLast Go.Proofs.YtjfimileopbadaaGreatDoorW.PrintMore
set_option linter.unusedVariables false
set_option linter.unusedSimpArgs false
theorem empty_of {s : ByteArray} (h : s.toList = []) : s = ⟨#[]⟩ := L_inj (by rw [← toList_L, h]; rfl)
theorem u64_wrap (n : Int) : IntKind.u64.wrap n = n % 18446744073709551616 := IntKind.wrap_u64 n
theorem u64_back (n : Int) (h0 : -9223372036854775808 ≤ n) (h1 : n ≤ 9223372036854775807) : wrap64 (IntKind.u64.wrap n) = n := by rw [u64_wrap]; unfold wrap64; omega
theorem u64_fore (u : Int) (h0 : 0 ≤ u) (h1 : u ≤ 18446744073709551615) : IntKind.u64.wrap (wrap64 u) = u := by rw [u64_wrap]; unfold wrap64; omega
theorem u64_rng (n : Int) : 0 ≤ IntKind.u64.wrap n ∧ IntKind.u64.wrap n ≤ 18446744073709551615 := by rw [u64_wrap]; omega
theorem wrap64_rng (n : Int) : -9223372036854775808 ≤ wrap64 n ∧ wrap64 n ≤ 9223372036854775807 := by unfold wrap64; omega
/-- A value's body. -/
def bodyV (kd n : Int) (s : ByteArray) : List UInt8 :=
  if formOf kd = 1 then BerS.trimS (BerS.W8 n) else if formOf kd = 2 then BerS.trimS (0 :: BerS.W8 (IntKind.u64.wrap n)) else
  if formOf kd = 4 then (match arcsS (L s) with | some x => encL x | none => []) else L s
theorem ok_form {kd n : Int} {s : ByteArray} (h : okV kd n s = true) : (kd = 2 ∧ s = ⟨#[]⟩) ∨ (kd = 6 ∧ n = 0 ∧ ∃ x, isS x = true ∧ arcsS (L s) = some x ∧ s = Bs (putL x)) ∨ ((kd = 65 ∨ kd = 66 ∨ kd = 67 ∨ kd = 70) ∧ s = ⟨#[]⟩) ∨ ((kd = 4 ∨ kd = 5 ∨ kd = 64 ∨ kd = 68) ∧ n = 0) := by
  unfold okV at h
  by_cases h2 : kd = 2
  · rw [if_pos h2, decide_eq_true_iff] at h
    exact .inl ⟨h2, empty_of h.1⟩
  rw [if_neg h2] at h
  by_cases h6 : kd = 6
  · rw [if_pos h6, decide_eq_true_iff] at h
    refine .inr (.inl ⟨h6, h.1, ?_⟩)
    have h3 := h.2
    unfold arcsR at h3
    cases ha : arcsS (L s) with
    | none => rw [ha] at h3; simp at h3
    | some x =>
      obtain ⟨a, b⟩ := arcs_some ha
      exact ⟨x, a, rfl, L_inj (by rw [L_Bs, b])⟩
  rw [if_neg h6] at h
  by_cases h5 : kd = 5
  · rw [if_pos h5, decide_eq_true_iff] at h
    exact .inr (.inr (.inr ⟨.inr (.inl h5), h.1⟩))
  rw [if_neg h5] at h
  by_cases hu : kd = 65 ∨ kd = 66 ∨ kd = 67
  · rw [if_pos hu, decide_eq_true_iff] at h
    exact .inr (.inr (.inl ⟨by omega, empty_of h.1⟩))
  rw [if_neg hu] at h
  by_cases h70 : kd = 70
  · rw [if_pos h70, decide_eq_true_iff] at h
    exact .inr (.inr (.inl ⟨by omega, empty_of h⟩))
  rw [if_neg h70] at h
  by_cases h64 : kd = 64
  · rw [if_pos h64, decide_eq_true_iff] at h
    exact .inr (.inr (.inr ⟨by omega, h.1⟩))
  rw [if_neg h64] at h
  by_cases h4 : kd = 4 ∨ kd = 68
  · rw [if_pos h4, decide_eq_true_iff] at h
    exact .inr (.inr (.inr ⟨by omega, h.1⟩))
  rw [if_neg h4] at h
  exact absurd h (by simp)
/-- Its tag. -/
theorem ok_tag {kd n : Int} {s : ByteArray} (h : okV kd n s = true) : ∃ t : Nat, kd = (t : Int) ∧ t < 256 ∧ t % 32 ≠ 31 ∧ (t / 32 % 2 == 1) = false := by
  rcases ok_form h with ⟨rfl, _⟩ | ⟨rfl, _⟩ | ⟨h | h | h | h, _⟩ | ⟨h | h | h | h, _⟩
  · exact ⟨2, rfl, by decide, by decide, rfl⟩
  · exact ⟨6, rfl, by decide, by decide, rfl⟩
  · exact ⟨65, h, by decide, by decide, rfl⟩
  · exact ⟨66, h, by decide, by decide, rfl⟩
  · exact ⟨67, h, by decide, by decide, rfl⟩
  · exact ⟨70, h, by decide, by decide, rfl⟩
  · exact ⟨4, h, by decide, by decide, rfl⟩
  · exact ⟨5, h, by decide, by decide, rfl⟩
  · exact ⟨64, h, by decide, by decide, rfl⟩
  · exact ⟨68, h, by decide, by decide, rfl⟩
theorem encL_small {x : List Int} (h : isS x = true) : (encL x).length ≤ 640 := by
  obtain ⟨p1, p2, p3, _⟩ := isS_parts h
  match x, h with
  | x0 :: x1 :: l, h =>
    have h4 := heads_le h
    have hc : ∀ l : List Int, (∀ y ∈ l, 0 ≤ y ∧ y ≤ 4294967295) → (catG l).length ≤ 5 * l.length := by
      intro l
      induction l with
      | nil => intro _; simp [catG]
      | cons y l ih =>
        intro hl
        rw [catG_cons, List.length_append, List.length_cons]
        have := grp_len y.toNat (by have := hl y (by simp); omega)
        have := ih (fun z hz => hl z (by simp [hz]))
        omega
    have h5 := hc l (fun y hy => p3 y (by simp [hy]))
    have h6 := grp_len (x1 + 40 * x0).toNat (by omega)
    show (catG ((x1 + 40 * x0) :: l)).length ≤ 640
    rw [catG_cons, List.length_append]
    simp only [List.length_cons] at p2
    omega
  | [], h => simp at p1
  | [_], h => simp at p1
theorem body_len {kd n : Int} {s : ByteArray} (h : okV kd n s = true) : (bodyV kd n s).length ≤ 700 ∨ (bodyV kd n s).length ≤ s.size := by
  unfold bodyV
  split
  · left
    have := (BerS.trim_len (BerS.W8 n)).1
    rw [BerS.W8_len] at this
    omega
  · split
    · left
      have := (BerS.trim_len (0 :: BerS.W8 (IntKind.u64.wrap n))).1
      rw [List.length_cons, BerS.W8_len] at this
      omega
    · split
      · rename_i h3
        rcases ok_form h with ⟨rfl, _⟩ | ⟨rfl, _, x, hx, ha, _⟩ | ⟨h | h | h | h, _⟩ | ⟨h | h | h | h, _⟩
        · exact absurd h3 (by decide)
        · rw [ha]
          left
          have := encL_small hx
          show (encL x).length ≤ 700
          omega
        all_goals (subst h; exact absurd h3 (by decide))
      · right
        rw [L_len]
        exact Nat.le_refl _
theorem BsEq (l : List UInt8) : BerS.Bs l = Bs l := rfl
/-- It is encoded so. -/
theorem enc_ok {kd n : Int} {s : ByteArray} (h : okV kd n s = true) (hs : s.size ≤ 1000000) (h0 : -9223372036854775808 ≤ n) (h1 : n ≤ 9223372036854775807) (k : Nat) (hk : 3000 ≤ k) : value_Encode.f k kd n s = some (Bs (BerS.enc kd.toNat (bodyV kd n s)), 0) := by
  obtain ⟨t, ht, t1, t2, _⟩ := ok_tag h
  have hb := body_len h
  have hw := BerS.wrap_at t (bodyV kd n s) t1 t2 (by omega) k (by omega)
  rw [← ht] at hw
  rw [show kd.toNat = t by omega]
  unfold value_Encode.f
  rw [right_eq kd n s (by omega) k (by omega), h, of_eq]
  simp only [Option.bind_some]
  rw [if_pos trivial]
  unfold bodyV at hw ⊢
  by_cases f1 : formOf kd = 1
  · rw [if_pos f1] at hw ⊢
    rw [if_pos f1, BerS.putN n k (by omega)]
    simp only [Option.bind_some]
    rw [hw]; rfl
  rw [if_neg f1] at hw ⊢
  rw [if_neg f1]
  by_cases f2 : formOf kd = 2
  · rw [if_pos f2] at hw ⊢
    rw [if_pos f2, BerS.putU _ k (by omega)]
    simp only [Option.bind_some]
    rw [hw]; rfl
  rw [if_neg f2] at hw ⊢
  rw [if_neg f2]
  by_cases f4 : formOf kd = 4
  · rw [if_pos f4] at hw ⊢
    rw [if_pos f4]
    rcases ok_form h with ⟨rfl, _⟩ | ⟨rfl, _, x, hx, ha, hsx⟩ | ⟨h | h | h | h, _⟩ | ⟨h | h | h | h, _⟩
    · exact absurd f4 (by decide)
    · rw [ha] at hw ⊢
      rw [hsx, enc_of hx k (by omega)]
      simp only [Option.bind_some]
      rw [← BsEq, hw]; rfl
    all_goals (subst h; exact absurd f4 (by decide))
  · rw [if_neg f4] at hw ⊢
    rw [if_neg f4]
    have e : BerS.Bs (L s) = s := Bs_L s
    rw [e] at hw
    rw [hw]; rfl
end Go.Proofs.YtjfimileopbadaaGreatDoor.ValS
/- Layer 5: what the reference's Put, PutNumber and PutUnsigned answer. -/
namespace Go.Proofs.YtjfimileopbadaaGreatDoor.BerS
open Go.RowKit Gong Go.Proofs.YtjfimileopbadaaGreatDoor.XVaA Go.Proofs.YtjfimileopbadaaGreatDoor.BerS Go.Proofs.YtjfimileopbadaaGreatDoorW.PrintWords Go.Proofs.YtjfimileopbadaaGreatDoorW.PrintLast Go.Proofs.YtjfimileopbadaaGreatDoorW.PrintMore
set_option linter.unusedVariables false
set_option linter.unusedSimpArgs false
theorem Bs_app (a b : List UInt8) : Bs a ++ Bs b = Bs (a ++ b) := by apply L_inj; rw [L_append, L_Bs, L_Bs, L_Bs]
def u8 (x : Int) : UInt8 := UInt8.ofNat (x % 256).toNat
theorem one_byte (x : Int) : strOfNums [x % 256] = Bs [u8 x] := rfl
/-- The last w bytes of a number. -/
def last : Nat → Nat → List UInt8
  | n, 0 => []
  | n, w + 1 => last (n / 256) w ++ [u8 (n : Int)]
theorem last_len : ∀ (w n : Nat), (last n w).length = w
  | 0, _ => rfl
  | w + 1, n => by rw [last, List.length_append, last_len w]; rfl
theorem last_wide (n w : Nat) (hw : w ≤ 8) : wideB n w = last n w := by
  have hr : List.range 8 = [0, 1, 2, 3, 4, 5, 6, 7] := rfl
  have q1 : (2 : Int) ^ 8 = 256 := rfl
  have q2 : (2 : Int) ^ 16 = 65536 := rfl
  have q3 : (2 : Int) ^ 24 = 16777216 := rfl
  have hw' : w = 0 ∨ w = 1 ∨ w = 2 ∨ w = 3 ∨ w = 4 ∨ 5 ≤ w := by omega
  have d2 : n / 256 / 256 = n / 65536 := by omega
  have d3 : n / 65536 / 256 = n / 16777216 := by omega
  have d4 : n / 16777216 / 256 = n / 4294967296 := by omega
  have d5 : n / 4294967296 / 256 = n / 1099511627776 := by omega
  have d6 : n / 1099511627776 / 256 = n / 281474976710656 := by omega
  have d7 : n / 281474976710656 / 256 = n / 72057594037927936 := by omega
  have q4 : (2 : Int) ^ 32 = 4294967296 := rfl
  have q5 : (2 : Int) ^ 40 = 1099511627776 := rfl
  have q6 : (2 : Int) ^ 48 = 281474976710656 := rfl
  have q7 : (2 : Int) ^ 56 = 72057594037927936 := rfl
  have h : w = 0 ∨ w = 1 ∨ w = 2 ∨ w = 3 ∨ w = 4 ∨ w = 5 ∨ w = 6 ∨ w = 7 ∨ w = 8 := by omega
  rcases h with rfl | rfl | rfl | rfl | rfl | rfl | rfl | rfl | rfl <;> simp [wideB, bytes8, hr, last, u8, q1, q2, q3, q4, q5, q6, q7, d2, d3, d4, d5, d6, d7]
theorem padded_eq : ∀ (r i w n k : Nat) (acc : List UInt8), r + i = w → w ≤ 8 → n < 4294967296 → r + 2 ≤ k → acc.length + r ≤ 100 → gongref01_Padded.l0 k (n : Int) (w : Int) (Bs acc) (i : Int) = some (Bs (last n r ++ acc))
  | 0, i, w, n, k, acc, hi, hw, hn, hk, ha => by
    obtain ⟨k, rfl⟩ : ∃ m, k = m + 1 := ⟨k - 1, by omega⟩
    simp only [gongref01_Padded.l0]
    rw [if_neg (by omega)]
    rfl
  | r + 1, i, w, n, k, acc, hi, hw, hn, hk, ha => by
    obtain ⟨k, rfl⟩ : ∃ m, k = m + 1 := ⟨k - 1, by omega⟩
    simp only [gongref01_Padded.l0]
    have e : Int.tmod (n : Int) 256 % 256 = (n : Int) % 256 := by rw [Int.tmod_eq_emod_of_nonneg (by omega)]; omega
    have e2 : wrap64 (Int.tdiv (n : Int) 256) = ((n / 256 : Nat) : Int) := by rw [Int.tdiv_eq_ediv_of_nonneg (by omega), wrap_id (by omega) (by omega)]; omega
    rw [if_pos (by omega)]
    simp only [Option.bind_some]
    rw [e, e2, one_byte, if_pos (by rw [size_Bs, size_Bs]; simp; omega), Bs_app, wrap_id (by omega) (by omega), show (i : Int) + 1 = ((i + 1 : Nat) : Int) from by omega]
    rw [padded_eq r (i + 1) w (n / 256) k ([u8 (n : Int)] ++ acc) (by omega) hw (by omega) (by omega) (by simp; omega)]
    simp [last]
theorem short_eq (n k : Nat) (hn : n < 4294967296) (hk : 30 ≤ k) : gongref05_short.f k (n : Int) = some (Bs (lenEnc n)) := by
  unfold gongref05_short.f lenEnc
  by_cases h : n < 128
  · rw [if_pos (by omega), if_pos h, one_byte]
    congr 3
    unfold u8
    congr 1
    omega
  · rw [if_neg (by omega), if_neg h]
    obtain ⟨h1, h4, h5⟩ := nby_le n hn
    have step : ∀ (r w k : Nat), r + w = nby n → 1 ≤ w → r + 20 ≤ k → gongref05_short.l0 k (n : Int) (w : Int) = some (Bs (UInt8.ofNat (128 + nby n) :: wideB n (nby n))) := by
      intro r
      induction r with
      | zero =>
        intro w k hw hw1 hk
        obtain ⟨k, rfl⟩ : ∃ m, k = m + 1 := ⟨k - 1, by omega⟩
        have hw : w = nby n := by omega
        subst hw
        have e8 : wrap64 (8 * ((nby n : Nat) : Int)) = 8 * ((nby n : Nat) : Int) := wrap_id (by omega) (by omega)
        have hs := shr8 n (nby n) (by omega)
        simp only [gongref05_short.l0]
        rw [hs, Nat.div_eq_of_lt h5, if_pos (by rw [e8]; omega), if_neg (by decide)]
        simp only [Option.bind_some]
        have hp := padded_eq (nby n) 0 (nby n) n k [] (by omega) (by omega) hn (by omega) (by simp; omega)
        rw [List.append_nil, ← last_wide n (nby n) (by omega)] at hp
        unfold gongref01_Padded.f
        rw [show (⟨#[]⟩ : ByteArray) = Bs [] from rfl, show (0 : Int) = ((0 : Nat) : Int) from rfl, hp]
        simp only [Option.bind_some]
        have e1 : wrap64 (128 + ((nby n : Nat) : Int)) = ((128 + nby n : Nat) : Int) := by rw [wrap_id (by omega) (by omega)]; omega
        rw [e1, one_byte, if_pos (by rw [size_Bs, size_Bs, wideB_len _ _ (by omega)]; simp; omega), Bs_app]
        have e2 : u8 ((128 + nby n : Nat) : Int) = UInt8.ofNat (128 + nby n) := by unfold u8; congr 1; omega
        rw [e2]
        rfl
      | succ r ih =>
        intro w k hw hw1 hk
        obtain ⟨k, rfl⟩ : ∃ m, k = m + 1 := ⟨k - 1, by omega⟩
        have e8 : wrap64 (8 * (w : Int)) = 8 * (w : Int) := wrap_id (by omega) (by omega)
        have hs := shr8 n w (by omega)
        have hge : 256 ^ w ≤ n := by
          have p1 : 256 ^ 1 = 256 := rfl
          have p2 : 256 ^ 2 = 65536 := rfl
          have p3 : 256 ^ 3 = 16777216 := rfl
          have hw' : w = 1 ∨ w = 2 ∨ w = 3 := by omega
          unfold nby at hw
          rcases hw' with rfl | rfl | rfl
          · rw [p1]; repeat' split at hw
            all_goals omega
          · rw [p2]; repeat' split at hw
            all_goals omega
          · rw [p3]; repeat' split at hw
            all_goals omega
        have hpos : 0 < n / 256 ^ w := Nat.div_pos hge (Nat.pow_pos (by decide))
        simp only [gongref05_short.l0]
        rw [hs, if_pos (by rw [e8]; omega), if_pos (by omega), wrap_id (by omega) (by omega), show (w : Int) + 1 = ((w + 1 : Nat) : Int) from by omega]
        exact ih (w + 1) k (by omega) (by omega) (by omega)
    exact step (nby n - 1) 1 k (by omega) (by omega) (by omega)
theorem refPut_eq (t : Nat) (b : List UInt8) (ht : t < 256) (hb : b.length ≤ 100000) (k : Nat) (hk : 30 ≤ k) : gongref05_Put.f k (t : Int) (Bs b) = some (Bs (enc t b)) := by
  unfold gongref05_Put.f
  simp only [Option.bind_some]
  have hl := lenEnc_len b.length
  have h3 := (nby_le b.length (by omega)).2.1
  have h9 : (lenEnc b.length).length ≤ 5 := by split at hl <;> omega
  rw [size_Bs, short_eq _ k (by omega) hk]
  simp only [Option.bind_some]
  rw [one_byte, if_pos (by rw [size_Bs, size_Bs]; simp only [List.length_cons, List.length_nil]; omega), Bs_app, if_pos (by rw [size_Bs, List.length_append]; simp only [List.length_cons, List.length_nil]; omega), Bs_app]
  have e : u8 (t : Int) = UInt8.ofNat t := by unfold u8; congr 1; omega
  rw [e]
  simp [enc]
theorem refTrim : ∀ (l : List UInt8) (i k : Nat), l.length + i = 8 → i ≤ 7 → l.length + 2 ≤ k → gongref05_PutNumber.l1 k (Bs l) (i : Int) = some (Bs (trimS l))
  | [], i, k, hl, hi, hk => by simp at hl; omega
  | [a], i, k, hl, hi, hk => by
    obtain ⟨k, rfl⟩ : ∃ m, k = m + 1 := ⟨k - 1, by omega⟩
    simp only [List.length_cons, List.length_nil] at hl
    simp only [gongref05_PutNumber.l1]
    rw [if_neg (by omega)]
    rfl
  | a :: b :: r, i, k, hl, hi, hk => by
    simp only [List.length_cons] at hl hk
    obtain ⟨k, rfl⟩ : ∃ m, k = m + 1 := ⟨k - 1, by omega⟩
    have ih := refTrim (b :: r) (i + 1) k (by simp only [List.length_cons]; omega) (by omega) (by simp only [List.length_cons]; omega)
    have ea : bt (Bs (a :: b :: r)) 0 = (a.toNat : Int) := by rw [bt_L]; rfl
    have eb : bt (Bs (a :: b :: r)) 1 = (b.toNat : Int) := by rw [bt_L]; rfl
    have es : (Bs (a :: b :: r)).extract 1 (Bs (a :: b :: r)).size = Bs (b :: r) := by
      apply L_inj; rw [L_extract, L_Bs, L_Bs, size_Bs, List.take_of_length_le (Nat.le_refl _)]; rfl
    have s0 : (0 : Int) < ((Bs (a :: b :: r)).size : Int) := by rw [size_Bs]; simp only [List.length_cons]; omega
    have s1 : (1 : Int) < ((Bs (a :: b :: r)).size : Int) := by rw [size_Bs]; simp only [List.length_cons]; omega
    have s2 : (1 : Int) ≤ ((Bs (a :: b :: r)).size : Int) := by omega
    have hw : wrap64 ((i : Int) + 1) = ((i + 1 : Nat) : Int) := by rw [wrap_id (by omega) (by omega)]; omega
    have ha := a.toNat_lt
    have hb := b.toNat_lt
    simp only [gongref05_PutNumber.l1]
    rw [if_pos (by omega)]
    simp only [s0, s1, s2, if_true, ea, eb, es, hw, ih]
    have hsp : spareS (a :: b :: r) = ((decide (a.toNat = 0) && decide (b.toNat < 128)) || (decide (a.toNat = 255) && decide (128 ≤ b.toNat))) := rfl
    have htr : trimS (a :: b :: r) = if spareS (a :: b :: r) = true then trimS (b :: r) else a :: b :: r := rfl
    rw [htr, hsp]
    by_cases h0 : a.toNat = 0
    · rw [if_pos (by omega)]
      by_cases h1 : b.toNat < 128
      · rw [if_pos (by omega)]; simp [h0, h1]
      · rw [if_neg (by omega), if_neg (by omega)]; simp [h0, h1]
    · rw [if_neg (by omega)]
      by_cases h2 : a.toNat = 255
      · rw [if_pos (by omega)]
        by_cases h3 : 128 ≤ b.toNat
        · rw [if_pos (by omega)]; simp [h2, h3]
        · rw [if_neg (by omega)]; simp [h2, h3]
      · rw [if_neg (by omega)]; simp [h0, h2]
theorem shrI (n : Int) (j : Nat) (hj : j ≤ 7) (kd : IntKind) (hk : kd.bits = 64) : shr kd n (8 * (j : Int)) = n / 2 ^ (8 * j) := by
  unfold shr
  have e : (8 * (j : Int)).toNat = 8 * j := by omega
  rw [e, hk, Nat.min_eq_left (by omega)]
theorem refNumber (n : Int) (k : Nat) (hk : 20 ≤ k) : gongref05_PutNumber.f k n = some (Bs (trimS (W8 n))) := by
  obtain ⟨k, rfl⟩ : ∃ m, k = m + 9 := ⟨k - 9, by omega⟩
  have ht := refTrim (W8 n) 0 k (by rw [W8_len]) (by omega) (by rw [W8_len]; omega)
  have st : ∀ (j k : Nat) (acc : List UInt8), j ≤ 7 → acc.length ≤ 10 → gongref05_PutNumber.l0 (k + 1) n (Bs acc) (j : Int) = gongref05_PutNumber.l0 k n (Bs (acc ++ [u8 (n / 2 ^ (8 * j))])) ((j : Int) - 1) := by
    intro j k acc hj ha
    simp only [gongref05_PutNumber.l0]
    rw [if_pos (by omega), wrap_id (by omega) (by omega), if_pos (by omega), shrI n j hj .i64 rfl]
    simp only [Option.bind_some]
    rw [one_byte, if_pos (by rw [size_Bs, size_Bs]; simp; omega), Bs_app, wrap_id (by omega) (by omega)]
  unfold gongref05_PutNumber.f
  refine (st 7 (k + 8) [] (by omega) (by simp)).trans ?_
  refine (st 6 (k + 7) _ (by omega) (by simp)).trans ?_
  refine (st 5 (k + 6) _ (by omega) (by simp)).trans ?_
  refine (st 4 (k + 5) _ (by omega) (by simp)).trans ?_
  refine (st 3 (k + 4) _ (by omega) (by simp)).trans ?_
  refine (st 2 (k + 3) _ (by omega) (by simp)).trans ?_
  refine (st 1 (k + 2) _ (by omega) (by simp)).trans ?_
  refine (st 0 (k + 1) _ (by omega) (by simp)).trans ?_
  simp only [gongref05_PutNumber.l0]
  rw [if_neg (by omega)]
  exact ht
theorem ref9 (n : Int) (k : Nat) (hk : 20 ≤ k) : gongref05_PutNumber9.f k n = some (Bs (W8 n)) := by
  obtain ⟨k, rfl⟩ : ∃ m, k = m + 9 := ⟨k - 9, by omega⟩
  have st : ∀ (j k : Nat) (acc : List UInt8), j ≤ 7 → acc.length ≤ 10 → gongref05_PutNumber9.l0 (k + 1) n (Bs acc) (j : Int) = gongref05_PutNumber9.l0 k n (Bs (acc ++ [u8 (n / 2 ^ (8 * j))])) ((j : Int) - 1) := by
    intro j k acc hj ha
    simp only [gongref05_PutNumber9.l0]
    rw [if_pos (by omega), wrap_id (by omega) (by omega), if_pos (by omega), shrI n j hj .u64 rfl]
    simp only [Option.bind_some]
    rw [one_byte, if_pos (by rw [size_Bs, size_Bs]; simp; omega), Bs_app, wrap_id (by omega) (by omega)]
  unfold gongref05_PutNumber9.f
  refine (st 7 (k + 8) [] (by omega) (by simp)).trans ?_
  refine (st 6 (k + 7) _ (by omega) (by simp)).trans ?_
  refine (st 5 (k + 6) _ (by omega) (by simp)).trans ?_
  refine (st 4 (k + 5) _ (by omega) (by simp)).trans ?_
  refine (st 3 (k + 4) _ (by omega) (by simp)).trans ?_
  refine (st 2 (k + 3) _ (by omega) (by simp)).trans ?_
  refine (st 1 (k + 2) _ (by omega) (by simp)).trans ?_
  refine (st 0 (k + 1) _ (by omega) (by simp)).trans ?_
  simp only [gongref05_PutNumber9.l0]
  rw [if_neg (by omega)]
  rfl
theorem refUnsigned (n : Int) (h0 : 0 ≤ n) (h1 : n ≤ 18446744073709551615) (k : Nat) (hk : 20 ≤ k) : gongref05_PutUnsigned.f k n = some (Bs (trimS (0 :: W8 n))) := by
  have q7 : (2 : Int) ^ 56 = 72057594037927936 := rfl
  have hb := u8_ofInt (n / 2 ^ 56 % 256) (by omega) (by omega)
  have hs : spareS (0 :: W8 n) = decide (n < 9223372036854775808) := by
    rw [W8_eq]
    simp only [spareS]
    rw [q7] at hb
    rw [q7]
    rw [Bool.eq_iff_iff]
    simp
    simp at hb
    omega
  unfold gongref05_PutUnsigned.f
  rw [trimS, hs]
  by_cases h : n ≥ 9223372036854775808
  · rw [if_pos h, ref9 n k hk]
    simp only [Option.bind_some]
    rw [if_pos (by rw [size_Bs, W8_len]; omega), if_neg (by simp; omega), show (⟨#[0]⟩ : ByteArray) = Bs [0] from rfl, Bs_app]
    rfl
  · rw [if_neg h, wrap_id (by omega) (by omega), refNumber n k hk, if_pos (by simp; omega)]
    rfl
end Go.Proofs.YtjfimileopbadaaGreatDoor.BerS
/- Layer 7: what is shown of a value, and its element: the reference's and the program's are one. -/
namespace Go.Proofs.YtjfimileopbadaaGreatDoor.ValS
open Go.RowKit Gong Go.Proofs.YtjfimileopbadaaGreatDoor.XVaA Go.Proofs.YtjfimileopbadaaGreatDoor.OidS Go.Proofs.YtjfimileopbadaaGreatDoor.UtfS Go.Proofs.YtjfimileopbadaaGreatDoorW.PrintWords Go.Proofs.YtjfimileopbadaaGreatDoorW.PrintLast Go.Proofs.YtjfimileopbadaaGreatDoorW.PrintMore
set_option linter.unusedVariables false
set_option linter.unusedSimpArgs false
theorem hex_eq (k0 k1 : Int) (s : ByteArray) (k : Nat) (hs : s.size ≤ 100000) (hk : s.size + 1 ≤ k) : ∃ r, value_hex.f s = some r ∧ gongref07_Show.l1 k (⟨#[]⟩ : ByteArray) (⟨#[48, 49, 50, 51, 52, 53, 54, 55, 56, 57, 97, 98, 99, 100, 101, 102]⟩ : ByteArray) 0 k0 k1 s = some (r, 0) := by
  have h := hexs_eq k0 k1 s.size s ⟨#[]⟩ 0 k (by omega) (by omega) (by omega) (by show 0 + 2 * s.size ≤ _; omega) hk
  unfold value_hex.f
  rw [if_pos hs]
  refine ⟨_, rfl, ?_⟩
  rw [show ((0 : Nat) : Int) = 0 from rfl] at h
  rw [h, List.drop_zero]
  rfl
theorem big_show (n : Int) (k : Nat) (hk : 25 ≤ k) (kd k0 : Int) (x s : ByteArray) : ∃ r, strconv_FormatUint.f (IntKind.u64.wrap n) 10 = some r ∧ gongref07_Show.j0 k x kd true k0 n s = some (r, 0) := by
  obtain ⟨k, rfl⟩ : ∃ m, k = m + 1 := ⟨k - 1, by omega⟩
  obtain ⟨r, h1, h2⟩ := big_eq n k (by omega)
  refine ⟨r, h1, ?_⟩
  rw [gongref07_Show.j0, if_pos rfl, h2, Option.bind_some]
theorem show_same (kd n : Int) (s : ByteArray) (hs : s.size ≤ 3000 ∨ 65535 < s.size ∧ s.size ≤ 131072) (k : Nat) (hk : 12000 ≤ k) : ∃ r, value_Show.f k kd n s = some r ∧ gongref07_Show.f k kd n s = some r := by
  obtain ⟨k, rfl⟩ : ∃ m, k = m + 40 := ⟨k - 40, by omega⟩
  unfold value_Show.f gongref07_Show.f
  rw [right_eq kd n s (by omega) _ (by omega), chk_eq kd n s _ (by omega)]
  simp only [Option.bind_some]
  cases hok : okV kd n s with
  | false => exact ⟨(⟨#[]⟩, 70), rfl, rfl⟩
  | true =>
    rw [if_pos rfl, if_pos rfl, if_pos rfl, of_eq]
    simp only [Option.bind_some]
    by_cases h2 : kd = 2
    · subst h2
      rw [ok2] at hok
      have hr := of_decide_eq_true hok
      rw [if_pos (show formOf 2 = 1 from rfl), if_pos rfl]
      obtain ⟨r, h3, h4⟩ := int_eq n (k + 40) (by omega) hr.2.1 hr.2.2
      rw [h3]
      exact ⟨(r, 0), rfl, h4⟩
    rw [if_neg h2]
    by_cases hu : kd = 65 ∨ kd = 66 ∨ kd = 67 ∨ kd = 70
    · have e : formOf kd = 2 := by rcases hu with rfl | rfl | rfl | rfl <;> rfl
      obtain ⟨r, h3, h4⟩ := big_show n (k + 40) (by omega) kd kd ⟨#[]⟩ s
      rw [if_neg (by rw [e]; decide), if_pos e, h3]
      refine ⟨(r, 0), rfl, ?_⟩
      have e : (if kd = 65 then gongref07_Show.j0 (k + 40) (⟨#[]⟩ : ByteArray) kd (kd == 65) kd n s else if kd = 66 then gongref07_Show.j0 (k + 40) (⟨#[]⟩ : ByteArray) kd (kd == 66) kd n s else if kd = 67 then gongref07_Show.j0 (k + 40) (⟨#[]⟩ : ByteArray) kd (kd == 67) kd n s else gongref07_Show.j0 (k + 40) (⟨#[]⟩ : ByteArray) kd (kd == 70) kd n s) = gongref07_Show.j0 (k + 40) (⟨#[]⟩ : ByteArray) kd true kd n s := by
        rcases hu with rfl | rfl | rfl | rfl
        · rw [if_pos rfl]; rfl
        · rw [if_neg (by decide), if_pos rfl]; rfl
        · rw [if_neg (by decide), if_neg (by decide), if_pos rfl]; rfl
        · rw [if_neg (by decide), if_neg (by decide), if_neg (by decide)]; rfl
      rw [e]
      exact h4
    have e : (if kd = 65 then gongref07_Show.j0 (k + 40) (⟨#[]⟩ : ByteArray) kd (kd == 65) kd n s else if kd = 66 then gongref07_Show.j0 (k + 40) (⟨#[]⟩ : ByteArray) kd (kd == 66) kd n s else if kd = 67 then gongref07_Show.j0 (k + 40) (⟨#[]⟩ : ByteArray) kd (kd == 67) kd n s else gongref07_Show.j0 (k + 40) (⟨#[]⟩ : ByteArray) kd (kd == 70) kd n s) = gongref07_Show.j0 (k + 40) (⟨#[]⟩ : ByteArray) kd false kd n s := by
      rw [if_neg (by omega), if_neg (by omega), if_neg (by omega), show (kd == 70) = false from beq_eq_false_iff_ne.mpr (by omega)]
    rw [e, gongref07_Show.j0, if_neg Bool.false_ne_true]
    have e : formOf kd ≠ 1 ∧ formOf kd ≠ 2 := by
      unfold formOf
      rw [if_neg h2, if_neg hu]
      split
      · decide
      · split
        · decide
        · split <;> decide
    rw [if_neg e.1, if_neg e.2]
    by_cases h4 : kd = 4
    · subst h4
      rw [ok4 n s (.inl rfl)] at hok
      have hr := of_decide_eq_true hok
      rw [if_pos rfl, if_pos rfl, shown_eq s _ (by omega) (by omega), rshown_eq s _ (by omega) (by omega)]
      exact ⟨_, rfl, rfl⟩
    rw [if_neg h4, if_neg h4]
    by_cases h64 : kd = 64
    · subst h64
      rw [ok64 n s] at hok
      have hr := of_decide_eq_true hok
      obtain ⟨r, h5, h6⟩ := point_eq 64 n s (k + 9) hr.2
      rw [if_pos rfl, if_pos rfl, h5]
      exact ⟨(r, 0), rfl, h6⟩
    rw [if_neg h64, if_neg h64]
    by_cases h68 : kd = 68
    · subst h68
      rw [ok4 n s (.inr rfl)] at hok
      have hr := of_decide_eq_true hok
      obtain ⟨r, h5, h6⟩ := hex_eq 68 n s (k + 39) (by omega) (by omega)
      rw [if_pos rfl, if_pos rfl, h5]
      exact ⟨(r, 0), rfl, h6⟩
    rw [if_neg h68, if_neg h68]
    exact ⟨_, rfl, rfl⟩
theorem body_small {kd n : Int} {s : ByteArray} (h : okV kd n s = true) : (bodyV kd n s).length ≤ 65535 := by
  rcases ok_form h with ⟨rfl, rfl⟩ | ⟨rfl, _, x, hx, ha, _⟩ | ⟨hk, rfl⟩ | ⟨hk, _⟩
  · rcases body_len h with h1 | h1
    · omega
    · have : (⟨#[]⟩ : ByteArray).size = 0 := rfl
      omega
  · have e : bodyV 6 n s = encL x := by
      unfold bodyV
      rw [if_neg (by decide), if_neg (by decide), if_pos (show formOf 6 = 4 from rfl), ha]
    have := encL_small hx
    rw [e]
    omega
  · rcases body_len h with h1 | h1
    · omega
    · have : (⟨#[]⟩ : ByteArray).size = 0 := rfl
      omega
  · have hs : s.size ≤ 65535 := by
      rcases hk with rfl | rfl | rfl | rfl
      · rw [ok4 n s (.inl rfl)] at h; have := (of_decide_eq_true h).2; omega
      · rw [ok5] at h; rw [empty_of (of_decide_eq_true h).2]; show 0 ≤ _; omega
      · rw [ok64] at h; have := (of_decide_eq_true h).2; omega
      · rw [ok4 n s (.inr rfl)] at h; have := (of_decide_eq_true h).2; omega
    rcases body_len h with h1 | h1 <;> omega
/-- The reference's element. -/
theorem rput_ok {kd n : Int} {s : ByteArray} (h : okV kd n s = true) (hs : s.size ≤ 1000000) (k : Nat) (hk : 10000 ≤ k) : gongref07_Put.f k kd n s = some (Bs (BerS.enc kd.toNat (bodyV kd n s))) := by
  obtain ⟨t, ht, t1, t2, _⟩ := ok_tag h
  have hb := body_small h
  obtain ⟨k, rfl⟩ : ∃ m, k = m + 1 := ⟨k - 1, by omega⟩
  have hw := fun q (hq : 30 ≤ q) => BerS.refPut_eq t (bodyV kd n s) t1 (by omega) q hq
  rw [← ht] at hw
  rw [show kd.toNat = t by omega]
  unfold gongref07_Put.f
  by_cases h2 : kd = 2
  · subst h2
    have eb : bodyV 2 n s = BerS.trimS (BerS.W8 n) := by unfold bodyV; rw [if_pos (show formOf 2 = 1 from rfl)]
    rw [eb] at hw ⊢
    rw [if_pos rfl, BerS.refNumber n _ (by omega)]
    simp only [Option.bind_some]
    rw [hw _ (by omega)]
    rfl
  rw [if_neg h2]
  by_cases hu : kd = 65 ∨ kd = 66 ∨ kd = 67 ∨ kd = 70
  · have e : formOf kd = 2 := by rcases hu with rfl | rfl | rfl | rfl <;> rfl
    have eb : bodyV kd n s = BerS.trimS (0 :: BerS.W8 (IntKind.u64.wrap n)) := by unfold bodyV; rw [if_neg (by rw [e]; decide), if_pos e]
    rw [eb] at hw ⊢
    have e : (if kd = 65 then gongref07_Put.j0 (k + 1) kd (kd == 65) kd n s else if kd = 66 then gongref07_Put.j0 (k + 1) kd (kd == 66) kd n s else if kd = 67 then gongref07_Put.j0 (k + 1) kd (kd == 67) kd n s else gongref07_Put.j0 (k + 1) kd (kd == 70) kd n s) = gongref07_Put.j0 (k + 1) kd true kd n s := by
      rcases hu with rfl | rfl | rfl | rfl
      · rw [if_pos rfl]; rfl
      · rw [if_neg (by decide), if_pos rfl]; rfl
      · rw [if_neg (by decide), if_neg (by decide), if_pos rfl]; rfl
      · rw [if_neg (by decide), if_neg (by decide), if_neg (by decide)]; rfl
    have hr := u64_rng n
    rw [e, gongref07_Put.j0, if_pos rfl, BerS.refUnsigned _ hr.1 hr.2 k (by omega)]
    simp only [Option.bind_some]
    rw [hw _ (by omega)]
    rfl
  have e : (if kd = 65 then gongref07_Put.j0 (k + 1) kd (kd == 65) kd n s else if kd = 66 then gongref07_Put.j0 (k + 1) kd (kd == 66) kd n s else if kd = 67 then gongref07_Put.j0 (k + 1) kd (kd == 67) kd n s else gongref07_Put.j0 (k + 1) kd (kd == 70) kd n s) = gongref07_Put.j0 (k + 1) kd false kd n s := by
    rw [if_neg (by omega), if_neg (by omega), if_neg (by omega), show (kd == 70) = false from beq_eq_false_iff_ne.mpr (by omega)]
  rw [e, gongref07_Put.j0, if_neg Bool.false_ne_true]
  by_cases h6 : kd = 6
  · subst h6
    rcases ok_form h with ⟨h7, _⟩ | ⟨_, _, x, hx, ha, hsx⟩ | ⟨h7 | h7 | h7 | h7, _⟩ | ⟨h7 | h7 | h7 | h7, _⟩
    case inr.inl =>
      have eb : bodyV 6 n s = encL x := by unfold bodyV; rw [if_neg (by decide), if_neg (by decide), if_pos (show formOf 6 = 4 from rfl), ha]
      rw [eb] at hw ⊢
      obtain ⟨r, h8, h9⟩ := enc_same s (by omega) k (by omega)
      rw [if_pos rfl, h9]
      rw [hsx, enc_of hx k (by omega), Option.some.injEq] at h8
      subst h8
      simp only [Option.bind_some]
      rw [← BsEq, hw _ (by omega)]
      rfl
    all_goals exact absurd h7 (by decide)
  rw [if_neg h6]
  have e : formOf kd ≠ 1 ∧ formOf kd ≠ 2 ∧ formOf kd ≠ 4 := by
    unfold formOf
    rw [if_neg h2, if_neg h6, if_neg hu]
    split
    · decide
    · split <;> decide
  have eb : bodyV kd n s = L s := by unfold bodyV; rw [if_neg e.1, if_neg e.2.1, if_neg e.2.2]
  have e : BerS.Bs (L s) = s := Bs_L s
  rw [eb] at hw ⊢
  rw [e] at hw
  rw [hw _ (by omega)]
  rfl
theorem enc_bad (kd n : Int) (s : ByteArray) (hs : s.size ≤ 1000000) (k : Nat) (hk : 500 ≤ k) (h : okV kd n s = false) : value_Encode.f k kd n s = some (⟨#[]⟩, 70) := by
  unfold value_Encode.f
  rw [right_eq kd n s (by omega) _ hk, h]
  rfl
theorem venc_same (kd n : Int) (s : ByteArray) (hs : s.size ≤ 1000000) (h0 : -9223372036854775808 ≤ n) (h1 : n ≤ 9223372036854775807) (k : Nat) (hk : 10000 ≤ k) : ∃ r, value_Encode.f k kd n s = some r ∧ gongref07_Encode.f k kd n s = some r := by
  unfold gongref07_Encode.f
  rw [chk_eq kd n s k (by omega)]
  simp only [Option.bind_some]
  cases hok : okV kd n s with
  | false => exact ⟨_, enc_bad kd n s hs k (by omega) hok, rfl⟩
  | true =>
    rw [if_pos rfl, if_pos rfl, rput_ok hok hs k hk]
    exact ⟨_, enc_ok hok hs h0 h1 k (by omega), rfl⟩
end Go.Proofs.YtjfimileopbadaaGreatDoor.ValS
/- 'gonglaw07.ValueWrites': what the printed function answers is true. -/
namespace Go.Proofs.YtjfimileopbadaaGreatDoor.Pure
open Go.RowKit Gong Go.Proofs.YtjfimileopbadaaGreatDoor.XVaA Go.Proofs.YtjfimileopbadaaGreatDoor.ValS Go.Proofs.YtjfimileopbadaaGreatDoorW.PrintWords Go.Proofs.YtjfimileopbadaaGreatDoorW.PrintLast Go.Proofs.YtjfimileopbadaaGreatDoorW.PrintMore
set_option linter.unusedVariables false
theorem check_same (kd n : Int) (s : ByteArray) (hs : s.size ≤ 1000000) (k : Nat) (hk : 9100 ≤ k) : ∃ r, value_Check.f k kd n s = some r ∧ gongref07_Check.f k kd n s = some r := by
  unfold value_Check.f
  rw [right_eq kd n s (by omega) k (by omega), chk_eq kd n s k hk]
  simp only [Option.bind_some]
  cases hok : okV kd n s with
  | false => exact ⟨70, rfl, rfl⟩
  | true => exact ⟨0, rfl, rfl⟩
theorem body_at (kd n : Int) (s : ByteArray) (hs : s.size ≤ 3000 ∨ 65535 < s.size ∧ s.size ≤ 131072) (h0 : -9223372036854775808 ≤ n) (h1 : n ≤ 9223372036854775807) (k : Nat) (hk : 12000 ≤ k) : gonglaw07_ValueWrites.j0 (k + 1) false kd n s = some true := by
  rw [gonglaw07_ValueWrites.j0, if_neg Bool.false_ne_true]
  obtain ⟨r1, a1, b1⟩ := venc_same kd n s (by omega) h0 h1 k (by omega)
  obtain ⟨r2, a2, b2⟩ := show_same kd n s hs k hk
  obtain ⟨r3, a3, b3⟩ := check_same kd n s (by omega) k (by omega)
  rw [a1, b1, a2, b2, a3, b3, works_at k (by omega)]
  simp
theorem yes_at (kd n : Int) (s : ByteArray) (k : Nat) (hk : 500 ≤ k) : gonglaw07_ValueWrites.j0 (k + 1) true kd n s = some true := by
  rw [gonglaw07_ValueWrites.j0, if_pos rfl, works_at k hk]
  rfl
theorem wfn {x : Int} (h : (Lit.int .i64 x).wf = true) : -9223372036854775808 ≤ x ∧ x ≤ 9223372036854775807 := by
  simp [Lit.wf, IntKind.min, IntKind.max, IntKind.signed, IntKind.bits] at h
  exact h
theorem ValueWrites (a0 a1 : Int) (a2 : ByteArray) (w0 : (Lit.int .i64 a0).wf = true ∧ (Lit.int .i64 a1).wf = true ∧ a2.size ≤ 140737488351232) : ∃ k, gonglaw07_ValueWrites.f k a0 a1 a2 = some true := by
  refine ⟨12001, ?_⟩
  have hn := wfn w0.2.1
  unfold gonglaw07_ValueWrites.f
  by_cases c1 : (a2.size : Int) > 3000
  · rw [if_pos c1]
    by_cases c2 : (a2.size : Int) ≤ 65535
    · rw [if_pos c2]
      exact yes_at a0 a1 a2 12000 (by decide)
    · rw [if_neg c2]
      by_cases c3 : (a2.size : Int) > 131072
      · rw [decide_eq_true c3]
        exact yes_at a0 a1 a2 12000 (by decide)
      · rw [decide_eq_false c3]
        exact body_at a0 a1 a2 (.inr ⟨by omega, by omega⟩) hn.1 hn.2 12000 (by decide)
  · rw [if_neg c1, decide_eq_false (by omega)]
    exact body_at a0 a1 a2 (.inl (by omega)) hn.1 hn.2 12000 (by decide)
end Go.Proofs.YtjfimileopbadaaGreatDoor.Pure
