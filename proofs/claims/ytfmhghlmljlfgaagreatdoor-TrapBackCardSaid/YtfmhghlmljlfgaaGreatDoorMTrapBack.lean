/- The plain texts behind the law, one after the other. -/
import Derived.Test.YtfmhghlmljlfgaaGreatDoorXTrSx23
import Derived.Test.YtfmhghlmljlfgaaGreatDoorXTrSx21
import Derived.Test.YtfmhghlmljlfgaaGreatDoorXTrSx18
import Derived.Test.YtfmhghlmljlfgaaGreatDoorXTrSx19
import Derived.Test.YtfmhghlmljlfgaaGreatDoorXTrSx5
import Derived.Test.YtfmhghlmljlfgaaGreatDoorXTrSx6
import Derived.Test.YtfmhghlmljlfgaaGreatDoorXTrSx7
import Derived.Test.YtfmhghlmljlfgaaGreatDoorXTrSx8
import Derived.Test.YtfmhghlmljlfgaaGreatDoorXTrSx9
import Derived.Test.YtfmhghlmljlfgaaGreatDoorXTrSx10
import Derived.Test.YtfmhghlmljlfgaaGreatDoorXTrSx11
import Derived.Test.YtfmhghlmljlfgaaGreatDoorXTrSx12
import Derived.Test.YtfmhghlmljlfgaaGreatDoorXTrSx13
import Derived.Test.YtfmhghlmljlfgaaGreatDoorXTrSx14
import Derived.Test.YtfmhghlmljlfgaaGreatDoorXTrSx15
import Derived.Test.YtfmhghlmljlfgaaGreatDoorXTrSx16
import Derived.Test.YtfmhghlmljlfgaaGreatDoorXTrSx17
import Derived.Lib.ItoaNum
import Derived.Lib.AtoiAll
import Derived.Lib.SplitLaws
import Derived.Lib.IndexBytes
import Derived.Lib.Join
import Derived.Lib.SlTrimSet
/- Numbers as decimal digits, and texts cut at a byte: plain lists. -/
namespace Go.Proofs.YtfmhghlmljlfgaaGreatDoor.DecS
open Go
set_option linter.unusedVariables false
set_option linter.unusedSimpArgs false
theorem snoc_ind {α : Type} {P : List α → Prop} (h0 : P []) (h1 : ∀ l b, P l → P (l ++ [b])) : ∀ l, P l := by
 intro l
 have : ∀ (n : Nat) (l : List α), l.length = n → P l := by
  intro n
  induction n with
  | zero => intro l h; rw [List.eq_nil_of_length_eq_zero h]; exact h0
  | succ n ih =>
   intro l h
   have hn : l ≠ [] := by rintro rfl; simp at h
   rw [← List.dropLast_concat_getLast hn]
   exact h1 _ _ (ih _ (by rw [List.length_dropLast, h]; rfl))
 exact this _ l rfl
theorem head_app {α : Type} {l : List α} (h : l ≠ []) (m : List α) : (l ++ m).head? = l.head? := by
 cases l with
 | nil => exact absurd rfl h
 | cons a l => rfl
theorem dw_nil {α : Type} {p : α → Bool} : ∀ {l : List α}, l.dropWhile p = [] ↔ ∀ x ∈ l, p x = true
 | [] => by simp
 | a :: l => by
  rw [List.dropWhile_cons]
  by_cases h : p a = true
  ·rw [if_pos h, dw_nil]
   simp [h]
  ·rw [if_neg h]
   simp [h]
theorem tw_mem {α : Type} {p : α → Bool} {x : α} : ∀ {l : List α}, x ∈ l.takeWhile p → p x = true
 | [], h => by simp at h
 | a :: l, h => by
  rw [List.takeWhile_cons] at h
  by_cases ha : p a = true
  ·rw [if_pos ha, List.mem_cons] at h
   rcases h with rfl | h
   ·exact ha
   ·exact tw_mem h
  ·rw [if_neg ha] at h
   simp at h
def isD (b : UInt8) : Bool := decide (48 ≤ b.toNat ∧ b.toNat ≤ 57)
def val (l : List UInt8) : Nat := l.foldl (fun a b => a * 10 + (b.toNat - 48)) 0
theorem val_snoc (l : List UInt8) (b : UInt8) : val (l ++ [b]) = val l * 10 + (b.toNat - 48) := by simp [val]
structure Canon (l : List UInt8) : Prop where
 ne : l ≠ []
 dig : ∀ b ∈ l, isD b = true
 hd : 1 < l.length → l.head? ≠ some 48
theorem digit_byte (u : Nat) (h : u < 10) : (UInt8.ofNat (48 + u)).toNat = 48 + u := by
 rw [UInt8.toNat_ofNat']
 omega
theorem isD_byte (u : Nat) (h : u < 10) : isD (UInt8.ofNat (48 + u)) = true := by
 unfold isD
 rw [digit_byte u h]
 simp
 omega
theorem isD_iff {b : UInt8} (h : isD b = true) : 48 ≤ b.toNat ∧ b.toNat ≤ 57 := by simpa [isD] using h
theorem byte_of {b : UInt8} (h : isD b = true) : UInt8.ofNat (48 + (b.toNat - 48)) = b := by
 have := isD_iff h
 rw [show 48 + (b.toNat - 48) = b.toNat from by omega, UInt8.ofNat_toNat]
theorem dd_step (u : Nat) (h : ¬ u < 10) : Lib.decDigits u = Lib.decDigits (u / 10) ++ [UInt8.ofNat (48 + u % 10)] := by
 conv => lhs; rw [Lib.decDigits, dif_neg h]
theorem dd_one (u : Nat) (h : u < 10) : Lib.decDigits u = [UInt8.ofNat (48 + u)] := by rw [Lib.decDigits, dif_pos h]
theorem val_dd : ∀ u : Nat, val (Lib.decDigits u) = u := by
 intro u
 induction u using Nat.strongRecOn with
 | _ u ih =>
  by_cases h : u < 10
  ·rw [dd_one u h, show val [UInt8.ofNat (48 + u)] = 0 * 10 + ((UInt8.ofNat (48 + u)).toNat - 48) from rfl, digit_byte u h]
   omega
  ·rw [dd_step u h, val_snoc, ih (u / 10) (by omega), digit_byte _ (by omega)]
   omega
theorem dd_ne (u : Nat) : Lib.decDigits u ≠ [] := by
 rw [Lib.decDigits]
 split <;> simp
theorem dd_head : ∀ u : Nat, 10 ≤ u → (Lib.decDigits u).head? ≠ some 48 := by
 intro u
 induction u using Nat.strongRecOn with
 | _ u ih =>
  intro h
  rw [dd_step u (by omega), head_app (dd_ne _)]
  by_cases h2 : u / 10 < 10
  ·rw [dd_one _ h2]
   simp only [List.head?_cons, ne_eq, Option.some.injEq]
   intro e
   have := digit_byte (u / 10) h2
   rw [e] at this
   have e48 : (48 : UInt8).toNat = 48 := rfl
   omega
  ·exact ih (u / 10) (by omega) (by omega)
theorem dd_dig : ∀ u : Nat, ∀ b ∈ Lib.decDigits u, isD b = true := by
 intro u
 induction u using Nat.strongRecOn with
 | _ u ih =>
  intro b hb
  by_cases h : u < 10
  ·rw [dd_one u h, List.mem_singleton] at hb
   rw [hb]; exact isD_byte u h
  ·rw [dd_step u h, List.mem_append, List.mem_singleton] at hb
   rcases hb with hb | hb
   ·exact ih (u / 10) (by omega) b hb
   ·rw [hb]; exact isD_byte _ (by omega)
theorem dd_canon (u : Nat) : Canon (Lib.decDigits u) := by
 refine ⟨dd_ne u, dd_dig u, fun h => ?_⟩
 by_cases h2 : u < 10
 ·rw [dd_one u h2] at h; simp at h
 ·exact dd_head u (by omega)
theorem val_pos {l : List UInt8} (hd : ∀ b ∈ l, isD b = true) (hh : l.head? ≠ some 48) (hn : l ≠ []) : 0 < val l := by
 induction l using snoc_ind with
 | h0 => exact absurd rfl hn
 | h1 l b ih =>
  rw [val_snoc]
  by_cases h0 : l = []
  ·subst h0
   have h1 := isD_iff (hd b (by simp))
   have h2 : b.toNat ≠ 48 := fun e => by
    apply hh
    have : b = 48 := UInt8.toNat_inj.1 e
    rw [this]; rfl
   omega
  ·have := ih (fun x hx => hd x (by simp [hx])) (by rwa [head_app h0] at hh) h0
   omega
theorem dd_val {l : List UInt8} (h : Canon l) : Lib.decDigits (val l) = l := by
 induction l using snoc_ind with
 | h0 => exact absurd rfl h.ne
 | h1 l b ih =>
  have hb := h.dig b (by simp)
  have h1 := isD_iff hb
  rw [val_snoc]
  by_cases h0 : l = []
  ·subst h0
   rw [show val [] = 0 from rfl, Nat.zero_mul, Nat.zero_add, dd_one _ (by omega), byte_of hb]
   rfl
  ·have hdl : ∀ x ∈ l, isD x = true := fun x hx => h.dig x (by simp [hx])
   have hl : 1 < (l ++ [b]).length := by
    have := List.length_pos_iff.2 h0
    simp only [List.length_append, List.length_cons, List.length_nil]
    omega
   have hh := h.hd hl
   rw [head_app h0] at hh
   have hp := val_pos hdl hh h0
   have hc : Canon l := ⟨h0, hdl, fun _ => hh⟩
   rw [dd_step _ (by omega), show (val l * 10 + (b.toNat - 48)) / 10 = val l from by omega, show (val l * 10 + (b.toNat - 48)) % 10 = b.toNat - 48 from by omega, ih hc, byte_of hb]
theorem val_lt {l : List UInt8} (h : ∀ b ∈ l, isD b = true) : val l < 10 ^ l.length := by
 induction l using snoc_ind with
 | h0 => simp [val]
 | h1 l b ih =>
  have h1 := isD_iff (h b (by simp))
  have := ih (fun x hx => h x (by simp [hx]))
  rw [val_snoc, List.length_append, List.length_cons, List.length_nil, Nat.pow_succ]
  omega
theorem parse_digits : ∀ (l : List UInt8) (acc : Nat), (∀ b ∈ l, isD b = true) → acc * 10 ^ l.length + 10 ^ l.length ≤ 1000000000000000000 → Lib.parseUint10 acc l = .ok (l.foldl (fun a b => a * 10 + (b.toNat - 48)) acc)
 | [], acc, _, _ => rfl
 | b :: l, acc, hd, hb => by
  have h1 := isD_iff (hd b (by simp))
  have hp : 1 ≤ 10 ^ l.length := Nat.pow_pos (by decide)
  rw [List.length_cons, Nat.pow_succ] at hb
  have h2 : acc * 10 + 10 ≤ 1000000000000000000 := by
   have h3 : (acc * 10 + 10) * 1 ≤ (acc * 10 + 10) * 10 ^ l.length := Nat.mul_le_mul_left _ hp
   have h4 : (acc * 10 + 10) * 10 ^ l.length = acc * (10 ^ l.length * 10) + 10 ^ l.length * 10 := by
    rw [Nat.add_mul, Nat.mul_assoc, Nat.mul_comm 10 (10 ^ l.length)]
   omega
  unfold Lib.parseUint10
  rw [if_pos h1, if_neg (by omega), if_neg (by omega)]
  refine parse_digits l _ (fun x hx => hd x (by simp [hx])) ?_
  have h5 : (acc * 10 + (b.toNat - 48)) * 10 ^ l.length + 10 ^ l.length ≤ acc * (10 ^ l.length * 10) + 10 ^ l.length * 10 := by
   have h6 : (b.toNat - 48) * 10 ^ l.length ≤ 9 * 10 ^ l.length := Nat.mul_le_mul_right _ (by omega)
   rw [Nat.add_mul, Nat.mul_assoc, Nat.mul_comm 10 (10 ^ l.length)]
   omega
  omega
theorem atoi_digits {l : List UInt8} (hd : ∀ b ∈ l, isD b = true) (hn : l ≠ []) (hl : l.length ≤ 17) : Lib.atoiAll l = .ok (val l : Int) := by
 cases l with
 | nil => exact absurd rfl hn
 | cons c r =>
  have h1 := isD_iff (hd c (by simp))
  have hp : (10 : Nat) ^ (c :: r).length ≤ 10 ^ 17 := Nat.pow_le_pow_right (by decide) hl
  have hpm : Lib.parseMag (c :: r) = .ok (val (c :: r)) := by
   unfold Lib.parseMag
   rw [if_neg (by simp)]
   exact parse_digits (c :: r) 0 hd (by rw [Nat.zero_mul, Nat.zero_add]; exact Nat.le_trans hp (by decide))
  have hv := val_lt hd
  unfold Lib.atoiAll
  simp only
  rw [if_neg (by omega), hpm]
  simp only
  have h45 : ¬ c.toNat = 45 := by omega
  have hlt : val (c :: r) < 10 ^ 17 := Nat.lt_of_lt_of_le hv hp
  rw [if_neg (by rintro ⟨_, h⟩; omega), if_neg (by rintro ⟨h, _⟩; exact h45 h), if_neg h45]
theorem trim_nil {l : List UInt8} : Lib.trimS l [48, 49, 50, 51, 52, 53, 54, 55, 56, 57] = [] ↔ ∀ b ∈ l, isD b = true := by
 have hc : ∀ b : UInt8, ([48, 49, 50, 51, 52, 53, 54, 55, 56, 57] : List UInt8).contains b = isD b := by
  have : ∀ n : Fin 256, ([48, 49, 50, 51, 52, 53, 54, 55, 56, 57] : List UInt8).contains (UInt8.ofNat n.val) = isD (UInt8.ofNat n.val) := by decide +kernel
  intro b
  have h := this ⟨b.toNat, b.toNat_lt⟩
  rw [UInt8.ofNat_toNat] at h
  exact h
 have hf : (fun b : UInt8 => ([48, 49, 50, 51, 52, 53, 54, 55, 56, 57] : List UInt8).contains b) = isD := funext hc
 unfold Lib.trimS Lib.trimLeftS Lib.trimRightS
 rw [hf]
 constructor
 ·intro h b hb
  have h1 : ∀ x ∈ (l.reverse.dropWhile isD).reverse, isD x = true := by
   intro x hx
   have := dw_nil.1 h
   exact this x hx
  by_cases hm : b ∈ l.reverse.dropWhile isD
  ·exact h1 b (List.mem_reverse.2 hm)
  ·have hs := List.takeWhile_append_dropWhile (p := isD) (l := l.reverse)
   have hb2 : b ∈ l.reverse.takeWhile isD ++ l.reverse.dropWhile isD := by rw [hs]; exact List.mem_reverse.2 hb
   rcases List.mem_append.1 hb2 with hb3 | hb3
   ·exact tw_mem hb3
   ·exact absurd hb3 hm
 ·intro h
  have h1 : l.reverse.dropWhile isD = [] := dw_nil.2 (fun x hx => h x (List.mem_reverse.1 hx))
  rw [h1]
  rfl
end Go.Proofs.YtfmhghlmljlfgaaGreatDoor.DecS
/- Texts cut at a byte, and put together again: plain lists. -/
namespace Go.Proofs.YtfmhghlmljlfgaaGreatDoor.DecS
open Go
set_option linter.unusedVariables false
set_option linter.unusedSimpArgs false
def splitL (c : UInt8) : List UInt8 → List (List UInt8)
 | [] => [[]]
 | b :: l => if b = c then [] :: splitL c l else (match splitL c l with
  | [] => [[b]]
  | w :: ws => (b :: w) :: ws)
def joinL (c : UInt8) : List (List UInt8) → List UInt8
 | [] => []
 | [w] => w
 | w :: v :: ws => w ++ c :: joinL c (v :: ws)
theorem splitL_cons (c : UInt8) (l : List UInt8) : ∃ w ws, splitL c l = w :: ws := by
 cases l with
 | nil => exact ⟨[], [], rfl⟩
 | cons b l =>
  unfold splitL
  split
  ·exact ⟨_, _, rfl⟩
  ·split <;> exact ⟨_, _, rfl⟩
theorem splitL_sep (c : UInt8) (l : List UInt8) : splitL c (c :: l) = [] :: splitL c l := by
 rw [splitL, if_pos rfl]
theorem splitL_other {c b : UInt8} (h : b ≠ c) {l : List UInt8} {w : List UInt8} {ws : List (List UInt8)} (hl : splitL c l = w :: ws) : splitL c (b :: l) = (b :: w) :: ws := by
 rw [splitL, if_neg h, hl]
theorem join_split (c : UInt8) : ∀ l : List UInt8, joinL c (splitL c l) = l
 | [] => rfl
 | b :: l => by
  obtain ⟨w, ws, hw⟩ := splitL_cons c l
  have ih := join_split c l
  rw [hw] at ih
  by_cases h : b = c
  ·subst h
   rw [splitL_sep, hw]
   show [] ++ b :: joinL b (w :: ws) = _
   rw [ih]; rfl
  ·rw [splitL_other h hw]
   cases ws with
   | nil => show b :: w = b :: l; rw [show joinL c [w] = w from rfl] at ih; rw [ih]
   | cons v ws =>
    show (b :: w) ++ c :: joinL c (v :: ws) = b :: l
    rw [show joinL c (w :: v :: ws) = w ++ c :: joinL c (v :: ws) from rfl] at ih
    rw [List.cons_append, ih]
theorem split_app (c : UInt8) : ∀ (w l : List UInt8), c ∉ w → splitL c (w ++ c :: l) = w :: splitL c l
 | [], l, _ => splitL_sep c l
 | b :: w, l, h => by
  simp only [List.mem_cons, not_or] at h
  exact splitL_other (fun e => h.1 e.symm) (split_app c w l h.2)
theorem split_none (c : UInt8) : ∀ (w : List UInt8), c ∉ w → splitL c w = [w]
 | [], _ => rfl
 | b :: w, h => by
  simp only [List.mem_cons, not_or] at h
  exact splitL_other (fun e => h.1 e.symm) (split_none c w h.2)
theorem split_join (c : UInt8) : ∀ (ws : List (List UInt8)), ws ≠ [] → (∀ w ∈ ws, c ∉ w) → splitL c (joinL c ws) = ws
 | [], h, _ => absurd rfl h
 | [w], _, h => split_none c w (h w (by simp))
 | w :: v :: ws, _, h => by
  show splitL c (w ++ c :: joinL c (v :: ws)) = _
  rw [split_app c w _ (h w (by simp)), split_join c (v :: ws) (by simp) (fun x hx => h x (by simp only [List.mem_cons] at hx ⊢; exact .inr hx))]
theorem split_len (c : UInt8) : ∀ l : List UInt8, (splitL c l).length = l.count c + 1
 | [] => rfl
 | b :: l => by
  obtain ⟨v, vs, hv⟩ := splitL_cons c l
  have ih := split_len c l
  by_cases h : b = c
  ·subst h
   rw [splitL_sep, List.length_cons, ih, List.count_cons_self]
  ·rw [splitL_other h hv, List.length_cons, List.count_cons_of_ne h, ← ih, hv, List.length_cons]
theorem lib_join (c : UInt8) : ∀ ws : List (List UInt8), Lib.join ws [c] = joinL c ws
 | [] => rfl
 | [w] => Lib.join_one w [c]
 | w :: v :: ws => by
  have ih := lib_join c (v :: ws)
  show _ = w ++ c :: joinL c (v :: ws)
  rw [← ih, Lib.join_cons, Lib.join_cons]
  simp [Lib.joinTail]
theorem splitK_one (c : UInt8) : ∀ (l : List UInt8), Lib.splitK [c] 0 (l.count c) l = splitL c l
 | [] => rfl
 | b :: l => by
  have ih := splitK_one c l
  obtain ⟨v, vs, hv⟩ := splitL_cons c l
  by_cases h : b = c
  ·subst h
   rw [List.count_cons_self, splitL_sep]
   have hx : Lib.index (b :: l) [b] = 0 := by rw [Lib.index_one, Lib.indexByte, if_pos (by simp)]
   unfold Lib.splitK
   rw [hx, if_neg (by decide)]
   show [] :: Lib.splitK [b] 0 (l.count b) l = _
   rw [ih]
  ·rw [List.count_cons_of_ne h, splitL_other h hv]
   have hx : Lib.index (b :: l) [c] = if Lib.index l [c] == -1 then -1 else Lib.index l [c] + 1 := by
    rw [Lib.index_one, Lib.index_one, Lib.indexByte, if_neg (by simpa using h)]
   cases hk : l.count c with
   | zero =>
    rw [hk] at ih
    have e : [l] = splitL c l := ih
    rw [hv] at e
    injection e with e1 e2
    show [b :: l] = _
    rw [e1, ← e2]
   | succ k =>
    rw [hk] at ih
    unfold Lib.splitK at ih ⊢
    by_cases hm : Lib.index l [c] = -1
    ·have hx2 : Lib.index (b :: l) [c] = -1 := by rw [hx, hm]; rfl
     rw [hx2, if_pos (by decide)]
     rw [hm, if_pos (by decide), hv] at ih
     injection ih with e1 e2
     rw [e1, ← e2]
    ·have hge := Lib.index_ge l [c]
     obtain ⟨j, hj⟩ : ∃ j : Nat, Lib.index l [c] = j := ⟨(Lib.index l [c]).toNat, by omega⟩
     have n1 : ((j : Int) == -1) = false := beq_eq_false_iff_ne.mpr (by omega)
     have n2 : ((j : Int) + 1 == -1) = false := beq_eq_false_iff_ne.mpr (by omega)
     have hx2 : Lib.index (b :: l) [c] = (j : Int) + 1 := by rw [hx, hj, n1]; rfl
     rw [hj, n1, if_neg (by decide), hv] at ih
     rw [hx2, n2, if_neg (by decide)]
     injection ih with e1 e2
     have t1 : ((j : Int) + 1).toNat = j + 1 := by omega
     rw [t1]
     simp only [Int.toNat_natCast, Nat.add_zero, List.length_cons, List.length_nil, Nat.zero_add] at e1 e2 ⊢
     rw [show j + 1 + 1 = (j + 1) + 1 from rfl, List.take_succ_cons, List.drop_succ_cons, e1, e2]
end Go.Proofs.YtfmhghlmljlfgaaGreatDoor.DecS
/- Layer 6: what Arcs, Text, Less, Within, Child and Rest answer, over lists. -/
namespace Go.Proofs.YtfmhghlmljlfgaaGreatDoor.OidS
open Go.RowKit Gong Go.Proofs.YtfmhghlmljlfgaaGreatDoor.XTrS Go.Proofs.YtfmhghlmljlfgaaGreatDoor.DecS Go.Proofs.YtfmhghlmljlfgaaGreatDoorW.PrintWords Go.Proofs.YtfmhghlmljlfgaaGreatDoorW.PrintLast Go.Proofs.YtfmhghlmljlfgaaGreatDoorW.PrintMore
set_option linter.unusedVariables false
set_option linter.unusedSimpArgs false
theorem wrap_id {x : Int} (h1 : -9223372036854775808 ≤ x) (h2 : x ≤ 9223372036854775807) : wrap64 x = x := by unfold wrap64; omega
theorem wrap_succ (i : Nat) (h : i ≤ 4611686018427387904) : wrap64 ((i : Int) + 1) = ((i + 1 : Nat) : Int) := by unfold wrap64; omega
def L (s : ByteArray) : List UInt8 := s.data.toList
def Bs (l : List UInt8) : ByteArray := ⟨l.toArray⟩
theorem L_Bs (l : List UInt8) : L (Bs l) = l := by simp [L, Bs]
theorem Bs_L (s : ByteArray) : Bs (L s) = s := by cases s; simp [L, Bs]
theorem L_inj {a b : ByteArray} (h : L a = L b) : a = b := by rw [← Bs_L a, h, Bs_L]
theorem L_len (s : ByteArray) : (L s).length = s.size := by simp [L]
theorem toList_L (s : ByteArray) : s.toList = L s := Go.ByteArray.toList_eq s
def arcOf (w : List UInt8) : Int := if w ≠ [] ∧ w.length ≤ 10 ∧ ¬ (1 < w.length ∧ w.head? = some 48) ∧ w.all isD = true then (val w : Int) else -1
theorem arcOf_canon {w : List UInt8} (h : 0 ≤ arcOf w) : Canon w ∧ arcOf w = (val w : Int) ∧ w.length ≤ 10 := by
 unfold arcOf at h ⊢
 by_cases c : w ≠ [] ∧ w.length ≤ 10 ∧ ¬ (1 < w.length ∧ w.head? = some 48) ∧ w.all isD = true
 ·rw [if_pos c]
  obtain ⟨c1, c2, c3, c4⟩ := c
  exact ⟨⟨c1, fun b hb => List.all_eq_true.1 c4 b hb, fun h1 e => c3 ⟨h1, e⟩⟩, rfl, c2⟩
 ·rw [if_neg c] at h
  omega
theorem dd_short : ∀ (n : Nat), n < 10000000000 → (Lib.decDigits n).length ≤ 10 := by
 have key : ∀ (m n : Nat), n < 10 ^ (m + 1) → (Lib.decDigits n).length ≤ m + 1 := by
  intro m
  induction m with
  | zero => intro n h; rw [dd_one n (by omega)]; exact Nat.le_refl _
  | succ m ih =>
   intro n h
   by_cases c : n < 10
   ·rw [dd_one n c]; simp
   ·rw [dd_step n c, List.length_append]
    have := ih (n / 10) (by rw [Nat.pow_succ] at h; omega)
    simp only [List.length_cons, List.length_nil]
    omega
 intro n h
 exact key 9 n h
theorem arcOf_dd (n : Nat) (h : n < 10000000000) : arcOf (Lib.decDigits n) = (n : Int) := by
 have hc := dd_canon n
 unfold arcOf
 rw [if_pos ⟨hc.ne, dd_short n h, fun h1 => hc.hd h1.1 h1.2, List.all_eq_true.2 hc.dig⟩, val_dd]
theorem dd_arcOf {w : List UInt8} (h : 0 ≤ arcOf w) : Lib.decDigits (arcOf w).toNat = w := by
 obtain ⟨hc, e, _⟩ := arcOf_canon h
 rw [e, Int.toNat_natCast]
 exact dd_val hc
theorem bt_head (s : ByteArray) (h : 0 < s.size) : bt s 0 = 48 ↔ (L s).head? = some 48 := by
 have h1 : bt s 0 = ((s[0]'h).toNat : Int) := (bt_at s 0 h).symm
 have h2 : (L s).head? = some (s[0]'h) := by
  have h3 : 0 < (L s).length := by rw [L_len]; exact h
  rw [List.head?_eq_getElem?, List.getElem?_eq_getElem h3]
  rfl
 rw [h1, h2]
 constructor
 ·intro e
  rw [Option.some.injEq]
  exact UInt8.toNat_inj.1 (by have e48 : (48 : UInt8).toNat = 48 := rfl; omega)
 ·intro e
  rw [Option.some.injEq] at e
  rw [e]; rfl
theorem arc_eq (s : ByteArray) : oid_arc.f s = some (arcOf (L s)) := by
 have hl := L_len s
 unfold oid_arc.f arcOf
 by_cases c0 : s.size = 0
 ·rw [if_pos c0, if_neg (fun h => h.1 (List.eq_nil_of_length_eq_zero (by omega)))]
 ·rw [if_neg c0]
  by_cases c1 : 10 < s.size
  ·rw [if_pos c1, if_neg (fun h => by have := h.2.1; omega)]
  ·rw [if_neg c1]
   by_cases c2 : 1 < s.size ∧ bt s 0 = 48
   ·rw [if_pos c2, if_neg (fun h => h.2.2.1 ⟨by omega, (bt_head s (by omega)).1 c2.2⟩)]
   ·rw [if_neg c2]
    by_cases c3 : Lib.trimS s.data.toList [48, 49, 50, 51, 52, 53, 54, 55, 56, 57] = []
    ·rw [if_pos c3]
     have hd := trim_nil.1 c3
     have hne : L s ≠ [] := fun e => by rw [e] at hl; simp at hl; omega
     have ha : Lib.atoiAll s.data.toList = .ok (val (L s) : Int) := atoi_digits hd hne (by show (L s).length ≤ 17; omega)
     rw [ha, if_pos ⟨hne, by omega, fun h => c2 ⟨by omega, (bt_head s (by omega)).2 h.2⟩, List.all_eq_true.2 hd⟩]
    ·rw [if_neg c3, if_neg (fun h => c3 (trim_nil.2 (List.all_eq_true.1 h.2.2.2)))]
def heads : List Int → Bool
 | a :: b :: _ => decide ((a < 2 ∧ b < 40) ∨ (a = 2 ∧ b ≤ 4294967215))
 | _ => false
def isS (l : List Int) : Bool := decide (2 ≤ l.length) && decide (l.length ≤ 128) && l.all (fun x => decide (0 ≤ x ∧ x ≤ 4294967295)) && heads l
theorem rd_get (l : List Int) (i : Nat) (h : i < l.length) : rd l (i : Int) = l[i]'h := by
 unfold rd
 rw [Int.toNat_natCast, List.getD_eq_getElem?_getD, List.getElem?_eq_getElem h]
 rfl
theorem is_loop (l : List Int) (h2 : 2 ≤ l.length) (h3 : l.length ≤ 128) : ∀ (d i k : Nat), i + d = l.length → d < k →
  oid_is.l0 k l l (l.length : Int) (i : Int) = some ((l.drop i).all (fun x => decide (0 ≤ x ∧ x ≤ 4294967295)) && heads l) := by
 intro d
 induction d with
 | zero =>
  intro i k hi hk
  obtain ⟨k, rfl⟩ : ∃ m, k = m + 1 := ⟨k - 1, by omega⟩
  simp only [oid_is.l0]
  have e : l.drop i = [] := List.drop_eq_nil_of_le (by omega)
  rw [if_neg (by omega), e]
  match l, h2 with
  | a :: b :: r, _ =>
   have r0 : rd (a :: b :: r) 0 = a := rfl
   have r1 : rd (a :: b :: r) 1 = b := rfl
   rw [r0, r1, if_pos (by simp only [List.length_cons]; omega)]
   simp only [List.all_nil, Bool.true_and, heads]
   by_cases c : a < 2
   ·rw [if_pos c, if_pos (by simp only [List.length_cons]; omega)]
    congr 1
    rw [Bool.eq_iff_iff]
    simp only [decide_eq_true_eq]
    omega
   ·rw [if_neg c]
    by_cases c2 : a = 2
    ·rw [if_pos c2, if_pos (by simp only [List.length_cons]; omega)]
     congr 1
     rw [Bool.eq_iff_iff]
     simp only [decide_eq_true_eq]
     omega
    ·rw [if_neg c2]
     congr 1
     rw [eq_comm, decide_eq_false_iff_not]
     omega
 | succ d ih =>
  intro i k hi hk
  obtain ⟨k, rfl⟩ : ∃ m, k = m + 1 := ⟨k - 1, by omega⟩
  have hlt : i < l.length := by omega
  simp only [oid_is.l0]
  rw [if_pos (by omega), if_pos (by omega), if_pos (by omega), rd_get l i hlt, List.drop_eq_getElem_cons hlt, List.all_cons]
  by_cases c1 : l[i] < 0
  ·rw [if_pos c1, decide_eq_false (by omega)]
   rfl
  ·rw [if_neg c1]
   by_cases c2 : l[i] > 4294967295
   ·rw [if_pos c2, decide_eq_false (by omega)]
    rfl
   ·rw [if_neg c2, wrap_succ i (by omega), decide_eq_true (by omega), Bool.true_and]
    exact ih (i + 1) k (by omega) (by omega)
theorem is_eq (l : List Int) (k : Nat) (hk : 200 ≤ k) : oid_is.f k l = some (isS l) := by
 obtain ⟨k, rfl⟩ : ∃ m, k = m + 1 := ⟨k - 1, by omega⟩
 unfold oid_is.f isS
 by_cases c1 : (l.length : Int) < 2
 ·rw [if_pos c1]
  simp only [oid_is.j0, if_true]
  rw [decide_eq_false (by omega)]
  rfl
 ·rw [if_neg c1, decide_eq_true (show 2 ≤ l.length by omega)]
  by_cases c2 : (l.length : Int) > 128
  ·rw [decide_eq_true c2, decide_eq_false (show ¬ l.length ≤ 128 by omega)]
   simp only [oid_is.j0, if_true]
   rfl
  ·rw [decide_eq_false c2, decide_eq_true (show l.length ≤ 128 by omega)]
   simp only [oid_is.j0]
   rw [if_neg (by decide)]
   have := is_loop l (by omega) (by omega) l.length 0 k (by omega) (by omega)
   rw [Int.natCast_zero] at this
   rw [this]
   rfl
end Go.Proofs.YtfmhghlmljlfgaaGreatDoor.OidS
/- Layer 6: Arcs and Text, there and back. -/
namespace Go.Proofs.YtfmhghlmljlfgaaGreatDoor.OidS
open Go.RowKit Gong Go.Proofs.YtfmhghlmljlfgaaGreatDoor.XTrS Go.Proofs.YtfmhghlmljlfgaaGreatDoor.DecS Go.Proofs.YtfmhghlmljlfgaaGreatDoorW.PrintWords Go.Proofs.YtfmhghlmljlfgaaGreatDoorW.PrintLast Go.Proofs.YtfmhghlmljlfgaaGreatDoorW.PrintMore
set_option linter.unusedVariables false
set_option linter.unusedSimpArgs false
def arcsS (s : List UInt8) : Option (List Int) := if s.count 46 < 128 ∧ isS ((splitL 46 s).map arcOf) = true then some ((splitL 46 s).map arcOf) else none
def arcsR (s : List UInt8) : List Int × Int := match arcsS s with
 | some l => (l, 0)
 | none => ([], 60)
theorem rdOf_get (l : List ByteArray) (i : Nat) (h : i < l.length) : rdOf ByteArray.empty l (i : Int) = l[i]'h := by
 unfold rdOf
 rw [Int.toNat_natCast, List.getD_eq_getElem?_getD, List.getElem?_eq_getElem h]
 rfl
theorem arcs_loop (W : List ByteArray) (hW : W.length ≤ 128) : ∀ (d i k : Nat), i + d = W.length → d + 300 ≤ k →
  oid_Arcs.l0 k ((W.take i).map fun w => arcOf (L w)) W (W.length : Int) (i : Int) = some (if isS (W.map fun w => arcOf (L w)) = true then (W.map fun w => arcOf (L w), 0) else ([], 60)) := by
 intro d
 induction d with
 | zero =>
  intro i k hi hk
  obtain ⟨k, rfl⟩ : ∃ m, k = m + 1 := ⟨k - 1, by omega⟩
  simp only [oid_Arcs.l0]
  rw [if_neg (by omega), List.take_of_length_le (by omega), is_eq _ k (by omega)]
  simp only [Option.bind_some]
  split <;> rfl
 | succ d ih =>
  intro i k hi hk
  obtain ⟨k, rfl⟩ : ∃ m, k = m + 1 := ⟨k - 1, by omega⟩
  have hlt : i < W.length := by omega
  simp only [oid_Arcs.l0]
  rw [if_pos (by omega), if_pos (by omega), if_pos (by omega), rdOf_get W i hlt, arc_eq]
  simp only [Option.bind_some]
  have hl : ((W.take i).map fun w => arcOf (L w)).length = i := by rw [List.length_map, List.length_take]; omega
  rw [if_pos (by omega), wrap_succ i (by omega)]
  have e : ((W.take i).map fun w => arcOf (L w)) ++ [arcOf (L W[i])] = (W.take (i + 1)).map fun w => arcOf (L w) := by
   rw [List.take_succ_eq_append_getElem hlt, List.map_append]
   rfl
  rw [e]
  exact ih (i + 1) k (by omega) (by omega)
theorem count_eq (a : ByteArray) : strings_Count.f a (⟨#[46]⟩ : ByteArray) = some (((L a).count 46 : Nat) : Int) := rfl
theorem split_eq (a : ByteArray) (h : a.size ≤ 1000000000) : ∃ W : List ByteArray, strings_Split.f a (⟨#[46]⟩ : ByteArray) = some W ∧ W.map L = splitL 46 (L a) := by
 unfold strings_Split.f
 rw [if_pos ⟨by omega, by decide⟩]
 refine ⟨_, rfl, ?_⟩
 have h1 := Lib.splitB_data (⟨#[46]⟩ : ByteArray) 0 (Lib.countB a (⟨#[46]⟩ : ByteArray)) a
 have h2 : Lib.countB a (⟨#[46]⟩ : ByteArray) = (L a).count 46 := Lib.count_one 46 (L a)
 rw [h2] at h1 ⊢
 exact h1.trans (splitK_one 46 (L a))
theorem arcs_eq (a : ByteArray) (h : a.size ≤ 1000000000) (k : Nat) (hk : 500 ≤ k) : oid_Arcs.f k a = some (arcsR (L a)) := by
 unfold oid_Arcs.f
 rw [count_eq]
 simp only [Option.bind_some]
 by_cases c : (L a).count 46 < 128
 ·rw [if_neg (by omega)]
  obtain ⟨W, hW, hm⟩ := split_eq a h
  rw [hW]
  simp only [Option.bind_some]
  have hl : W.length = (L a).count 46 + 1 := by rw [← split_len, ← hm, List.length_map]
  have := arcs_loop W (by omega) W.length 0 k (by omega) (by omega)
  rw [Int.natCast_zero] at this
  have e0 : ((W.take 0).map fun w => arcOf (L w)) = [] := rfl
  rw [e0] at this
  rw [this]
  have e1 : (W.map fun w => arcOf (L w)) = (splitL 46 (L a)).map arcOf := by rw [← hm, List.map_map]; rfl
  rw [e1]
  unfold arcsR arcsS
  by_cases c2 : isS ((splitL 46 (L a)).map arcOf) = true
  ·rw [if_pos c2, if_pos ⟨c, c2⟩]
  ·rw [if_neg c2, if_neg (fun h => c2 h.2)]
 ·rw [if_pos (by omega)]
  unfold arcsR arcsS
  rw [if_neg (fun h => c h.1)]
def putL (l : List Int) : List UInt8 := joinL 46 (l.map fun x => Lib.decDigits x.toNat)
theorem isS_parts {l : List Int} (h : isS l = true) : 2 ≤ l.length ∧ l.length ≤ 128 ∧ (∀ x ∈ l, 0 ≤ x ∧ x ≤ 4294967295) ∧ heads l = true := by
 unfold isS at h
 simp only [Bool.and_eq_true, decide_eq_true_eq, List.all_eq_true] at h
 exact ⟨h.1.1.1, h.1.1.2, h.1.2, h.2⟩
theorem dot_free (n : Nat) : (46 : UInt8) ∉ Lib.decDigits n := fun h => by
 have := dd_dig n 46 h
 exact absurd this (by decide)
theorem arcs_put {l : List Int} (h : isS l = true) : arcsS (putL l) = some l := by
 obtain ⟨h1, h2, h3, h4⟩ := isS_parts h
 have hs : splitL 46 (putL l) = l.map fun x => Lib.decDigits x.toNat := split_join 46 _ (by intro e; rw [List.map_eq_nil_iff] at e; rw [e] at h1; simp at h1) (fun w hw => by
  obtain ⟨x, _, rfl⟩ := List.mem_map.1 hw
  exact dot_free _)
 have hm : (splitL 46 (putL l)).map arcOf = l := by
  rw [hs, List.map_map]
  conv => rhs; rw [← List.map_id l]
  apply List.map_congr_left
  intro x hx
  have := h3 x hx
  show arcOf (Lib.decDigits x.toNat) = x
  rw [arcOf_dd _ (by omega)]
  omega
 have hc : (putL l).count 46 < 128 := by
  have := split_len 46 (putL l)
  rw [hs, List.length_map] at this
  omega
 unfold arcsS
 rw [hm, if_pos ⟨hc, h⟩]
theorem arcs_some {s : List UInt8} {l : List Int} (h : arcsS s = some l) : isS l = true ∧ putL l = s := by
 unfold arcsS at h
 by_cases c : s.count 46 < 128 ∧ isS ((splitL 46 s).map arcOf) = true
 ·rw [if_pos c] at h
  injection h with h
  subst h
  refine ⟨c.2, ?_⟩
  obtain ⟨_, _, h3, _⟩ := isS_parts c.2
  unfold putL
  rw [List.map_map]
  have : (splitL 46 s).map ((fun x : Int => Lib.decDigits x.toNat) ∘ arcOf) = splitL 46 s := by
   conv => rhs; rw [← List.map_id (splitL 46 s)]
   apply List.map_congr_left
   intro w hw
   exact dd_arcOf (h3 _ (List.mem_map.2 ⟨w, hw, rfl⟩)).1
  rw [this, join_split]
 ·rw [if_neg c] at h
  cases h
theorem arcsR_put {l : List Int} (h : isS l = true) : arcsR (putL l) = (l, 0) := by
 unfold arcsR
 rw [arcs_put h]
theorem itoa_nat (n : Nat) (h : n ≤ 9223372036854775807) : strconv_Itoa.f (n : Int) = some (Bs (Lib.decDigits n)) := by
 unfold strconv_Itoa.f
 rw [if_pos (by omega)]
 unfold Lib.itoa
 rw [if_neg (by omega)]
 rfl
theorem joinL_len : ∀ ws : List (List UInt8), (∀ w ∈ ws, w.length ≤ 10) → (joinL 46 ws).length ≤ 11 * ws.length
 | [], _ => by simp [joinL]
 | [w], h => by have := h w (by simp); simp only [joinL, List.length_cons, List.length_nil]; omega
 | w :: v :: ws, h => by
  have h1 := h w (by simp)
  have h2 := joinL_len (v :: ws) (fun x hx => h x (by simp only [List.mem_cons] at hx ⊢; exact .inr hx))
  show (w ++ 46 :: joinL 46 (v :: ws)).length ≤ _
  simp only [List.length_append, List.length_cons] at h2 ⊢
  omega
theorem putL_len {l : List Int} (h : ∀ x ∈ l, 0 ≤ x ∧ x ≤ 4294967295) : (putL l).length ≤ 11 * l.length := by
 have := joinL_len (l.map fun x => Lib.decDigits x.toNat) (fun w hw => by
  obtain ⟨x, hx, rfl⟩ := List.mem_map.1 hw
  have := h x hx
  exact dd_short _ (by omega))
 rw [List.length_map] at this
 exact this
theorem put_loop (l : List Int) (hl : l.length ≤ 1000) (h : ∀ x ∈ l, 0 ≤ x ∧ x ≤ 4294967295) : ∀ (d i k : Nat), i + d = l.length → d < k →
  oid_put.l0 k ((l.take i).map fun x => Bs (Lib.decDigits x.toNat)) l (l.length : Int) (i : Int) = some (Bs (putL l)) := by
 intro d
 induction d with
 | zero =>
  intro i k hi hk
  obtain ⟨k, rfl⟩ : ∃ m, k = m + 1 := ⟨k - 1, by omega⟩
  simp only [oid_put.l0]
  rw [if_neg (by omega), List.take_of_length_le (by omega)]
  have e : ((l.map fun x => Bs (Lib.decDigits x.toNat)).map (·.data.toList)) = l.map fun x => Lib.decDigits x.toNat := by
   rw [List.map_map]
   apply List.map_congr_left
   intro x _
   exact L_Bs _
  have hp := putL_len h
  unfold strings_Join.f
  rw [e]
  have e2 : Lib.join (l.map fun x => Lib.decDigits x.toNat) (⟨#[46]⟩ : ByteArray).data.toList = putL l := lib_join 46 _
  rw [e2, if_pos ⟨by rw [List.length_map]; omega, by omega⟩]
  rfl
 | succ d ih =>
  intro i k hi hk
  obtain ⟨k, rfl⟩ : ∃ m, k = m + 1 := ⟨k - 1, by omega⟩
  have hlt : i < l.length := by omega
  have hx := h l[i] (List.getElem_mem hlt)
  simp only [oid_put.l0]
  rw [if_pos (by omega), if_pos (by omega), if_pos (by omega), rd_get l i hlt]
  have e0 : l[i] = ((l[i].toNat : Nat) : Int) := by omega
  have e1 : strconv_Itoa.f l[i] = some (Bs (Lib.decDigits l[i].toNat)) := by
   conv => lhs; rw [e0]
   exact itoa_nat _ (by omega)
  rw [e1]
  simp only [Option.bind_some]
  have hl2 : ((l.take i).map fun x => Bs (Lib.decDigits x.toNat)).length = i := by rw [List.length_map, List.length_take]; omega
  rw [if_pos (by omega), wrap_succ i (by omega)]
  have e : ((l.take i).map fun x => Bs (Lib.decDigits x.toNat)) ++ [Bs (Lib.decDigits l[i].toNat)] = (l.take (i + 1)).map fun x => Bs (Lib.decDigits x.toNat) := by
   rw [List.take_succ_eq_append_getElem hlt, List.map_append]
   rfl
  rw [e]
  exact ih (i + 1) k (by omega) (by omega)
theorem put_eq (l : List Int) (hl : l.length ≤ 1000) (h : ∀ x ∈ l, 0 ≤ x ∧ x ≤ 4294967295) (k : Nat) (hk : 2000 ≤ k) : oid_put.f k l = some (Bs (putL l)) := by
 unfold oid_put.f
 have := put_loop l hl h l.length 0 k (by omega) (by omega)
 rw [Int.natCast_zero] at this
 exact this
end Go.Proofs.YtfmhghlmljlfgaaGreatDoor.OidS
/- Layer 5 in plain lists: lengths, elements, their shortest forms; what the printed functions answer in these words. -/
namespace Go.Proofs.YtfmhghlmljlfgaaGreatDoor.BerS
open Go.RowKit Gong Go.Proofs.YtfmhghlmljlfgaaGreatDoor.XTrS Go.Proofs.YtfmhghlmljlfgaaGreatDoorW.PrintWords Go.Proofs.YtfmhghlmljlfgaaGreatDoorW.PrintLast Go.Proofs.YtfmhghlmljlfgaaGreatDoorW.PrintMore
set_option linter.unusedVariables false
set_option linter.unusedSimpArgs false
def L (s : ByteArray) : List UInt8 := s.data.toList
def Bs (l : List UInt8) : ByteArray := ⟨l.toArray⟩
theorem L_Bs (l : List UInt8) : L (Bs l) = l := rfl
theorem data_Bs (l : List UInt8) : (Bs l).data.toList = l := rfl
theorem Bs_L (s : ByteArray) : Bs (L s) = s := by rcases s with ⟨⟨l⟩⟩; rfl
theorem L_inj {a b : ByteArray} (h : L a = L b) : a = b := by rw [← Bs_L a, h, Bs_L]
theorem size_L (s : ByteArray) : s.size = (L s).length := by simp [L]
theorem size_Bs (l : List UInt8) : (Bs l).size = l.length := by rw [size_L, L_Bs]
theorem L_extract (s : ByteArray) (a b : Nat) : L (s.extract a b) = ((L s).take b).drop a := by
 unfold L
 simp [List.drop_take]
theorem L_append (a b : ByteArray) : L (a ++ b) = L a ++ L b := by simp [L]
theorem toList_L (s : ByteArray) : s.toList = L s := ByteArray.toList_eq s
theorem bt_L (s : ByteArray) (i : Int) : bt s i = (((L s).getD i.toNat 0).toNat : Int) := by
 unfold bt
 by_cases h : i.toNat < s.size
 ·rw [dif_pos h]
  rcases s with ⟨⟨l⟩⟩
  have h' : i.toNat < l.length := by simpa [ByteArray.size] using h
  simp [L, List.getD, h', ByteArray.getElem_eq_getElem_data]
 ·rw [dif_neg h]
  rcases s with ⟨⟨l⟩⟩
  have h' : l.length ≤ i.toNat := by have : ¬ i.toNat < l.length := h; omega
  simp [L, List.getD, List.getElem?_eq_none h']
theorem wrap_id {n : Int} (h0 : -9223372036854775808 ≤ n) (h1 : n ≤ 9223372036854775807) : wrap64 n = n := by unfold wrap64; omega
def beN (l : List UInt8) : Nat := l.foldl (fun n b => n * 256 + b.toNat) 0
theorem beNum_beN (l : List UInt8) : beNum l = (beN l : Int) := by
 have key : ∀ (l : List UInt8) (a : Nat), l.foldl (fun (n : Int) b => n * 256 + (b.toNat : Int)) (a : Int) = ((l.foldl (fun n b => n * 256 + b.toNat) a : Nat) : Int) := by
  intro l
  induction l with
  | nil => intro a; rfl
  | cons b l ih => intro a; simp only [List.foldl_cons]; rw [← ih]; simp
 exact key l 0
theorem beN_lt (l : List UInt8) : beN l < 256 ^ l.length := by
 have h := (beNum_lt l).2
 rw [beNum_beN] at h
 have e : (256 : Int) ^ l.length = ((256 ^ l.length : Nat) : Int) := by rw [Int.natCast_pow]; rfl
 rw [e] at h
 omega
def lenS : List UInt8 → Option (Nat × Nat)
 | [] => none
 | b :: l => if b.toNat < 128 then some (b.toNat, 1) else if b.toNat = 128 ∨ 132 < b.toNat then none else if l.length < b.toNat - 128 then none else some (beN (l.take (b.toNat - 128)), 1 + (b.toNat - 128))
theorem bytes_zero (s : ByteArray) (c : Int) (w : Nat) (h : w ≤ s.size) (hc : c = 0) : octet_Reader_Bytes.f s c w = some (Bs ((L s).take w), Bs ((L s).drop w), 0) := by
 subst hc
 unfold octet_Reader_Bytes.f
 rw [if_pos rfl, if_neg (by omega), if_neg (by omega), if_pos (by omega), if_pos (by omega)]
 have e1 : s.extract 0 w = Bs ((L s).take w) := by apply L_inj; rw [L_extract, L_Bs]; simp
 have e2 : s.extract w s.size = Bs ((L s).drop w) := by
  apply L_inj; rw [L_extract, L_Bs, List.take_of_length_le (by rw [← size_L]; exact Nat.le_refl _)]
 simp [e1, e2]
theorem wide_ok (s : ByteArray) (w : Nat) (h1 : 1 ≤ w) (h7 : w ≤ 7) (h : w ≤ s.size) : octet_Reader_Wide.f s 0 w = some ((beN ((L s).take w) : Int), Bs ((L s).drop w), 0) := by
 unfold octet_Reader_Wide.f octet_Reader_Wide.code
 rw [if_pos (by omega), bytes_zero s 0 w h rfl]
 simp only [Option.bind_some]
 have hb := beN_lt ((L s).take w)
 have h2 : 256 ^ ((L s).take w).length ≤ 72057594037927936 := Nat.pow_le_pow_right (j := 7) (by decide : 0 < 256) (by have := List.length_take_le w (L s); omega)
 have hx : ¬ (beNum (Bs ((L s).take w)).data.toList ≥ 9223372036854775808) := by rw [data_Bs, beNum_beN]; omega
 rw [if_neg hx, data_Bs, beNum_beN]
theorem wide_end (s : ByteArray) (w : Nat) (h1 : 1 ≤ w) (h7 : w ≤ 7) (h : s.size < w) : octet_Reader_Wide.f s 0 w = some (0, s, 10) := by
 have hc : octet_Reader_Wide.code 0 w = 0 := by unfold octet_Reader_Wide.code; rw [if_pos (by omega)]
 unfold octet_Reader_Wide.f
 rw [hc]
 unfold octet_Reader_Bytes.f
 rw [if_pos rfl, if_neg (by omega), if_pos (by omega)]
 simp only [octet_Reader_Refuse.f, if_true, Option.bind_some]
 have e0 : beNum ((⟨#[]⟩ : ByteArray)).data.toList = 0 := rfl
 rw [e0, if_neg (by decide)]
theorem length_eq (k : Nat) (hk : 1 ≤ k) (s : ByteArray) (hs : s.size ≤ 140737488355328) :
  ber_length.f k s = some (match lenS (L s) with | none => (0, 0) | some (n, l) => ((n : Int), (l : Int))) := by
 obtain ⟨k, rfl⟩ : ∃ m, k = m + 1 := ⟨k - 1, by omega⟩
 unfold ber_length.f octet_Read.f
 simp only [Option.bind_some]
 by_cases h0 : s.size = 0
 ·have hl : L s = [] := List.length_eq_zero_iff.mp (by rw [← size_L]; exact h0)
  rw [show (1 : Int) = ((1 : Nat) : Int) from rfl, wide_end s 1 (by omega) (by omega) (by omega)]
  simp only [Option.bind_some, hl, lenS]
  rw [if_pos (by omega)]
  simp [octet_Reader_Left.f, h0, wrap64]
 ·rw [show (1 : Int) = ((1 : Nat) : Int) from rfl, wide_ok s 1 (by omega) (by omega) (by omega)]
  obtain ⟨b, l, hl⟩ : ∃ b l, L s = b :: l := by
   cases h : L s with
   | nil => exact absurd (by rw [size_L, h]; rfl) h0
   | cons b l => exact ⟨b, l, rfl⟩
  have hlen : s.size = l.length + 1 := by rw [size_L, hl]; rfl
  have hb := b.toNat_lt
  simp only [Option.bind_some, hl, List.take_succ_cons, List.take_zero, List.drop_succ_cons, List.drop_zero, lenS]
  have e1 : beN [b] = b.toNat := by simp [beN]
  rw [e1]
  by_cases h1 : b.toNat < 128
  ·rw [if_pos (by omega), if_pos h1]
   simp only [octet_Reader_Left.f, Option.bind_some, size_Bs]
   rw [wrap_id (by omega) (by omega)]
   congr 2
   omega
  ·rw [if_neg (by omega), if_neg h1]
   by_cases h2 : b.toNat = 128
   ·rw [if_pos (by omega), if_pos (.inl h2)]
    simp [ber_length.j0]
   ·rw [if_neg (by omega)]
    by_cases h3 : 132 < b.toNat
    ·rw [if_pos (.inr h3)]
     have : decide ((b.toNat : Int) > 132) = true := decide_eq_true (by omega)
     rw [this]
     simp [ber_length.j0]
    ·rw [if_neg (by omega)]
     have : decide ((b.toNat : Int) > 132) = false := decide_eq_false (by omega)
     rw [this]
     simp only [ber_length.j0]
     rw [if_neg (by decide), wrap_id (by omega) (by omega), show (b.toNat : Int) - 128 = ((b.toNat - 128 : Nat) : Int) from by omega]
     by_cases h4 : l.length < b.toNat - 128
     ·rw [if_pos h4, wide_end _ _ (by omega) (by omega) (by rw [size_Bs]; exact h4)]
      simp [octet_Reader_Code.f]
     ·rw [if_neg h4, wide_ok _ _ (by omega) (by omega) (by rw [size_Bs]; omega)]
      simp only [octet_Reader_Code.f, octet_Reader_Left.f, Option.bind_some, if_true, size_Bs, L_Bs, List.length_drop]
      have hw : wrap64 ((s.size : Int) - ((l.length - (b.toNat - 128) : Nat) : Int)) = ((1 + (b.toNat - 128) : Nat) : Int) := by unfold wrap64; omega
      rw [hw]
def nextS : List UInt8 → Option (Nat × List UInt8 × List UInt8)
 | [] => none
 | t :: l => if t.toNat % 32 = 31 then none else
  match lenS l with
  | none => none
  | some (n, g) => if (l.drop g).length < n then none else some (t.toNat, (l.drop g).take n, (l.drop g).drop n)
theorem lenS_le {l : List UInt8} {n g : Nat} (h : lenS l = some (n, g)) : 1 ≤ g ∧ g ≤ 5 ∧ g ≤ l.length := by
 cases l with
 | nil => exact absurd h (by simp [lenS])
 | cons b l =>
  simp only [lenS] at h
  have hb := b.toNat_lt
  by_cases h1 : b.toNat < 128
  ·rw [if_pos h1] at h
   simp only [Option.some.injEq, Prod.mk.injEq] at h
   simp only [List.length_cons]; omega
  ·rw [if_neg h1] at h
   by_cases h2 : b.toNat = 128 ∨ 132 < b.toNat
   ·rw [if_pos h2] at h; simp at h
   ·rw [if_neg h2] at h
    by_cases h3 : l.length < b.toNat - 128
    ·rw [if_pos h3] at h; simp at h
    ·rw [if_neg h3] at h
     simp only [Option.some.injEq, Prod.mk.injEq] at h
     simp only [List.length_cons]; omega
theorem and31 (t : Nat) (h : t < 256) : Go.bits .and .i64 (t : Int) 31 = ((t % 32 : Nat) : Int) := by
 have := bits_mask .i64 63 (by decide) (fun n h0 h1 => by rw [IntKind.wrap_i64]; have : (2 : Int) ^ 63 = 9223372036854775808 := rfl; omega) 5 (by decide) (t : Int) (by omega) (by have : (2 : Int) ^ 63 = 9223372036854775808 := rfl; omega)
 have e : ((2 : Int) ^ 5 - 1) = 31 := rfl
 have e2 : ((2 : Int) ^ 5) = 32 := rfl
 rw [e, e2] at this
 rw [this]; omega
theorem isTag_eq (t : Nat) (h : t < 256) : ber_isTag.f (t : Int) = some (decide (t % 32 ≠ 31)) := by
 unfold ber_isTag.f
 rw [if_pos (by omega), if_pos (by omega), and31 t h]
 congr 1
 rw [Bool.eq_iff_iff]
 simp
 omega
theorem next_eq (k : Nat) (hk : 1 ≤ k) (s : ByteArray) (hs : s.size ≤ 140737488355328) :
  ber_Next.f k s = some (match nextS (L s) with | none => (0, Bs [], Bs [], 50) | some (t, b, r) => ((t : Int), Bs b, Bs r, 0)) := by
 unfold ber_Next.f
 by_cases h0 : s.size = 0
 ·have hl : L s = [] := List.length_eq_zero_iff.mp (by rw [← size_L]; exact h0)
  rw [if_pos h0, hl]
  rfl
 ·rw [if_neg h0]
  obtain ⟨t, l, hl⟩ : ∃ b l, L s = b :: l := by
   cases h : L s with
   | nil => exact absurd (by rw [size_L, h]; rfl) h0
   | cons b l => exact ⟨b, l, rfl⟩
  have hlen : s.size = l.length + 1 := by rw [size_L, hl]; rfl
  have ht := t.toNat_lt
  have e1 : bt s 0 = (t.toNat : Int) := by rw [bt_L, hl]; rfl
  have e2 : s.extract 1 s.size = Bs l := by
   apply L_inj; rw [L_extract, L_Bs, List.take_of_length_le (by rw [← size_L]; exact Nat.le_refl _), hl]; rfl
  rw [e1, isTag_eq _ (by omega), hl]
  simp only [Option.bind_some, nextS]
  by_cases h31 : t.toNat % 32 = 31
  ·rw [if_pos (by simp [h31]), if_pos h31]
   rfl
  ·rw [if_neg (by simp [h31]), if_neg h31, e2, length_eq k hk _ (by rw [size_Bs]; omega)]
   simp only [Option.bind_some, L_Bs]
   cases hls : lenS l with
   | none =>
    simp only
    rw [if_pos (by omega), if_pos trivial]
    rfl
   | some q =>
    obtain ⟨n, g⟩ := q
    have hg := lenS_le hls
    simp only
    rw [if_pos (by omega), if_neg (by omega)]
    have e3 : (1 + (g : Int)).toNat = 1 + g := by omega
    have e4 : s.extract (1 + g) s.size = Bs (l.drop g) := by
     apply L_inj
     rw [L_extract, L_Bs, List.take_of_length_le (by rw [← size_L]; exact Nat.le_refl _), hl, Nat.add_comm, List.drop_succ_cons]
    rw [e3, e4]
    have e5 : s.size - (1 + g) = (l.drop g).length := by rw [List.length_drop]; omega
    rw [e5]
    by_cases hn : (l.drop g).length < n
    ·rw [if_pos (by omega), if_pos hn]
     rfl
    ·rw [if_neg (by omega), if_neg hn, if_pos (by omega), Int.toNat_natCast]
     have e6 : (Bs (l.drop g)).extract 0 n = Bs ((l.drop g).take n) := by
      apply L_inj; rw [L_extract, L_Bs, L_Bs]; simp
     have e7 : (Bs (l.drop g)).extract n (l.drop g).length = Bs ((l.drop g).drop n) := by
      apply L_inj; rw [L_extract, L_Bs, L_Bs, List.take_of_length_le (Nat.le_refl _)]
     rw [e6, e7]
end Go.Proofs.YtfmhghlmljlfgaaGreatDoor.BerS
/- Layer 5: what 'put' answers, in plain lists. -/
namespace Go.Proofs.YtfmhghlmljlfgaaGreatDoor.BerS
open Go.RowKit Gong Go.Proofs.YtfmhghlmljlfgaaGreatDoor.XTrS Go.Proofs.YtfmhghlmljlfgaaGreatDoorW.PrintWords Go.Proofs.YtfmhghlmljlfgaaGreatDoorW.PrintLast Go.Proofs.YtfmhghlmljlfgaaGreatDoorW.PrintMore
set_option linter.unusedVariables false
set_option linter.unusedSimpArgs false
def wideB (n w : Nat) : List UInt8 := ((bytes8 (n : Int)).drop (8 - w)).map fun x => UInt8.ofNat x.toNat
theorem wideB_len (n w : Nat) (h : w ≤ 8) : (wideB n w).length = w := by simp [wideB, bytes8]; omega
theorem strOf_map (xs : List Int) : strOfNums xs = Bs (xs.map fun x => UInt8.ofNat x.toNat) := rfl
theorem pow256 (w : Nat) : (2 : Int) ^ (8 * w) = ((256 ^ w : Nat) : Int) := by
 rw [Int.pow_mul, Int.natCast_pow]; rfl
theorem wide_small (n w : Nat) (h1 : 1 ≤ w) (h8 : w ≤ 8) (h : n < 256 ^ w) : octet_Wide.f (n : Int) (w : Int) = some (Bs (wideB n w), 0) := by
 unfold octet_Wide.f
 rw [if_pos ⟨by omega, by omega, by omega⟩, Int.toNat_natCast, pow256]
 have : (n : Int) / ((256 ^ w : Nat) : Int) = 0 := Int.ediv_eq_zero_of_lt (by omega) (by omega)
 rw [this, if_neg (by omega)]
 rfl
theorem shr8 (n w : Nat) (h8 : w ≤ 7) : shr .i64 (n : Int) (wrap64 (8 * (w : Int))) = ((n / 256 ^ w : Nat) : Int) := by
 rw [wrap_id (by omega) (by omega)]
 unfold shr
 have e : (8 * (w : Int)).toNat = 8 * w := by omega
 have e2 : IntKind.i64.bits = 64 := rfl
 rw [e, e2, Nat.min_eq_left (by omega), pow256]
 rfl
theorem bytesOf_map (l : List UInt8) : (Go.Proofs.YtfmhghlmljlfgaaGreatDoorW.PrintWords.bytesOf (Bs l)).map (fun x => UInt8.ofNat x.toNat) = l := by
 unfold Go.Proofs.YtfmhghlmljlfgaaGreatDoorW.PrintWords.bytesOf
 rw [data_Bs, List.map_map]
 conv => rhs; rw [← List.map_id l]
 congr 1
 funext b
 simp
theorem put_step (k n w : Nat) (tag : Int) (body : List UInt8) (h0 : 0 ≤ tag) (h1 : tag < 256) (hw1 : 1 ≤ w) (hw : w ≤ 4) (hn : n < 4294967296) (hb : body.length ≤ 140737488355328) :
  ber_put.l0 (k + 1) (Bs body) (n : Int) [tag % 256, (n : Int) % 256] (w : Int) =
   if n < 256 ^ w then some (Bs (UInt8.ofNat tag.toNat :: UInt8.ofNat (128 + w) :: (wideB n w ++ body))) else ber_put.l0 k (Bs body) (n : Int) [tag % 256, (n : Int) % 256] ((w + 1 : Nat) : Int) := by
 simp only [ber_put.l0]
 rw [shr8 n w (by omega), wrap_id (by omega) (by omega), if_pos (by omega)]
 by_cases h : n < 256 ^ w
 ·rw [if_pos h, Nat.div_eq_of_lt h, if_neg (by decide), wide_small n w hw1 (by omega) h]
  simp only [Option.bind_some]
  rw [if_pos (by simp)]
  have e1 : wrap64 (128 + (w : Int)) % 256 = ((128 + w : Nat) : Int) := by rw [wrap_id (by omega) (by omega)]; omega
  have e2 : tag % 256 = tag := by omega
  rw [e1, e2]
  have e3 : ([tag, (n : Int) % 256].set (1 : Int).toNat ((128 + w : Nat) : Int)) = [tag, ((128 + w : Nat) : Int)] := rfl
  rw [e3, size_Bs, wideB_len n w (by omega), if_pos (by simp; omega)]
  have e4 : strOfNums ([tag, ((128 + w : Nat) : Int)] ++ Go.Proofs.YtfmhghlmljlfgaaGreatDoorW.PrintWords.bytesOf (Bs (wideB n w))) = Bs (UInt8.ofNat tag.toNat :: UInt8.ofNat (128 + w) :: wideB n w) := by
   rw [strOf_map, List.map_append, bytesOf_map]
   rfl
  rw [e4, if_pos (by rw [size_Bs, size_Bs]; simp [wideB_len n w (by omega)]; omega)]
  rfl
 ·rw [if_neg h, if_pos (by have : 0 < n / 256 ^ w := Nat.div_pos (by omega) (Nat.pow_pos (by decide)); omega)]
  rw [wrap_id (by omega) (by omega)]
  rfl
def nby (n : Nat) : Nat := if n < 256 then 1 else if n < 65536 then 2 else if n < 16777216 then 3 else 4
def lenEnc (n : Nat) : List UInt8 := if n < 128 then [UInt8.ofNat n] else UInt8.ofNat (128 + nby n) :: wideB n (nby n)
def enc (t : Nat) (body : List UInt8) : List UInt8 := UInt8.ofNat t :: (lenEnc body.length ++ body)
theorem put_eq (k t : Nat) (body : List UInt8) (ht : t < 256) (hb : body.length < 4294967296) (hk : 4 ≤ k) : ber_put.f k (t : Int) (Bs body) = some (Bs (enc t body)) := by
 unfold ber_put.f
 simp only [Option.bind_some, size_Bs]
 by_cases h : body.length < 128
 ·rw [if_neg (by omega), if_pos (by rw [strOf_map, size_Bs]; simp; omega)]
  congr 1
  apply L_inj
  rw [L_append, strOf_map, L_Bs, L_Bs, L_Bs]
  have e1 : (t : Int) % 256 = (t : Int) := by omega
  have e2 : (body.length : Int) % 256 = (body.length : Int) := by omega
  simp [enc, lenEnc, h, e1, e2]
 ·rw [if_pos (by omega)]
  obtain ⟨k, rfl⟩ : ∃ m, k = m + 4 := ⟨k - 4, by omega⟩
  have st := fun j w hw1 hw => put_step j body.length w (t : Int) body (by omega) (by omega) hw1 hw hb (by omega)
  have s1 := st (k + 3) 1 (by omega) (by omega)
  have s2 := st (k + 2) 2 (by omega) (by omega)
  have s3 := st (k + 1) 3 (by omega) (by omega)
  have s4 := st k 4 (by omega) (by omega)
  rw [show ((1 : Nat) : Int) = 1 from rfl] at s1
  rw [show k + 4 = k + 3 + 1 from rfl, s1]
  have p1 : 256 ^ 1 = 256 := rfl
  have p2 : 256 ^ 2 = 65536 := rfl
  have p3 : 256 ^ 3 = 16777216 := rfl
  have p4 : 256 ^ 4 = 4294967296 := rfl
  rw [p1]
  by_cases h1 : body.length < 256
  ·rw [if_pos h1]
   simp [enc, lenEnc, h, nby, h1]
  ·rw [if_neg h1, s2, p2]
   by_cases h2 : body.length < 65536
   ·rw [if_pos h2]
    simp [enc, lenEnc, h, nby, h1, h2]
   ·rw [if_neg h2, s3, p3]
    by_cases h3 : body.length < 16777216
    ·rw [if_pos h3]
     simp [enc, lenEnc, h, nby, h1, h2, h3]
    ·rw [if_neg h3, s4, p4, if_pos (by omega)]
     simp [enc, lenEnc, h, nby, h1, h2, h3]
theorem u8_ofInt (x : Int) (h0 : 0 ≤ x) (h1 : x < 256) : ((UInt8.ofNat x.toNat).toNat : Int) = x := by
 rw [UInt8.toNat_ofNat']
 omega
theorem beN_wide (n w : Nat) (hw1 : 1 ≤ w) (hw : w ≤ 4) (hn : n < 256 ^ w) : beN (wideB n w) = n := by
 have hr : List.range 8 = [0, 1, 2, 3, 4, 5, 6, 7] := rfl
 have p1 : 256 ^ 1 = 256 := rfl
 have p2 : 256 ^ 2 = 65536 := rfl
 have p3 : 256 ^ 3 = 16777216 := rfl
 have p4 : 256 ^ 4 = 4294967296 := rfl
 have q1 : (2 : Int) ^ 8 = 256 := rfl
 have q2 : (2 : Int) ^ 16 = 65536 := rfl
 have q3 : (2 : Int) ^ 24 = 16777216 := rfl
 have key : ((beN (wideB n w) : Nat) : Int) = (n : Int) := by
  have hw' : w = 1 ∨ w = 2 ∨ w = 3 ∨ w = 4 := by omega
  rcases hw' with rfl | rfl | rfl | rfl
  ·have e := u8_ofInt ((n : Int) % 256) (by omega) (by omega)
   simp [wideB, bytes8, hr, beN] at e ⊢
   omega
  ·have e := u8_ofInt ((n : Int) % 256) (by omega) (by omega)
   have e2 := u8_ofInt ((n : Int) / 256 % 256) (by omega) (by omega)
   simp [wideB, bytes8, hr, beN, q1] at e e2 ⊢
   omega
  ·have e := u8_ofInt ((n : Int) % 256) (by omega) (by omega)
   have e2 := u8_ofInt ((n : Int) / 256 % 256) (by omega) (by omega)
   have e3 := u8_ofInt ((n : Int) / 65536 % 256) (by omega) (by omega)
   simp [wideB, bytes8, hr, beN, q1, q2] at e e2 e3 ⊢
   omega
  ·have e := u8_ofInt ((n : Int) % 256) (by omega) (by omega)
   have e2 := u8_ofInt ((n : Int) / 256 % 256) (by omega) (by omega)
   have e3 := u8_ofInt ((n : Int) / 65536 % 256) (by omega) (by omega)
   have e4 := u8_ofInt ((n : Int) / 16777216 % 256) (by omega) (by omega)
   simp [wideB, bytes8, hr, beN, q1, q2, q3] at e e2 e3 e4 ⊢
   omega
 omega
theorem nby_le (n : Nat) (hn : n < 4294967296) : 1 ≤ nby n ∧ nby n ≤ 4 ∧ n < 256 ^ nby n := by
 have p1 : 256 ^ 1 = 256 := rfl
 have p2 : 256 ^ 2 = 65536 := rfl
 have p3 : 256 ^ 3 = 16777216 := rfl
 have p4 : 256 ^ 4 = 4294967296 := rfl
 unfold nby
 split
 ·omega
 ·split
  ·omega
  ·split <;> omega
theorem lenEnc_len (n : Nat) : (lenEnc n).length = if n < 128 then 1 else 1 + nby n := by
 unfold lenEnc
 split
 ·rfl
 ·rw [List.length_cons, wideB_len _ _ (by unfold nby; split <;> (try split) <;> (try split) <;> omega)]
  omega
theorem lenS_enc (n : Nat) (r : List UInt8) (hn : n < 4294967296) : lenS (lenEnc n ++ r) = some (n, (lenEnc n).length) := by
 rw [lenEnc_len]
 unfold lenEnc
 by_cases h : n < 128
 ·rw [if_pos h, if_pos h]
  have e : (UInt8.ofNat n).toNat = n := by rw [UInt8.toNat_ofNat']; omega
  simp only [List.cons_append, List.nil_append, lenS, e]
  rw [if_pos h]
 ·rw [if_neg h, if_neg h]
  obtain ⟨h1, h4, h5⟩ := nby_le n hn
  have e : (UInt8.ofNat (128 + nby n)).toNat = 128 + nby n := by rw [UInt8.toNat_ofNat']; omega
  have hl := wideB_len n (nby n) (by omega)
  simp only [List.cons_append, lenS, e]
  rw [if_neg (by omega), if_neg (by omega), if_neg (by rw [List.length_append, hl]; omega)]
  have e2 : 128 + nby n - 128 = nby n := by omega
  rw [e2, List.take_append_of_le_length (by omega), List.take_of_length_le (by omega), beN_wide n _ h1 h4 h5]
theorem next_enc (t : Nat) (b r : List UInt8) (ht : t < 256) (ht2 : t % 32 ≠ 31) (hb : b.length < 4294967296) : nextS (enc t b ++ r) = some (t, b, r) := by
 have e : (UInt8.ofNat t).toNat = t := by rw [UInt8.toNat_ofNat']; omega
 unfold enc
 simp only [List.cons_append, List.append_assoc, nextS, e]
 rw [if_neg ht2, lenS_enc _ _ hb]
 simp only [List.drop_left]
 rw [if_neg (by rw [List.length_append]; omega)]
 simp
theorem lenEnc_pos (n : Nat) : 1 ≤ (lenEnc n).length := by rw [lenEnc_len]; split <;> omega
theorem enc_len (t : Nat) (b : List UInt8) : (enc t b).length = 1 + (lenEnc b.length).length + b.length := by
 simp [enc]; omega
end Go.Proofs.YtfmhghlmljlfgaaGreatDoor.BerS
/- Layer 5: whole numbers in their shortest forms, and back. -/
namespace Go.Proofs.YtfmhghlmljlfgaaGreatDoor.BerS
open Go.RowKit Gong Go.Proofs.YtfmhghlmljlfgaaGreatDoor.XTrS Go.Proofs.YtfmhghlmljlfgaaGreatDoorW.PrintWords Go.Proofs.YtfmhghlmljlfgaaGreatDoorW.PrintLast Go.Proofs.YtfmhghlmljlfgaaGreatDoorW.PrintMore
set_option linter.unusedVariables false
set_option linter.unusedSimpArgs false
def spareS : List UInt8 → Bool
 | a :: b :: _ => (a.toNat = 0 && decide (b.toNat < 128)) || (a.toNat = 255 && decide (128 ≤ b.toNat))
 | _ => false
theorem spare_eq (s : ByteArray) : ber_spare.f s = some (spareS (L s)) := by
 unfold ber_spare.f
 have hs := size_L s
 cases h : L s with
 | nil => rw [h] at hs; rw [if_neg (by rw [hs]; decide)]; rfl
 | cons a l =>
  cases l with
  | nil => rw [h] at hs; rw [if_neg (by rw [hs]; simp)]; rfl
  | cons b r =>
   rw [h] at hs
   simp only [List.length_cons] at hs
   have ea : bt s 0 = (a.toNat : Int) := by rw [bt_L, h]; rfl
   have eb : bt s 1 = (b.toNat : Int) := by rw [bt_L, h]; rfl
   have ha := a.toNat_lt
   have hb := b.toNat_lt
   rw [if_pos (by omega), if_pos (by omega), ea, eb]
   simp only [spareS]
   have h1s : (1 : Int) < (s.size : Int) := by omega
   simp only [h1s, if_true]
   by_cases h0 : a.toNat = 0
   ·rw [if_pos (by omega)]
    by_cases h1 : b.toNat < 128
    ·rw [if_pos (by omega)]; simp [h0, h1]
    ·rw [if_neg (by omega), if_neg (by omega)]; simp [h0, h1]
   ·rw [if_neg (by omega)]
    by_cases h2 : a.toNat = 255
    ·rw [if_pos (by omega)]
     congr 1
     rw [Bool.eq_iff_iff]
     simp [h0, h2]
     omega
    ·rw [if_neg (by omega)]; simp [h0, h2]
def trimS : List UInt8 → List UInt8
 | [] => []
 | a :: l => if spareS (a :: l) = true then trimS l else a :: l
theorem trim_at : ∀ (l : List UInt8) (k : Nat), l.length < k → ber_trimmed.l0 k (Bs l) = some (Bs (trimS l))
 | [], k, h => by
  obtain ⟨k, rfl⟩ : ∃ m, k = m + 1 := ⟨k - 1, by omega⟩
  simp only [ber_trimmed.l0]
  rw [spare_eq, L_Bs]
  rfl
 | a :: l, k, h => by
  simp only [List.length_cons] at h
  obtain ⟨k, rfl⟩ : ∃ m, k = m + 1 := ⟨k - 1, by omega⟩
  simp only [ber_trimmed.l0]
  rw [spare_eq, L_Bs]
  simp only [Option.bind_some, trimS]
  by_cases hs : spareS (a :: l) = true
  ·have e : (Bs (a :: l)).extract 1 (Bs (a :: l)).size = Bs l := by
    apply L_inj; rw [L_extract, L_Bs, L_Bs, size_Bs, List.take_of_length_le (Nat.le_refl _)]; rfl
   rw [if_pos hs, if_pos hs, if_pos (by rw [size_Bs]; simp only [List.length_cons]; omega), e]
   exact trim_at l k (by omega)
  ·rw [if_neg hs, if_neg hs]
theorem onto_cons (n : Int) (b : UInt8) (l : List UInt8) : onto n (b :: l) = onto (n * 256 + (b.toNat : Int)) l := rfl
theorem trim_sNum : ∀ l : List UInt8, sNum (trimS l) = sNum l
 | [] => rfl
 | a :: l => by
  rw [trimS]
  by_cases hs : spareS (a :: l) = true
  ·rw [if_pos hs, trim_sNum l]
   cases l with
   | nil => simp [spareS] at hs
   | cons b r =>
    show onto (sByte (b.toNat : Int)) r = onto (sByte (a.toNat : Int)) (b :: r)
    rw [onto_cons]
    congr 1
    simp [spareS] at hs
    have hb := b.toNat_lt
    unfold sByte
    rcases hs with ⟨h1, h2⟩ | ⟨h1, h2⟩
    ·rw [h1]; simp; omega
    ·rw [h1]; simp; omega
  ·rw [if_neg hs]
theorem trim_spare : ∀ l : List UInt8, spareS (trimS l) = false
 | [] => rfl
 | a :: l => by
  rw [trimS]
  by_cases hs : spareS (a :: l) = true
  ·rw [if_pos hs]; exact trim_spare l
  ·rw [if_neg hs]; simpa using hs
theorem trim_len : ∀ l : List UInt8, (trimS l).length ≤ l.length ∧ ((trimS l).length = l.length → trimS l = l) ∧ (l ≠ [] → trimS l ≠ [])
 | [] => ⟨Nat.le_refl _, fun _ => rfl, fun h => h⟩
 | a :: l => by
  rw [trimS]
  have ih := trim_len l
  by_cases hs : spareS (a :: l) = true
  ·rw [if_pos hs]
   simp only [List.length_cons]
   refine ⟨by omega, fun h => by omega, fun _ => ih.2.2 ?_⟩
   intro h
   rw [h] at hs
   simp [spareS] at hs
  ·rw [if_neg hs]
   exact ⟨Nat.le_refl _, fun _ => rfl, fun h => h⟩
def W8 (n : Int) : List UInt8 := (bytes8 n).map fun x => UInt8.ofNat x.toNat
theorem W8_eq (n : Int) : W8 n = [UInt8.ofNat (n / 2 ^ 56 % 256).toNat, UInt8.ofNat (n / 2 ^ 48 % 256).toNat, UInt8.ofNat (n / 2 ^ 40 % 256).toNat, UInt8.ofNat (n / 2 ^ 32 % 256).toNat, UInt8.ofNat (n / 2 ^ 24 % 256).toNat, UInt8.ofNat (n / 2 ^ 16 % 256).toNat, UInt8.ofNat (n / 2 ^ 8 % 256).toNat, UInt8.ofNat (n / 2 ^ 0 % 256).toNat] := rfl
theorem onto_W8 (m n : Int) : onto m (W8 n) = m * 18446744073709551616 + n % 18446744073709551616 := by
 have u := fun j : Nat => u8_ofInt (n / 2 ^ j % 256) (by omega) (by omega)
 rw [W8_eq]
 simp only [onto_cons, u]
 have e : ∀ z : Int, onto z [] = z := fun _ => rfl
 rw [e]
 have q0 : (2 : Int) ^ 0 = 1 := rfl
 have q1 : (2 : Int) ^ 8 = 256 := rfl
 have q2 : (2 : Int) ^ 16 = 65536 := rfl
 have q3 : (2 : Int) ^ 24 = 16777216 := rfl
 have q4 : (2 : Int) ^ 32 = 4294967296 := rfl
 have q5 : (2 : Int) ^ 40 = 1099511627776 := rfl
 have q6 : (2 : Int) ^ 48 = 281474976710656 := rfl
 have q7 : (2 : Int) ^ 56 = 72057594037927936 := rfl
 rw [q0, q1, q2, q3, q4, q5, q6, q7]
 omega
theorem sNum_W8 (n : Int) (h0 : -9223372036854775808 ≤ n) (h1 : n ≤ 9223372036854775807) : sNum (W8 n) = n := by
 have h := onto_W8 0 n
 rw [W8_eq, onto_cons, u8_ofInt _ (by omega) (by omega)] at h
 have e : sNum (W8 n) = onto (sByte (n / 2 ^ 56 % 256)) (W8 n).tail := by
  rw [W8_eq]
  show onto (sByte (((UInt8.ofNat (n / 2 ^ 56 % 256).toNat).toNat : Int))) _ = _
  rw [u8_ofInt _ (by omega) (by omega)]
 have lin : ∀ (l : List UInt8) (a b : Int), onto (a + b) l = onto a l + b * 256 ^ l.length := by
  intro l
  induction l with
  | nil => intro a b; simp [onto]
  | cons x l ih =>
   intro a b
   rw [onto_cons, onto_cons, show (a + b) * 256 + (x.toNat : Int) = (a * 256 + (x.toNat : Int)) + b * 256 from by omega, ih, List.length_cons, Int.pow_succ]
   rw [Int.mul_assoc, Int.mul_comm 256]
 rw [e, W8_eq]
 simp only [List.tail_cons]
 have q7 : (2 : Int) ^ 56 = 72057594037927936 := rfl
 have p7 : (256 : Int) ^ 7 = 72057594037927936 := rfl
 unfold sByte
 by_cases ht : 128 ≤ n / 2 ^ 56 % 256
 ·rw [if_pos ht, show n / 2 ^ 56 % 256 - 256 = (0 * 256 + n / 2 ^ 56 % 256) + (-256) from by omega, lin, h]
  simp only [List.length_cons, List.length_nil]
  rw [p7]
  rw [q7] at ht
  omega
 ·rw [if_neg ht, show n / 2 ^ 56 % 256 = 0 * 256 + n / 2 ^ 56 % 256 from by omega, h]
  rw [q7] at ht
  omega
theorem sNum_W9 (n : Int) (h0 : 0 ≤ n) (h1 : n ≤ 18446744073709551615) : sNum (0 :: W8 n) = n := by
 show onto (sByte 0) (W8 n) = n
 have e : sByte 0 = 0 := rfl
 rw [e, onto_W8]
 omega
theorem putN (n : Int) (k : Nat) (hk : 9 ≤ k) : ber_PutNumber.f k n = some (Bs (trimS (W8 n))) := by
 unfold ber_PutNumber.f ber_trimmed.f
 exact trim_at (W8 n) k (by simp [W8, bytes8]; omega)
theorem putU (n : Int) (k : Nat) (hk : 10 ≤ k) : ber_PutUnsigned.f k n = some (Bs (trimS (0 :: W8 n))) := by
 unfold ber_PutUnsigned.f ber_trimmed.f
 exact trim_at (0 :: W8 n) k (by simp [W8, bytes8]; omega)
theorem W8_len (n : Int) : (W8 n).length = 8 := by simp [W8, bytes8]
theorem number_back (n : Int) (h0 : -9223372036854775808 ≤ n) (h1 : n ≤ 9223372036854775807) : ber_Number.f (Bs (trimS (W8 n))) = some (n, 0) := by
 have hl := trim_len (W8 n)
 rw [W8_len] at hl
 have hne : trimS (W8 n) ≠ [] := hl.2.2 (by intro h; have := W8_len n; rw [h] at this; simp at this)
 have hp := List.length_pos_iff.mpr hne
 unfold ber_Number.f
 rw [if_pos (by rw [size_Bs]; omega), spare_eq, L_Bs, trim_spare]
 simp only [Option.bind_some]
 rw [if_neg (by decide), data_Bs, trim_sNum, sNum_W8 n h0 h1]
theorem unsigned_back (n : Int) (h0 : 0 ≤ n) (h1 : n ≤ 18446744073709551615) : ber_Unsigned.f (Bs (trimS (0 :: W8 n))) = some (n, 0) := by
 have hl := trim_len (0 :: W8 n)
 simp only [List.length_cons, W8_len] at hl
 have hne : trimS (0 :: W8 n) ≠ [] := hl.2.2 (by simp)
 have hp := List.length_pos_iff.mpr hne
 have hv : sNum (trimS (0 :: W8 n)) = n := by rw [trim_sNum, sNum_W9 n h0 h1]
 obtain ⟨a, r, hr⟩ : ∃ a r, trimS (0 :: W8 n) = a :: r := by
  cases h : trimS (0 :: W8 n) with
  | nil => exact absurd h hne
  | cons a r => exact ⟨a, r, rfl⟩
 have ha := a.toNat_lt
 have neg : ∀ (l : List UInt8) (x : Int), x < 0 → onto x l < 0 := by
  intro l
  induction l with
  | nil => intro x hx; exact hx
  | cons b l ih => intro x hx; rw [onto_cons]; have := b.toNat_lt; exact ih _ (by omega)
 have hv2 : onto (sByte (a.toNat : Int)) r = n := by rw [← hv, hr]; rfl
 have ha7 : a.toNat < 128 := by
  by_cases h : a.toNat < 128
  ·exact h
  ·have hs : sByte (a.toNat : Int) < 0 := by unfold sByte; rw [if_pos (by omega)]; omega
   have := neg r _ hs
   omega
 have hb : beNum (a :: r) = n := by
  rw [← hv2]
  show onto (0 * 256 + (a.toNat : Int)) r = _
  congr 1
  unfold sByte
  rw [if_neg (by omega)]
  omega
 have hsp := trim_spare (0 :: W8 n)
 rw [hr] at hsp hp hl ⊢
 have ebt : bt (Bs (a :: r)) 0 = (a.toNat : Int) := by rw [bt_L]; rfl
 unfold ber_Unsigned.f
 rw [ebt, if_pos (by rw [size_Bs]; omega), spare_eq, L_Bs, hsp]
 simp only [Option.bind_some]
 rw [if_neg (by decide), data_Bs, hb]
 by_cases h9 : 8 < (Bs (a :: r)).size ∧ (a.toNat : Int) ≠ 0
 ·obtain ⟨h9, h10⟩ := h9
  rw [size_Bs] at h9
  have := hl.2.1 (by omega)
  rw [List.cons.injEq] at this
  rw [this.1] at h10
  exact absurd rfl h10
 ·rw [if_neg h9]
end Go.Proofs.YtfmhghlmljlfgaaGreatDoor.BerS
/- Layer 5: what Wrap answers. -/
namespace Go.Proofs.YtfmhghlmljlfgaaGreatDoor.BerS
open Go.RowKit Gong Go.Proofs.YtfmhghlmljlfgaaGreatDoor.XTrS Go.Proofs.YtfmhghlmljlfgaaGreatDoorW.PrintWords Go.Proofs.YtfmhghlmljlfgaaGreatDoorW.PrintLast Go.Proofs.YtfmhghlmljlfgaaGreatDoorW.PrintMore
set_option linter.unusedVariables false
set_option linter.unusedSimpArgs false
theorem wrap_at (t : Nat) (b : List UInt8) (ht : t < 256) (ht2 : t % 32 ≠ 31) (hb : b.length ≤ 16777216) (k : Nat) (hk : 4 ≤ k) : ber_Wrap.f k (t : Int) (Bs b) = some (Bs (enc t b), 0) := by
 unfold ber_Wrap.f
 rw [isTag_eq t ht]
 simp only [Option.bind_some]
 rw [if_pos (by simp [ht2]), if_neg (by rw [size_Bs]; omega), put_eq k t b ht (by omega) hk]
 rfl
end Go.Proofs.YtfmhghlmljlfgaaGreatDoor.BerS
/- Layer 8: short binds; the chapter's example. -/
namespace Go.Proofs.YtfmhghlmljlfgaaGreatDoor.PduS
open Go.RowKit Gong Go.Proofs.YtfmhghlmljlfgaaGreatDoor.XTrS Go.Proofs.YtfmhghlmljlfgaaGreatDoor.OidS Go.Proofs.YtfmhghlmljlfgaaGreatDoorW.PrintWords Go.Proofs.YtfmhghlmljlfgaaGreatDoorW.PrintLast Go.Proofs.YtfmhghlmljlfgaaGreatDoorW.PrintMore
set_option linter.unusedVariables false
set_option linter.unusedSimpArgs false
theorem rd_at (l : List S40) (i : Nat) (h : i < l.length) : rd_T40 l (i : Int) = l[i]'h := by
 unfold rd_T40
 rw [Int.toNat_natCast, List.getD_eq_getElem?_getD, List.getElem?_eq_getElem h]
 rfl
theorem wrap_one (t : Nat) (b : List UInt8) (ht : t < 256) (ht2 : t % 32 ≠ 31) (hb : b.length ≤ 16777216) (k : Nat) (hk : 4 ≤ k) : pdu_wrap.f k (t : Int) (Bs b) = some (Bs (BerS.enc t b)) := by
 unfold pdu_wrap.f
 rw [show Bs b = BerS.Bs b from rfl, BerS.wrap_at t b ht ht2 hb k hk]
 rfl
end Go.Proofs.YtfmhghlmljlfgaaGreatDoor.PduS
/- Layer 5: the walk through an element's parts, by recursion; the walk with a stack answers the same. -/
namespace Go.Proofs.YtfmhghlmljlfgaaGreatDoor.BerS
open Go.RowKit Gong Go.Proofs.YtfmhghlmljlfgaaGreatDoor.XTrS Go.Proofs.YtfmhghlmljlfgaaGreatDoorW.PrintWords Go.Proofs.YtfmhghlmljlfgaaGreatDoorW.PrintLast Go.Proofs.YtfmhghlmljlfgaaGreatDoorW.PrintMore
set_option linter.unusedVariables false
set_option linter.unusedSimpArgs false
def made (t : Nat) : Bool := t / 32 % 2 == 1
theorem lenS_min {l : List UInt8} {n g : Nat} (h : lenS l = some (n, g)) : n < 4294967296 ∧ (lenEnc n).length ≤ g := by
 cases l with
 | nil => exact absurd h (by simp [lenS])
 | cons b l =>
  simp only [lenS] at h
  have hb := b.toNat_lt
  by_cases h1 : b.toNat < 128
  ·rw [if_pos h1] at h
   simp only [Option.some.injEq, Prod.mk.injEq] at h
   obtain ⟨rfl, rfl⟩ := h
   rw [lenEnc_len, if_pos h1]; omega
  ·rw [if_neg h1] at h
   by_cases h2 : b.toNat = 128 ∨ 132 < b.toNat
   ·rw [if_pos h2] at h; simp at h
   ·rw [if_neg h2] at h
    by_cases h3 : l.length < b.toNat - 128
    ·rw [if_pos h3] at h; simp at h
    ·rw [if_neg h3] at h
     simp only [Option.some.injEq, Prod.mk.injEq] at h
     obtain ⟨rfl, rfl⟩ := h
     have hlt := beN_lt (l.take (b.toNat - 128))
     have hk : (l.take (b.toNat - 128)).length = b.toNat - 128 := by rw [List.length_take]; omega
     rw [hk] at hlt
     obtain ⟨j, hj⟩ : ∃ j, b.toNat - 128 = j := ⟨_, rfl⟩
     rw [hj] at hlt ⊢
     have hj' : j = 1 ∨ j = 2 ∨ j = 3 ∨ j = 4 := by omega
     have p1 : 256 ^ 1 = 256 := rfl
     have p2 : 256 ^ 2 = 65536 := rfl
     have p3 : 256 ^ 3 = 16777216 := rfl
     have p4 : 256 ^ 4 = 4294967296 := rfl
     rw [lenEnc_len]
     unfold nby
     rcases hj' with rfl | rfl | rfl | rfl
     ·rw [p1] at hlt; refine ⟨by omega, ?_⟩; repeat' split
      all_goals omega
     ·rw [p2] at hlt; refine ⟨by omega, ?_⟩; repeat' split
      all_goals omega
     ·rw [p3] at hlt; refine ⟨by omega, ?_⟩; repeat' split
      all_goals omega
     ·rw [p4] at hlt; refine ⟨by omega, ?_⟩; repeat' split
      all_goals omega
theorem next_len {l : List UInt8} {t : Nat} {b r : List UInt8} (h : nextS l = some (t, b, r)) : t < 256 ∧ t % 32 ≠ 31 ∧ b.length < 4294967296 ∧ (enc t b).length + r.length ≤ l.length ∧ b.length + r.length + 2 ≤ l.length := by
 cases l with
 | nil => exact absurd h (by simp [nextS])
 | cons x l =>
  simp only [nextS] at h
  have hx := x.toNat_lt
  by_cases h1 : x.toNat % 32 = 31
  ·rw [if_pos h1] at h; simp at h
  ·rw [if_neg h1] at h
   cases hl : lenS l with
   | none => rw [hl] at h; simp at h
   | some q =>
    obtain ⟨n, g⟩ := q
    rw [hl] at h
    simp only at h
    have hg := lenS_le hl
    have hm := lenS_min hl
    by_cases h2 : (l.drop g).length < n
    ·rw [if_pos h2] at h; simp at h
    ·rw [if_neg h2] at h
     simp only [Option.some.injEq, Prod.mk.injEq] at h
     obtain ⟨rfl, rfl, rfl⟩ := h
     have hbl : ((l.drop g).take n).length = n := by rw [List.length_take]; omega
     rw [enc_len, hbl, List.length_drop, List.length_drop]
     rw [List.length_drop] at h2
     simp only [List.length_cons]
     omega
end Go.Proofs.YtfmhghlmljlfgaaGreatDoor.BerS
/- Layer 5: a shortest form walks to itself. -/
namespace Go.Proofs.YtfmhghlmljlfgaaGreatDoor.BerS
open Go.RowKit Gong Go.Proofs.YtfmhghlmljlfgaaGreatDoor.XTrS Go.Proofs.YtfmhghlmljlfgaaGreatDoorW.PrintWords Go.Proofs.YtfmhghlmljlfgaaGreatDoorW.PrintLast Go.Proofs.YtfmhghlmljlfgaaGreatDoorW.PrintMore
set_option linter.unusedVariables false
set_option linter.unusedSimpArgs false
inductive C : Nat → List UInt8 → Prop
 | nil : C 0 []
 | box (t n m : Nat) (b r : List UInt8) : t < 256 → t % 32 ≠ 31 → made t = true → b.length < 4294967296 → C n b → C m r → C (max (n + 1) m) (enc t b ++ r)
 | leaf (t m : Nat) (b r : List UInt8) : t < 256 → t % 32 ≠ 31 → made t = false → b.length < 4294967296 → C m r → C (max 1 m) (enc t b ++ r)
end Go.Proofs.YtfmhghlmljlfgaaGreatDoor.BerS
/- Layer 5: what Wrap, Canon, Deep, the example and Below answer. -/
namespace Go.Proofs.YtfmhghlmljlfgaaGreatDoor.BerS
open Go.RowKit Gong Go.Proofs.YtfmhghlmljlfgaaGreatDoor.XTrS Go.Proofs.YtfmhghlmljlfgaaGreatDoorW.PrintWords Go.Proofs.YtfmhghlmljlfgaaGreatDoorW.PrintLast Go.Proofs.YtfmhghlmljlfgaaGreatDoorW.PrintMore
theorem below_at (x : Int) (n : Nat) (h0 : -9223372036854775808 ≤ x) (h1 : x ≤ 9223372036854775807) (hn : 0 < n) (hn2 : n ≤ 1000000) : ∃ m : Nat, gongbook_Below.f x (n : Int) = some (m : Int) ∧ m < n := by
 unfold gongbook_Below.f
 rw [if_neg (by omega)]
 have a1 := Int.tmod_lt_of_pos x (show (0 : Int) < n by omega)
 have a2 : -(n : Int) < Int.tmod x n := by
  rcases Int.le_total 0 x with hx | hx
  ·rw [Int.tmod_eq_emod_of_nonneg hx]
   have := Int.emod_nonneg x (show (n : Int) ≠ 0 by omega)
   omega
  ·have e := Int.neg_tmod (-x) n
   rw [Int.neg_neg] at e
   rw [e, Int.tmod_eq_emod_of_nonneg (by omega)]
   have := Int.emod_lt_of_pos (-x) (show (0 : Int) < n by omega)
   omega
 have e : wrap64 (Int.tmod x n + n) = Int.tmod x n + n := wrap_id (by omega) (by omega)
 rw [e, Int.tmod_eq_emod_of_nonneg (by omega)]
 have b1 := Int.emod_nonneg (Int.tmod x n + n) (show (n : Int) ≠ 0 by omega)
 have b2 := Int.emod_lt_of_pos (Int.tmod x n + n) (show (0 : Int) < n by omega)
 refine ⟨((Int.tmod x n + n) % n).toNat, ?_, by omega⟩
 congr 1
 omega
theorem wf_i64 {x : Int} (h : (Lit.int .i64 x).wf = true) : -9223372036854775808 ≤ x ∧ x ≤ 9223372036854775807 := by
 simp [Lit.wf, IntKind.min, IntKind.max, IntKind.signed, IntKind.bits] at h
 exact h
end Go.Proofs.YtfmhghlmljlfgaaGreatDoor.BerS
/- Layer 8: the elements of a body, one behind the other. -/
namespace Go.Proofs.YtfmhghlmljlfgaaGreatDoor.PduS
open Go.RowKit Gong Go.Proofs.YtfmhghlmljlfgaaGreatDoor.XTrS Go.Proofs.YtfmhghlmljlfgaaGreatDoor.OidS Go.Proofs.YtfmhghlmljlfgaaGreatDoorW.PrintWords Go.Proofs.YtfmhghlmljlfgaaGreatDoorW.PrintLast Go.Proofs.YtfmhghlmljlfgaaGreatDoorW.PrintMore
set_option linter.unusedVariables false
set_option linter.unusedSimpArgs false
inductive Els : List UInt8 → List (Nat × List UInt8) → Prop
 | nil : Els [] []
 | cons {l : List UInt8} {t : Nat} {b r : List UInt8} {ps : List (Nat × List UInt8)} : BerS.nextS l = some (t, b, r) → Els r ps → Els l ((t, b) :: ps)
def encP : List (Nat × List UInt8) → List UInt8
 | [] => []
 | p :: ps => BerS.enc p.1 p.2 ++ encP ps
def toP (p : Nat × List UInt8) : S62 := ⟨(p.1 : Int), Bs p.2⟩
theorem Els.len {l : List UInt8} {ps : List (Nat × List UInt8)} (h : Els l ps) : (encP ps).length ≤ l.length ∧ 2 * ps.length ≤ l.length := by
 induction h with
 | nil => exact ⟨Nat.le_refl _, Nat.le_refl _⟩
 | cons hn _ ih =>
  have := BerS.next_len hn
  rw [encP, List.length_append, List.length_cons]
  simp only
  omega
theorem Els.enc : ∀ (ps : List (Nat × List UInt8)), (∀ p ∈ ps, p.1 < 256 ∧ p.1 % 32 ≠ 31 ∧ p.2.length < 4294967296) → Els (encP ps) ps
 | [], _ => Els.nil
 | p :: ps, h => by
  have hp := h p (by simp)
  exact Els.cons (BerS.next_enc p.1 p.2 (encP ps) hp.1 hp.2.1 hp.2.2) (Els.enc ps (fun q hq => h q (by simp [hq])))
theorem next_ne {l : List UInt8} {q : Nat × List UInt8 × List UInt8} (h : BerS.nextS l = some q) : l ≠ [] := by
 rintro rfl
 exact absurd h (by simp [BerS.nextS])
theorem parts_step (k : Nat) (l : List UInt8) (acc : List S62) (hk : 1 ≤ k) (hl : l.length ≤ 1000000) (ha : acc.length ≤ 4096) : ber_Parts.l0 (k + 1) (Bs l) acc =
  (if l = [] then some (acc, 0) else match BerS.nextS l with
   | none => some ([], 50)
   | some (t, b, r) => if acc.length = 4096 then some ([], 2) else ber_Parts.l0 k (Bs r) (acc ++ [⟨(t : Int), Bs b⟩])) := by
 rw [ber_Parts.l0, toList_L, L_Bs]
 by_cases h0 : l = []
 ·rw [if_pos h0, if_pos h0]
 ·rw [if_neg h0, if_neg h0]
  have hn := BerS.next_eq k hk (Bs l) (by rw [show (Bs l).size = l.length from by rw [← L_len, L_Bs]]; omega)
  rw [show BerS.L (Bs l) = l from rfl] at hn
  rw [hn]
  cases hq : BerS.nextS l with
  | none => rfl
  | some q =>
   obtain ⟨t, b, r⟩ := q
   simp only [Option.bind_some]
   rw [if_pos trivial]
   by_cases h1 : acc.length = 4096
   ·rw [if_pos (by omega), if_pos h1]
   ·rw [if_neg (by omega), if_neg h1, if_pos (by omega)]
    rfl
theorem parts_ok {l : List UInt8} {ps : List (Nat × List UInt8)} (h : Els l ps) : ∀ (k : Nat) (acc : List S62), l.length ≤ 1000000 → acc.length + ps.length ≤ 4096 → ps.length + 2 ≤ k → ber_Parts.l0 k (Bs l) acc = some (acc ++ ps.map toP, 0) := by
 induction h with
 | nil =>
  intro k acc hl ha hk
  obtain ⟨k, rfl⟩ : ∃ m, k = m + 1 := ⟨k - 1, by simp at hk; omega⟩
  simp only [List.length_nil] at ha hk
  rw [parts_step k [] acc (by omega) (by simp) (by omega), if_pos rfl]
  simp
 | cons hn _ ih =>
  intro k acc hl ha hk
  rw [List.length_cons] at ha hk
  obtain ⟨k, rfl⟩ : ∃ m, k = m + 1 := ⟨k - 1, by omega⟩
  have hq := BerS.next_len hn
  rw [parts_step k _ acc (by omega) hl (by omega), if_neg (next_ne hn), hn]
  simp only
  rw [if_neg (by omega), ih k _ (by omega) (by simp; omega) (by omega)]
  simp [toP]
theorem parts_at {l : List UInt8} {ps : List (Nat × List UInt8)} (h : Els l ps) (hl : l.length ≤ 1000000) (hp : ps.length ≤ 4096) (k : Nat) (hk : ps.length + 2 ≤ k) : ber_Parts.f k (Bs l) = some (ps.map toP, 0) := by
 unfold ber_Parts.f
 rw [parts_ok h k [] hl (by simpa using hp) hk]
 rfl
end Go.Proofs.YtfmhghlmljlfgaaGreatDoor.PduS
/- Layer 7: which values may be; the program's answer and the reference's are one. -/
namespace Go.Proofs.YtfmhghlmljlfgaaGreatDoor.ValS
open Go.RowKit Gong Go.Proofs.YtfmhghlmljlfgaaGreatDoor.XTrS Go.Proofs.YtfmhghlmljlfgaaGreatDoor.OidS Go.Proofs.YtfmhghlmljlfgaaGreatDoorW.PrintWords Go.Proofs.YtfmhghlmljlfgaaGreatDoorW.PrintLast Go.Proofs.YtfmhghlmljlfgaaGreatDoorW.PrintMore
set_option linter.unusedVariables false
set_option linter.unusedSimpArgs false
def formOf (k : Int) : Int := if k = 2 then 1 else if k = 6 then 4 else if k = 5 then 5 else if k = 65 ∨ k = 66 ∨ k = 67 ∨ k = 70 then 2 else if k = 4 ∨ k = 64 ∨ k = 68 then 3 else 0
theorem of_eq (k : Int) : value_of.f k = some (formOf k) := by
 unfold value_of.f formOf
 by_cases h2 : k = 2
 ·rw [if_pos h2, if_pos h2]
 rw [if_neg h2, if_neg h2]
 by_cases h6 : k = 6
 ·rw [if_pos h6, if_pos h6]
 rw [if_neg h6, if_neg h6]
 by_cases h5 : k = 5
 ·rw [if_pos h5, if_pos h5]
 rw [if_neg h5, if_neg h5]
 by_cases h65 : k = 65
 ·rw [if_pos h65, if_pos (.inl h65)]
 rw [if_neg h65]
 by_cases h66 : k = 66
 ·rw [if_pos h66, if_pos (.inr (.inl h66))]
 rw [if_neg h66]
 by_cases h67 : k = 67
 ·rw [if_pos h67, if_pos (.inr (.inr (.inl h67)))]
 rw [if_neg h67]
 by_cases h70 : k = 70
 ·rw [if_pos h70, if_pos (.inr (.inr (.inr h70)))]
 rw [if_neg h70, if_neg (show ¬ (k = 65 ∨ k = 66 ∨ k = 67 ∨ k = 70) from fun h => by omega)]
 by_cases h4 : k = 4
 ·rw [if_pos h4, if_pos (.inl h4)]
 rw [if_neg h4]
 by_cases h64 : k = 64
 ·rw [if_pos h64, if_pos (.inr (.inl h64))]
 rw [if_neg h64]
 by_cases h68 : k = 68
 ·rw [if_pos h68, if_pos (.inr (.inr h68))]
 rw [if_neg h68, if_neg (show ¬ (k = 4 ∨ k = 64 ∨ k = 68) from fun h => by omega)]
def okV (k n : Int) (s : ByteArray) : Bool :=
 if k = 2 then decide (s.toList = [] ∧ -2147483648 ≤ n ∧ n ≤ 2147483647) else
 if k = 6 then decide (n = 0 ∧ (arcsR (L s)).2 = 0) else
 if k = 5 then decide (n = 0 ∧ s.toList = []) else
 if k = 65 ∨ k = 66 ∨ k = 67 then decide (s.toList = [] ∧ 0 ≤ n ∧ n ≤ 4294967295) else
 if k = 70 then decide (s.toList = []) else
 if k = 64 then decide (n = 0 ∧ s.size = 4) else
 if k = 4 ∨ k = 68 then decide (n = 0 ∧ s.size ≤ 65535) else false
theorem okU {k : Int} (n : Int) (s : ByteArray) (h : k = 65 ∨ k = 66 ∨ k = 67) : okV k n s = decide (s.toList = [] ∧ 0 ≤ n ∧ n ≤ 4294967295) := by unfold okV; rw [if_neg (by omega), if_neg (by omega), if_neg (by omega), if_pos h]
theorem right_eq (kd n : Int) (s : ByteArray) (hs : s.size ≤ 1000000000) (k : Nat) (hk : 500 ≤ k) : value_right.f k kd n s = some (okV kd n s) := by
 unfold value_right.f okV
 rw [of_eq]
 simp only [Option.bind_some]
 by_cases h2 : kd = 2
 ·subst h2
  rw [if_pos (show formOf 2 = 1 from rfl), if_pos rfl]
  by_cases a : s.toList = []
  ·rw [if_pos a]
   by_cases b : n ≥ -2147483648
   ·rw [if_pos b]; congr 1; exact decide_eq_decide.2 ⟨fun h => ⟨a, b, h⟩, fun h => h.2.2⟩
   ·rw [if_neg b]; congr 1; exact (decide_eq_false (fun h => b h.2.1)).symm
  ·rw [if_neg a]; congr 1; exact (decide_eq_false (fun h => a h.1)).symm
 rw [if_neg h2]
 by_cases h6 : kd = 6
 ·subst h6
  rw [if_neg (by decide), if_neg (by decide), if_neg (by decide), if_pos (show formOf 6 = 4 from rfl), if_pos rfl, arcs_eq s hs k hk]
  simp only [Option.bind_some]
  by_cases a : n = 0
  ·rw [if_pos a]; congr 1; rw [Bool.eq_iff_iff, beq_iff_eq, decide_eq_true_iff]; exact ⟨fun h => ⟨a, h⟩, fun h => h.2⟩
  ·rw [if_neg a]; congr 1; exact (decide_eq_false (fun h => a h.1)).symm
 rw [if_neg h6]
 by_cases h5 : kd = 5
 ·subst h5
  rw [if_neg (by decide), if_neg (by decide), if_neg (by decide), if_neg (by decide), if_pos (show formOf 5 = 5 from rfl), if_pos rfl]
  congr 1
  rw [Bool.eq_iff_iff, Bool.and_eq_true, beq_iff_eq, beq_iff_eq, decide_eq_true_iff]
 rw [if_neg h5]
 by_cases hu : kd = 65 ∨ kd = 66 ∨ kd = 67
 ·have e : formOf kd = 2 := by rcases hu with rfl | rfl | rfl <;> rfl
  rw [e, if_neg (by decide), if_pos rfl, if_pos hu]
  by_cases a : s.toList = []
  ·rw [if_pos a, if_neg (show ¬ kd = 70 by omega)]
   by_cases b : n ≥ 0
   ·rw [if_pos b]; congr 1; exact decide_eq_decide.2 ⟨fun h => ⟨a, b, h⟩, fun h => h.2.2⟩
   ·rw [if_neg b]; congr 1; exact (decide_eq_false (fun h => b h.2.1)).symm
  ·rw [if_neg a]; congr 1; exact (decide_eq_false (fun h => a h.1)).symm
 rw [if_neg hu]
 by_cases h70 : kd = 70
 ·subst h70
  rw [if_neg (by decide), if_pos (show formOf 70 = 2 from rfl), if_pos rfl, if_pos rfl]
  by_cases a : s.toList = []
  ·rw [if_pos a, decide_eq_true a]
  ·rw [if_neg a, decide_eq_false a]
 simp only [if_neg h70]
 by_cases h64 : kd = 64
 ·subst h64
  rw [if_neg (by decide), if_neg (by decide), if_pos (show formOf 64 = 3 from rfl), if_pos rfl]
  unfold value_long.f
  rw [if_pos rfl]
  simp only [Option.bind_some]
  by_cases a : n = 0
  ·rw [if_pos a]; congr 1; rw [Bool.eq_iff_iff, beq_iff_eq, decide_eq_true_iff]; exact ⟨fun h => ⟨a, by omega⟩, fun h => by omega⟩
  ·rw [if_neg a]; congr 1; exact (decide_eq_false (fun h => a h.1)).symm
 rw [if_neg h64]
 by_cases h4 : kd = 4 ∨ kd = 68
 ·have e : formOf kd = 3 := by rcases h4 with rfl | rfl <;> rfl
  rw [e, if_neg (by decide), if_neg (by decide), if_pos rfl, if_pos h4]
  unfold value_long.f
  rw [if_neg h64]
  simp only [Option.bind_some]
  by_cases a : n = 0
  ·rw [if_pos a]; congr 1; exact decide_eq_decide.2 ⟨fun h => ⟨a, by omega⟩, fun h => by omega⟩
  ·rw [if_neg a]; congr 1; exact (decide_eq_false (fun h => a h.1)).symm
 rw [if_neg h4]
 have e : formOf kd = 0 := by
  unfold formOf
  rw [if_neg h2, if_neg h6, if_neg h5, if_neg (by omega), if_neg (by omega)]
 rw [e, if_neg (by decide), if_neg (by decide), if_neg (by decide), if_neg (by decide), if_neg (by decide)]
end Go.Proofs.YtfmhghlmljlfgaaGreatDoor.ValS
/- Layer 7: the chapter's examples. -/
namespace Go.Proofs.YtfmhghlmljlfgaaGreatDoor.ValS
open Go.RowKit Gong Go.Proofs.YtfmhghlmljlfgaaGreatDoor.XTrS Go.Proofs.YtfmhghlmljlfgaaGreatDoor.OidS Go.Proofs.YtfmhghlmljlfgaaGreatDoorW.PrintWords Go.Proofs.YtfmhghlmljlfgaaGreatDoorW.PrintLast Go.Proofs.YtfmhghlmljlfgaaGreatDoorW.PrintMore
end Go.Proofs.YtfmhghlmljlfgaaGreatDoor.ValS
/- Layer 5: a number that is read is written by the same bytes. -/
namespace Go.Proofs.YtfmhghlmljlfgaaGreatDoor.BerS
open Go.RowKit Gong Go.Proofs.YtfmhghlmljlfgaaGreatDoor.XTrS Go.Proofs.YtfmhghlmljlfgaaGreatDoorW.PrintWords Go.Proofs.YtfmhghlmljlfgaaGreatDoorW.PrintLast Go.Proofs.YtfmhghlmljlfgaaGreatDoorW.PrintMore
set_option linter.unusedVariables false
set_option linter.unusedSimpArgs false
theorem byte_of (x : Nat) (h : x < 256) : (UInt8.ofNat x).toNat = x := by simp; omega
end Go.Proofs.YtfmhghlmljlfgaaGreatDoor.BerS
/- Layer 6: the example; the arcs of a text that was put together; one arc more. -/
namespace Go.Proofs.YtfmhghlmljlfgaaGreatDoor.OidS
open Go.RowKit Gong Go.Proofs.YtfmhghlmljlfgaaGreatDoor.XTrS Go.Proofs.YtfmhghlmljlfgaaGreatDoor.DecS Go.Proofs.YtfmhghlmljlfgaaGreatDoorW.PrintWords Go.Proofs.YtfmhghlmljlfgaaGreatDoorW.PrintLast Go.Proofs.YtfmhghlmljlfgaaGreatDoorW.PrintMore
set_option linter.unusedVariables false
set_option linter.unusedSimpArgs false
theorem put_size {l : List Int} (h : isS l = true) : (Bs (putL l)).size ≤ 1000000000 := by
 obtain ⟨h1, h2, h3, h4⟩ := isS_parts h
 have := putL_len h3
 rw [← L_len, L_Bs]
 omega
theorem arcs_of {l : List Int} (h : isS l = true) (k : Nat) (hk : 500 ≤ k) : oid_Arcs.f k (Bs (putL l)) = some (l, 0) := by
 rw [arcs_eq _ (put_size h) k hk, L_Bs, arcsR_put h]
end Go.Proofs.YtfmhghlmljlfgaaGreatDoor.OidS
/- Layer 6: numbers by seven bits, there and back. -/
namespace Go.Proofs.YtfmhghlmljlfgaaGreatDoor.OidS
open Go.RowKit Gong Go.Proofs.YtfmhghlmljlfgaaGreatDoor.XTrS Go.Proofs.YtfmhghlmljlfgaaGreatDoor.DecS Go.Proofs.YtfmhghlmljlfgaaGreatDoorW.PrintWords Go.Proofs.YtfmhghlmljlfgaaGreatDoorW.PrintLast Go.Proofs.YtfmhghlmljlfgaaGreatDoorW.PrintMore
set_option linter.unusedVariables false
set_option linter.unusedSimpArgs false
def hiG : Nat → List UInt8
 | n => if h : n < 128 then [UInt8.ofNat (n + 128)] else hiG (n / 128) ++ [UInt8.ofNat (n % 128 + 128)]
termination_by n => n
decreasing_by omega
def grp (n : Nat) : List UInt8 := if n < 128 then [UInt8.ofNat n] else hiG (n / 128) ++ [UInt8.ofNat (n % 128)]
theorem hiG_lo {n : Nat} (h : n < 128) : hiG n = [UInt8.ofNat (n + 128)] := by rw [hiG, dif_pos h]
theorem hiG_hi {n : Nat} (h : ¬ n < 128) : hiG n = hiG (n / 128) ++ [UInt8.ofNat (n % 128 + 128)] := by rw [hiG, dif_neg h]
theorem u8_nat (n : Nat) (h : n < 256) : (UInt8.ofNat n).toNat = n := by simp [UInt8.toNat_ofNat]; omega
theorem hiG_pos (n : Nat) : 0 < (hiG n).length := by
 by_cases c : n < 128
 ·rw [hiG_lo c]; simp
 ·rw [hiG_hi c, List.length_append]; simp
theorem hiG_len : ∀ (m n : Nat), n < 128 ^ (m + 1) → (hiG n).length ≤ m + 1 := by
 intro m
 induction m with
 | zero => intro n h; rw [hiG_lo (by simpa using h)]; exact Nat.le_refl _
 | succ m ih =>
  intro n h
  by_cases c : n < 128
  ·rw [hiG_lo c]; simp
  ·rw [hiG_hi c, List.length_append]
   have := ih (n / 128) (by rw [Nat.pow_succ] at h; omega)
   simp only [List.length_cons, List.length_nil]
   omega
theorem grp_len (n : Nat) (h : n ≤ 4294967295) : (grp n).length ≤ 5 := by
 unfold grp
 by_cases c : n < 128
 ·rw [if_pos c]; simp
 ·rw [if_neg c, List.length_append]
  have := hiG_len 3 (n / 128) (by show n / 128 < 268435456; omega)
  simp only [List.length_cons, List.length_nil]
  omega
theorem grp_pos (n : Nat) : 0 < (grp n).length := by
 unfold grp
 by_cases c : n < 128
 ·rw [if_pos c]; simp
 ·rw [if_neg c, List.length_append]; simp
theorem andn (b : Nat) (h : b < 256) : wrap64 (Go.bits .andNot .u8 (b : Int) 128) = ((b % 128 : Nat) : Int) := by
 have : ∀ m : Fin 256, wrap64 (Go.bits .andNot .u8 ((m.val : Nat) : Int) 128) = ((m.val % 128 : Nat) : Int) := by decide +kernel
 exact this ⟨b, h⟩
theorem wraps_i63 (n : Int) (h0 : 0 ≤ n) (h1 : n < 2 ^ 63) : IntKind.i64.wrap n = n := by
 have : (2 : Int) ^ 63 = 9223372036854775808 := rfl
 rw [IntKind.wrap_i64]; omega
theorem or7 (a c : Nat) (ha : a ≤ 4294967295) (hc : c < 128) : Go.bits .or .i64 (wrap64 ((a : Int) * 128)) (c : Int) = ((a * 128 + c : Nat) : Int) := by
 rw [wrap_id (by omega) (by omega)]
 have := bits_join .i64 63 (by decide) wraps_i63 7 ((a : Int) * 128) (c : Int) (by omega) (by show _ % (128 : Int) = 0; omega) (by show _ < (9223372036854775808 : Int); omega) (by omega) (by show _ < (128 : Int); omega) (by show _ < (9223372036854775808 : Int); omega)
 rw [this]
 omega
theorem bt_get (s : ByteArray) (i : Nat) (h : i < (L s).length) : bt s (i : Int) = (((L s)[i]'h).toNat : Int) := by
 rw [L_len] at h
 exact (bt_at s i h).symm
theorem step_eq (s : ByteArray) (a i k : Nat) (ha : a ≤ 4294967295) (hi : i < 9) (hl : i < (L s).length) :
    octet_groups.l0 (k + 2) s 4294967295 (a : Int) (i : Int) =
      (let b := ((L s)[i]'hl).toNat
       if i = 0 ∧ b = 128 then some (0, 0, 3) else if 4294967295 < a * 128 + b % 128 then some (0, 0, 2) else if b < 128 then some (((a * 128 + b % 128 : Nat) : Int), ((i + 1 : Nat) : Int), 0)
       else octet_groups.l0 k s 4294967295 ((a * 128 + b % 128 : Nat) : Int) ((i + 1 : Nat) : Int)) := by
  have hs := L_len s
  have hb := bt_get s i hl
  obtain ⟨b, hbb⟩ : ∃ b : Nat, ((L s)[i]'hl).toNat = b := ⟨_, rfl⟩
  have hb256 : b < 256 := by rw [← hbb]; exact UInt8.toNat_lt _
  rw [hbb] at hb ⊢
  simp only [octet_groups.l0]
  rw [if_pos (show (i : Int) < 9 by omega), if_neg (show ¬ (i : Int) = (s.size : Int) by omega), if_pos (show (0 : Int) ≤ (i : Int) by omega), if_pos (show (i : Int) < (s.size : Int) by omega), hb, andn b hb256, or7 a (b % 128) ha (by omega), wrap_succ i (by omega)]
  by_cases c0 : i = 0
  · rw [if_pos (show ((i + 1 : Nat) : Int) = 1 by omega)]
    simp only [octet_groups.j1]
    by_cases c1 : b = 128
    · rw [if_pos (show ((b : Int) == 128) = true by rw [beq_iff_eq]; omega), if_pos ⟨c0, c1⟩]
    · rw [if_neg (show ¬ ((b : Int) == 128) = true by rw [beq_iff_eq]; omega), if_neg (show ¬ (i = 0 ∧ b = 128) from fun h => c1 h.2)]
      by_cases c2 : 4294967295 < a * 128 + b % 128
      · rw [if_pos (show ((a * 128 + b % 128 : Nat) : Int) > 4294967295 by omega), if_pos c2]
      · rw [if_neg (show ¬ ((a * 128 + b % 128 : Nat) : Int) > 4294967295 by omega), if_neg c2]
        by_cases c3 : b < 128
        · rw [if_pos (show (b : Int) < 128 by omega), if_pos c3]
        · rw [if_neg (show ¬ (b : Int) < 128 by omega), if_neg c3]
  · rw [if_neg (show ¬ ((i + 1 : Nat) : Int) = 1 by omega)]
    simp only [octet_groups.j1]
    rw [if_neg (show ¬ false = true by decide), if_neg (show ¬ (i = 0 ∧ b = 128) from fun h => c0 h.1)]
    by_cases c2 : 4294967295 < a * 128 + b % 128
    · rw [if_pos (show ((a * 128 + b % 128 : Nat) : Int) > 4294967295 by omega), if_pos c2]
    · rw [if_neg (show ¬ ((a * 128 + b % 128 : Nat) : Int) > 4294967295 by omega), if_neg c2]
      by_cases c3 : b < 128
      · rw [if_pos (show (b : Int) < 128 by omega), if_pos c3]
      · rw [if_neg (show ¬ (b : Int) < 128 by omega), if_neg c3]
theorem read_hi (s : ByteArray) : ∀ (a k : Nat) (rest : List UInt8), 0 < a → a ≤ 4294967295 → L s = hiG a ++ rest → (hiG a).length < 9 →
  octet_groups.l0 (k + 2 * (hiG a).length) s 4294967295 0 0 = octet_groups.l0 k s 4294967295 (a : Int) ((hiG a).length : Int) := by
 intro a
 induction a using Nat.strongRecOn with
 | ind a ih =>
  intro k rest h0 h1 hL h9
  by_cases c : a < 128
  ·rw [hiG_lo c] at hL h9 ⊢
   have hlt : 0 < (L s).length := by rw [hL]; simp
   have h := step_eq s 0 0 k (by omega) (by omega) hlt
   have hb : ((L s)[0]'hlt).toNat = a + 128 := by
    have : (L s)[0]'hlt = UInt8.ofNat (a + 128) := by simp only [hL]; rfl
    rw [this]; exact u8_nat _ (by omega)
   simp only [hb] at h
   rw [if_neg (by omega), if_neg (by omega), if_neg (by omega), show 0 * 128 + (a + 128) % 128 = a by omega] at h
   simp only [List.length_cons, List.length_nil]
   exact h
  ·have hh := hiG_hi c
   have hlen : (hiG a).length = (hiG (a / 128)).length + 1 := by rw [hh, List.length_append]; rfl
   have hL2 : L s = hiG (a / 128) ++ (UInt8.ofNat (a % 128 + 128) :: rest) := by rw [hL, hh, List.append_assoc]; rfl
   have hr := ih (a / 128) (by omega) (k + 2) _ (by omega) (by omega) hL2 (by omega)
   rw [hlen, show k + 2 * ((hiG (a / 128)).length + 1) = k + 2 + 2 * (hiG (a / 128)).length by omega, hr]
   have hlt : (hiG (a / 128)).length < (L s).length := by rw [hL2, List.length_append]; simp
   have h := step_eq s (a / 128) (hiG (a / 128)).length k (by omega) (by omega) hlt
   have hb : ((L s)[(hiG (a / 128)).length]'hlt).toNat = a % 128 + 128 := by
    have : (L s)[(hiG (a / 128)).length]'hlt = UInt8.ofNat (a % 128 + 128) := by
     simp only [hL2]
     rw [List.getElem_append_right (Nat.le_refl _)]
     simp
    rw [this]; exact u8_nat _ (by omega)
   simp only [hb] at h
   have hp := hiG_pos (a / 128)
   rw [h, if_neg (by omega), if_neg (by omega), if_neg (by omega), show a / 128 * 128 + (a % 128 + 128) % 128 = a by omega]
theorem read_grp (s : ByteArray) (v k : Nat) (rest : List UInt8) (hv : v ≤ 4294967295) (hL : L s = grp v ++ rest) (hk : 20 ≤ k) : octet_groups.f k s 4294967295 = some ((v : Int), ((grp v).length : Int), 0) := by
 have hgl := grp_len v hv
 unfold octet_groups.f
 by_cases c : v < 128
 ·have hg : grp v = [UInt8.ofNat v] := by unfold grp; rw [if_pos c]
  rw [hg] at hL ⊢
  obtain ⟨k, rfl⟩ : ∃ m, k = m + 2 := ⟨k - 2, by omega⟩
  have hlt : 0 < (L s).length := by rw [hL]; simp
  have h := step_eq s 0 0 k (by omega) (by omega) hlt
  have hb : ((L s)[0]'hlt).toNat = v := by
   have : (L s)[0]'hlt = UInt8.ofNat v := by simp only [hL]; rfl
   rw [this]; exact u8_nat _ (by omega)
  simp only [hb] at h
  rw [if_neg (by omega), if_neg (by omega), if_pos c, show 0 * 128 + v % 128 = v by omega] at h
  exact h
 ·have hg : grp v = hiG (v / 128) ++ [UInt8.ofNat (v % 128)] := by unfold grp; rw [if_neg c]
  have hlen : (grp v).length = (hiG (v / 128)).length + 1 := by rw [hg, List.length_append]; rfl
  have hL2 : L s = hiG (v / 128) ++ (UInt8.ofNat (v % 128) :: rest) := by rw [hL, hg, List.append_assoc]; rfl
  obtain ⟨k, rfl⟩ : ∃ m, k = m + 2 + 2 * (hiG (v / 128)).length := ⟨k - 2 - 2 * (hiG (v / 128)).length, by omega⟩
  rw [read_hi s (v / 128) (k + 2) _ (by omega) (by omega) hL2 (by omega)]
  have hlt : (hiG (v / 128)).length < (L s).length := by rw [hL2, List.length_append]; simp
  have h := step_eq s (v / 128) (hiG (v / 128)).length k (by omega) (by omega) hlt
  have hb : ((L s)[(hiG (v / 128)).length]'hlt).toNat = v % 128 := by
   have : (L s)[(hiG (v / 128)).length]'hlt = UInt8.ofNat (v % 128) := by
    simp only [hL2]
    rw [List.getElem_append_right (Nat.le_refl _)]
    simp
   rw [this]; exact u8_nat _ (by omega)
  simp only [hb] at h
  rw [h, if_neg (by omega), if_neg (by omega), if_pos (by omega), show v / 128 * 128 + v % 128 % 128 = v by omega, hlen]
theorem pow128 : (128 : Int) ^ 0 = 1 ∧ (128 : Int) ^ 1 = 128 ∧ (128 : Int) ^ 2 = 16384 ∧ (128 : Int) ^ 3 = 2097152 ∧ (128 : Int) ^ 4 = 268435456 ∧ (128 : Int) ^ 5 = 34359738368 := by decide
theorem groups_eq (n : Nat) (h : n ≤ 4294967295) : octet_Groups.f (n : Int) = some (Bs (grp n), 0) := by
 obtain ⟨q0, q1, q2, q3, q4, q5⟩ := pow128
 have drop_range : ∀ k : Nat, k ≤ 8 → (gbytes (n : Int)).drop (8 - k) = (List.range' (8 - k) (k + 1)).map fun i => gbyte (n : Int) i := by
  intro k hk
  unfold gbytes
  rw [← List.map_drop, List.range_eq_range', List.drop_range']
  congr 2 <;> omega
 unfold octet_Groups.f
 rw [if_neg (by omega), if_pos (by omega)]
 congr 2
 apply L_inj
 rw [L_Bs]
 unfold gkOf
 unfold grp
 by_cases c0 : n < 128
 ·have e : gkAt 8 (n : Int) 0 = 0 := by unfold gkAt; rw [if_neg (by rw [q1]; omega)]
  rw [e, drop_range 0 (by omega), if_pos c0]
  have b0 : gbyte (n : Int) 8 = (n : Int) := by unfold gbyte; simp only [Nat.sub_self, q0]; rw [if_neg (by omega)]; omega
  simp only [List.range', List.map_cons, List.map_nil, Nat.sub_zero, b0]
  rfl
 ·rw [if_neg c0]
  have b0 : gbyte (n : Int) 8 = ((n % 128 : Nat) : Int) := by unfold gbyte; simp only [Nat.sub_self, q0]; rw [if_neg (by omega)]; omega
  by_cases c1 : n < 16384
  ·have e : gkAt 8 (n : Int) 0 = 1 := by unfold gkAt; rw [if_pos (by rw [q1]; omega)]; unfold gkAt; rw [if_neg (by rw [q2]; omega)]
   rw [e, drop_range 1 (by omega), hiG_lo (by omega)]
   have b1 : gbyte (n : Int) 7 = ((n / 128 + 128 : Nat) : Int) := by unfold gbyte; simp only [show 8 - 7 = 1 from rfl, q1]; rw [if_pos (by omega)]; omega
   simp only [List.range', List.map_cons, List.map_nil, show 8 - 1 = 7 from rfl, show 7 + 1 = 8 from rfl, b0, b1]
   rfl
  ·rw [hiG_hi (show ¬ n / 128 < 128 by omega)]
   have b1 : gbyte (n : Int) 7 = ((n / 128 % 128 + 128 : Nat) : Int) := by unfold gbyte; simp only [show 8 - 7 = 1 from rfl, q1]; rw [if_pos (by omega)]; omega
   by_cases c2 : n < 2097152
   ·have e : gkAt 8 (n : Int) 0 = 2 := by unfold gkAt; rw [if_pos (by rw [q1]; omega)]; unfold gkAt; rw [if_pos (by rw [q2]; omega)]; unfold gkAt; rw [if_neg (by rw [q3]; omega)]
    rw [e, drop_range 2 (by omega), hiG_lo (by omega)]
    have b2 : gbyte (n : Int) 6 = ((n / 128 / 128 + 128 : Nat) : Int) := by unfold gbyte; simp only [show 8 - 6 = 2 from rfl, q2]; rw [if_pos (by omega)]; omega
    simp only [List.range', List.map_cons, List.map_nil, show 8 - 2 = 6 from rfl, show 6 + 1 = 7 from rfl, show 7 + 1 = 8 from rfl, b0, b1, b2]
    rfl
   ·rw [hiG_hi (show ¬ n / 128 / 128 < 128 by omega)]
    have b2 : gbyte (n : Int) 6 = ((n / 128 / 128 % 128 + 128 : Nat) : Int) := by unfold gbyte; simp only [show 8 - 6 = 2 from rfl, q2]; rw [if_pos (by omega)]; omega
    by_cases c3 : n < 268435456
    ·have e : gkAt 8 (n : Int) 0 = 3 := by unfold gkAt; rw [if_pos (by rw [q1]; omega)]; unfold gkAt; rw [if_pos (by rw [q2]; omega)]; unfold gkAt; rw [if_pos (by rw [q3]; omega)]; unfold gkAt; rw [if_neg (by rw [q4]; omega)]
     rw [e, drop_range 3 (by omega), hiG_lo (by omega)]
     have b3 : gbyte (n : Int) 5 = ((n / 128 / 128 / 128 + 128 : Nat) : Int) := by unfold gbyte; simp only [show 8 - 5 = 3 from rfl, q3]; rw [if_pos (by omega)]; omega
     simp only [List.range', List.map_cons, List.map_nil, show 8 - 3 = 5 from rfl, show 5 + 1 = 6 from rfl, show 6 + 1 = 7 from rfl, show 7 + 1 = 8 from rfl, b0, b1, b2, b3]
     rfl
    ·have e : gkAt 8 (n : Int) 0 = 4 := by unfold gkAt; rw [if_pos (by rw [q1]; omega)]; unfold gkAt; rw [if_pos (by rw [q2]; omega)]; unfold gkAt; rw [if_pos (by rw [q3]; omega)]; unfold gkAt; rw [if_pos (by rw [q4]; omega)]; unfold gkAt; rw [if_neg (by rw [q5]; omega)]
     rw [e, drop_range 4 (by omega), hiG_hi (show ¬ n / 128 / 128 / 128 < 128 by omega), hiG_lo (by omega)]
     have b3 : gbyte (n : Int) 5 = ((n / 128 / 128 / 128 % 128 + 128 : Nat) : Int) := by unfold gbyte; simp only [show 8 - 5 = 3 from rfl, q3]; rw [if_pos (by omega)]; omega
     have b4 : gbyte (n : Int) 4 = ((n / 128 / 128 / 128 / 128 + 128 : Nat) : Int) := by unfold gbyte; simp only [show 8 - 4 = 4 from rfl, q4]; rw [if_pos (by omega)]; omega
     simp only [List.range', List.map_cons, List.map_nil, show 4 + 1 = 5 from rfl, show 5 + 1 = 6 from rfl, show 6 + 1 = 7 from rfl, show 7 + 1 = 8 from rfl, b0, b1, b2, b3, b4]
     rfl
end Go.Proofs.YtfmhghlmljlfgaaGreatDoor.OidS
/- Layer 6: octets: what is written is read, what is read is written. -/
namespace Go.Proofs.YtfmhghlmljlfgaaGreatDoor.OidS
open Go.RowKit Gong Go.Proofs.YtfmhghlmljlfgaaGreatDoor.XTrS Go.Proofs.YtfmhghlmljlfgaaGreatDoor.DecS Go.Proofs.YtfmhghlmljlfgaaGreatDoorW.PrintWords Go.Proofs.YtfmhghlmljlfgaaGreatDoorW.PrintLast Go.Proofs.YtfmhghlmljlfgaaGreatDoorW.PrintMore
set_option linter.unusedVariables false
set_option linter.unusedSimpArgs false
def catG (l : List Int) : List UInt8 := l.flatMap fun n => grp n.toNat
theorem catG_cons (n : Int) (l : List Int) : catG (n :: l) = grp n.toNat ++ catG l := by unfold catG; rw [List.flatMap_cons]
theorem groups_int (n : Int) (h0 : 0 ≤ n) (h1 : n ≤ 4294967295) : octet_Groups.f n = some (Bs (grp n.toNat), 0) := by
 have := groups_eq n.toNat (by omega)
 rw [show ((n.toNat : Nat) : Int) = n by omega] at this
 exact this
theorem go_eq : ∀ (l : List Int) (acc : List UInt8), (∀ x ∈ l, 0 ≤ x ∧ x ≤ 4294967295) → acc.length + 5 * l.length ≤ 1000000 → oid_Encode.go l acc = some (acc ++ catG l)
 | [], acc, _, _ => by simp [oid_Encode.go, catG]
 | n :: l, acc, h, hb => by
  have hn := h n (by simp)
  have hg := grp_len n.toNat (by omega)
  simp only [List.length_cons] at hb
  have hs : (Bs (grp n.toNat)).size = (grp n.toNat).length := by rw [← L_len, L_Bs]
  unfold oid_Encode.go
  rw [groups_int n hn.1 hn.2]
  simp only [Option.bind_some]
  rw [if_pos (by rw [hs]; omega), go_eq l _ (fun x hx => h x (by simp [hx])) (by rw [List.length_append]; show acc.length + (L (Bs (grp n.toNat))).length + _ ≤ _; rw [L_Bs]; omega), catG_cons]
  show some (acc ++ L (Bs (grp n.toNat)) ++ catG l) = _
  rw [L_Bs, List.append_assoc]
def encL : List Int → List UInt8
 | x0 :: x1 :: l => catG ((x1 + 40 * x0) :: l)
 | _ => []
theorem heads_le {x0 x1 : Int} {l : List Int} (h : isS (x0 :: x1 :: l) = true) : 0 ≤ x0 ∧ 0 ≤ x1 ∧ x1 + 40 * x0 ≤ 4294967295 ∧ mn ((x1 + 40 * x0) / 40) 2 = x0 := by
 obtain ⟨_, _, h3, h4⟩ := isS_parts h
 have a := h3 x0 (by simp)
 have b := h3 x1 (by simp)
 unfold heads at h4
 rw [decide_eq_true_eq] at h4
 refine ⟨a.1, b.1, by omega, ?_⟩
 unfold mn
 by_cases c : 2 < (x1 + 40 * x0) / 40
 ·rw [if_pos c]; omega
 ·rw [if_neg c]; omega
theorem enc_of {x : List Int} (h : isS x = true) (k : Nat) (hk : 500 ≤ k) : oid_Encode.f k (Bs (putL x)) = some (Bs (encL x), 0) := by
 obtain ⟨h1, h2, h3, h4⟩ := isS_parts h
 unfold oid_Encode.f
 rw [arcs_of h k hk]
 simp only [Option.bind_some, if_true]
 match x, h, h1, h2, h3 with
 | x0 :: x1 :: l, h, h1, h2, h3 =>
  obtain ⟨p0, p1, p2, _⟩ := heads_le h
  have b := h3 x0 (by simp)
  have e : wrap64 (x1 + wrap64 (40 * x0)) = x1 + 40 * x0 := by rw [wrap_id (x := 40 * x0) (by omega) (by omega), wrap_id (by omega) (by omega)]
  simp only [List.length_cons] at h2
  show (oid_Encode.go (wrap64 (x1 + wrap64 (40 * x0)) :: l) []).bind (fun o => some ((⟨o.toArray⟩ : ByteArray), 0)) = _
  rw [e, go_eq _ [] (fun y hy => by
   rcases List.mem_cons.1 hy with rfl | hy
   ·exact ⟨by omega, p2⟩
   ·exact h3 y (by simp [hy])) (by simp only [List.length_cons, List.length_nil]; omega)]
  rfl
theorem rg_ok (s : ByteArray) (k v j : Nat) (hj : j ≤ (L s).length) (h : octet_groups.f k s 4294967295 = some ((v : Int), (j : Int), 0)) :
  ∃ s' : ByteArray, octet_Reader_Groups.f k s 0 4294967295 = some ((v : Int), s', 0) ∧ L s' = (L s).drop j := by
 have hs := L_len s
 refine ⟨s.extract j s.size, ?_, ?_⟩
 ·unfold octet_Reader_Groups.f
  rw [if_pos rfl, h]
  simp only [Option.bind_some, octet_Reader_Refuse.f, if_true]
  rw [if_pos (by omega), if_pos (by omega), Int.toNat_natCast]
 ·simp only [L, ByteArray.data_extract, Array.toList_extract, List.extract_eq_take_drop]
  exact List.take_of_length_le (by rw [List.length_drop]; show (L s).length - j ≤ _; omega)
theorem rg_grp (s : ByteArray) (v k : Nat) (rest : List UInt8) (hv : v ≤ 4294967295) (hL : L s = grp v ++ rest) (hk : 20 ≤ k) : ∃ s' : ByteArray, octet_Reader_Groups.f k s 0 4294967295 = some ((v : Int), s', 0) ∧ L s' = rest := by
 obtain ⟨s', h1, h2⟩ := rg_ok s k v (grp v).length (by rw [hL, List.length_append]; omega) (read_grp s v k rest hv hL hk)
 exact ⟨s', h1, by rw [h2, hL, List.drop_left]⟩
theorem j1_yes {x : List Int} (hx : isS x = true) (s : ByteArray) (k : Nat) (hk : 2000 ≤ k) : oid_Decode.j1 (k + 1) x s 0 = some (Bs (putL x), 0) := by
 obtain ⟨h1, h2, h3, h4⟩ := isS_parts hx
 simp only [oid_Decode.j1, octet_Reader_Code.f, Option.bind_some, if_true]
 rw [is_eq x k (by omega), hx]
 simp only [Option.bind_some, if_true]
 rw [put_eq x (by omega) h3 k hk]
 rfl
theorem size_L (s : ByteArray) : ((s.size : Int) > 0) ↔ L s ≠ [] := by
 have := L_len s
 constructor
 ·intro h e; rw [e] at this; simp at this; omega
 ·intro h
  have := List.length_pos_iff.2 h
  omega
theorem dec_back : ∀ (r : List Int) (k : Nat) (x : List Int) (s : ByteArray), isS (x ++ r) = true → L s = catG r → 2500 + 2 * r.length ≤ k → oid_Decode.l0 k x s 0 = some (Bs (putL (x ++ r)), 0)
 | [], k, x, s, hx, hs, hk => by
  obtain ⟨k, rfl⟩ : ∃ m, k = m + 2 := ⟨k - 2, by omega⟩
  rw [List.append_nil] at hx ⊢
  simp only [oid_Decode.l0, octet_Reader_Code.f, octet_Reader_Left.f, Option.bind_some, if_true]
  rw [if_neg (fun h => (size_L s).1 h hs)]
  exact j1_yes hx s k (by omega)
 | n :: r, k, x, s, hx, hs, hk => by
  obtain ⟨k, rfl⟩ : ∃ m, k = m + 1 := ⟨k - 1, by omega⟩
  obtain ⟨h1, h2, h3, h4⟩ := isS_parts hx
  have hn := h3 n (by simp)
  rw [catG_cons] at hs
  simp only [List.length_append, List.length_cons] at h2 hk
  simp only [oid_Decode.l0, octet_Reader_Code.f, octet_Reader_Left.f, Option.bind_some, if_true]
  have hne : L s ≠ [] := fun e => by
   have := grp_pos n.toNat
   rw [e] at hs
   have h0 := congrArg List.length hs
   rw [List.length_append] at h0
   simp only [List.length_nil] at h0
   omega
  rw [if_pos ((size_L s).2 hne), if_pos (by omega)]
  obtain ⟨s', e1, e2⟩ := rg_grp s n.toNat k _ (by omega) hs (by omega)
  rw [e1]
  simp only [Option.bind_some]
  rw [if_pos (by omega), show ((n.toNat : Nat) : Int) = n by omega, dec_back r k (x ++ [n]) s' (by rw [List.append_assoc]; exact hx) e2 (by omega), List.append_assoc]
  rfl
theorem first_eq (v : Int) (h0 : 0 ≤ v) (h1 : v ≤ 4294967295) : mn (wrap64 (Int.tdiv v 40)) 2 = mn (v / 40) 2 ∧ wrap64 (v - wrap64 (40 * mn (wrap64 (Int.tdiv v 40)) 2)) = v - 40 * mn (v / 40) 2 := by
 have e : Int.tdiv v 40 = v / 40 := Int.tdiv_eq_ediv_of_nonneg h0
 have hm : mn (v / 40) 2 = if 2 < v / 40 then 2 else v / 40 := rfl
 have hr : 0 ≤ mn (v / 40) 2 ∧ mn (v / 40) 2 ≤ 2 := by rw [hm]; split <;> omega
 rw [e, wrap_id (x := v / 40) (by omega) (by omega)]
 refine ⟨rfl, ?_⟩
 rw [wrap_id (x := 40 * mn (v / 40) 2) (by omega) (by omega), wrap_id (by omega) (by omega)]
theorem decode_enc {x : List Int} (h : isS x = true) (k : Nat) (hk : 3000 ≤ k) : oid_Decode.f k (Bs (encL x)) = some (Bs (putL x), 0) := by
 obtain ⟨h1, h2, h3, h4⟩ := isS_parts h
 match x, h, h1, h2 with
 | x0 :: x1 :: l, h, h1, h2 =>
  obtain ⟨p0, p1, p2, p3⟩ := heads_le h
  simp only [List.length_cons] at h2
  unfold oid_Decode.f octet_Read.f
  simp only [Option.bind_some]
  have hL : L (Bs (encL (x0 :: x1 :: l))) = grp (x1 + 40 * x0).toNat ++ catG l := by rw [L_Bs]; exact catG_cons _ _
  obtain ⟨s', e1, e2⟩ := rg_grp _ (x1 + 40 * x0).toNat k _ (by omega) hL (by omega)
  rw [e1]
  simp only [Option.bind_some]
  rw [show (((x1 + 40 * x0).toNat : Nat) : Int) = x1 + 40 * x0 by omega]
  obtain ⟨f1, f2⟩ := first_eq (x1 + 40 * x0) (by omega) p2
  rw [f2, f1, p3, show x1 + 40 * x0 - 40 * x0 = x1 by omega]
  exact dec_back l k [x0, x1] s' h e2 (by omega)
end Go.Proofs.YtfmhghlmljlfgaaGreatDoor.OidS
/- Layer 7: a value that may be is told by its element, and an element that tells a value is that of it. -/
namespace Go.Proofs.YtfmhghlmljlfgaaGreatDoor.ValS
open Go.RowKit Gong Go.Proofs.YtfmhghlmljlfgaaGreatDoor.XTrS Go.Proofs.YtfmhghlmljlfgaaGreatDoor.OidS Go.Proofs.YtfmhghlmljlfgaaGreatDoorW.PrintWords Go.Proofs.YtfmhghlmljlfgaaGreatDoorW.PrintLast Go.Proofs.YtfmhghlmljlfgaaGreatDoorW.PrintMore
set_option linter.unusedVariables false
set_option linter.unusedSimpArgs false
theorem empty_of {s : ByteArray} (h : s.toList = []) : s = ⟨#[]⟩ := L_inj (by rw [← toList_L, h]; rfl)
theorem u64_wrap (n : Int) : IntKind.u64.wrap n = n % 18446744073709551616 := IntKind.wrap_u64 n
theorem u64_back (n : Int) (h0 : -9223372036854775808 ≤ n) (h1 : n ≤ 9223372036854775807) : wrap64 (IntKind.u64.wrap n) = n := by rw [u64_wrap]; unfold wrap64; omega
theorem u64_rng (n : Int) : 0 ≤ IntKind.u64.wrap n ∧ IntKind.u64.wrap n ≤ 18446744073709551615 := by rw [u64_wrap]; omega
def bodyV (kd n : Int) (s : ByteArray) : List UInt8 :=
 if formOf kd = 1 then BerS.trimS (BerS.W8 n) else if formOf kd = 2 then BerS.trimS (0 :: BerS.W8 (IntKind.u64.wrap n)) else
 if formOf kd = 4 then (match arcsS (L s) with | some x => encL x | none => []) else L s
theorem fin_eq (kd n : Int) (s : ByteArray) (e : Int) (hs : s.size ≤ 1000000000) (k : Nat) (hk : 500 ≤ k) : value_Decode.fin k kd n s e = some (if e = 0 ∧ okV kd n s = true then (kd, n, s, 0) else (0, 0, ⟨#[]⟩, 70)) := by
 unfold value_Decode.fin
 by_cases he : e = 0
 ·rw [if_pos he, right_eq kd n s hs k hk]
  simp only [Option.bind_some]
  cases hok : okV kd n s with
  | true => rw [if_pos rfl, if_pos ⟨he, rfl⟩]
  | false => rw [if_neg (by simp), if_neg (fun h => by simp at h)]
 ·rw [if_neg he, if_neg (fun h => he h.1)]
theorem fin_ok (kd n : Int) (s : ByteArray) (hs : s.size ≤ 1000000000) (k : Nat) (hk : 500 ≤ k) (h : okV kd n s = true) : value_Decode.fin k kd n s 0 = some (kd, n, s, 0) := by
 rw [fin_eq kd n s 0 hs k hk, if_pos ⟨rfl, h⟩]
theorem ok_form {kd n : Int} {s : ByteArray} (h : okV kd n s = true) : (kd = 2 ∧ s = ⟨#[]⟩) ∨ (kd = 6 ∧ n = 0 ∧ ∃ x, isS x = true ∧ arcsS (L s) = some x ∧ s = Bs (putL x)) ∨ ((kd = 65 ∨ kd = 66 ∨ kd = 67 ∨ kd = 70) ∧ s = ⟨#[]⟩) ∨ ((kd = 4 ∨ kd = 5 ∨ kd = 64 ∨ kd = 68) ∧ n = 0) := by
 unfold okV at h
 by_cases h2 : kd = 2
 ·rw [if_pos h2, decide_eq_true_iff] at h
  exact .inl ⟨h2, empty_of h.1⟩
 rw [if_neg h2] at h
 by_cases h6 : kd = 6
 ·rw [if_pos h6, decide_eq_true_iff] at h
  refine .inr (.inl ⟨h6, h.1, ?_⟩)
  have h3 := h.2
  unfold arcsR at h3
  cases ha : arcsS (L s) with
  | none => rw [ha] at h3; simp at h3
  | some x =>
   obtain ⟨a, b⟩ := arcs_some ha
   exact ⟨x, a, rfl, L_inj (by rw [L_Bs, b])⟩
 rw [if_neg h6] at h
 by_cases h5 : kd = 5
 ·rw [if_pos h5, decide_eq_true_iff] at h
  exact .inr (.inr (.inr ⟨.inr (.inl h5), h.1⟩))
 rw [if_neg h5] at h
 by_cases hu : kd = 65 ∨ kd = 66 ∨ kd = 67
 ·rw [if_pos hu, decide_eq_true_iff] at h
  exact .inr (.inr (.inl ⟨by omega, empty_of h.1⟩))
 rw [if_neg hu] at h
 by_cases h70 : kd = 70
 ·rw [if_pos h70, decide_eq_true_iff] at h
  exact .inr (.inr (.inl ⟨by omega, empty_of h⟩))
 rw [if_neg h70] at h
 by_cases h64 : kd = 64
 ·rw [if_pos h64, decide_eq_true_iff] at h
  exact .inr (.inr (.inr ⟨by omega, h.1⟩))
 rw [if_neg h64] at h
 by_cases h4 : kd = 4 ∨ kd = 68
 ·rw [if_pos h4, decide_eq_true_iff] at h
  exact .inr (.inr (.inr ⟨by omega, h.1⟩))
 rw [if_neg h4] at h
 exact absurd h (by simp)
theorem ok_tag {kd n : Int} {s : ByteArray} (h : okV kd n s = true) : ∃ t : Nat, kd = (t : Int) ∧ t < 256 ∧ t % 32 ≠ 31 ∧ BerS.made t = false := by
 rcases ok_form h with ⟨rfl, _⟩ | ⟨rfl, _⟩ | ⟨h | h | h | h, _⟩ | ⟨h | h | h | h, _⟩
 ·exact ⟨2, rfl, by decide, by decide, rfl⟩
 ·exact ⟨6, rfl, by decide, by decide, rfl⟩
 ·exact ⟨65, h, by decide, by decide, rfl⟩
 ·exact ⟨66, h, by decide, by decide, rfl⟩
 ·exact ⟨67, h, by decide, by decide, rfl⟩
 ·exact ⟨70, h, by decide, by decide, rfl⟩
 ·exact ⟨4, h, by decide, by decide, rfl⟩
 ·exact ⟨5, h, by decide, by decide, rfl⟩
 ·exact ⟨64, h, by decide, by decide, rfl⟩
 ·exact ⟨68, h, by decide, by decide, rfl⟩
theorem encL_small {x : List Int} (h : isS x = true) : (encL x).length ≤ 640 := by
 obtain ⟨p1, p2, p3, _⟩ := isS_parts h
 match x, h with
 | x0 :: x1 :: l, h =>
  have h4 := heads_le h
  have hc : ∀ l : List Int, (∀ y ∈ l, 0 ≤ y ∧ y ≤ 4294967295) → (catG l).length ≤ 5 * l.length := by
   intro l
   induction l with
   | nil => intro _; simp [catG]
   | cons y l ih =>
    intro hl
    rw [catG_cons, List.length_append, List.length_cons]
    have := grp_len y.toNat (by have := hl y (by simp); omega)
    have := ih (fun z hz => hl z (by simp [hz]))
    omega
  have h5 := hc l (fun y hy => p3 y (by simp [hy]))
  have h6 := grp_len (x1 + 40 * x0).toNat (by omega)
  show (catG ((x1 + 40 * x0) :: l)).length ≤ 640
  rw [catG_cons, List.length_append]
  simp only [List.length_cons] at p2
  omega
 | [], h => simp at p1
 | [_], h => simp at p1
theorem body_len {kd n : Int} {s : ByteArray} (h : okV kd n s = true) : (bodyV kd n s).length ≤ 700 ∨ (bodyV kd n s).length ≤ s.size := by
 unfold bodyV
 split
 ·left
  have := (BerS.trim_len (BerS.W8 n)).1
  rw [BerS.W8_len] at this
  omega
 ·split
  ·left
   have := (BerS.trim_len (0 :: BerS.W8 (IntKind.u64.wrap n))).1
   rw [List.length_cons, BerS.W8_len] at this
   omega
  ·split
   ·rename_i h3
    rcases ok_form h with ⟨rfl, _⟩ | ⟨rfl, _, x, hx, ha, _⟩ | ⟨h | h | h | h, _⟩ | ⟨h | h | h | h, _⟩
    ·exact absurd h3 (by decide)
    ·rw [ha]
     left
     have := encL_small hx
     show (encL x).length ≤ 700
     omega
    all_goals (subst h; exact absurd h3 (by decide))
   ·right
    rw [L_len]
    exact Nat.le_refl _
theorem BsEq (l : List UInt8) : BerS.Bs l = Bs l := rfl
theorem enc_ok {kd n : Int} {s : ByteArray} (h : okV kd n s = true) (hs : s.size ≤ 1000000) (h0 : -9223372036854775808 ≤ n) (h1 : n ≤ 9223372036854775807) (k : Nat) (hk : 3000 ≤ k) : value_Encode.f k kd n s = some (Bs (BerS.enc kd.toNat (bodyV kd n s)), 0) := by
 obtain ⟨t, ht, t1, t2, _⟩ := ok_tag h
 have hb := body_len h
 have hw := BerS.wrap_at t (bodyV kd n s) t1 t2 (by omega) k (by omega)
 rw [← ht] at hw
 rw [show kd.toNat = t by omega]
 unfold value_Encode.f
 rw [right_eq kd n s (by omega) k (by omega), h, of_eq]
 simp only [Option.bind_some]
 rw [if_pos trivial]
 unfold bodyV at hw ⊢
 by_cases f1 : formOf kd = 1
 ·rw [if_pos f1] at hw ⊢
  rw [if_pos f1, BerS.putN n k (by omega)]
  simp only [Option.bind_some]
  rw [hw]; rfl
 rw [if_neg f1] at hw ⊢
 rw [if_neg f1]
 by_cases f2 : formOf kd = 2
 ·rw [if_pos f2] at hw ⊢
  rw [if_pos f2, BerS.putU _ k (by omega)]
  simp only [Option.bind_some]
  rw [hw]; rfl
 rw [if_neg f2] at hw ⊢
 rw [if_neg f2]
 by_cases f4 : formOf kd = 4
 ·rw [if_pos f4] at hw ⊢
  rw [if_pos f4]
  rcases ok_form h with ⟨rfl, _⟩ | ⟨rfl, _, x, hx, ha, hsx⟩ | ⟨h | h | h | h, _⟩ | ⟨h | h | h | h, _⟩
  ·exact absurd f4 (by decide)
  ·rw [ha] at hw ⊢
   rw [hsx, enc_of hx k (by omega)]
   simp only [Option.bind_some]
   rw [← BsEq, hw]; rfl
  all_goals (subst h; exact absurd f4 (by decide))
 ·rw [if_neg f4] at hw ⊢
  rw [if_neg f4]
  have e : BerS.Bs (L s) = s := Bs_L s
  rw [e] at hw
  rw [hw]; rfl
theorem dec_body {kd n : Int} {s : ByteArray} (h : okV kd n s = true) (hs : s.size ≤ 1000000) (h0 : -9223372036854775808 ≤ n) (h1 : n ≤ 9223372036854775807) (k : Nat) (hk : 3000 ≤ k) : value_Decode.f k kd (Bs (bodyV kd n s)) = some (kd, n, s, 0) := by
 have hfin := fin_ok kd n s (by omega) k (by omega) h
 unfold value_Decode.f bodyV
 rw [of_eq]
 simp only [Option.bind_some]
 by_cases f1 : formOf kd = 1
 ·rw [if_pos f1, if_pos f1, ← BsEq, BerS.number_back n h0 h1]
  rcases ok_form h with ⟨_, hs0⟩ | ⟨rfl, _⟩ | ⟨h | h | h | h, _⟩ | ⟨h | h | h | h, _⟩
  ·rw [hs0] at hfin ⊢
   exact hfin
  ·exact absurd f1 (by decide)
  all_goals (subst h; exact absurd f1 (by decide))
 rw [if_neg f1, if_neg f1]
 by_cases f2 : formOf kd = 2
 ·have hr := u64_rng n
  rw [if_pos f2, if_pos f2, ← BsEq, BerS.unsigned_back _ hr.1 hr.2]
  simp only [Option.bind_some]
  rw [u64_back n h0 h1]
  rcases ok_form h with ⟨rfl, _⟩ | ⟨rfl, _⟩ | ⟨_, hs0⟩ | ⟨h | h | h | h, _⟩
  ·exact absurd f2 (by decide)
  ·exact absurd f2 (by decide)
  ·rw [hs0] at hfin ⊢
   exact hfin
  all_goals (subst h; exact absurd f2 (by decide))
 rw [if_neg f2, if_neg f2]
 by_cases f4 : formOf kd = 4
 ·rw [if_pos f4, if_pos f4]
  rcases ok_form h with ⟨rfl, _⟩ | ⟨rfl, hn, x, hx, ha, hsx⟩ | ⟨h | h | h | h, _⟩ | ⟨h | h | h | h, _⟩
  ·exact absurd f4 (by decide)
  ·rw [ha]
   simp only
   rw [decode_enc hx k (by omega)]
   simp only [Option.bind_some]
   rw [← hsx]
   rw [hn] at hfin ⊢
   exact hfin
  all_goals (subst h; exact absurd f4 (by decide))
 ·rw [if_neg f4, if_neg f4, Bs_L]
  rcases ok_form h with ⟨rfl, _⟩ | ⟨rfl, _⟩ | ⟨h | h | h | h, _⟩ | ⟨_, hn⟩
  ·exact absurd rfl f1
  ·exact absurd rfl f4
  ·subst h; exact absurd rfl f2
  ·subst h; exact absurd rfl f2
  ·subst h; exact absurd rfl f2
  ·subst h; exact absurd rfl f2
  ·rw [hn] at hfin ⊢; exact hfin
end Go.Proofs.YtfmhghlmljlfgaaGreatDoor.ValS
/- Layer 8: units, as lists of bytes: which may be, how they are written, how they are read. -/
namespace Go.Proofs.YtfmhghlmljlfgaaGreatDoor.PduS
open Go.RowKit Gong Go.Proofs.YtfmhghlmljlfgaaGreatDoor.XTrS Go.Proofs.YtfmhghlmljlfgaaGreatDoor.OidS Go.Proofs.YtfmhghlmljlfgaaGreatDoor.ValS Go.Proofs.YtfmhghlmljlfgaaGreatDoorW.PrintWords Go.Proofs.YtfmhghlmljlfgaaGreatDoorW.PrintLast Go.Proofs.YtfmhghlmljlfgaaGreatDoorW.PrintMore
set_option linter.unusedVariables false
set_option linter.unusedSimpArgs false
def okB (b : S40) : Bool := (arcsR (L b.f0)).2 == 0 && okV b.f1.f0 b.f1.f1 b.f1.f2
def fitB (b : S40) : Prop := b.f0.size ≤ 1000000000 ∧ b.f1.f2.size ≤ 1000000 ∧ -9223372036854775808 ≤ b.f1.f1 ∧ b.f1.f1 ≤ 9223372036854775807
theorem isBind_eq (b : S40) (hb : fitB b) (k : Nat) (hk : 500 ≤ k) : pdu_isBind.f k b.f0 b.f1.f0 b.f1.f1 b.f1.f2 = some (okB b) := by
 unfold pdu_isBind.f value_Check.f okB
 rw [arcs_eq b.f0 hb.1 k hk, right_eq b.f1.f0 b.f1.f1 b.f1.f2 (by have := hb.2.1; omega) k hk]
 simp only [Option.bind_some]
 by_cases h : (arcsR (L b.f0)).2 = 0
 ·rw [if_pos h, show ((arcsR (L b.f0)).2 == 0) = true from beq_iff_eq.2 h]
  cases okV b.f1.f0 b.f1.f1 b.f1.f2 <;> rfl
 ·rw [if_neg h, show ((arcsR (L b.f0)).2 == 0) = false from beq_eq_false_iff_ne.2 h]
  rfl
theorem check_loop (l : List S40) (hl : l.length ≤ 8192) (hf : ∀ b ∈ l, fitB b) : ∀ (d i k : Nat), i + d = l.length → d + 502 ≤ k → pdu_Check.l0 k l (l.length : Int) (i : Int) = some (if (l.drop i).all okB = true then 0 else 80) := by
 intro d
 induction d with
 | zero =>
  intro i k hi hk
  obtain ⟨k, rfl⟩ : ∃ m, k = m + 1 := ⟨k - 1, by omega⟩
  rw [pdu_Check.l0, if_neg (by omega), List.drop_eq_nil_of_le (by omega)]
  rfl
 | succ d ih =>
  intro i k hi hk
  obtain ⟨k, rfl⟩ : ∃ m, k = m + 1 := ⟨k - 1, by omega⟩
  have hlt : i < l.length := by omega
  have hm : l[i] ∈ l := List.getElem_mem hlt
  rw [pdu_Check.l0, if_pos (by omega), if_pos (by omega), if_pos (by omega), rd_at l i hlt, isBind_eq _ (hf _ hm) k (by omega), List.drop_eq_getElem_cons hlt, List.all_cons, wrap_succ i (by omega)]
  simp only [Option.bind_some]
  cases ho : okB l[i] with
  | true => rw [if_pos rfl, ih (i + 1) k (by omega) (by omega), Bool.true_and]
  | false => rfl
def okU (a0 a1 a2 a3 : Int) (l : List S40) : Prop := (a0 = 162 ∨ a0 = 166 ∨ a0 = 167) ∧ (-2147483648 ≤ a1 ∧ a1 ≤ 2147483647) ∧ (0 ≤ a2 ∧ a2 ≤ 2147483647) ∧ (0 ≤ a3 ∧ a3 ≤ 2147483647) ∧ l.length ≤ 4096 ∧ l.all okB = true
theorem check_j1 (b : Bool) (a0 a1 a2 a3 : Int) (l : List S40) (hl : b = false → l.length ≤ 8192) (hf : ∀ b ∈ l, fitB b) (k : Nat) (hk : 9000 ≤ k) : pdu_Check.j1 k b a0 a1 a2 a3 l = some (if b = false ∧ l.all okB = true then 0 else 80) := by
 obtain ⟨k, rfl⟩ : ∃ m, k = m + 1 := ⟨k - 1, by omega⟩
 rw [pdu_Check.j1]
 cases b with
 | true => rfl
 | false =>
  have hl2 := hl rfl
  rw [if_neg Bool.false_ne_true]
  have h := check_loop l hl2 hf l.length 0 k (by omega) (by omega)
  rw [show ((0 : Nat) : Int) = 0 from rfl, List.drop_zero] at h
  rw [h]
  congr 1
  by_cases c : l.all okB = true
  ·rw [if_pos c, if_pos ⟨rfl, c⟩]
  ·rw [if_neg c, if_neg (fun h => c h.2)]
theorem within_at (a b : Int) : pdu_within.f a b = some (decide (b ≤ a ∧ a ≤ 2147483647)) := by
 unfold pdu_within.f
 by_cases h : a ≥ b
 ·rw [if_pos h]; congr 1; exact decide_eq_decide.2 ⟨fun h2 => ⟨h, h2⟩, fun h2 => h2.2⟩
 ·rw [if_neg h, decide_eq_false (fun h2 => h h2.1)]
theorem check_eq (a0 a1 a2 a3 : Int) (l : List S40) (hf : ∀ b ∈ l, fitB b) (k : Nat) (hk : 9010 ≤ k) : ∃ c, pdu_Check.f k a0 a1 a2 a3 l = some c ∧ (c = 0 ∨ c = 80) ∧ (c = 0 ↔ okU a0 a1 a2 a3 l) := by
 obtain ⟨k, rfl⟩ : ∃ m, k = m + 1 := ⟨k - 1, by omega⟩
 have key : ∀ b : Bool, (b = true ↔ (a0 = 162 ∨ a0 = 166 ∨ a0 = 167)) → ∃ c, pdu_Check.j0 (k + 1) b a0 a1 a2 a3 l = some c ∧ (c = 0 ∨ c = 80) ∧ (c = 0 ↔ okU a0 a1 a2 a3 l) := by
  intro b hb
  rw [pdu_Check.j0]
  cases b with
  | false =>
   rw [if_neg Bool.false_ne_true, check_j1 true a0 a1 a2 a3 l (fun h => absurd h (by decide)) hf k (by omega)]
   exact ⟨80, rfl, .inr rfl, fun h => absurd h (by decide), fun h => absurd (hb.2 h.1) (by decide)⟩
  | true =>
   rw [if_pos rfl, within_at, within_at, within_at]
   simp only [Option.bind_some]
   by_cases h1 : -2147483648 ≤ a1 ∧ a1 ≤ 2147483647
   ·rw [decide_eq_true h1, if_pos rfl]
    by_cases h2 : 0 ≤ a2 ∧ a2 ≤ 2147483647
    ·rw [decide_eq_true h2, if_pos rfl]
     by_cases h3 : 0 ≤ a3 ∧ a3 ≤ 2147483647
     ·rw [decide_eq_true h3, if_pos rfl, check_j1 _ a0 a1 a2 a3 l (fun h => by have := of_decide_eq_false h; omega) hf k (by omega)]
      refine ⟨_, rfl, by split <;> simp, ?_⟩
      by_cases c : decide ((l.length : Int) > 4096) = false ∧ l.all okB = true
      ·rw [if_pos c]
       exact ⟨fun _ => ⟨hb.1 rfl, h1, h2, h3, by have := of_decide_eq_false c.1; omega, c.2⟩, fun _ => rfl⟩
      ·rw [if_neg c]
       exact ⟨fun h => absurd h (by decide), fun h => absurd ⟨decide_eq_false (by have := h.2.2.2.2.1; omega), h.2.2.2.2.2⟩ c⟩
     ·rw [decide_eq_false h3, if_neg Bool.false_ne_true, check_j1 true a0 a1 a2 a3 l (fun h => absurd h (by decide)) hf k (by omega)]
      exact ⟨80, rfl, .inr rfl, fun h => absurd h (by decide), fun h => absurd h.2.2.2.1 h3⟩
    ·rw [decide_eq_false h2, if_neg Bool.false_ne_true, check_j1 true a0 a1 a2 a3 l (fun h => absurd h (by decide)) hf k (by omega)]
     exact ⟨80, rfl, .inr rfl, fun h => absurd h (by decide), fun h => absurd h.2.2.1 h2⟩
   ·rw [decide_eq_false h1, if_neg Bool.false_ne_true, check_j1 true a0 a1 a2 a3 l (fun h => absurd h (by decide)) hf k (by omega)]
    exact ⟨80, rfl, .inr rfl, fun h => absurd h (by decide), fun h => absurd h.2.1 h1⟩
 unfold pdu_Check.f
 by_cases c1 : a0 = 162
 ·rw [if_pos c1]; exact key true ⟨fun _ => .inl c1, fun _ => rfl⟩
 ·rw [if_neg c1]
  by_cases c2 : a0 = 166
  ·rw [if_pos c2]; exact key true ⟨fun _ => .inr (.inl c2), fun _ => rfl⟩
  ·rw [if_neg c2]
   exact key (a0 == 167) ⟨fun h => .inr (.inr (beq_iff_eq.1 h)), fun h => beq_iff_eq.2 (by omega)⟩
def encB (s : ByteArray) : List UInt8 := match arcsS (L s) with | some x => encL x | none => []
def bindBody (b : S40) : List UInt8 := BerS.enc 6 (encB b.f0) ++ BerS.enc b.f1.f0.toNat (bodyV b.f1.f0 b.f1.f1 b.f1.f2)
def bindsE : List S40 → List UInt8
 | [] => []
 | b :: l => BerS.enc 48 (bindBody b) ++ bindsE l
def numB (n : Int) : List UInt8 := BerS.trimS (BerS.W8 n)
def numsE (a1 a2 a3 : Int) : List UInt8 := BerS.enc 2 (numB a1) ++ BerS.enc 2 (numB a2) ++ BerS.enc 2 (numB a3)
def unitB (a1 a2 a3 : Int) (l : List S40) : List UInt8 := numsE a1 a2 a3 ++ BerS.enc 48 (bindsE l)
def unitE (a0 a1 a2 a3 : Int) (l : List S40) : List UInt8 := BerS.enc a0.toNat (unitB a1 a2 a3 l)
theorem numB_len (n : Int) : (numB n).length ≤ 8 := by
 have h := (BerS.trim_len (BerS.W8 n)).1
 rw [BerS.W8_len] at h
 exact h
theorem enc_low (t : Nat) (b : List UInt8) : b.length < (BerS.enc t b).length := by
 have := BerS.lenEnc_pos b.length
 rw [BerS.enc_len]
 omega
theorem enc_high (t : Nat) (b : List UInt8) (h : b.length ≤ 100000000) : (BerS.enc t b).length ≤ b.length + 6 := by
 have h3 := (BerS.nby_le b.length (by omega)).2.1
 have h1 := BerS.lenEnc_len b.length
 rw [BerS.enc_len]
 split at h1 <;> omega
theorem ok_arcs {b : S40} (h : okB b = true) : ∃ x, isS x = true ∧ arcsS (L b.f0) = some x ∧ b.f0 = Bs (putL x) ∧ encB b.f0 = encL x := by
 unfold okB at h
 rw [Bool.and_eq_true, beq_iff_eq] at h
 have h1 := h.1
 unfold arcsR at h1
 cases hx : arcsS (L b.f0) with
 | none => rw [hx] at h1; exact absurd h1 (by decide)
 | some x =>
  obtain ⟨h2, h3⟩ := arcs_some hx
  refine ⟨x, h2, rfl, by rw [h3, Bs_L], ?_⟩
  unfold encB
  rw [hx]
theorem ok_val {b : S40} (h : okB b = true) : okV b.f1.f0 b.f1.f1 b.f1.f2 = true := by
 unfold okB at h
 rw [Bool.and_eq_true] at h
 exact h.2
theorem encB_len {b : S40} (h : okB b = true) : (encB b.f0).length ≤ 640 := by
 obtain ⟨x, hx, _, _, he⟩ := ok_arcs h
 rw [he]
 exact encL_small hx
theorem bindBody_len {b : S40} (h : okB b = true) (hf : fitB b) : (bindBody b).length ≤ 1001400 := by
 have h1 := encB_len h
 have h2 := body_len (ok_val h)
 have h3 := enc_high 6 (encB b.f0) (by omega)
 have h4 := enc_high b.f1.f0.toNat (bodyV b.f1.f0 b.f1.f1 b.f1.f2) (by have := hf.2.1; omega)
 unfold bindBody
 rw [List.length_append]
 have := hf.2.1
 omega
theorem bind_ok {b : S40} (h : okB b = true) (hf : fitB b) (k : Nat) (hk : 3000 ≤ k) : pdu_bind.f k b.f0 b.f1.f0 b.f1.f1 b.f1.f2 = some (Bs (BerS.enc 48 (bindBody b))) := by
 obtain ⟨x, hx, ha, h0, he⟩ := ok_arcs h
 have hl := bindBody_len h hf
 have h1 := encB_len h
 have hv := enc_ok (ok_val h) hf.2.1 hf.2.2.1 hf.2.2.2 k hk
 have ho := enc_of hx k (by omega)
 rw [← h0, ← he] at ho
 have w6 := wrap_one 6 (encB b.f0) (by decide) (by decide) (by omega) k (by omega)
 have w48 := wrap_one 48 (bindBody b) (by decide) (by decide) (by omega) k (by omega)
 rw [show ((6 : Nat) : Int) = 6 from rfl] at w6
 rw [show ((48 : Nat) : Int) = 48 from rfl] at w48
 have hcat : Bs (BerS.enc 6 (encB b.f0)) ++ Bs (BerS.enc b.f1.f0.toNat (bodyV b.f1.f0 b.f1.f1 b.f1.f2)) = Bs (bindBody b) := by
  apply L_inj
  rw [L_Bs]
  unfold bindBody
  simp [L, Bs]
 have hsz : (Bs (BerS.enc 6 (encB b.f0))).size + (Bs (BerS.enc b.f1.f0.toNat (bodyV b.f1.f0 b.f1.f1 b.f1.f2))).size ≤ 9223372036854775807 := by
  rw [← L_len, ← L_len, L_Bs, L_Bs, ← List.length_append]
  show (bindBody b).length ≤ _
  omega
 unfold pdu_bind.f
 rw [ho, Option.bind_some, hv, Option.bind_some, w6, Option.bind_some, if_pos hsz, hcat, w48, Option.bind_some]
theorem go_eq (k : Nat) (hk : 3000 ≤ k) : ∀ (l : List S40) (acc : List UInt8), (∀ b ∈ l, okB b = true ∧ fitB b) → acc.length ≤ 65536 → pdu_Encode.go k l acc = some (if (acc ++ bindsE l).length ≤ 65536 then some (acc ++ bindsE l) else none)
 | [], acc, _, ha => by
  rw [pdu_Encode.go]
  unfold bindsE
  rw [List.append_nil, if_pos ha]
 | b :: l, acc, h, ha => by
  have hb := h b (by simp)
  have hl := bindBody_len hb.1 hb.2
  have h1 := enc_high 48 (bindBody b) (by omega)
  have hs : (Bs (BerS.enc 48 (bindBody b))).size = (BerS.enc 48 (bindBody b)).length := by rw [← L_len, L_Bs]
  rw [pdu_Encode.go, bind_ok hb.1 hb.2 k hk, Option.bind_some, if_pos (by omega)]
  have e : acc ++ bindsE (b :: l) = (acc ++ BerS.enc 48 (bindBody b)) ++ bindsE l := by rw [bindsE, List.append_assoc]
  rw [e]
  by_cases c : 65536 < acc.length + (Bs (BerS.enc 48 (bindBody b))).size
  ·rw [if_pos c, if_neg (by rw [List.length_append, List.length_append]; omega)]
  ·rw [if_neg c]
   exact go_eq k hk l _ (fun q hq => h q (by simp [hq])) (by rw [show (Bs (BerS.enc 48 (bindBody b))).data.toList = BerS.enc 48 (bindBody b) from rfl, List.length_append]; omega)
theorem cat_eq (a b : List UInt8) (h : a.length + b.length ≤ 1000000000) : pdu_Encode.cat (Bs a) (Bs b) = some (Bs (a ++ b)) := by
 unfold pdu_Encode.cat
 rw [if_pos (by rw [← L_len, ← L_len, L_Bs, L_Bs]; exact h)]
 rfl
theorem nums_eq (a1 a2 a3 : Int) (k : Nat) (hk : 30 ≤ k) : pdu_Encode.nums k [a1, a2, a3] (⟨#[]⟩ : ByteArray) = some (Bs (numsE a1 a2 a3)) := by
 have l1 := enc_high 2 (numB a1) (by have := numB_len a1; omega)
 have l2 := enc_high 2 (numB a2) (by have := numB_len a2; omega)
 have l3 := enc_high 2 (numB a3) (by have := numB_len a3; omega)
 have m1 := numB_len a1
 have m2 := numB_len a2
 have m3 := numB_len a3
 have hw := fun n => wrap_one 2 (numB n) (by decide) (by decide) (by have := numB_len n; omega) k (by omega)
 rw [show ((2 : Nat) : Int) = 2 from rfl] at hw
 have hp := fun n => BerS.putN n k (by omega)
 rw [show (⟨#[]⟩ : ByteArray) = Bs [] from rfl]
 simp only [pdu_Encode.nums]
 rw [hp a1, Option.bind_some, show BerS.Bs (BerS.trimS (BerS.W8 a1)) = Bs (numB a1) from rfl, hw a1, Option.bind_some, cat_eq _ _ (by simp; omega), Option.bind_some]
 rw [hp a2, Option.bind_some, show BerS.Bs (BerS.trimS (BerS.W8 a2)) = Bs (numB a2) from rfl, hw a2, Option.bind_some, cat_eq _ _ (by simp; omega), Option.bind_some]
 rw [hp a3, Option.bind_some, show BerS.Bs (BerS.trimS (BerS.W8 a3)) = Bs (numB a3) from rfl, hw a3, Option.bind_some, cat_eq _ _ (by simp; omega), Option.bind_some]
 unfold numsE
 rw [List.nil_append]
theorem numsE_len (a1 a2 a3 : Int) : (numsE a1 a2 a3).length ≤ 42 := by
 have l1 := enc_high 2 (numB a1) (by have := numB_len a1; omega)
 have l2 := enc_high 2 (numB a2) (by have := numB_len a2; omega)
 have l3 := enc_high 2 (numB a3) (by have := numB_len a3; omega)
 have m1 := numB_len a1
 have m2 := numB_len a2
 have m3 := numB_len a3
 unfold numsE
 rw [List.length_append, List.length_append]
 omega
theorem okU_tag {a0 a1 a2 a3 : Int} {l : List S40} (h : okU a0 a1 a2 a3 l) : ∃ t : Nat, a0 = (t : Int) ∧ t < 256 ∧ t % 32 ≠ 31 ∧ BerS.made t = true ∧ a0.toNat = t := by
 rcases h.1 with rfl | rfl | rfl
 ·exact ⟨162, rfl, by decide, by decide, by decide, rfl⟩
 ·exact ⟨166, rfl, by decide, by decide, by decide, rfl⟩
 ·exact ⟨167, rfl, by decide, by decide, by decide, rfl⟩
theorem okU_all {a0 a1 a2 a3 : Int} {l : List S40} (h : okU a0 a1 a2 a3 l) : ∀ b ∈ l, okB b = true := List.all_eq_true.1 h.2.2.2.2.2
theorem encode_eq {a0 a1 a2 a3 : Int} {l : List S40} (h : okU a0 a1 a2 a3 l) (hf : ∀ b ∈ l, fitB b) (k : Nat) (hk : 9010 ≤ k) : pdu_Encode.f k a0 a1 a2 a3 l = some (if (unitE a0 a1 a2 a3 l).length ≤ 65536 then (Bs (unitE a0 a1 a2 a3 l), 0) else (⟨#[]⟩, 2)) := by
 obtain ⟨c, hc, _, hi⟩ := check_eq a0 a1 a2 a3 l hf k hk
 obtain rfl := hi.2 h
 obtain ⟨t, ht, t1, t2, _, t3⟩ := okU_tag h
 have hg := go_eq k (by omega) l [] (fun b hb => ⟨okU_all h b hb, hf b hb⟩) (by simp)
 rw [List.nil_append] at hg
 have hn := numsE_len a1 a2 a3
 have lo1 := enc_low 48 (bindsE l)
 have lo2 := enc_low a0.toNat (unitB a1 a2 a3 l)
 have hub : (unitB a1 a2 a3 l).length = (numsE a1 a2 a3).length + (BerS.enc 48 (bindsE l)).length := by unfold unitB; rw [List.length_append]
 unfold pdu_Encode.f
 rw [hc, Option.bind_some, if_pos rfl, hg, Option.bind_some]
 by_cases c1 : (bindsE l).length ≤ 65536
 ·have hi1 := enc_high 48 (bindsE l) (by omega)
  have w48 := wrap_one 48 (bindsE l) (by decide) (by decide) (by omega) k (by omega)
  rw [show ((48 : Nat) : Int) = 48 from rfl] at w48
  have wt := wrap_one t (unitB a1 a2 a3 l) t1 t2 (by omega) k (by omega)
  rw [if_pos c1, pdu_Encode.rest, nums_eq a1 a2 a3 k (by omega), Option.bind_some, pdu_Encode.tail, show (⟨(bindsE l).toArray⟩ : ByteArray) = Bs (bindsE l) from rfl, w48, Option.bind_some, cat_eq _ _ (by omega), Option.bind_some]
  rw [show numsE a1 a2 a3 ++ BerS.enc 48 (bindsE l) = unitB a1 a2 a3 l from rfl]
  rw [← ht, ← t3] at wt
  rw [wt, Option.bind_some]
  have hsz : (Bs (BerS.enc a0.toNat (unitB a1 a2 a3 l))).size = (unitE a0 a1 a2 a3 l).length := by rw [← L_len, L_Bs]; rfl
  rw [hsz]
  by_cases c2 : (unitE a0 a1 a2 a3 l).length ≤ 65536
  ·rw [if_neg (by omega), if_pos c2]; rfl
  ·rw [if_pos (by omega), if_neg c2]
 ·have : ¬ (unitE a0 a1 a2 a3 l).length ≤ 65536 := by unfold unitE; omega
  rw [if_neg c1, pdu_Encode.rest, if_neg this]
theorem read_ok {b : S40} (h : okB b = true) (hf : fitB b) (hl : (bindBody b).length ≤ 1000000) (k : Nat) (hk : 3010 ≤ k) : pdu_read.f k 48 (Bs (bindBody b)) = some (b.f0, b.f1.f0, b.f1.f1, b.f1.f2, true) := by
 obtain ⟨k, rfl⟩ : ∃ m, k = m + 1 := ⟨k - 1, by omega⟩
 obtain ⟨x, hx, ha, h0, he⟩ := ok_arcs h
 obtain ⟨t, ht, t1, t2, _⟩ := ok_tag (ok_val h)
 have h1 := encB_len h
 have h2 := body_len (ok_val h)
 have hv := dec_body (ok_val h) hf.2.1 hf.2.2.1 hf.2.2.2 k (by omega)
 have ho := decode_enc hx k (by omega)
 rw [← he, ← h0] at ho
 have htn : b.f1.f0.toNat = t := by omega
 have hels : Els (bindBody b) [(6, encB b.f0), (t, bodyV b.f1.f0 b.f1.f1 b.f1.f2)] := by
  have := Els.enc [(6, encB b.f0), (t, bodyV b.f1.f0 b.f1.f1 b.f1.f2)] (by
   intro p hp
   rcases List.mem_cons.1 hp with rfl | hp
   ·exact (show (6 : Nat) < 256 ∧ (6 : Nat) % 32 ≠ 31 ∧ (encB b.f0).length < 4294967296 from ⟨by decide, by decide, by omega⟩)
   ·obtain rfl := List.mem_singleton.1 hp
    exact (show t < 256 ∧ t % 32 ≠ 31 ∧ (bodyV b.f1.f0 b.f1.f1 b.f1.f2).length < 4294967296 from ⟨t1, t2, by have := hf.2.1; omega⟩))
  rw [encP, encP, encP, List.append_nil] at this
  unfold bindBody
  rw [htn]
  exact this
 have hp := parts_at hels hl (by simp) (k + 1) (by simp; omega)
 unfold pdu_read.f
 rw [hp, Option.bind_some, if_pos (by rfl), if_pos (by rfl), if_pos (by rfl), if_pos (by simp)]
 have r0 : rd_T62 ([(6, encB b.f0), (t, bodyV b.f1.f0 b.f1.f1 b.f1.f2)].map toP) 0 = ⟨6, Bs (encB b.f0)⟩ := rfl
 have r1 : rd_T62 ([(6, encB b.f0), (t, bodyV b.f1.f0 b.f1.f1 b.f1.f2)].map toP) 1 = ⟨(t : Int), Bs (bodyV b.f1.f0 b.f1.f1 b.f1.f2)⟩ := rfl
 show pdu_read.j0 (k + 1) _ ((rd_T62 ([(6, encB b.f0), (t, bodyV b.f1.f0 b.f1.f1 b.f1.f2)].map toP) 0).f0 != 6) = _
 rw [r0, pdu_read.j0, if_neg (by simp), if_pos (by simp), r0]
 simp only
 rw [ho, Option.bind_some, if_pos (by simp), r1]
 simp only
 rw [← ht, hv, Option.bind_some, if_pos trivial]
 rfl
theorem binds_ok (k : Nat) (hk : 3010 ≤ k) : ∀ (l acc : List S40), (∀ b ∈ l, okB b = true ∧ fitB b ∧ (bindBody b).length ≤ 1000000) → acc.length + l.length ≤ 4096 → pdu_Decode.binds k (l.map fun b => toP (48, bindBody b)) acc = some (some (acc ++ l))
 | [], acc, _, _ => by rw [List.map_nil, pdu_Decode.binds, List.append_nil]
 | b :: l, acc, h, hl => by
  have hb := h b (by simp)
  rw [List.length_cons] at hl
  rw [List.map_cons, pdu_Decode.binds, show toP (48, bindBody b) = ⟨48, Bs (bindBody b)⟩ from rfl]
  simp only
  rw [read_ok hb.1 hb.2.1 hb.2.2 k hk, Option.bind_some, if_pos rfl, if_pos (by omega)]
  have := binds_ok k hk l (acc ++ [b]) (fun q hq => h q (by simp [hq])) (by simp; omega)
  rw [List.append_assoc, List.singleton_append] at this
  exact this
theorem bindsE_map : ∀ l : List S40, bindsE l = encP (l.map fun b => (48, bindBody b))
 | [] => rfl
 | b :: l => by rw [bindsE, List.map_cons, encP, bindsE_map l]
theorem bindsE_mem : ∀ (l : List S40) (b : S40), b ∈ l → (bindBody b).length ≤ (bindsE l).length
 | [], b, h => by cases h
 | c :: l, b, h => by
  have h1 := enc_low 48 (bindBody c)
  rw [bindsE, List.length_append]
  rcases List.mem_cons.1 h with rfl | h
  ·omega
  ·have := bindsE_mem l b h; omega
theorem decode_back {a0 a1 a2 a3 : Int} {l : List S40} (h : okU a0 a1 a2 a3 l) (hf : ∀ b ∈ l, fitB b) (hl : (unitE a0 a1 a2 a3 l).length ≤ 65536) (k : Nat) (hk : 10000 ≤ k) : pdu_Decode.f k a0 (Bs (unitB a1 a2 a3 l)) = some (a0, a1, a2, a3, l, 0) := by
 have lo1 := enc_low 48 (bindsE l)
 have lo2 := enc_low a0.toNat (unitB a1 a2 a3 l)
 have hub : (unitB a1 a2 a3 l).length = (numsE a1 a2 a3).length + (BerS.enc 48 (bindsE l)).length := by unfold unitB; rw [List.length_append]
 have hul : (unitB a1 a2 a3 l).length ≤ 65536 := by unfold unitE at hl; omega
 have m := fun n => numB_len n
 have hels : Els (unitB a1 a2 a3 l) [(2, numB a1), (2, numB a2), (2, numB a3), (48, bindsE l)] := by
  have := Els.enc [(2, numB a1), (2, numB a2), (2, numB a3), (48, bindsE l)] (by
   intro p hp
   simp only [List.mem_cons, List.not_mem_nil, or_false] at hp
   rcases hp with rfl | rfl | rfl | rfl
   ·exact (show (2 : Nat) < 256 ∧ (2 : Nat) % 32 ≠ 31 ∧ (numB a1).length < 4294967296 from ⟨by decide, by decide, by have := m a1; omega⟩)
   ·exact (show (2 : Nat) < 256 ∧ (2 : Nat) % 32 ≠ 31 ∧ (numB a2).length < 4294967296 from ⟨by decide, by decide, by have := m a2; omega⟩)
   ·exact (show (2 : Nat) < 256 ∧ (2 : Nat) % 32 ≠ 31 ∧ (numB a3).length < 4294967296 from ⟨by decide, by decide, by have := m a3; omega⟩)
   ·exact (show (48 : Nat) < 256 ∧ (48 : Nat) % 32 ≠ 31 ∧ (bindsE l).length < 4294967296 from ⟨by decide, by decide, by omega⟩))
  simp only [encP, List.append_nil] at this
  unfold unitB numsE
  rw [List.append_assoc, List.append_assoc]
  exact this
 have hp := parts_at hels (by omega) (by simp) k (by simp; omega)
 have hbe : Els (bindsE l) (l.map fun b => (48, bindBody b)) := by
  rw [bindsE_map]
  refine Els.enc _ (fun p hp => ?_)
  obtain ⟨b, hb, rfl⟩ := List.mem_map.1 hp
  have := bindsE_mem l b hb
  exact (show (48 : Nat) < 256 ∧ (48 : Nat) % 32 ≠ 31 ∧ (bindBody b).length < 4294967296 from ⟨by decide, by decide, by omega⟩)
 have hp2 := parts_at hbe (by omega) (by simpa using h.2.2.2.2.1) k (by simp; have := h.2.2.2.2.1; omega)
 have hbi := binds_ok k (by omega) l [] (fun b hb => ⟨okU_all h b hb, hf b hb, by have := bindsE_mem l b hb; omega⟩) (by simpa using h.2.2.2.2.1)
 obtain ⟨c, hc, _, hi⟩ := check_eq a0 a1 a2 a3 l hf k (by omega)
 obtain rfl := hi.2 h
 have r := fun (i : Nat) => (rfl : rd_T62 ([(2, numB a1), (2, numB a2), (2, numB a3), (48, bindsE l)].map toP) (i : Int) = _)
 have r0 : rd_T62 ([(2, numB a1), (2, numB a2), (2, numB a3), (48, bindsE l)].map toP) 0 = ⟨2, Bs (numB a1)⟩ := rfl
 have r1 : rd_T62 ([(2, numB a1), (2, numB a2), (2, numB a3), (48, bindsE l)].map toP) 1 = ⟨2, Bs (numB a2)⟩ := rfl
 have r2 : rd_T62 ([(2, numB a1), (2, numB a2), (2, numB a3), (48, bindsE l)].map toP) 2 = ⟨2, Bs (numB a3)⟩ := rfl
 have r3 : rd_T62 ([(2, numB a1), (2, numB a2), (2, numB a3), (48, bindsE l)].map toP) 3 = ⟨48, Bs (bindsE l)⟩ := rfl
 have nb : ∀ n : Int, -9223372036854775808 ≤ n → n ≤ 9223372036854775807 → pdu_Decode.num ⟨2, Bs (numB n)⟩ = some (some n) := by
  intro n n0 n1
  unfold pdu_Decode.num
  rw [show Bs (numB n) = BerS.Bs (BerS.trimS (BerS.W8 n)) from rfl]
  simp only
  rw [BerS.number_back n n0 n1, Option.bind_some, if_pos (by first | rfl | trivial), if_pos (by first | rfl | trivial)]
 have n1 := nb a1 (by have := h.2.1; omega) (by have := h.2.1; omega)
 have n2 := nb a2 (by have := h.2.2.1; omega) (by have := h.2.2.1; omega)
 have n3 := nb a3 (by have := h.2.2.2.1; omega) (by have := h.2.2.2.1; omega)
 unfold pdu_Decode.f
 rw [hp, Option.bind_some, if_pos (by rfl), if_pos (by rfl)]
 show (if (rd_T62 ([(2, numB a1), (2, numB a2), (2, numB a3), (48, bindsE l)].map toP) 3).f0 = 48 then _ else _) = _
 rw [r3, if_pos rfl]
 simp only [pdu_Decode.go]
 rw [show (2 - ((2 : Nat) : Int)) = 0 from rfl, show (2 - ((1 : Nat) : Int)) = 1 from rfl, show (2 - ((0 : Nat) : Int)) = 2 from rfl, r0, r1, r2, n1, n2, n3]
 simp only [Option.bind_some]
 rw [if_pos trivial, if_neg (by decide), if_pos trivial, if_neg (by decide), if_neg (by decide)]
 unfold pdu_Decode.t3
 rw [r3]
 simp only
 rw [hp2, Option.bind_some, if_pos (by rfl)]
 simp only [List.map_map]
 rw [show (toP ∘ fun b => (48, bindBody b)) = fun b => toP (48, bindBody b) from rfl, hbi, Option.bind_some, List.nil_append, pdu_Decode.fin, hc, Option.bind_some, if_pos rfl]
end Go.Proofs.YtfmhghlmljlfgaaGreatDoor.PduS
/- Layer 9: a trap's message, as a list of bytes, there and back. -/
namespace Go.Proofs.YtfmhghlmljlfgaaGreatDoor.TrpS
open Go.RowKit Gong Go.Proofs.YtfmhghlmljlfgaaGreatDoor.XTrS Go.Proofs.YtfmhghlmljlfgaaGreatDoor.PduS Go.Proofs.YtfmhghlmljlfgaaGreatDoor.OidS Go.Proofs.YtfmhghlmljlfgaaGreatDoor.ValS Go.Proofs.YtfmhghlmljlfgaaGreatDoorW.PrintWords Go.Proofs.YtfmhghlmljlfgaaGreatDoorW.PrintLast Go.Proofs.YtfmhghlmljlfgaaGreatDoorW.PrintMore
set_option linter.unusedVariables false
set_option linter.unusedSimpArgs false
theorem rd_at (l : List S40) (i : Nat) (h : i < l.length) : rd_T40 l (i : Int) = l[i]'h := PduS.rd_at l i h
def unitL (up : Int) (s : ByteArray) (l : List S40) : List S40 := [trap_unit.up up, trap_unit.who s] ++ l
def tagOf (inf : Bool) : Int := if inf = true then 166 else 167
theorem unit_at (who : ByteArray) (inf : Bool) (req up : Int) (s : ByteArray) (l : List S40) (h : 2 + l.length < 2932031007402) : trap_unit.f who inf req up s l = some (tagOf inf, req, 0, 0, unitL up s l) := by
 unfold trap_unit.f
 rw [if_pos h]
 rfl
def okT (who : ByteArray) (inf : Bool) (req up : Int) (s : ByteArray) (l : List S40) : Prop := who.toList ≠ [] ∧ who.size ≤ 64 ∧ okU (tagOf inf) req 0 0 (unitL up s l)
def fitT (up : Int) (s : ByteArray) (l : List S40) : Prop := (-9223372036854775808 ≤ up ∧ up ≤ 9223372036854775807) ∧ s.size ≤ 1000000 ∧ (∀ b ∈ l, fitB b) ∧ l.length ≤ 1000000
theorem unit_fit {up : Int} {s : ByteArray} {l : List S40} (h : fitT up s l) : ∀ b ∈ unitL up s l, fitB b := by
 intro b hb
 unfold unitL at hb
 simp only [List.cons_append, List.nil_append, List.mem_cons] at hb
 rcases hb with rfl | rfl | hb
 ·exact ⟨show (17 : Nat) ≤ 1000000000 by decide, show (0 : Nat) ≤ 1000000 by decide, h.1.1, h.1.2⟩
 ·exact ⟨show (21 : Nat) ≤ 1000000000 by decide, h.2.1, show (-9223372036854775808 : Int) ≤ 0 by decide, show (0 : Int) ≤ 9223372036854775807 by decide⟩
 ·exact h.2.2.1 b hb
theorem tcheck_eq (who : ByteArray) (inf : Bool) (req up : Int) (s : ByteArray) (l : List S40) (h : fitT up s l) (k : Nat) (hk : 9010 ≤ k) : ∃ c, trap_Check.f k who inf req up s l = some c ∧ (c = 0 ∨ c = 90) ∧ (c = 0 ↔ okT who inf req up s l) := by
 unfold trap_Check.f okT
 by_cases h1 : who.toList = []
 ·rw [if_pos h1]; exact ⟨90, rfl, .inr rfl, fun h2 => absurd h2 (by decide), fun h2 => absurd h1 h2.1⟩
 rw [if_neg h1]
 by_cases h2 : (who.size : Int) > 64
 ·rw [if_pos h2]; exact ⟨90, rfl, .inr rfl, fun h3 => absurd h3 (by decide), fun h3 => absurd h3.2.1 (by omega)⟩
 rw [if_neg h2, unit_at who inf req up s l (by have := h.2.2.2; omega), Option.bind_some]
 obtain ⟨c, hc, _, hi⟩ := check_eq (tagOf inf) req 0 0 (unitL up s l) (unit_fit h) k hk
 simp only
 rw [hc, Option.bind_some]
 by_cases h3 : c = 0
 ·rw [if_pos h3]; exact ⟨0, rfl, .inl rfl, fun _ => ⟨h1, by omega, hi.1 h3⟩, fun _ => rfl⟩
 ·rw [if_neg h3]; exact ⟨90, rfl, .inr rfl, fun h4 => absurd h4 (by decide), fun h4 => absurd (hi.2 h4.2.2) h3⟩
def msgP (who : List UInt8) (a0 a1 a2 a3 : Int) (l : List S40) : List (Nat × List UInt8) := [(2, numB 1), (4, who), (a0.toNat, unitB a1 a2 a3 l)]
def msgB (who u : List UInt8) : List UInt8 := BerS.enc 2 (numB 1) ++ BerS.enc 4 who ++ u
def msg (who u : List UInt8) : List UInt8 := BerS.enc 48 (msgB who u)
theorem msgB_P (who : List UInt8) (a0 a1 a2 a3 : Int) (l : List S40) : msgB who (unitE a0 a1 a2 a3 l) = encP (msgP who a0 a1 a2 a3 l) := by
 unfold msgB msgP unitE
 simp only [encP, List.append_nil, List.append_assoc]
theorem L_app (a b : List UInt8) : Bs a ++ Bs b = Bs (a ++ b) := rfl
theorem Bs_size (a : List UInt8) : (Bs a).size = a.length := by rw [← L_len, L_Bs]
theorem msgB_len (who u : List UInt8) (h : who.length ≤ 64) : (msgB who u).length ≤ u.length + 84 ∧ u.length ≤ (msgB who u).length := by
 have h1 := numB_len 1
 have h2 := enc_high 2 (numB 1) (by omega)
 have h3 := enc_high 4 who (by omega)
 unfold msgB
 rw [List.length_append, List.length_append]
 omega
theorem message_eq (who : ByteArray) (hw : who.size ≤ 64) {a0 a1 a2 a3 : Int} {l : List S40} (h : okU a0 a1 a2 a3 l) (hf : ∀ b ∈ l, fitB b) (k : Nat) (hk : 9010 ≤ k) : trap_message.f k who a0 a1 a2 a3 l = some (if (msg (L who) (unitE a0 a1 a2 a3 l)).length ≤ 65535 then (Bs (msg (L who) (unitE a0 a1 a2 a3 l)), 0) else (⟨#[]⟩, 2)) := by
 have hwl : (L who).length ≤ 64 := by rw [L_len]; exact hw
 have hn := numB_len 1
 have w2 : ber_Wrap.f k 2 (Bs (numB 1)) = some (Bs (BerS.enc 2 (numB 1)), 0) := BerS.wrap_at 2 (numB 1) (by decide) (by decide) (by omega) k (by omega)
 have w4 : ber_Wrap.f k 4 who = some (Bs (BerS.enc 4 (L who)), 0) := by
  have := BerS.wrap_at 4 (L who) (by decide) (by decide) (by omega) k (by omega)
  rw [show BerS.Bs (L who) = Bs (L who) from rfl, Bs_L] at this
  exact this
 have ml := msgB_len (L who) (unitE a0 a1 a2 a3 l) hwl
 have lo := enc_low 48 (msgB (L who) (unitE a0 a1 a2 a3 l))
 unfold trap_message.f
 rw [encode_eq h hf k hk, Option.bind_some]
 by_cases c1 : (unitE a0 a1 a2 a3 l).length ≤ 65536
 ·have w48 : ber_Wrap.f k 48 (Bs (msgB (L who) (unitE a0 a1 a2 a3 l))) = some (Bs (msg (L who) (unitE a0 a1 a2 a3 l)), 0) := BerS.wrap_at 48 _ (by decide) (by decide) (by omega) k (by omega)
  have h3 := enc_high 4 (L who) (by omega)
  have h2 := enc_high 2 (numB 1) (by omega)
  rw [if_pos c1, if_pos rfl, BerS.putN 1 k (by omega), Option.bind_some, show BerS.Bs (BerS.trimS (BerS.W8 1)) = Bs (numB 1) from rfl, w2, Option.bind_some, w4, Option.bind_some]
  simp only
  rw [Bs_size, Bs_size, L_app, Bs_size, Bs_size, if_pos (by omega), if_pos (by rw [List.length_append]; omega), L_app, show BerS.enc 2 (numB 1) ++ BerS.enc 4 (L who) ++ unitE a0 a1 a2 a3 l = msgB (L who) (unitE a0 a1 a2 a3 l) from rfl, w48, Option.bind_some]
  simp only
  rw [Bs_size]
  by_cases c2 : (msg (L who) (unitE a0 a1 a2 a3 l)).length ≤ 65535
  ·rw [if_neg (by omega), if_pos c2]
  ·rw [if_pos (by omega), if_neg c2]
 ·rw [if_neg c1, if_neg (by decide), if_neg (by unfold msg; omega)]
theorem next_of (t : Nat) (b : List UInt8) (ht : t < 256) (ht2 : t % 32 ≠ 31) (hb : b.length ≤ 1000000) (k : Nat) (hk : 1 ≤ k) : ber_Next.f k (Bs (BerS.enc t b)) = some ((t : Int), Bs b, Bs [], 0) := by
 have hl := enc_high t b (by omega)
 have hn := BerS.next_eq k hk (BerS.Bs (BerS.enc t b)) (by rw [BerS.size_Bs]; omega)
 have hne := BerS.next_enc t b [] ht ht2 (by omega)
 rw [List.append_nil] at hne
 rw [BerS.L_Bs, hne] at hn
 exact hn
theorem msg_els (who : List UInt8) (hw : who.length ≤ 64) {a0 a1 a2 a3 : Int} {l : List S40} (h : okU a0 a1 a2 a3 l) (hl : (msg who (unitE a0 a1 a2 a3 l)).length ≤ 65535) : Els (msgB who (unitE a0 a1 a2 a3 l)) (msgP who a0 a1 a2 a3 l) := by
 obtain ⟨t, ht, t1, t2, _, t3⟩ := okU_tag h
 have hn := numB_len 1
 have ml := msgB_len who (unitE a0 a1 a2 a3 l) hw
 have lo := enc_low 48 (msgB who (unitE a0 a1 a2 a3 l))
 have lo2 : (unitB a1 a2 a3 l).length < (unitE a0 a1 a2 a3 l).length := enc_low a0.toNat (unitB a1 a2 a3 l)
 have hul : (unitB a1 a2 a3 l).length ≤ 65536 := by unfold msg at hl; omega
 rw [msgB_P]
 refine Els.enc _ (fun p hp => ?_)
 unfold msgP at hp
 simp only [List.mem_cons, List.not_mem_nil, or_false] at hp
 rcases hp with rfl | rfl | rfl
 ·exact (show (2 : Nat) < 256 ∧ (2 : Nat) % 32 ≠ 31 ∧ (numB 1).length < 4294967296 from ⟨by decide, by decide, by omega⟩)
 ·exact (show (4 : Nat) < 256 ∧ (4 : Nat) % 32 ≠ 31 ∧ who.length < 4294967296 from ⟨by decide, by decide, by omega⟩)
 ·exact (show a0.toNat < 256 ∧ a0.toNat % 32 ≠ 31 ∧ (unitB a1 a2 a3 l).length < 4294967296 from ⟨by omega, by rw [t3]; exact t2, by omega⟩)
theorem open_msg (who : ByteArray) (hw : who.size ≤ 64) {a0 a1 a2 a3 : Int} {l : List S40} (h : okU a0 a1 a2 a3 l) (hf : ∀ b ∈ l, fitB b) (hl : (msg (L who) (unitE a0 a1 a2 a3 l)).length ≤ 65535) (k : Nat) (hk : 10010 ≤ k) : trap_open.f k (Bs (msg (L who) (unitE a0 a1 a2 a3 l))) = some (who, a0, a1, a2, a3, l, true) := by
 have hwl : (L who).length ≤ 64 := by rw [L_len]; exact hw
 obtain ⟨t, ht, t1, t2, _, t3⟩ := okU_tag h
 have ml := msgB_len (L who) (unitE a0 a1 a2 a3 l) hwl
 have lo := enc_low 48 (msgB (L who) (unitE a0 a1 a2 a3 l))
 have hul : (unitE a0 a1 a2 a3 l).length ≤ 65536 := by unfold msg at hl; omega
 have hmb : (msgB (L who) (unitE a0 a1 a2 a3 l)).length ≤ 65535 := by unfold msg at hl; omega
 have hels := msg_els (L who) hwl h hl
 have hnx : ber_Next.f k (Bs (msg (L who) (unitE a0 a1 a2 a3 l))) = some (48, Bs (msgB (L who) (unitE a0 a1 a2 a3 l)), Bs [], 0) := next_of 48 _ (by decide) (by decide) (by omega) k (by omega)
 obtain ⟨k, rfl⟩ : ∃ m, k = m + 2 := ⟨k - 2, by omega⟩
 have hp := parts_at hels (by omega) (by simp [msgP]) (k + 1) (by simp [msgP]; omega)
 have hd := decode_back h hf hul k (by omega)
 have hnum : ber_Number.f (Bs (numB 1)) = some (1, 0) := BerS.number_back 1 (by decide) (by decide)
 have r0 : rd_T62 ((msgP (L who) a0 a1 a2 a3 l).map toP) 0 = ⟨2, Bs (numB 1)⟩ := rfl
 have r1 : rd_T62 ((msgP (L who) a0 a1 a2 a3 l).map toP) 1 = ⟨4, Bs (L who)⟩ := rfl
 have r2 : rd_T62 ((msgP (L who) a0 a1 a2 a3 l).map toP) 2 = ⟨(a0.toNat : Int), Bs (unitB a1 a2 a3 l)⟩ := rfl
 have hln : ((msgP (L who) a0 a1 a2 a3 l).map toP).length = 3 := rfl
 have hta : (a0.toNat : Int) = a0 := by omega
 unfold trap_open.f
 rw [hnx, Option.bind_some]
 simp only
 rw [if_pos trivial, if_pos (by rw [toList_L, L_Bs]), if_pos trivial, trap_open.j0, if_neg (by rw [Bs_size, decide_eq_true_iff]; omega), hp, Option.bind_some]
 simp only
 rw [if_pos trivial, hln, if_pos (by decide), if_pos (by decide), r0, r1, if_pos rfl, if_pos (by decide), show ((⟨4, Bs (L who)⟩ : S62).f0 != 4) = false from rfl]
 rw [trap_open.j1, if_neg (by decide), hln, if_pos (by decide), r0]
 simp only
 rw [hnum, Option.bind_some, if_pos (by decide), r2]
 simp only
 rw [hta, hd, Option.bind_some, if_pos (by decide)]
 simp only
 rw [if_pos trivial, if_pos trivial, r1, Bs_L]
 rfl
def isOf (l : List ByteArray) (x : ByteArray) : Prop := ∃ y ∈ l, x.toList = y.toList
theorem index_loop (l : List ByteArray) (x : ByteArray) (hl : l.length ≤ 1000000) : ∀ (d i k : Nat), i + d = l.length → d < k → ∃ r, slices_Index_string_string.l0 k l x (l.length : Int) (i : Int) = some r ∧ (r ≥ 0 ↔ isOf (l.drop i) x) := by
 intro d
 induction d with
 | zero =>
  intro i k hi hk
  obtain ⟨k, rfl⟩ : ∃ m, k = m + 1 := ⟨k - 1, by omega⟩
  rw [slices_Index_string_string.l0, if_neg (by omega), List.drop_eq_nil_of_le (by omega)]
  exact ⟨-1, rfl, fun h => absurd h (by decide), fun ⟨y, h, _⟩ => by cases h⟩
 | succ d ih =>
  intro i k hi hk
  obtain ⟨k, rfl⟩ : ∃ m, k = m + 1 := ⟨k - 1, by omega⟩
  have hlt : i < l.length := by omega
  have hrd : rdOf ByteArray.empty l (i : Int) = l[i] := by unfold rdOf; rw [Int.toNat_natCast, List.getD_eq_getElem?_getD, List.getElem?_eq_getElem hlt]; rfl
  rw [slices_Index_string_string.l0, if_pos (by omega), if_pos (by omega), if_pos (by omega), hrd, wrap_succ i (by omega), List.drop_eq_getElem_cons hlt]
  by_cases c : x.toList = l[i].toList
  ·rw [if_pos c]
   exact ⟨(i : Int), rfl, fun _ => ⟨l[i], List.mem_cons_self, c⟩, fun _ => by omega⟩
  ·rw [if_neg c]
   obtain ⟨r, h1, h2⟩ := ih (i + 1) k (by omega) (by omega)
   refine ⟨r, h1, fun h => ?_, fun h => h2.2 ?_⟩
   ·obtain ⟨y, h3, h4⟩ := h2.1 h
    exact ⟨y, List.mem_cons_of_mem _ h3, h4⟩
   ·obtain ⟨y, h3, h4⟩ := h
    rcases List.mem_cons.1 h3 with rfl | h3
    ·exact absurd h4 c
    ·exact ⟨y, h3, h4⟩
theorem contains_at (l : List ByteArray) (x : ByteArray) (hl : l.length ≤ 1000000) (k : Nat) (hk : l.length < k) : ∃ b, slices_Contains_string_string.f k l x = some b ∧ (b = true ↔ isOf l x) := by
 obtain ⟨r, h1, h2⟩ := index_loop l x hl l.length 0 k (by omega) hk
 unfold slices_Contains_string_string.f slices_Index_string_string.f
 rw [show ((0 : Nat) : Int) = 0 from rfl] at h1
 rw [h1]
 exact ⟨decide (r ≥ 0), rfl, by rw [decide_eq_true_iff, h2, List.drop_zero]⟩
theorem tdecode_msg {who : ByteArray} {inf : Bool} {req up : Int} {s : ByteArray} {l : List S40} (h : okT who inf req up s l) (hf : fitT up s l) (hl : (msg (L who) (unitE (tagOf inf) req 0 0 (unitL up s l))).length ≤ 65535) (known : List ByteArray) (hk1 : known.length ≤ 1000000) (k : Nat) (hk : 10020 + known.length ≤ k) :
  (isOf known who → trap_Decode.f k (Bs (msg (L who) (unitE (tagOf inf) req 0 0 (unitL up s l)))) known = some (who, inf, req, up, s, l, 0)) ∧
  (¬ isOf known who → trap_Decode.f k (Bs (msg (L who) (unitE (tagOf inf) req 0 0 (unitL up s l)))) known = some (⟨#[]⟩, false, 0, 0, ⟨#[]⟩, [], 91)) := by
 have ho := open_msg who h.2.1 h.2.2 (unit_fit hf) hl k (by omega)
 have hln : (unitL up s l).length = l.length + 2 := by unfold unitL; simp
 have r0 : rd_T40 (unitL up s l) 0 = trap_unit.up up := rfl
 have r1 : rd_T40 (unitL up s l) 1 = trap_unit.who s := rfl
 have hdr : (unitL up s l).drop 2 = l := rfl
 have htag : (tagOf inf == 166) = inf := by cases inf <;> rfl
 have htn : tagOf inf ≠ 162 := by cases inf <;> decide
 obtain ⟨k, rfl⟩ : ∃ m, k = m + 2 := ⟨k - 2, by omega⟩
 obtain ⟨c, hc, _, hi⟩ := tcheck_eq who inf req up s l hf k (by omega)
 obtain rfl := hi.2 h
 obtain ⟨b, hb, hbi⟩ := contains_at known who hk1 k (by omega)
 have hll := hf.2.2.2
 have e : trap_Decode.f (k + 2) (Bs (msg (L who) (unitE (tagOf inf) req 0 0 (unitL up s l)))) known = if b = true then some (who, inf, req, up, s, l, 0) else some (⟨#[]⟩, false, 0, 0, ⟨#[]⟩, [], 91) := by
  unfold trap_Decode.f
  rw [ho, Option.bind_some]
  simp only
  rw [if_pos trivial, if_neg htn, trap_Decode.j0, hln, if_neg (by simp; omega), if_pos (by omega), if_pos (by omega), r0, r1]
  unfold trap_of.f
  simp only [Option.bind_some]
  rw [if_neg (by rw [toList_L, show L (trap_unit.up up).f0 = [49, 46, 51, 46, 54, 46, 49, 46, 50, 46, 49, 46, 49, 46, 51, 46, 48] from rfl, show (trap_unit.up up).f1.f0 = 67 from rfl]; decide), trap_Decode.j1, if_neg (by rw [toList_L, show L (trap_unit.who s).f0 = [49, 46, 51, 46, 54, 46, 49, 46, 54, 46, 51, 46, 49, 46, 49, 46, 52, 46, 49, 46, 48] from rfl, show (trap_unit.who s).f1.f0 = 6 from rfl]; decide), hln, if_pos (by omega), hdr]
  unfold api_Bind_21.f
  rw [if_pos (by omega), Option.bind_some, htag, show (trap_unit.up up).f1.f1 = up from rfl, show (trap_unit.who s).f1.f2 = s from rfl, hc, Option.bind_some, if_pos rfl, hb, Option.bind_some]
 rw [e]
 exact ⟨fun h1 => if_pos (hbi.2 h1), fun h1 => if_neg (fun h2 => h1 (hbi.1 h2))⟩
theorem tencode_eq {who : ByteArray} {inf : Bool} {req up : Int} {s : ByteArray} {l : List S40} (h : okT who inf req up s l) (hf : fitT up s l) (k : Nat) (hk : 9010 ≤ k) : trap_Encode.f k who inf req up s l = some (if (msg (L who) (unitE (tagOf inf) req 0 0 (unitL up s l))).length ≤ 65535 then (Bs (msg (L who) (unitE (tagOf inf) req 0 0 (unitL up s l))), 0) else (⟨#[]⟩, 2)) := by
 obtain ⟨c, hc, _, hi⟩ := tcheck_eq who inf req up s l hf k hk
 obtain rfl := hi.2 h
 unfold trap_Encode.f
 rw [hc, Option.bind_some, if_pos rfl, unit_at who inf req up s l (by have := hf.2.2.2; omega), Option.bind_some]
 simp only
 rw [message_eq who h.2.1 h.2.2 (unit_fit hf) k hk, Option.bind_some]
theorem tencode_bad {who : ByteArray} {inf : Bool} {req up : Int} {s : ByteArray} {l : List S40} (h : ¬ okT who inf req up s l) (hf : fitT up s l) (k : Nat) (hk : 9010 ≤ k) : trap_Encode.f k who inf req up s l = some (⟨#[]⟩, 90) := by
 obtain ⟨c, hc, h1, hi⟩ := tcheck_eq who inf req up s l hf k hk
 have hne : c ≠ 0 := fun hc0 => h (hi.1 hc0)
 rcases h1 with rfl | rfl
 ·exact absurd rfl hne
 ·unfold trap_Encode.f
  rw [hc, Option.bind_some, if_neg hne]
end Go.Proofs.YtfmhghlmljlfgaaGreatDoor.TrpS
/- Layer 9: when two traps are the same; the chapter's example. -/
namespace Go.Proofs.YtfmhghlmljlfgaaGreatDoor.TrpS
open Go.RowKit Gong Go.Proofs.YtfmhghlmljlfgaaGreatDoor.XTrS Go.Proofs.YtfmhghlmljlfgaaGreatDoor.PduS Go.Proofs.YtfmhghlmljlfgaaGreatDoor.OidS Go.Proofs.YtfmhghlmljlfgaaGreatDoor.ValS Go.Proofs.YtfmhghlmljlfgaaGreatDoorW.PrintWords Go.Proofs.YtfmhghlmljlfgaaGreatDoorW.PrintLast Go.Proofs.YtfmhghlmljlfgaaGreatDoorW.PrintMore
set_option linter.unusedVariables false
set_option linter.unusedSimpArgs false
theorem toList_inj {a b : ByteArray} (h : a.toList = b.toList) : a = b := by
 rw [toList_L, toList_L] at h
 rw [← Bs_L a, h, Bs_L]
def difB (a b : S40) : Bool := (!((a.f0).toList == (b.f0).toList) || ((!((a.f1.f0) == (b.f1.f0)) || (!((a.f1.f1) == (b.f1.f1)) || (!((a.f1.f2).toList == (b.f1.f2).toList))))))
theorem difB_iff (a b : S40) : difB a b = false ↔ a = b := by
 obtain ⟨x, y, z, u⟩ := a
 obtain ⟨x', y', z', u'⟩ := b
 unfold difB
 simp only [Bool.or_eq_false_iff, Bool.not_eq_false', beq_iff_eq]
 constructor
 ·intro h
  obtain ⟨h1, h2, h3, h4⟩ := h
  rw [toList_inj h1, h2, h3, toList_inj h4]
 ·intro h
  injection h with h1 h2
  injection h2 with h3 h4 h5
  exact ⟨by rw [h1], h3, h4, by rw [h5]⟩
theorem eq_loop (l m : List S40) (hm : l.length = m.length) (hl : l.length ≤ 4611686018427387904) : ∀ (d i k : Nat), i + d = l.length → d < k → ∃ b, api_Bind_24.l0 k l m (l.length : Int) (i : Int) = some b ∧ (b = true ↔ l.drop i = m.drop i) := by
 intro d
 induction d with
 | zero =>
  intro i k hi hk
  obtain ⟨k, rfl⟩ : ∃ m, k = m + 1 := ⟨k - 1, by omega⟩
  rw [api_Bind_24.l0, if_neg (by omega), List.drop_eq_nil_of_le (by omega), List.drop_eq_nil_of_le (by omega)]
  exact ⟨true, rfl, fun _ => rfl, fun _ => rfl⟩
 | succ d ih =>
  intro i k hi hk
  obtain ⟨k, rfl⟩ : ∃ m, k = m + 1 := ⟨k - 1, by omega⟩
  have h1 : i < l.length := by omega
  have h2 : i < m.length := by omega
  rw [api_Bind_24.l0, if_pos (by omega), if_pos (by omega), if_pos (by omega), if_pos (by omega), rd_at l i h1, rd_at m i h2, wrap_succ i (by omega), List.drop_eq_getElem_cons h1, List.drop_eq_getElem_cons h2]
  show ∃ b, (if difB l[i] m[i] = true then _ else _) = some b ∧ _
  cases hd : difB l[i] m[i] with
  | true =>
   rw [if_pos rfl]
   refine ⟨false, rfl, fun h => absurd h (by decide), fun h => ?_⟩
   rw [(difB_iff _ _).2 (List.cons.inj h).1] at hd
   exact absurd hd (by decide)
  | false =>
   rw [if_neg (by decide)]
   obtain ⟨b, h3, h4⟩ := ih (i + 1) k (by omega) (by omega)
   refine ⟨b, h3, fun h => ?_, fun h => h4.2 (List.cons.inj h).2⟩
   rw [(difB_iff _ _).1 hd, h4.1 h]
theorem eq_at (l m : List S40) (hl : l.length ≤ 4611686018427387904) (k : Nat) (hk : l.length < k) : ∃ b, api_Bind_24.f k l m = some b ∧ (b = true ↔ l = m) := by
 unfold api_Bind_24.f
 by_cases c : (l.length : Int) = (m.length : Int)
 ·rw [if_pos c]
  obtain ⟨b, h1, h2⟩ := eq_loop l m (by omega) hl l.length 0 k (by omega) hk
  exact ⟨b, h1, by simpa using h2⟩
 ·rw [if_neg c]
  exact ⟨false, rfl, fun h => absurd h (by decide), fun h => absurd (by rw [h]) c⟩
theorem same_at (who : ByteArray) (inf : Bool) (req up : Int) (s : ByteArray) (l : List S40) (who' : ByteArray) (inf' : Bool) (req' up' : Int) (s' : ByteArray) (l' : List S40) (hl : l.length ≤ 4611686018427387904) (k : Nat) (hk : l.length < k) :
  ∃ b, trap_Same.f k who inf req up s l who' inf' req' up' s' l' = some b ∧ (b = true ↔ who = who' ∧ inf = inf' ∧ req = req' ∧ up = up' ∧ s = s' ∧ l = l') := by
 unfold trap_Same.f trap_bare.f
 simp only [Option.bind_some]
 obtain ⟨b, h1, h2⟩ := eq_at l l' hl k hk
 by_cases c : (who.toList == who'.toList && (s.toList == s'.toList && (inf == inf' && (req == req' && (up == up'))))) = true
 ·rw [if_pos c, h1, Option.bind_some]
  simp only [Bool.and_eq_true, beq_iff_eq] at c
  obtain ⟨c1, c2, c3, c4, c5⟩ := c
  exact ⟨b, rfl, fun h => ⟨toList_inj c1, c3, c4, c5, toList_inj c2, h2.1 h⟩, fun h => h2.2 h.2.2.2.2.2⟩
 ·rw [if_neg c]
  refine ⟨false, rfl, fun h => absurd h (by decide), fun h => absurd ?_ c⟩
  obtain ⟨rfl, rfl, rfl, rfl, rfl, rfl⟩ := h
  simp
theorem same_self (who : ByteArray) (inf : Bool) (req up : Int) (s : ByteArray) (l : List S40) (hl : l.length ≤ 4611686018427387904) (k : Nat) (hk : l.length < k) : trap_Same.f k who inf req up s l who inf req up s l = some true := by
 obtain ⟨b, h1, h2⟩ := same_at who inf req up s l who inf req up s l hl k hk
 rw [h1, h2.2 ⟨rfl, rfl, rfl, rfl, rfl, rfl⟩]
def whoX : ByteArray := ⟨#[112, 117, 98, 108, 105, 99]⟩
def idX : ByteArray := ⟨#[49, 46, 51, 46, 54, 46, 49, 46, 54, 46, 51, 46, 49, 46, 49, 46, 53, 46, 49]⟩
theorem okX : okT whoX false 0 300 idX [] := by
 refine ⟨?_, by decide, ?_, by decide, by decide, by decide, by decide, ?_⟩
 ·rw [toList_L]; decide
 ·decide
 ·have h1 : okB (trap_unit.up 300) = true := by decide +kernel
  have h2 : okB (trap_unit.who idX) = true := by decide +kernel
  unfold unitL
  simp only [List.append_nil, List.all_cons, List.all_nil, h1, h2]
  rfl
theorem fitX : fitT 300 idX [] := ⟨⟨by decide, by decide⟩, by decide, fun b hb => (by cases hb), by decide⟩
theorem msgX : (msg (L whoX) (unitE (tagOf false) 0 0 0 (unitL 300 idX []))).length ≤ 65535 := by decide +kernel
theorem works_at (k : Nat) (hk : 10030 ≤ k) : gonglaw09_works.f k = some true := by
 have he := tencode_eq okX fitX k (by omega)
 rw [if_pos msgX] at he
 have hd := (tdecode_msg okX fitX msgX [whoX] (by decide) k (by simp; omega)).1 ⟨whoX, by simp, rfl⟩
 have hs := same_self whoX false 0 300 idX [] (by decide) k (by simp; omega)
 unfold gonglaw09_works.f
 show (trap_Encode.f k whoX false 0 300 idX []).bind _ = _
 rw [he, Option.bind_some]
 simp only
 rw [show [(⟨#[112, 117, 98, 108, 105, 99]⟩ : ByteArray)] = [whoX] from rfl, hd, Option.bind_some, if_pos trivial]
 simp only
 rw [if_pos trivial, show (⟨#[112, 117, 98, 108, 105, 99]⟩ : ByteArray) = whoX from rfl, show (⟨#[49, 46, 51, 46, 54, 46, 49, 46, 54, 46, 51, 46, 49, 46, 49, 46, 53, 46, 49]⟩ : ByteArray) = idX from rfl, hs, Option.bind_some, if_pos rfl]
 rfl
end Go.Proofs.YtfmhghlmljlfgaaGreatDoor.TrpS
/- Layer 9: which traps are small; an answer's message, as long as the trap's. -/
namespace Go.Proofs.YtfmhghlmljlfgaaGreatDoor.TrpS
open Go.RowKit Gong Go.Proofs.YtfmhghlmljlfgaaGreatDoor.XTrS Go.Proofs.YtfmhghlmljlfgaaGreatDoor.PduS Go.Proofs.YtfmhghlmljlfgaaGreatDoor.OidS Go.Proofs.YtfmhghlmljlfgaaGreatDoor.ValS Go.Proofs.YtfmhghlmljlfgaaGreatDoorW.PrintWords Go.Proofs.YtfmhghlmljlfgaaGreatDoorW.PrintLast Go.Proofs.YtfmhghlmljlfgaaGreatDoorW.PrintMore
set_option linter.unusedVariables false
set_option linter.unusedSimpArgs false
def shortT (b : S40) : Prop := b.f1.f2.size ≤ 2000 ∧ b.f0.size ≤ 2000
theorem tsmall_loop (who : ByteArray) (inf : Bool) (req up : Int) (s : ByteArray) (l : List S40) (hl : l.length ≤ 8192) : ∀ (d i k : Nat), i + d = l.length → d < k → ∃ b, gonglaw09_small.l0 k (i : Int) who inf req up s l = some b ∧ (b = true → ∀ x ∈ l.drop i, shortT x) := by
 intro d
 induction d with
 | zero =>
  intro i k hi hk
  obtain ⟨k, rfl⟩ : ∃ m, k = m + 1 := ⟨k - 1, by omega⟩
  rw [gonglaw09_small.l0, if_neg (by omega), List.drop_eq_nil_of_le (by omega)]
  exact ⟨true, rfl, by simp⟩
 | succ d ih =>
  intro i k hi hk
  obtain ⟨k, rfl⟩ : ∃ m, k = m + 1 := ⟨k - 1, by omega⟩
  have hlt : i < l.length := by omega
  rw [gonglaw09_small.l0, if_pos (by omega), if_pos (by omega), rd_at l i hlt, List.drop_eq_getElem_cons hlt]
  by_cases c1 : ((l[i].f1.f2).size : Int) > 2000
  ·rw [if_pos c1]
   exact ⟨false, rfl, fun h => absurd h (by decide)⟩
  ·rw [if_neg c1]
   by_cases c2 : ((l[i].f0).size : Int) > 2000
   ·rw [if_pos c2]
    exact ⟨false, rfl, fun h => absurd h (by decide)⟩
   ·rw [if_neg c2, wrap_succ i (by omega)]
    obtain ⟨b, h1, h2⟩ := ih (i + 1) k (by omega) (by omega)
    refine ⟨b, h1, fun hb x hx => ?_⟩
    rcases List.mem_cons.1 hx with rfl | hx
    ·exact ⟨by omega, by omega⟩
    ·exact h2 hb x hx
theorem tsmall_at (who : ByteArray) (inf : Bool) (req up : Int) (s : ByteArray) (l : List S40) (k : Nat) (hk : 9000 ≤ k) : ∃ b, gonglaw09_small.f k who inf req up s l = some b ∧ (b = true → l.length ≤ 8192 ∧ s.size ≤ 2000 ∧ ∀ x ∈ l, shortT x) := by
 obtain ⟨k, rfl⟩ : ∃ m, k = m + 1 := ⟨k - 1, by omega⟩
 have no : ∀ q : Bool, q = true → gonglaw09_small.j0 (k + 1) q who inf req up s l = some false := fun q hq => by rw [hq, gonglaw09_small.j0, if_pos rfl]
 have yes (hl : l.length ≤ 8192) : ∃ b, gonglaw09_small.j0 (k + 1) (decide ((s.size : Int) > 2000)) who inf req up s l = some b ∧ (b = true → l.length ≤ 8192 ∧ s.size ≤ 2000 ∧ ∀ x ∈ l, shortT x) := by
  by_cases c : (s.size : Int) > 2000
  ·rw [no _ (decide_eq_true c)]
   exact ⟨false, rfl, fun h => absurd h (by decide)⟩
  ·rw [decide_eq_false c, gonglaw09_small.j0, if_neg Bool.false_ne_true]
   obtain ⟨b, h1, h2⟩ := tsmall_loop who inf req up s l hl l.length 0 k (by omega) (by omega)
   rw [List.drop_zero] at h2
   exact ⟨b, h1, fun hb => ⟨hl, by omega, h2 hb⟩⟩
 unfold gonglaw09_small.f
 by_cases c1 : (l.length : Int) > 30
 ·rw [if_pos c1]
  by_cases c2 : (l.length : Int) ≤ 4096
  ·rw [if_pos c2, no _ rfl]; exact ⟨false, rfl, fun h => absurd h (by decide)⟩
  ·rw [if_neg c2]
   by_cases c3 : (l.length : Int) > 8192
   ·rw [if_pos c3, no _ rfl]; exact ⟨false, rfl, fun h => absurd h (by decide)⟩
   ·rw [if_neg c3]; exact yes (by omega)
 ·rw [if_neg c1, if_neg (by omega)]; exact yes (by omega)
theorem fit_of {up : Int} {s : ByteArray} {l : List S40} (h1 : (Lit.int .i64 up).wf = true) (h2 : l.length ≤ 8192 ∧ s.size ≤ 2000 ∧ ∀ x ∈ l, shortT x) (h3 : ∀ x ∈ l, x.f0.size ≤ 140737488351232 ∧ (Lit.int .i64 x.f1.f0).wf = true ∧ (Lit.int .i64 x.f1.f1).wf = true ∧ x.f1.f2.size ≤ 140737488351232) : fitT up s l := by
 refine ⟨?_, by omega, fun b hb => ?_, by omega⟩
 ·have := BerS.wf_i64 h1; omega
 ·have g1 := h2.2.2 b hb
  have g2 := BerS.wf_i64 (h3 b hb).2.2.1
  exact ⟨Nat.le_trans g1.2 (by decide), Nat.le_trans g1.1 (by decide), g2.1, g2.2⟩
theorem msg_ne (who u : List UInt8) : msg who u ≠ [] := by unfold msg BerS.enc; simp
end Go.Proofs.YtfmhghlmljlfgaaGreatDoor.TrpS
/- 'gonglaw09.TrapBack': what the printed function answers is true. -/
namespace Go.Proofs.YtfmhghlmljlfgaaGreatDoor.Pure
open Go.RowKit Gong Go.Proofs.YtfmhghlmljlfgaaGreatDoor.XTrS Go.Proofs.YtfmhghlmljlfgaaGreatDoor.TrpS Go.Proofs.YtfmhghlmljlfgaaGreatDoor.PduS Go.Proofs.YtfmhghlmljlfgaaGreatDoor.OidS Go.Proofs.YtfmhghlmljlfgaaGreatDoor.ValS Go.Proofs.YtfmhghlmljlfgaaGreatDoorW.PrintWords Go.Proofs.YtfmhghlmljlfgaaGreatDoorW.PrintLast Go.Proofs.YtfmhghlmljlfgaaGreatDoorW.PrintMore
set_option linter.unusedVariables false
set_option linter.unusedSimpArgs false
theorem lenS_app {l : List UInt8} {n g : Nat} (h : BerS.lenS l = some (n, g)) (q : List UInt8) : BerS.lenS (l ++ q) = some (n, g) := by
 cases l with
 | nil => exact absurd h (by simp [BerS.lenS])
 | cons b l =>
  simp only [BerS.lenS, List.cons_append] at h ⊢
  by_cases h1 : b.toNat < 128
  ·rw [if_pos h1] at h ⊢; exact h
  ·rw [if_neg h1] at h ⊢
   by_cases h2 : b.toNat = 128 ∨ 132 < b.toNat
   ·rw [if_pos h2] at h; simp at h
   ·rw [if_neg h2] at h ⊢
    by_cases h3 : l.length < b.toNat - 128
    ·rw [if_pos h3] at h; simp at h
    ·rw [if_neg h3] at h
     rw [if_neg (by rw [List.length_append]; omega), List.take_append_of_le_length (by omega)]
     exact h
theorem nextS_app {l b r : List UInt8} {t : Nat} (h : BerS.nextS l = some (t, b, r)) (q : List UInt8) : BerS.nextS (l ++ q) = some (t, b, r ++ q) := by
 cases l with
 | nil => exact absurd h (by simp [BerS.nextS])
 | cons x l =>
  simp only [BerS.nextS, List.cons_append] at h ⊢
  by_cases h1 : x.toNat % 32 = 31
  ·rw [if_pos h1] at h; simp at h
  ·rw [if_neg h1] at h ⊢
   cases hl : BerS.lenS l with
   | none => rw [hl] at h; simp at h
   | some p =>
    obtain ⟨n, g⟩ := p
    have hg := BerS.lenS_le hl
    rw [hl] at h
    rw [lenS_app hl q]
    simp only at h ⊢
    rw [List.drop_append_of_le_length (by omega)]
    by_cases h2 : (l.drop g).length < n
    ·rw [if_pos h2] at h; simp at h
    ·rw [if_neg h2] at h
     rw [if_neg (by rw [List.length_append]; omega), List.take_append_of_le_length (by omega), List.drop_append_of_le_length (by omega)]
     simp only [Option.some.injEq, Prod.mk.injEq] at h ⊢
     obtain ⟨rfl, rfl, rfl⟩ := h
     exact ⟨rfl, rfl, rfl⟩
theorem decode_none (s : ByteArray) (hs : s.size ≤ 1000000) (h : ∀ t b, BerS.nextS (BerS.L s) ≠ some (t, b, [])) (l : List ByteArray) (k : Nat) (hk : 10 ≤ k) : trap_Decode.f k s l = some (⟨#[]⟩, false, 0, 0, ⟨#[]⟩, [], 90) := by
 obtain ⟨k, rfl⟩ : ∃ m, k = m + 1 := ⟨k - 1, by omega⟩
 have ho : ∃ r, trap_open.f (k + 1) s = some r ∧ r.2.2.2.2.2.2 = false := by
  unfold trap_open.f
  rw [BerS.next_eq (k + 1) (by omega) s (by omega), Option.bind_some]
  cases hn : BerS.nextS (BerS.L s) with
  | none =>
   simp only
   rw [if_neg (by decide), trap_open.j0, if_pos rfl]
   exact ⟨_, rfl, rfl⟩
  | some p =>
   obtain ⟨t, b, r⟩ := p
   simp only
   rw [if_pos trivial, if_neg (by
    rw [toList_L]
    intro hr
    have : r = [] := hr
    exact h t b (by rw [hn, this])), trap_open.j0, if_pos rfl]
   exact ⟨_, rfl, rfl⟩
 obtain ⟨r, h1, h2⟩ := ho
 unfold trap_Decode.f
 rw [h1, Option.bind_some, h2, if_neg Bool.false_ne_true, trap_Decode.j0, if_pos rfl]
theorem msg_next (who u : List UInt8) (h : (msg who u).length ≤ 65535) (q : List UInt8) : BerS.nextS (msg who u ++ q) = some (48, msgB who u, q) := by
 have lo := enc_low 48 (msgB who u)
 exact BerS.next_enc 48 (msgB who u) q (by decide) (by decide) (by unfold msg at h; omega)
theorem cut_none (who u : List UInt8) (h : (msg who u).length ≤ 65535) (n : Nat) (hn : n < (msg who u).length) (l : List ByteArray) (k : Nat) (hk : 10 ≤ k) : trap_Decode.f k ((Bs (msg who u)).extract 0 n) l = some (⟨#[]⟩, false, 0, 0, ⟨#[]⟩, [], 90) := by
 have e : BerS.L ((Bs (msg who u)).extract 0 n) = (msg who u).take n := by rw [BerS.L_extract]; rfl
 refine decode_none _ ?_ ?_ l k hk
 ·rw [BerS.size_L, e, List.length_take]; omega
 ·intro t b hq
  rw [e] at hq
  have h1 := nextS_app hq ((msg who u).drop n)
  rw [List.take_append_drop, List.nil_append] at h1
  have h2 := msg_next who u h []
  rw [List.append_nil, h1] at h2
  simp only [Option.some.injEq, Prod.mk.injEq] at h2
  have := congrArg List.length h2.2.2
  rw [List.length_drop] at this
  simp at this
  omega
theorem more_none (who u : List UInt8) (h : (msg who u).length ≤ 65535) (l : List ByteArray) (k : Nat) (hk : 10 ≤ k) : trap_Decode.f k (Bs (msg who u) ++ (⟨#[120]⟩ : ByteArray)) l = some (⟨#[]⟩, false, 0, 0, ⟨#[]⟩, [], 90) := by
 have e : BerS.L (Bs (msg who u) ++ (⟨#[120]⟩ : ByteArray)) = msg who u ++ [120] := by rw [BerS.L_append]; rfl
 refine decode_none _ ?_ ?_ l k hk
 ·rw [BerS.size_L, e, List.length_append, List.length_singleton]; omega
 ·intro t b hq
  rw [e, msg_next who u h [120]] at hq
  simp at hq
theorem back_loop {who : ByteArray} {inf : Bool} {req up : Int} {s : ByteArray} {l : List S40} (h : okT who inf req up s l) (hf : fitT up s l) (hl : (msg (L who) (unitE (tagOf inf) req 0 0 (unitL up s l))).length ≤ 65535) (o : List ByteArray) (ho : o.length ≤ 50) (x2 : Int) (hx : -9223372036854775808 ≤ x2 ∧ x2 ≤ 9223372036854775807) : ∀ (d i k : Nat) (kn : Bool), i + d = o.length → 10200 + d ≤ k → (kn = true ↔ isOf (o.take i) who) →
  gonglaw09_TrapBack.l0 k o x2 (Bs (msg (L who) (unitE (tagOf inf) req 0 0 (unitL up s l)))) kn o (o.length : Int) (i : Int) who inf req up s l = some true := by
 intro d
 induction d with
 | zero =>
  intro i k kn hi hk hkn
  obtain ⟨k, rfl⟩ : ∃ m, k = m + 1 := ⟨k - 1, by omega⟩
  rw [List.take_of_length_le (by omega)] at hkn
  have hd := tdecode_msg h hf hl o (by omega) k (by omega)
  have hne := List.length_pos_iff.2 (msg_ne (L who) (unitE (tagOf inf) req 0 0 (unitL up s l)))
  have hc := cut_none (L who) (unitE (tagOf inf) req 0 0 (unitL up s l)) hl
  have hm := more_none (L who) (unitE (tagOf inf) req 0 0 (unitL up s l)) hl o k (by omega)
  generalize msg (L who) (unitE (tagOf inf) req 0 0 (unitL up s l)) = M at *
  obtain ⟨m, hb, hmn⟩ := BerS.below_at x2 M.length hx.1 hx.2 hne (by omega)
  rw [gonglaw09_TrapBack.l0, if_neg (by omega), Bs_size]
  cases kn with
  | true =>
   rw [hd.1 (hkn.1 rfl), Option.bind_some, hb, Option.bind_some, if_pos (by omega), if_pos (by omega), Int.toNat_natCast, hc m hmn o k (by omega), Option.bind_some, if_pos (by omega), hm, Option.bind_some]
   rfl
  | false =>
   rw [hd.2 (fun q => by have := hkn.2 q; exact absurd this (by decide)), Option.bind_some, hb, Option.bind_some, if_pos (by omega), if_pos (by omega), Int.toNat_natCast, hc m hmn o k (by omega), Option.bind_some, if_pos (by omega), hm, Option.bind_some]
   simp only
   rw [if_pos (by decide), if_neg Bool.false_ne_true, if_pos trivial, if_pos (by rw [toList_L]; rfl), if_pos (by simp), if_pos trivial]
   rfl
 | succ d ih =>
  intro i k kn hi hk hkn
  obtain ⟨k, rfl⟩ : ∃ m, k = m + 1 := ⟨k - 1, by omega⟩
  have hlt : i < o.length := by omega
  have hrd : rdOf ByteArray.empty o (i : Int) = o[i] := by unfold rdOf; rw [Int.toNat_natCast, List.getD_eq_getElem?_getD, List.getElem?_eq_getElem hlt]; rfl
  have htk : o.take (i + 1) = o.take i ++ [o[i]] := by rw [List.take_add_one, List.getElem?_eq_getElem hlt]; rfl
  rw [gonglaw09_TrapBack.l0, if_pos (by omega), if_pos (by omega), if_pos (by omega), hrd, wrap_succ i (by omega)]
  cases kn with
  | true =>
   rw [if_pos rfl]
   refine ih (i + 1) k true (by omega) (by omega) ⟨fun _ => ?_, fun _ => rfl⟩
   obtain ⟨y, h1, h2⟩ := hkn.1 rfl
   exact ⟨y, by rw [htk]; exact List.mem_append_left _ h1, h2⟩
  | false =>
   rw [if_neg Bool.false_ne_true]
   refine ih (i + 1) k _ (by omega) (by omega) ⟨fun hq => ?_, fun hq => ?_⟩
   ·exact ⟨o[i], by rw [htk]; exact List.mem_append_right _ (List.mem_singleton.2 rfl), (beq_iff_eq.1 hq).symm⟩
   ·obtain ⟨y, h1, h2⟩ := hq
    rw [htk] at h1
    rcases List.mem_append.1 h1 with h1 | h1
    ·exact absurd (hkn.2 ⟨y, h1, h2⟩) (by decide)
    ·obtain rfl := List.mem_singleton.1 h1
     exact beq_iff_eq.2 h2.symm
theorem TrapBack (a0_0 : ByteArray) (a0_1 : Bool) (a0_2 a0_3 : Int) (a0_4 : ByteArray) (l0_5 : List S40) (l1 : List ByteArray) (a2 : Int) (w0 : a0_0.size ≤ 140737488351232 ∧ True ∧ (Lit.int .i64 a0_2).wf = true ∧ (Lit.int .i64 a0_3).wf = true ∧ a0_4.size ≤ 140737488351232 ∧ l0_5.length ≤ maxLen ∧ l0_5.length * 48 ≤ 140737488351232 ∧ ∀ x ∈ l0_5, x.f0.size ≤ 140737488351232 ∧ (Lit.int .i64 x.f1.f0).wf = true ∧ (Lit.int .i64 x.f1.f1).wf = true ∧ x.f1.f2.size ≤ 140737488351232) (w1 : l1.length ≤ maxLen ∧ l1.length * 16 ≤ 140737488351232 ∧ ∀ x ∈ l1, x.size ≤ 140737488351232) (w2 : (Lit.int .i64 a2).wf = true) : ∃ k, gonglaw09_TrapBack.f k a0_0 a0_1 a0_2 a0_3 a0_4 l0_5 l1 a2 = some true := by
 refine ⟨20000, ?_⟩
 obtain ⟨k, hk⟩ : ∃ k : Nat, k = 20000 := ⟨_, rfl⟩
 rw [← hk]
 obtain ⟨b, hb, hs⟩ := tsmall_at a0_0 a0_1 a0_2 a0_3 a0_4 l0_5 k (by omega)
 unfold gonglaw09_TrapBack.f
 rw [works_at k (by omega), Option.bind_some, if_pos rfl, hb, Option.bind_some]
 obtain ⟨k, rfl⟩ : ∃ m, k = m + 1 := ⟨k - 1, by omega⟩
 cases b with
 | false => rw [if_neg Bool.false_ne_true, gonglaw09_TrapBack.j0, if_pos rfl]
 | true =>
  have hsm := hs rfl
  have hf := fit_of w0.2.2.2.1 hsm w0.2.2.2.2.2.2.2
  rw [if_pos rfl]
  by_cases c1 : (l1.length : Int) > 50
  ·rw [decide_eq_true c1, gonglaw09_TrapBack.j0, if_pos rfl]
  rw [decide_eq_false c1, gonglaw09_TrapBack.j0, if_neg Bool.false_ne_true]
  by_cases hok : okT a0_0 a0_1 a0_2 a0_3 a0_4 l0_5
  ·rw [tencode_eq hok hf k (by omega), Option.bind_some]
   by_cases h1 : (msg (L a0_0) (unitE (tagOf a0_1) a0_2 0 0 (unitL a0_3 a0_4 l0_5))).length ≤ 65535
   ·have hd := (tdecode_msg hok hf h1 ([] ++ l1 ++ [a0_0]) (by simp; omega) k (by simp; omega)).1 ⟨a0_0, by simp, rfl⟩
    have hsame := same_self a0_0 a0_1 a0_2 a0_3 a0_4 l0_5 (by omega) k (by omega)
    obtain ⟨k, rfl⟩ : ∃ m, k = m + 1 := ⟨k - 1, by omega⟩
    rw [if_pos h1]
    simp only
    rw [if_pos trivial, Option.bind_some, if_pos (by simp; omega), Option.bind_some, Option.bind_some, if_pos (by simp; omega), hd, Option.bind_some]
    simp only
    rw [if_pos trivial, hsame, Option.bind_some, gonglaw09_TrapBack.j1, if_neg (by decide)]
    exact back_loop hok hf h1 l1 (by omega) a2 (BerS.wf_i64 w2) l1.length 0 k false (by omega) (by omega) ⟨fun q => absurd q (by decide), fun ⟨y, q, _⟩ => by simp at q⟩
   ·rw [if_neg h1]
    simp only
    rw [if_neg (by decide), if_pos (by rw [toList_L]; rfl), if_pos trivial]
  ·obtain ⟨c, hc, hc1, hi⟩ := tcheck_eq a0_0 a0_1 a0_2 a0_3 a0_4 l0_5 hf k (by omega)
   have hne : c ≠ 0 := fun h => hok (hi.1 h)
   rw [tencode_bad hok hf k (by omega), Option.bind_some]
   simp only
   rw [if_neg (by decide), if_pos (by rw [toList_L]; rfl), if_neg (by decide), hc, Option.bind_some]
   rcases hc1 with rfl | rfl
   ·exact absurd rfl hne
   ·rfl
end Go.Proofs.YtfmhghlmljlfgaaGreatDoor.Pure
