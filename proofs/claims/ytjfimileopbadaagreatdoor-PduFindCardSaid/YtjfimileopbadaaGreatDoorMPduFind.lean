/- The plain texts behind the law, one after the other. -/
import Derived.Test.YtjfimileopbadaaGreatDoorXPdFx
import Derived.Lib.ItoaNum
import Derived.Lib.AtoiAll
import Derived.Lib.SplitLaws
import Derived.Lib.IndexBytes
import Derived.Lib.Join
import Derived.Lib.SlTrimSet
/- Numbers as decimal digits, and texts cut at a byte: plain lists. -/
namespace Go.Proofs.YtjfimileopbadaaGreatDoor.DecS
open Go
set_option linter.unusedVariables false
set_option linter.unusedSimpArgs false
theorem snoc_ind {α : Type} {P : List α → Prop} (h0 : P []) (h1 : ∀ l b, P l → P (l ++ [b])) : ∀ l, P l := by
  intro l
  have : ∀ (n : Nat) (l : List α), l.length = n → P l := by
    intro n
    induction n with
    | zero => intro l h; rw [List.eq_nil_of_length_eq_zero h]; exact h0
    | succ n ih =>
      intro l h
      have hn : l ≠ [] := by rintro rfl; simp at h
      rw [← List.dropLast_concat_getLast hn]
      exact h1 _ _ (ih _ (by rw [List.length_dropLast, h]; rfl))
  exact this _ l rfl
theorem head_app {α : Type} {l : List α} (h : l ≠ []) (m : List α) : (l ++ m).head? = l.head? := by
  cases l with
  | nil => exact absurd rfl h
  | cons a l => rfl
theorem dw_nil {α : Type} {p : α → Bool} : ∀ {l : List α}, l.dropWhile p = [] ↔ ∀ x ∈ l, p x = true
  | [] => by simp
  | a :: l => by
    rw [List.dropWhile_cons]
    by_cases h : p a = true
    · rw [if_pos h, dw_nil]
      simp [h]
    · rw [if_neg h]
      simp [h]
theorem tw_mem {α : Type} {p : α → Bool} {x : α} : ∀ {l : List α}, x ∈ l.takeWhile p → p x = true
  | [], h => by simp at h
  | a :: l, h => by
    rw [List.takeWhile_cons] at h
    by_cases ha : p a = true
    · rw [if_pos ha, List.mem_cons] at h
      rcases h with rfl | h
      · exact ha
      · exact tw_mem h
    · rw [if_neg ha] at h
      simp at h
/-- A digit. -/
def isD (b : UInt8) : Bool := decide (48 ≤ b.toNat ∧ b.toNat ≤ 57)
/-- What digits tell. -/
def val (l : List UInt8) : Nat := l.foldl (fun a b => a * 10 + (b.toNat - 48)) 0
theorem val_snoc (l : List UInt8) (b : UInt8) : val (l ++ [b]) = val l * 10 + (b.toNat - 48) := by simp [val]
/-- Digits without a nought ahead. -/
structure Canon (l : List UInt8) : Prop where
  ne : l ≠ []
  dig : ∀ b ∈ l, isD b = true
  hd : 1 < l.length → l.head? ≠ some 48
theorem digit_byte (u : Nat) (h : u < 10) : (UInt8.ofNat (48 + u)).toNat = 48 + u := by
  rw [UInt8.toNat_ofNat']
  omega
theorem isD_byte (u : Nat) (h : u < 10) : isD (UInt8.ofNat (48 + u)) = true := by
  unfold isD
  rw [digit_byte u h]
  simp
  omega
theorem isD_iff {b : UInt8} (h : isD b = true) : 48 ≤ b.toNat ∧ b.toNat ≤ 57 := by simpa [isD] using h
theorem byte_of {b : UInt8} (h : isD b = true) : UInt8.ofNat (48 + (b.toNat - 48)) = b := by
  have := isD_iff h
  rw [show 48 + (b.toNat - 48) = b.toNat from by omega, UInt8.ofNat_toNat]
theorem dd_step (u : Nat) (h : ¬ u < 10) : Lib.decDigits u = Lib.decDigits (u / 10) ++ [UInt8.ofNat (48 + u % 10)] := by
  conv => lhs; rw [Lib.decDigits, dif_neg h]
theorem dd_one (u : Nat) (h : u < 10) : Lib.decDigits u = [UInt8.ofNat (48 + u)] := by rw [Lib.decDigits, dif_pos h]
theorem val_dd : ∀ u : Nat, val (Lib.decDigits u) = u := by
  intro u
  induction u using Nat.strongRecOn with
  | _ u ih =>
    by_cases h : u < 10
    · rw [dd_one u h, show val [UInt8.ofNat (48 + u)] = 0 * 10 + ((UInt8.ofNat (48 + u)).toNat - 48) from rfl, digit_byte u h]
      omega
    · rw [dd_step u h, val_snoc, ih (u / 10) (by omega), digit_byte _ (by omega)]
      omega
theorem dd_ne (u : Nat) : Lib.decDigits u ≠ [] := by
  rw [Lib.decDigits]
  split <;> simp
theorem dd_head : ∀ u : Nat, 10 ≤ u → (Lib.decDigits u).head? ≠ some 48 := by
  intro u
  induction u using Nat.strongRecOn with
  | _ u ih =>
    intro h
    rw [dd_step u (by omega), head_app (dd_ne _)]
    by_cases h2 : u / 10 < 10
    · rw [dd_one _ h2]
      simp only [List.head?_cons, ne_eq, Option.some.injEq]
      intro e
      have := digit_byte (u / 10) h2
      rw [e] at this
      have e48 : (48 : UInt8).toNat = 48 := rfl
      omega
    · exact ih (u / 10) (by omega) (by omega)
theorem dd_dig : ∀ u : Nat, ∀ b ∈ Lib.decDigits u, isD b = true := by
  intro u
  induction u using Nat.strongRecOn with
  | _ u ih =>
    intro b hb
    by_cases h : u < 10
    · rw [dd_one u h, List.mem_singleton] at hb
      rw [hb]; exact isD_byte u h
    · rw [dd_step u h, List.mem_append, List.mem_singleton] at hb
      rcases hb with hb | hb
      · exact ih (u / 10) (by omega) b hb
      · rw [hb]; exact isD_byte _ (by omega)
theorem dd_canon (u : Nat) : Canon (Lib.decDigits u) := by
  refine ⟨dd_ne u, dd_dig u, fun h => ?_⟩
  by_cases h2 : u < 10
  · rw [dd_one u h2] at h; simp at h
  · exact dd_head u (by omega)
theorem val_pos {l : List UInt8} (hd : ∀ b ∈ l, isD b = true) (hh : l.head? ≠ some 48) (hn : l ≠ []) : 0 < val l := by
  induction l using snoc_ind with
  | h0 => exact absurd rfl hn
  | h1 l b ih =>
    rw [val_snoc]
    by_cases h0 : l = []
    · subst h0
      have h1 := isD_iff (hd b (by simp))
      have h2 : b.toNat ≠ 48 := fun e => by
        apply hh
        have : b = 48 := UInt8.toNat_inj.1 e
        rw [this]; rfl
      omega
    · have := ih (fun x hx => hd x (by simp [hx])) (by rwa [head_app h0] at hh) h0
      omega
theorem dd_val {l : List UInt8} (h : Canon l) : Lib.decDigits (val l) = l := by
  induction l using snoc_ind with
  | h0 => exact absurd rfl h.ne
  | h1 l b ih =>
    have hb := h.dig b (by simp)
    have h1 := isD_iff hb
    rw [val_snoc]
    by_cases h0 : l = []
    · subst h0
      rw [show val [] = 0 from rfl, Nat.zero_mul, Nat.zero_add, dd_one _ (by omega), byte_of hb]
      rfl
    · have hdl : ∀ x ∈ l, isD x = true := fun x hx => h.dig x (by simp [hx])
      have hl : 1 < (l ++ [b]).length := by
        have := List.length_pos_iff.2 h0
        simp only [List.length_append, List.length_cons, List.length_nil]
        omega
      have hh := h.hd hl
      rw [head_app h0] at hh
      have hp := val_pos hdl hh h0
      have hc : Canon l := ⟨h0, hdl, fun _ => hh⟩
      rw [dd_step _ (by omega), show (val l * 10 + (b.toNat - 48)) / 10 = val l from by omega, show (val l * 10 + (b.toNat - 48)) % 10 = b.toNat - 48 from by omega, ih hc, byte_of hb]
theorem val_lt {l : List UInt8} (h : ∀ b ∈ l, isD b = true) : val l < 10 ^ l.length := by
  induction l using snoc_ind with
  | h0 => simp [val]
  | h1 l b ih =>
    have h1 := isD_iff (h b (by simp))
    have := ih (fun x hx => h x (by simp [hx]))
    rw [val_snoc, List.length_append, List.length_cons, List.length_nil, Nat.pow_succ]
    omega
theorem parse_digits : ∀ (l : List UInt8) (acc : Nat), (∀ b ∈ l, isD b = true) → acc * 10 ^ l.length + 10 ^ l.length ≤ 1000000000000000000 → Lib.parseUint10 acc l = .ok (l.foldl (fun a b => a * 10 + (b.toNat - 48)) acc)
  | [], acc, _, _ => rfl
  | b :: l, acc, hd, hb => by
    have h1 := isD_iff (hd b (by simp))
    have hp : 1 ≤ 10 ^ l.length := Nat.pow_pos (by decide)
    rw [List.length_cons, Nat.pow_succ] at hb
    have h2 : acc * 10 + 10 ≤ 1000000000000000000 := by
      have h3 : (acc * 10 + 10) * 1 ≤ (acc * 10 + 10) * 10 ^ l.length := Nat.mul_le_mul_left _ hp
      have h4 : (acc * 10 + 10) * 10 ^ l.length = acc * (10 ^ l.length * 10) + 10 ^ l.length * 10 := by
        rw [Nat.add_mul, Nat.mul_assoc, Nat.mul_comm 10 (10 ^ l.length)]
      omega
    unfold Lib.parseUint10
    rw [if_pos h1, if_neg (by omega), if_neg (by omega)]
    refine parse_digits l _ (fun x hx => hd x (by simp [hx])) ?_
    have h5 : (acc * 10 + (b.toNat - 48)) * 10 ^ l.length + 10 ^ l.length ≤ acc * (10 ^ l.length * 10) + 10 ^ l.length * 10 := by
      have h6 : (b.toNat - 48) * 10 ^ l.length ≤ 9 * 10 ^ l.length := Nat.mul_le_mul_right _ (by omega)
      rw [Nat.add_mul, Nat.mul_assoc, Nat.mul_comm 10 (10 ^ l.length)]
      omega
    omega
theorem atoi_digits {l : List UInt8} (hd : ∀ b ∈ l, isD b = true) (hn : l ≠ []) (hl : l.length ≤ 17) : Lib.atoiAll l = .ok (val l : Int) := by
  cases l with
  | nil => exact absurd rfl hn
  | cons c r =>
    have h1 := isD_iff (hd c (by simp))
    have hp : (10 : Nat) ^ (c :: r).length ≤ 10 ^ 17 := Nat.pow_le_pow_right (by decide) hl
    have hpm : Lib.parseMag (c :: r) = .ok (val (c :: r)) := by
      unfold Lib.parseMag
      rw [if_neg (by simp)]
      exact parse_digits (c :: r) 0 hd (by rw [Nat.zero_mul, Nat.zero_add]; exact Nat.le_trans hp (by decide))
    have hv := val_lt hd
    unfold Lib.atoiAll
    simp only
    rw [if_neg (by omega), hpm]
    simp only
    have h45 : ¬ c.toNat = 45 := by omega
    have hlt : val (c :: r) < 10 ^ 17 := Nat.lt_of_lt_of_le hv hp
    rw [if_neg (by rintro ⟨_, h⟩; omega), if_neg (by rintro ⟨h, _⟩; exact h45 h), if_neg h45]
/-- All digits: nothing is left by Trim. -/
theorem trim_nil {l : List UInt8} : Lib.trimS l [48, 49, 50, 51, 52, 53, 54, 55, 56, 57] = [] ↔ ∀ b ∈ l, isD b = true := by
  have hc : ∀ b : UInt8, ([48, 49, 50, 51, 52, 53, 54, 55, 56, 57] : List UInt8).contains b = isD b := by
    have : ∀ n : Fin 256, ([48, 49, 50, 51, 52, 53, 54, 55, 56, 57] : List UInt8).contains (UInt8.ofNat n.val) = isD (UInt8.ofNat n.val) := by decide +kernel
    intro b
    have h := this ⟨b.toNat, b.toNat_lt⟩
    rw [UInt8.ofNat_toNat] at h
    exact h
  have hf : (fun b : UInt8 => ([48, 49, 50, 51, 52, 53, 54, 55, 56, 57] : List UInt8).contains b) = isD := funext hc
  unfold Lib.trimS Lib.trimLeftS Lib.trimRightS
  rw [hf]
  constructor
  · intro h b hb
    have h1 : ∀ x ∈ (l.reverse.dropWhile isD).reverse, isD x = true := by
      intro x hx
      have := dw_nil.1 h
      exact this x hx
    by_cases hm : b ∈ l.reverse.dropWhile isD
    · exact h1 b (List.mem_reverse.2 hm)
    · have hs := List.takeWhile_append_dropWhile (p := isD) (l := l.reverse)
      have hb2 : b ∈ l.reverse.takeWhile isD ++ l.reverse.dropWhile isD := by rw [hs]; exact List.mem_reverse.2 hb
      rcases List.mem_append.1 hb2 with hb3 | hb3
      · exact tw_mem hb3
      · exact absurd hb3 hm
  · intro h
    have h1 : l.reverse.dropWhile isD = [] := dw_nil.2 (fun x hx => h x (List.mem_reverse.1 hx))
    rw [h1]
    rfl
end Go.Proofs.YtjfimileopbadaaGreatDoor.DecS
/- Texts cut at a byte, and put together again: plain lists. -/
namespace Go.Proofs.YtjfimileopbadaaGreatDoor.DecS
open Go
set_option linter.unusedVariables false
set_option linter.unusedSimpArgs false
def splitL (c : UInt8) : List UInt8 → List (List UInt8)
  | [] => [[]]
  | b :: l => if b = c then [] :: splitL c l else (match splitL c l with
    | [] => [[b]]
    | w :: ws => (b :: w) :: ws)
def joinL (c : UInt8) : List (List UInt8) → List UInt8
  | [] => []
  | [w] => w
  | w :: v :: ws => w ++ c :: joinL c (v :: ws)
theorem splitL_cons (c : UInt8) (l : List UInt8) : ∃ w ws, splitL c l = w :: ws := by
  cases l with
  | nil => exact ⟨[], [], rfl⟩
  | cons b l =>
    unfold splitL
    split
    · exact ⟨_, _, rfl⟩
    · split <;> exact ⟨_, _, rfl⟩
theorem splitL_sep (c : UInt8) (l : List UInt8) : splitL c (c :: l) = [] :: splitL c l := by
  rw [splitL, if_pos rfl]
theorem splitL_other {c b : UInt8} (h : b ≠ c) {l : List UInt8} {w : List UInt8} {ws : List (List UInt8)} (hl : splitL c l = w :: ws) : splitL c (b :: l) = (b :: w) :: ws := by
  rw [splitL, if_neg h, hl]
theorem join_split (c : UInt8) : ∀ l : List UInt8, joinL c (splitL c l) = l
  | [] => rfl
  | b :: l => by
    obtain ⟨w, ws, hw⟩ := splitL_cons c l
    have ih := join_split c l
    rw [hw] at ih
    by_cases h : b = c
    · subst h
      rw [splitL_sep, hw]
      show [] ++ b :: joinL b (w :: ws) = _
      rw [ih]; rfl
    · rw [splitL_other h hw]
      cases ws with
      | nil => show b :: w = b :: l; rw [show joinL c [w] = w from rfl] at ih; rw [ih]
      | cons v ws =>
        show (b :: w) ++ c :: joinL c (v :: ws) = b :: l
        rw [show joinL c (w :: v :: ws) = w ++ c :: joinL c (v :: ws) from rfl] at ih
        rw [List.cons_append, ih]
theorem split_free (c : UInt8) : ∀ (l : List UInt8), ∀ w ∈ splitL c l, c ∉ w
  | [], w, hw => by
    rw [splitL, List.mem_singleton] at hw
    rw [hw]; simp
  | b :: l, w, hw => by
    obtain ⟨v, vs, hv⟩ := splitL_cons c l
    have ih := split_free c l
    by_cases h : b = c
    · subst h
      rw [splitL_sep, List.mem_cons] at hw
      rcases hw with rfl | hw
      · simp
      · exact ih w hw
    · rw [splitL_other h hv, List.mem_cons] at hw
      rcases hw with rfl | hw
      · have := ih v (by rw [hv]; simp)
        simp only [List.mem_cons, not_or]
        exact ⟨fun e => h e.symm, this⟩
      · exact ih w (by rw [hv]; simp [hw])
theorem split_app (c : UInt8) : ∀ (w l : List UInt8), c ∉ w → splitL c (w ++ c :: l) = w :: splitL c l
  | [], l, _ => splitL_sep c l
  | b :: w, l, h => by
    simp only [List.mem_cons, not_or] at h
    exact splitL_other (fun e => h.1 e.symm) (split_app c w l h.2)
theorem split_none (c : UInt8) : ∀ (w : List UInt8), c ∉ w → splitL c w = [w]
  | [], _ => rfl
  | b :: w, h => by
    simp only [List.mem_cons, not_or] at h
    exact splitL_other (fun e => h.1 e.symm) (split_none c w h.2)
theorem split_join (c : UInt8) : ∀ (ws : List (List UInt8)), ws ≠ [] → (∀ w ∈ ws, c ∉ w) → splitL c (joinL c ws) = ws
  | [], h, _ => absurd rfl h
  | [w], _, h => split_none c w (h w (by simp))
  | w :: v :: ws, _, h => by
    show splitL c (w ++ c :: joinL c (v :: ws)) = _
    rw [split_app c w _ (h w (by simp)), split_join c (v :: ws) (by simp) (fun x hx => h x (by simp only [List.mem_cons] at hx ⊢; exact .inr hx))]
theorem split_len (c : UInt8) : ∀ l : List UInt8, (splitL c l).length = l.count c + 1
  | [] => rfl
  | b :: l => by
    obtain ⟨v, vs, hv⟩ := splitL_cons c l
    have ih := split_len c l
    by_cases h : b = c
    · subst h
      rw [splitL_sep, List.length_cons, ih, List.count_cons_self]
    · rw [splitL_other h hv, List.length_cons, List.count_cons_of_ne h, ← ih, hv, List.length_cons]
theorem lib_join (c : UInt8) : ∀ ws : List (List UInt8), Lib.join ws [c] = joinL c ws
  | [] => rfl
  | [w] => Lib.join_one w [c]
  | w :: v :: ws => by
    have ih := lib_join c (v :: ws)
    show _ = w ++ c :: joinL c (v :: ws)
    rw [← ih, Lib.join_cons, Lib.join_cons]
    simp [Lib.joinTail]
theorem splitK_one (c : UInt8) : ∀ (l : List UInt8), Lib.splitK [c] 0 (l.count c) l = splitL c l
  | [] => rfl
  | b :: l => by
    have ih := splitK_one c l
    obtain ⟨v, vs, hv⟩ := splitL_cons c l
    by_cases h : b = c
    · subst h
      rw [List.count_cons_self, splitL_sep]
      have hx : Lib.index (b :: l) [b] = 0 := by rw [Lib.index_one, Lib.indexByte, if_pos (by simp)]
      unfold Lib.splitK
      rw [hx, if_neg (by decide)]
      show [] :: Lib.splitK [b] 0 (l.count b) l = _
      rw [ih]
    · rw [List.count_cons_of_ne h, splitL_other h hv]
      have hx : Lib.index (b :: l) [c] = if Lib.index l [c] == -1 then -1 else Lib.index l [c] + 1 := by
        rw [Lib.index_one, Lib.index_one, Lib.indexByte, if_neg (by simpa using h)]
      cases hk : l.count c with
      | zero =>
        rw [hk] at ih
        have e : [l] = splitL c l := ih
        rw [hv] at e
        injection e with e1 e2
        show [b :: l] = _
        rw [e1, ← e2]
      | succ k =>
        rw [hk] at ih
        unfold Lib.splitK at ih ⊢
        by_cases hm : Lib.index l [c] = -1
        · have hx2 : Lib.index (b :: l) [c] = -1 := by rw [hx, hm]; rfl
          rw [hx2, if_pos (by decide)]
          rw [hm, if_pos (by decide), hv] at ih
          injection ih with e1 e2
          rw [e1, ← e2]
        · have hge := Lib.index_ge l [c]
          obtain ⟨j, hj⟩ : ∃ j : Nat, Lib.index l [c] = j := ⟨(Lib.index l [c]).toNat, by omega⟩
          have n1 : ((j : Int) == -1) = false := beq_eq_false_iff_ne.mpr (by omega)
          have n2 : ((j : Int) + 1 == -1) = false := beq_eq_false_iff_ne.mpr (by omega)
          have hx2 : Lib.index (b :: l) [c] = (j : Int) + 1 := by rw [hx, hj, n1]; rfl
          rw [hj, n1, if_neg (by decide), hv] at ih
          rw [hx2, n2, if_neg (by decide)]
          injection ih with e1 e2
          have t1 : ((j : Int) + 1).toNat = j + 1 := by omega
          rw [t1]
          simp only [Int.toNat_natCast, Nat.add_zero, List.length_cons, List.length_nil, Nat.zero_add] at e1 e2 ⊢
          rw [show j + 1 + 1 = (j + 1) + 1 from rfl, List.take_succ_cons, List.drop_succ_cons, e1, e2]
end Go.Proofs.YtjfimileopbadaaGreatDoor.DecS
/- Layer 6: what Arcs, Text, Less, Within, Child and Rest answer, over lists. -/
namespace Go.Proofs.YtjfimileopbadaaGreatDoor.OidS
open Go.RowKit Gong Go.Proofs.YtjfimileopbadaaGreatDoor.XPdF Go.Proofs.YtjfimileopbadaaGreatDoor.DecS Go.Proofs.YtjfimileopbadaaGreatDoorW.PrintWords Go.Proofs.YtjfimileopbadaaGreatDoorW.PrintLast Go.Proofs.YtjfimileopbadaaGreatDoorW.PrintMore
set_option linter.unusedVariables false
set_option linter.unusedSimpArgs false
theorem leo_le {α : Type} {f : Nat → Option α} (hm : ∀ k, LeO (f k) (f (k + 1))) {a b : Nat} (h : a ≤ b) {r : α} (hr : f a = some r) : f b = some r := by
  induction h with
  | refl => exact hr
  | step _ ih => exact hm _ _ ih
theorem wrap_id {x : Int} (h1 : -9223372036854775808 ≤ x) (h2 : x ≤ 9223372036854775807) : wrap64 x = x := by unfold wrap64; omega
theorem wrap_succ (i : Nat) (h : i ≤ 4611686018427387904) : wrap64 ((i : Int) + 1) = ((i + 1 : Nat) : Int) := by unfold wrap64; omega
def L (s : ByteArray) : List UInt8 := s.data.toList
def Bs (l : List UInt8) : ByteArray := ⟨l.toArray⟩
theorem L_Bs (l : List UInt8) : L (Bs l) = l := by simp [L, Bs]
theorem Bs_L (s : ByteArray) : Bs (L s) = s := by cases s; simp [L, Bs]
theorem L_inj {a b : ByteArray} (h : L a = L b) : a = b := by rw [← Bs_L a, h, Bs_L]
theorem L_len (s : ByteArray) : (L s).length = s.size := by simp [L]
theorem toList_L (s : ByteArray) : s.toList = L s := Go.ByteArray.toList_eq s
/-- An arc; below 0: it is none. -/
def arcOf (w : List UInt8) : Int := if w ≠ [] ∧ w.length ≤ 10 ∧ ¬ (1 < w.length ∧ w.head? = some 48) ∧ w.all isD = true then (val w : Int) else -1
theorem arcOf_canon {w : List UInt8} (h : 0 ≤ arcOf w) : Canon w ∧ arcOf w = (val w : Int) ∧ w.length ≤ 10 := by
  unfold arcOf at h ⊢
  by_cases c : w ≠ [] ∧ w.length ≤ 10 ∧ ¬ (1 < w.length ∧ w.head? = some 48) ∧ w.all isD = true
  · rw [if_pos c]
    obtain ⟨c1, c2, c3, c4⟩ := c
    exact ⟨⟨c1, fun b hb => List.all_eq_true.1 c4 b hb, fun h1 e => c3 ⟨h1, e⟩⟩, rfl, c2⟩
  · rw [if_neg c] at h
    omega
theorem dd_short : ∀ (n : Nat), n < 10000000000 → (Lib.decDigits n).length ≤ 10 := by
  have key : ∀ (m n : Nat), n < 10 ^ (m + 1) → (Lib.decDigits n).length ≤ m + 1 := by
    intro m
    induction m with
    | zero => intro n h; rw [dd_one n (by omega)]; exact Nat.le_refl _
    | succ m ih =>
      intro n h
      by_cases c : n < 10
      · rw [dd_one n c]; simp
      · rw [dd_step n c, List.length_append]
        have := ih (n / 10) (by rw [Nat.pow_succ] at h; omega)
        simp only [List.length_cons, List.length_nil]
        omega
  intro n h
  exact key 9 n h
theorem arcOf_dd (n : Nat) (h : n < 10000000000) : arcOf (Lib.decDigits n) = (n : Int) := by
  have hc := dd_canon n
  unfold arcOf
  rw [if_pos ⟨hc.ne, dd_short n h, fun h1 => hc.hd h1.1 h1.2, List.all_eq_true.2 hc.dig⟩, val_dd]
theorem dd_arcOf {w : List UInt8} (h : 0 ≤ arcOf w) : Lib.decDigits (arcOf w).toNat = w := by
  obtain ⟨hc, e, _⟩ := arcOf_canon h
  rw [e, Int.toNat_natCast]
  exact dd_val hc
theorem bt_head (s : ByteArray) (h : 0 < s.size) : bt s 0 = 48 ↔ (L s).head? = some 48 := by
  have h1 : bt s 0 = ((s[0]'h).toNat : Int) := (bt_at s 0 h).symm
  have h2 : (L s).head? = some (s[0]'h) := by
    have h3 : 0 < (L s).length := by rw [L_len]; exact h
    rw [List.head?_eq_getElem?, List.getElem?_eq_getElem h3]
    rfl
  rw [h1, h2]
  constructor
  · intro e
    rw [Option.some.injEq]
    exact UInt8.toNat_inj.1 (by have e48 : (48 : UInt8).toNat = 48 := rfl; omega)
  · intro e
    rw [Option.some.injEq] at e
    rw [e]; rfl
theorem arc_eq (s : ByteArray) : oid_arc.f s = some (arcOf (L s)) := by
  have hl := L_len s
  unfold oid_arc.f arcOf
  by_cases c0 : s.size = 0
  · rw [if_pos c0, if_neg (fun h => h.1 (List.eq_nil_of_length_eq_zero (by omega)))]
  · rw [if_neg c0]
    by_cases c1 : 10 < s.size
    · rw [if_pos c1, if_neg (fun h => by have := h.2.1; omega)]
    · rw [if_neg c1]
      by_cases c2 : 1 < s.size ∧ bt s 0 = 48
      · rw [if_pos c2, if_neg (fun h => h.2.2.1 ⟨by omega, (bt_head s (by omega)).1 c2.2⟩)]
      · rw [if_neg c2]
        by_cases c3 : Lib.trimS s.data.toList [48, 49, 50, 51, 52, 53, 54, 55, 56, 57] = []
        · rw [if_pos c3]
          have hd := trim_nil.1 c3
          have hne : L s ≠ [] := fun e => by rw [e] at hl; simp at hl; omega
          have ha : Lib.atoiAll s.data.toList = .ok (val (L s) : Int) := atoi_digits hd hne (by show (L s).length ≤ 17; omega)
          rw [ha, if_pos ⟨hne, by omega, fun h => c2 ⟨by omega, (bt_head s (by omega)).2 h.2⟩, List.all_eq_true.2 hd⟩]
        · rw [if_neg c3, if_neg (fun h => c3 (trim_nil.2 (List.all_eq_true.1 h.2.2.2)))]
/-- Are arcs an identifier's? -/
def heads : List Int → Bool
  | a :: b :: _ => decide ((a < 2 ∧ b < 40) ∨ (a = 2 ∧ b ≤ 4294967215))
  | _ => false
def isS (l : List Int) : Bool := decide (2 ≤ l.length) && decide (l.length ≤ 128) && l.all (fun x => decide (0 ≤ x ∧ x ≤ 4294967295)) && heads l
theorem rd_get (l : List Int) (i : Nat) (h : i < l.length) : rd l (i : Int) = l[i]'h := by
  unfold rd
  rw [Int.toNat_natCast, List.getD_eq_getElem?_getD, List.getElem?_eq_getElem h]
  rfl
theorem is_loop (l : List Int) (h2 : 2 ≤ l.length) (h3 : l.length ≤ 128) : ∀ (d i k : Nat), i + d = l.length → d < k →
    oid_is.l0 k l l (l.length : Int) (i : Int) = some ((l.drop i).all (fun x => decide (0 ≤ x ∧ x ≤ 4294967295)) && heads l) := by
  intro d
  induction d with
  | zero =>
    intro i k hi hk
    obtain ⟨k, rfl⟩ : ∃ m, k = m + 1 := ⟨k - 1, by omega⟩
    simp only [oid_is.l0]
    have e : l.drop i = [] := List.drop_eq_nil_of_le (by omega)
    rw [if_neg (by omega), e]
    match l, h2 with
    | a :: b :: r, _ =>
      have r0 : rd (a :: b :: r) 0 = a := rfl
      have r1 : rd (a :: b :: r) 1 = b := rfl
      rw [r0, r1, if_pos (by simp only [List.length_cons]; omega)]
      simp only [List.all_nil, Bool.true_and, heads]
      by_cases c : a < 2
      · rw [if_pos c, if_pos (by simp only [List.length_cons]; omega)]
        congr 1
        rw [Bool.eq_iff_iff]
        simp only [decide_eq_true_eq]
        omega
      · rw [if_neg c]
        by_cases c2 : a = 2
        · rw [if_pos c2, if_pos (by simp only [List.length_cons]; omega)]
          congr 1
          rw [Bool.eq_iff_iff]
          simp only [decide_eq_true_eq]
          omega
        · rw [if_neg c2]
          congr 1
          rw [eq_comm, decide_eq_false_iff_not]
          omega
  | succ d ih =>
    intro i k hi hk
    obtain ⟨k, rfl⟩ : ∃ m, k = m + 1 := ⟨k - 1, by omega⟩
    have hlt : i < l.length := by omega
    simp only [oid_is.l0]
    rw [if_pos (by omega), if_pos (by omega), if_pos (by omega), rd_get l i hlt, List.drop_eq_getElem_cons hlt, List.all_cons]
    by_cases c1 : l[i] < 0
    · rw [if_pos c1, decide_eq_false (by omega)]
      rfl
    · rw [if_neg c1]
      by_cases c2 : l[i] > 4294967295
      · rw [if_pos c2, decide_eq_false (by omega)]
        rfl
      · rw [if_neg c2, wrap_succ i (by omega), decide_eq_true (by omega), Bool.true_and]
        exact ih (i + 1) k (by omega) (by omega)
theorem is_eq (l : List Int) (k : Nat) (hk : 200 ≤ k) : oid_is.f k l = some (isS l) := by
  obtain ⟨k, rfl⟩ : ∃ m, k = m + 1 := ⟨k - 1, by omega⟩
  unfold oid_is.f isS
  by_cases c1 : (l.length : Int) < 2
  · rw [if_pos c1]
    simp only [oid_is.j0, if_true]
    rw [decide_eq_false (by omega)]
    rfl
  · rw [if_neg c1, decide_eq_true (show 2 ≤ l.length by omega)]
    by_cases c2 : (l.length : Int) > 128
    · rw [decide_eq_true c2, decide_eq_false (show ¬ l.length ≤ 128 by omega)]
      simp only [oid_is.j0, if_true]
      rfl
    · rw [decide_eq_false c2, decide_eq_true (show l.length ≤ 128 by omega)]
      simp only [oid_is.j0]
      rw [if_neg (by decide)]
      have := is_loop l (by omega) (by omega) l.length 0 k (by omega) (by omega)
      rw [Int.natCast_zero] at this
      rw [this]
      rfl
end Go.Proofs.YtjfimileopbadaaGreatDoor.OidS
/- Layer 6: Arcs and Text, there and back. -/
namespace Go.Proofs.YtjfimileopbadaaGreatDoor.OidS
open Go.RowKit Gong Go.Proofs.YtjfimileopbadaaGreatDoor.XPdF Go.Proofs.YtjfimileopbadaaGreatDoor.DecS Go.Proofs.YtjfimileopbadaaGreatDoorW.PrintWords Go.Proofs.YtjfimileopbadaaGreatDoorW.PrintLast Go.Proofs.YtjfimileopbadaaGreatDoorW.PrintMore
set_option linter.unusedVariables false
set_option linter.unusedSimpArgs false
/-- The arcs of a text. -/
def arcsS (s : List UInt8) : Option (List Int) := if s.count 46 < 128 ∧ isS ((splitL 46 s).map arcOf) = true then some ((splitL 46 s).map arcOf) else none
def arcsR (s : List UInt8) : List Int × Int := match arcsS s with
  | some l => (l, 0)
  | none => ([], 60)
theorem rdOf_get (l : List ByteArray) (i : Nat) (h : i < l.length) : rdOf ByteArray.empty l (i : Int) = l[i]'h := by
  unfold rdOf
  rw [Int.toNat_natCast, List.getD_eq_getElem?_getD, List.getElem?_eq_getElem h]
  rfl
theorem arcs_loop (W : List ByteArray) (hW : W.length ≤ 128) : ∀ (d i k : Nat), i + d = W.length → d + 300 ≤ k →
    oid_Arcs.l0 k ((W.take i).map fun w => arcOf (L w)) W (W.length : Int) (i : Int) = some (if isS (W.map fun w => arcOf (L w)) = true then (W.map fun w => arcOf (L w), 0) else ([], 60)) := by
  intro d
  induction d with
  | zero =>
    intro i k hi hk
    obtain ⟨k, rfl⟩ : ∃ m, k = m + 1 := ⟨k - 1, by omega⟩
    simp only [oid_Arcs.l0]
    rw [if_neg (by omega), List.take_of_length_le (by omega), is_eq _ k (by omega)]
    simp only [Option.bind_some]
    split <;> rfl
  | succ d ih =>
    intro i k hi hk
    obtain ⟨k, rfl⟩ : ∃ m, k = m + 1 := ⟨k - 1, by omega⟩
    have hlt : i < W.length := by omega
    simp only [oid_Arcs.l0]
    rw [if_pos (by omega), if_pos (by omega), if_pos (by omega), rdOf_get W i hlt, arc_eq]
    simp only [Option.bind_some]
    have hl : ((W.take i).map fun w => arcOf (L w)).length = i := by rw [List.length_map, List.length_take]; omega
    rw [if_pos (by omega), wrap_succ i (by omega)]
    have e : ((W.take i).map fun w => arcOf (L w)) ++ [arcOf (L W[i])] = (W.take (i + 1)).map fun w => arcOf (L w) := by
      rw [List.take_succ_eq_append_getElem hlt, List.map_append]
      rfl
    rw [e]
    exact ih (i + 1) k (by omega) (by omega)
theorem count_eq (a : ByteArray) : strings_Count.f a (⟨#[46]⟩ : ByteArray) = some (((L a).count 46 : Nat) : Int) := rfl
theorem split_eq (a : ByteArray) (h : a.size ≤ 1000000000) : ∃ W : List ByteArray, strings_Split.f a (⟨#[46]⟩ : ByteArray) = some W ∧ W.map L = splitL 46 (L a) := by
  unfold strings_Split.f
  rw [if_pos ⟨by omega, by decide⟩]
  refine ⟨_, rfl, ?_⟩
  have h1 := Lib.splitB_data (⟨#[46]⟩ : ByteArray) 0 (Lib.countB a (⟨#[46]⟩ : ByteArray)) a
  have h2 : Lib.countB a (⟨#[46]⟩ : ByteArray) = (L a).count 46 := Lib.count_one 46 (L a)
  rw [h2] at h1 ⊢
  exact h1.trans (splitK_one 46 (L a))
theorem arcs_eq (a : ByteArray) (h : a.size ≤ 1000000000) (k : Nat) (hk : 500 ≤ k) : oid_Arcs.f k a = some (arcsR (L a)) := by
  unfold oid_Arcs.f
  rw [count_eq]
  simp only [Option.bind_some]
  by_cases c : (L a).count 46 < 128
  · rw [if_neg (by omega)]
    obtain ⟨W, hW, hm⟩ := split_eq a h
    rw [hW]
    simp only [Option.bind_some]
    have hl : W.length = (L a).count 46 + 1 := by rw [← split_len, ← hm, List.length_map]
    have := arcs_loop W (by omega) W.length 0 k (by omega) (by omega)
    rw [Int.natCast_zero] at this
    have e0 : ((W.take 0).map fun w => arcOf (L w)) = [] := rfl
    rw [e0] at this
    rw [this]
    have e1 : (W.map fun w => arcOf (L w)) = (splitL 46 (L a)).map arcOf := by rw [← hm, List.map_map]; rfl
    rw [e1]
    unfold arcsR arcsS
    by_cases c2 : isS ((splitL 46 (L a)).map arcOf) = true
    · rw [if_pos c2, if_pos ⟨c, c2⟩]
    · rw [if_neg c2, if_neg (fun h => c2 h.2)]
  · rw [if_pos (by omega)]
    unfold arcsR arcsS
    rw [if_neg (fun h => c h.1)]
/-- The text of arcs. -/
def putL (l : List Int) : List UInt8 := joinL 46 (l.map fun x => Lib.decDigits x.toNat)
theorem isS_parts {l : List Int} (h : isS l = true) : 2 ≤ l.length ∧ l.length ≤ 128 ∧ (∀ x ∈ l, 0 ≤ x ∧ x ≤ 4294967295) ∧ heads l = true := by
  unfold isS at h
  simp only [Bool.and_eq_true, decide_eq_true_eq, List.all_eq_true] at h
  exact ⟨h.1.1.1, h.1.1.2, h.1.2, h.2⟩
theorem dot_free (n : Nat) : (46 : UInt8) ∉ Lib.decDigits n := fun h => by
  have := dd_dig n 46 h
  exact absurd this (by decide)
theorem arcs_put {l : List Int} (h : isS l = true) : arcsS (putL l) = some l := by
  obtain ⟨h1, h2, h3, h4⟩ := isS_parts h
  have hs : splitL 46 (putL l) = l.map fun x => Lib.decDigits x.toNat := split_join 46 _ (by intro e; rw [List.map_eq_nil_iff] at e; rw [e] at h1; simp at h1) (fun w hw => by
    obtain ⟨x, _, rfl⟩ := List.mem_map.1 hw
    exact dot_free _)
  have hm : (splitL 46 (putL l)).map arcOf = l := by
    rw [hs, List.map_map]
    conv => rhs; rw [← List.map_id l]
    apply List.map_congr_left
    intro x hx
    have := h3 x hx
    show arcOf (Lib.decDigits x.toNat) = x
    rw [arcOf_dd _ (by omega)]
    omega
  have hc : (putL l).count 46 < 128 := by
    have := split_len 46 (putL l)
    rw [hs, List.length_map] at this
    omega
  unfold arcsS
  rw [hm, if_pos ⟨hc, h⟩]
theorem arcs_some {s : List UInt8} {l : List Int} (h : arcsS s = some l) : isS l = true ∧ putL l = s := by
  unfold arcsS at h
  by_cases c : s.count 46 < 128 ∧ isS ((splitL 46 s).map arcOf) = true
  · rw [if_pos c] at h
    injection h with h
    subst h
    refine ⟨c.2, ?_⟩
    obtain ⟨_, _, h3, _⟩ := isS_parts c.2
    unfold putL
    rw [List.map_map]
    have : (splitL 46 s).map ((fun x : Int => Lib.decDigits x.toNat) ∘ arcOf) = splitL 46 s := by
      conv => rhs; rw [← List.map_id (splitL 46 s)]
      apply List.map_congr_left
      intro w hw
      exact dd_arcOf (h3 _ (List.mem_map.2 ⟨w, hw, rfl⟩)).1
    rw [this, join_split]
  · rw [if_neg c] at h
    cases h
theorem arcsR_put {l : List Int} (h : isS l = true) : arcsR (putL l) = (l, 0) := by
  unfold arcsR
  rw [arcs_put h]
theorem putL_inj {l m : List Int} (hl : isS l = true) (hm : isS m = true) (h : putL l = putL m) : l = m := by
  have h1 := arcs_put hl
  rw [h, arcs_put hm] at h1
  injection h1 with h1
  exact h1.symm
theorem itoa_nat (n : Nat) (h : n ≤ 9223372036854775807) : strconv_Itoa.f (n : Int) = some (Bs (Lib.decDigits n)) := by
  unfold strconv_Itoa.f
  rw [if_pos (by omega)]
  unfold Lib.itoa
  rw [if_neg (by omega)]
  rfl
theorem joinL_len : ∀ ws : List (List UInt8), (∀ w ∈ ws, w.length ≤ 10) → (joinL 46 ws).length ≤ 11 * ws.length
  | [], _ => by simp [joinL]
  | [w], h => by have := h w (by simp); simp only [joinL, List.length_cons, List.length_nil]; omega
  | w :: v :: ws, h => by
    have h1 := h w (by simp)
    have h2 := joinL_len (v :: ws) (fun x hx => h x (by simp only [List.mem_cons] at hx ⊢; exact .inr hx))
    show (w ++ 46 :: joinL 46 (v :: ws)).length ≤ _
    simp only [List.length_append, List.length_cons] at h2 ⊢
    omega
theorem putL_len {l : List Int} (h : ∀ x ∈ l, 0 ≤ x ∧ x ≤ 4294967295) : (putL l).length ≤ 11 * l.length := by
  have := joinL_len (l.map fun x => Lib.decDigits x.toNat) (fun w hw => by
    obtain ⟨x, hx, rfl⟩ := List.mem_map.1 hw
    have := h x hx
    exact dd_short _ (by omega))
  rw [List.length_map] at this
  exact this
theorem put_loop (l : List Int) (hl : l.length ≤ 1000) (h : ∀ x ∈ l, 0 ≤ x ∧ x ≤ 4294967295) : ∀ (d i k : Nat), i + d = l.length → d < k →
    oid_put.l0 k ((l.take i).map fun x => Bs (Lib.decDigits x.toNat)) l (l.length : Int) (i : Int) = some (Bs (putL l)) := by
  intro d
  induction d with
  | zero =>
    intro i k hi hk
    obtain ⟨k, rfl⟩ : ∃ m, k = m + 1 := ⟨k - 1, by omega⟩
    simp only [oid_put.l0]
    rw [if_neg (by omega), List.take_of_length_le (by omega)]
    have e : ((l.map fun x => Bs (Lib.decDigits x.toNat)).map (·.data.toList)) = l.map fun x => Lib.decDigits x.toNat := by
      rw [List.map_map]
      apply List.map_congr_left
      intro x _
      exact L_Bs _
    have hp := putL_len h
    unfold strings_Join.f
    rw [e]
    have e2 : Lib.join (l.map fun x => Lib.decDigits x.toNat) (⟨#[46]⟩ : ByteArray).data.toList = putL l := lib_join 46 _
    rw [e2, if_pos ⟨by rw [List.length_map]; omega, by omega⟩]
    rfl
  | succ d ih =>
    intro i k hi hk
    obtain ⟨k, rfl⟩ : ∃ m, k = m + 1 := ⟨k - 1, by omega⟩
    have hlt : i < l.length := by omega
    have hx := h l[i] (List.getElem_mem hlt)
    simp only [oid_put.l0]
    rw [if_pos (by omega), if_pos (by omega), if_pos (by omega), rd_get l i hlt]
    have e0 : l[i] = ((l[i].toNat : Nat) : Int) := by omega
    have e1 : strconv_Itoa.f l[i] = some (Bs (Lib.decDigits l[i].toNat)) := by
      conv => lhs; rw [e0]
      exact itoa_nat _ (by omega)
    rw [e1]
    simp only [Option.bind_some]
    have hl2 : ((l.take i).map fun x => Bs (Lib.decDigits x.toNat)).length = i := by rw [List.length_map, List.length_take]; omega
    rw [if_pos (by omega), wrap_succ i (by omega)]
    have e : ((l.take i).map fun x => Bs (Lib.decDigits x.toNat)) ++ [Bs (Lib.decDigits l[i].toNat)] = (l.take (i + 1)).map fun x => Bs (Lib.decDigits x.toNat) := by
      rw [List.take_succ_eq_append_getElem hlt, List.map_append]
      rfl
    rw [e]
    exact ih (i + 1) k (by omega) (by omega)
theorem put_eq (l : List Int) (hl : l.length ≤ 1000) (h : ∀ x ∈ l, 0 ≤ x ∧ x ≤ 4294967295) (k : Nat) (hk : 2000 ≤ k) : oid_put.f k l = some (Bs (putL l)) := by
  unfold oid_put.f
  have := put_loop l hl h l.length 0 k (by omega) (by omega)
  rw [Int.natCast_zero] at this
  exact this
end Go.Proofs.YtjfimileopbadaaGreatDoor.OidS
/- Layer 5 in plain lists: lengths, elements, their shortest forms; what the printed functions answer in these words. -/
namespace Go.Proofs.YtjfimileopbadaaGreatDoor.BerS
open Go.RowKit Gong Go.Proofs.YtjfimileopbadaaGreatDoor.XPdF Go.Proofs.YtjfimileopbadaaGreatDoorW.PrintWords Go.Proofs.YtjfimileopbadaaGreatDoorW.PrintLast Go.Proofs.YtjfimileopbadaaGreatDoorW.PrintMore
set_option linter.unusedVariables false
set_option linter.unusedSimpArgs false
/-- A text's bytes, and back. -/
def L (s : ByteArray) : List UInt8 := s.data.toList
def Bs (l : List UInt8) : ByteArray := ⟨l.toArray⟩
theorem L_Bs (l : List UInt8) : L (Bs l) = l := rfl
theorem data_Bs (l : List UInt8) : (Bs l).data.toList = l := rfl
theorem data_L (s : ByteArray) : s.data.toList = L s := rfl
theorem Bs_L (s : ByteArray) : Bs (L s) = s := by rcases s with ⟨⟨l⟩⟩; rfl
theorem L_inj {a b : ByteArray} (h : L a = L b) : a = b := by rw [← Bs_L a, h, Bs_L]
theorem size_L (s : ByteArray) : s.size = (L s).length := by simp [L]
theorem size_Bs (l : List UInt8) : (Bs l).size = l.length := by rw [size_L, L_Bs]
theorem L_extract (s : ByteArray) (a b : Nat) : L (s.extract a b) = ((L s).take b).drop a := by
  unfold L
  simp [List.drop_take]
theorem L_append (a b : ByteArray) : L (a ++ b) = L a ++ L b := by simp [L]
theorem toList_L (s : ByteArray) : s.toList = L s := ByteArray.toList_eq s
theorem bt_L (s : ByteArray) (i : Int) : bt s i = (((L s).getD i.toNat 0).toNat : Int) := by
  unfold bt
  by_cases h : i.toNat < s.size
  · rw [dif_pos h]
    rcases s with ⟨⟨l⟩⟩
    have h' : i.toNat < l.length := by simpa [ByteArray.size] using h
    simp [L, List.getD, h', ByteArray.getElem_eq_getElem_data]
  · rw [dif_neg h]
    rcases s with ⟨⟨l⟩⟩
    have h' : l.length ≤ i.toNat := by have : ¬ i.toNat < l.length := h; omega
    simp [L, List.getD, List.getElem?_eq_none h']
theorem wrap_id {n : Int} (h0 : -9223372036854775808 ≤ n) (h1 : n ≤ 9223372036854775807) : wrap64 n = n := by unfold wrap64; omega
/-- A number of bytes, the highest first. -/
def beN (l : List UInt8) : Nat := l.foldl (fun n b => n * 256 + b.toNat) 0
theorem beNum_beN (l : List UInt8) : beNum l = (beN l : Int) := by
  have key : ∀ (l : List UInt8) (a : Nat), l.foldl (fun (n : Int) b => n * 256 + (b.toNat : Int)) (a : Int) = ((l.foldl (fun n b => n * 256 + b.toNat) a : Nat) : Int) := by
    intro l
    induction l with
    | nil => intro a; rfl
    | cons b l ih => intro a; simp only [List.foldl_cons]; rw [← ih]; simp
  exact key l 0
theorem beN_lt (l : List UInt8) : beN l < 256 ^ l.length := by
  have h := (beNum_lt l).2
  rw [beNum_beN] at h
  have e : (256 : Int) ^ l.length = ((256 ^ l.length : Nat) : Int) := by rw [Int.natCast_pow]; rfl
  rw [e] at h
  omega
/-- The length that stands at the beginning, and how many bytes it has. -/
def lenS : List UInt8 → Option (Nat × Nat)
  | [] => none
  | b :: l => if b.toNat < 128 then some (b.toNat, 1) else if b.toNat = 128 ∨ 132 < b.toNat then none else if l.length < b.toNat - 128 then none else some (beN (l.take (b.toNat - 128)), 1 + (b.toNat - 128))
/-- The element at the beginning: its tag, its body, and what stands behind it. -/
def nextS : List UInt8 → Option (Nat × List UInt8 × List UInt8)
  | [] => none
  | t :: l => if t.toNat % 32 = 31 then none else
    match lenS l with
    | none => none
    | some (n, g) => if (l.drop g).length < n then none else some (t.toNat, (l.drop g).take n, (l.drop g).drop n)
theorem lenS_le {l : List UInt8} {n g : Nat} (h : lenS l = some (n, g)) : 1 ≤ g ∧ g ≤ 5 ∧ g ≤ l.length := by
  cases l with
  | nil => exact absurd h (by simp [lenS])
  | cons b l =>
    simp only [lenS] at h
    have hb := b.toNat_lt
    by_cases h1 : b.toNat < 128
    · rw [if_pos h1] at h
      simp only [Option.some.injEq, Prod.mk.injEq] at h
      simp only [List.length_cons]; omega
    · rw [if_neg h1] at h
      by_cases h2 : b.toNat = 128 ∨ 132 < b.toNat
      · rw [if_pos h2] at h; simp at h
      · rw [if_neg h2] at h
        by_cases h3 : l.length < b.toNat - 128
        · rw [if_pos h3] at h; simp at h
        · rw [if_neg h3] at h
          simp only [Option.some.injEq, Prod.mk.injEq] at h
          simp only [List.length_cons]; omega
theorem and31 (t : Nat) (h : t < 256) : Go.bits .and .i64 (t : Int) 31 = ((t % 32 : Nat) : Int) := by
  have := bits_mask .i64 63 (by decide) (fun n h0 h1 => by rw [IntKind.wrap_i64]; have : (2 : Int) ^ 63 = 9223372036854775808 := rfl; omega) 5 (by decide) (t : Int) (by omega) (by have : (2 : Int) ^ 63 = 9223372036854775808 := rfl; omega)
  have e : ((2 : Int) ^ 5 - 1) = 31 := rfl
  have e2 : ((2 : Int) ^ 5) = 32 := rfl
  rw [e, e2] at this
  rw [this]; omega
theorem isTag_eq (t : Nat) (h : t < 256) : ber_isTag.f (t : Int) = some (decide (t % 32 ≠ 31)) := by
  unfold ber_isTag.f
  rw [if_pos (by omega), if_pos (by omega), and31 t h]
  congr 1
  rw [Bool.eq_iff_iff]
  simp
  omega
end Go.Proofs.YtjfimileopbadaaGreatDoor.BerS
/- Layer 5: what 'put' answers, in plain lists. -/
namespace Go.Proofs.YtjfimileopbadaaGreatDoor.BerS
open Go.RowKit Gong Go.Proofs.YtjfimileopbadaaGreatDoor.XPdF Go.Proofs.YtjfimileopbadaaGreatDoorW.PrintWords Go.Proofs.YtjfimileopbadaaGreatDoorW.PrintLast Go.Proofs.YtjfimileopbadaaGreatDoorW.PrintMore
set_option linter.unusedVariables false
set_option linter.unusedSimpArgs false
/-- A number's last w bytes, the highest first. -/
def wideB (n w : Nat) : List UInt8 := ((bytes8 (n : Int)).drop (8 - w)).map fun x => UInt8.ofNat x.toNat
theorem wideB_len (n w : Nat) (h : w ≤ 8) : (wideB n w).length = w := by simp [wideB, bytes8]; omega
theorem strOf_map (xs : List Int) : strOfNums xs = Bs (xs.map fun x => UInt8.ofNat x.toNat) := rfl
theorem pow256 (w : Nat) : (2 : Int) ^ (8 * w) = ((256 ^ w : Nat) : Int) := by
  rw [Int.pow_mul, Int.natCast_pow]; rfl
theorem wide_small (n w : Nat) (h1 : 1 ≤ w) (h8 : w ≤ 8) (h : n < 256 ^ w) : octet_Wide.f (n : Int) (w : Int) = some (Bs (wideB n w), 0) := by
  unfold octet_Wide.f
  rw [if_pos ⟨by omega, by omega, by omega⟩, Int.toNat_natCast, pow256]
  have : (n : Int) / ((256 ^ w : Nat) : Int) = 0 := Int.ediv_eq_zero_of_lt (by omega) (by omega)
  rw [this, if_neg (by omega)]
  rfl
theorem shr8 (n w : Nat) (h8 : w ≤ 7) : shr .i64 (n : Int) (wrap64 (8 * (w : Int))) = ((n / 256 ^ w : Nat) : Int) := by
  rw [wrap_id (by omega) (by omega)]
  unfold shr
  have e : (8 * (w : Int)).toNat = 8 * w := by omega
  have e2 : IntKind.i64.bits = 64 := rfl
  rw [e, e2, Nat.min_eq_left (by omega), pow256]
  rfl
theorem bytesOf_map (l : List UInt8) : (Go.Proofs.YtjfimileopbadaaGreatDoorW.PrintWords.bytesOf (Bs l)).map (fun x => UInt8.ofNat x.toNat) = l := by
  unfold Go.Proofs.YtjfimileopbadaaGreatDoorW.PrintWords.bytesOf
  rw [data_Bs, List.map_map]
  conv => rhs; rw [← List.map_id l]
  congr 1
  funext b
  simp
/-- The tag's byte, and the first one of a long length. -/
theorem put_step (k n w : Nat) (tag : Int) (body : List UInt8) (h0 : 0 ≤ tag) (h1 : tag < 256) (hw1 : 1 ≤ w) (hw : w ≤ 4) (hn : n < 4294967296) (hb : body.length ≤ 140737488355328) :
    ber_put.l0 (k + 1) (Bs body) (n : Int) [tag % 256, (n : Int) % 256] (w : Int) =
      if n < 256 ^ w then some (Bs (UInt8.ofNat tag.toNat :: UInt8.ofNat (128 + w) :: (wideB n w ++ body))) else ber_put.l0 k (Bs body) (n : Int) [tag % 256, (n : Int) % 256] ((w + 1 : Nat) : Int) := by
  simp only [ber_put.l0]
  rw [shr8 n w (by omega), wrap_id (by omega) (by omega), if_pos (by omega)]
  by_cases h : n < 256 ^ w
  · rw [if_pos h, Nat.div_eq_of_lt h, if_neg (by decide), wide_small n w hw1 (by omega) h]
    simp only [Option.bind_some]
    rw [if_pos (by simp)]
    have e1 : wrap64 (128 + (w : Int)) % 256 = ((128 + w : Nat) : Int) := by rw [wrap_id (by omega) (by omega)]; omega
    have e2 : tag % 256 = tag := by omega
    rw [e1, e2]
    have e3 : ([tag, (n : Int) % 256].set (1 : Int).toNat ((128 + w : Nat) : Int)) = [tag, ((128 + w : Nat) : Int)] := rfl
    rw [e3, size_Bs, wideB_len n w (by omega), if_pos (by simp; omega)]
    have e4 : strOfNums ([tag, ((128 + w : Nat) : Int)] ++ Go.Proofs.YtjfimileopbadaaGreatDoorW.PrintWords.bytesOf (Bs (wideB n w))) = Bs (UInt8.ofNat tag.toNat :: UInt8.ofNat (128 + w) :: wideB n w) := by
      rw [strOf_map, List.map_append, bytesOf_map]
      rfl
    rw [e4, if_pos (by rw [size_Bs, size_Bs]; simp [wideB_len n w (by omega)]; omega)]
    rfl
  · rw [if_neg h, if_pos (by have : 0 < n / 256 ^ w := Nat.div_pos (by omega) (Nat.pow_pos (by decide)); omega)]
    rw [wrap_id (by omega) (by omega)]
    rfl
/-- How many bytes a number takes (below 2^32), at least one. -/
def nby (n : Nat) : Nat := if n < 256 then 1 else if n < 65536 then 2 else if n < 16777216 then 3 else 4
/-- A length in its shortest form. -/
def lenEnc (n : Nat) : List UInt8 := if n < 128 then [UInt8.ofNat n] else UInt8.ofNat (128 + nby n) :: wideB n (nby n)
/-- An element. -/
def enc (t : Nat) (body : List UInt8) : List UInt8 := UInt8.ofNat t :: (lenEnc body.length ++ body)
theorem put_eq (k t : Nat) (body : List UInt8) (ht : t < 256) (hb : body.length < 4294967296) (hk : 4 ≤ k) : ber_put.f k (t : Int) (Bs body) = some (Bs (enc t body)) := by
  unfold ber_put.f
  simp only [Option.bind_some, size_Bs]
  by_cases h : body.length < 128
  · rw [if_neg (by omega), if_pos (by rw [strOf_map, size_Bs]; simp; omega)]
    congr 1
    apply L_inj
    rw [L_append, strOf_map, L_Bs, L_Bs, L_Bs]
    have e1 : (t : Int) % 256 = (t : Int) := by omega
    have e2 : (body.length : Int) % 256 = (body.length : Int) := by omega
    simp [enc, lenEnc, h, e1, e2]
  · rw [if_pos (by omega)]
    obtain ⟨k, rfl⟩ : ∃ m, k = m + 4 := ⟨k - 4, by omega⟩
    have st := fun j w hw1 hw => put_step j body.length w (t : Int) body (by omega) (by omega) hw1 hw hb (by omega)
    have s1 := st (k + 3) 1 (by omega) (by omega)
    have s2 := st (k + 2) 2 (by omega) (by omega)
    have s3 := st (k + 1) 3 (by omega) (by omega)
    have s4 := st k 4 (by omega) (by omega)
    rw [show ((1 : Nat) : Int) = 1 from rfl] at s1
    rw [show k + 4 = k + 3 + 1 from rfl, s1]
    have p1 : 256 ^ 1 = 256 := rfl
    have p2 : 256 ^ 2 = 65536 := rfl
    have p3 : 256 ^ 3 = 16777216 := rfl
    have p4 : 256 ^ 4 = 4294967296 := rfl
    rw [p1]
    by_cases h1 : body.length < 256
    · rw [if_pos h1]
      simp [enc, lenEnc, h, nby, h1]
    · rw [if_neg h1, s2, p2]
      by_cases h2 : body.length < 65536
      · rw [if_pos h2]
        simp [enc, lenEnc, h, nby, h1, h2]
      · rw [if_neg h2, s3, p3]
        by_cases h3 : body.length < 16777216
        · rw [if_pos h3]
          simp [enc, lenEnc, h, nby, h1, h2, h3]
        · rw [if_neg h3, s4, p4, if_pos (by omega)]
          simp [enc, lenEnc, h, nby, h1, h2, h3]
theorem u8_ofInt (x : Int) (h0 : 0 ≤ x) (h1 : x < 256) : ((UInt8.ofNat x.toNat).toNat : Int) = x := by
  rw [UInt8.toNat_ofNat']
  omega
theorem beN_wide (n w : Nat) (hw1 : 1 ≤ w) (hw : w ≤ 4) (hn : n < 256 ^ w) : beN (wideB n w) = n := by
  have hr : List.range 8 = [0, 1, 2, 3, 4, 5, 6, 7] := rfl
  have p1 : 256 ^ 1 = 256 := rfl
  have p2 : 256 ^ 2 = 65536 := rfl
  have p3 : 256 ^ 3 = 16777216 := rfl
  have p4 : 256 ^ 4 = 4294967296 := rfl
  have q1 : (2 : Int) ^ 8 = 256 := rfl
  have q2 : (2 : Int) ^ 16 = 65536 := rfl
  have q3 : (2 : Int) ^ 24 = 16777216 := rfl
  have key : ((beN (wideB n w) : Nat) : Int) = (n : Int) := by
    have hw' : w = 1 ∨ w = 2 ∨ w = 3 ∨ w = 4 := by omega
    rcases hw' with rfl | rfl | rfl | rfl
    · have e := u8_ofInt ((n : Int) % 256) (by omega) (by omega)
      simp [wideB, bytes8, hr, beN] at e ⊢
      omega
    · have e := u8_ofInt ((n : Int) % 256) (by omega) (by omega)
      have e2 := u8_ofInt ((n : Int) / 256 % 256) (by omega) (by omega)
      simp [wideB, bytes8, hr, beN, q1] at e e2 ⊢
      omega
    · have e := u8_ofInt ((n : Int) % 256) (by omega) (by omega)
      have e2 := u8_ofInt ((n : Int) / 256 % 256) (by omega) (by omega)
      have e3 := u8_ofInt ((n : Int) / 65536 % 256) (by omega) (by omega)
      simp [wideB, bytes8, hr, beN, q1, q2] at e e2 e3 ⊢
      omega
    · have e := u8_ofInt ((n : Int) % 256) (by omega) (by omega)
      have e2 := u8_ofInt ((n : Int) / 256 % 256) (by omega) (by omega)
      have e3 := u8_ofInt ((n : Int) / 65536 % 256) (by omega) (by omega)
      have e4 := u8_ofInt ((n : Int) / 16777216 % 256) (by omega) (by omega)
      simp [wideB, bytes8, hr, beN, q1, q2, q3] at e e2 e3 e4 ⊢
      omega
  omega
theorem nby_le (n : Nat) (hn : n < 4294967296) : 1 ≤ nby n ∧ nby n ≤ 4 ∧ n < 256 ^ nby n := by
  have p1 : 256 ^ 1 = 256 := rfl
  have p2 : 256 ^ 2 = 65536 := rfl
  have p3 : 256 ^ 3 = 16777216 := rfl
  have p4 : 256 ^ 4 = 4294967296 := rfl
  unfold nby
  split
  · omega
  · split
    · omega
    · split <;> omega
theorem lenEnc_len (n : Nat) : (lenEnc n).length = if n < 128 then 1 else 1 + nby n := by
  unfold lenEnc
  split
  · rfl
  · rw [List.length_cons, wideB_len _ _ (by unfold nby; split <;> (try split) <;> (try split) <;> omega)]
    omega
theorem lenS_enc (n : Nat) (r : List UInt8) (hn : n < 4294967296) : lenS (lenEnc n ++ r) = some (n, (lenEnc n).length) := by
  rw [lenEnc_len]
  unfold lenEnc
  by_cases h : n < 128
  · rw [if_pos h, if_pos h]
    have e : (UInt8.ofNat n).toNat = n := by rw [UInt8.toNat_ofNat']; omega
    simp only [List.cons_append, List.nil_append, lenS, e]
    rw [if_pos h]
  · rw [if_neg h, if_neg h]
    obtain ⟨h1, h4, h5⟩ := nby_le n hn
    have e : (UInt8.ofNat (128 + nby n)).toNat = 128 + nby n := by rw [UInt8.toNat_ofNat']; omega
    have hl := wideB_len n (nby n) (by omega)
    simp only [List.cons_append, lenS, e]
    rw [if_neg (by omega), if_neg (by omega), if_neg (by rw [List.length_append, hl]; omega)]
    have e2 : 128 + nby n - 128 = nby n := by omega
    rw [e2, List.take_append_of_le_length (by omega), List.take_of_length_le (by omega), beN_wide n _ h1 h4 h5]
theorem next_enc (t : Nat) (b r : List UInt8) (ht : t < 256) (ht2 : t % 32 ≠ 31) (hb : b.length < 4294967296) : nextS (enc t b ++ r) = some (t, b, r) := by
  have e : (UInt8.ofNat t).toNat = t := by rw [UInt8.toNat_ofNat']; omega
  unfold enc
  simp only [List.cons_append, List.append_assoc, nextS, e]
  rw [if_neg ht2, lenS_enc _ _ hb]
  simp only [List.drop_left]
  rw [if_neg (by rw [List.length_append]; omega)]
  simp
theorem lenEnc_pos (n : Nat) : 1 ≤ (lenEnc n).length := by rw [lenEnc_len]; split <;> omega
theorem enc_len (t : Nat) (b : List UInt8) : (enc t b).length = 1 + (lenEnc b.length).length + b.length := by
  simp [enc]; omega
end Go.Proofs.YtjfimileopbadaaGreatDoor.BerS
/- Layer 5: whole numbers in their shortest forms, and back. -/
namespace Go.Proofs.YtjfimileopbadaaGreatDoor.BerS
open Go.RowKit Gong Go.Proofs.YtjfimileopbadaaGreatDoor.XPdF Go.Proofs.YtjfimileopbadaaGreatDoorW.PrintWords Go.Proofs.YtjfimileopbadaaGreatDoorW.PrintLast Go.Proofs.YtjfimileopbadaaGreatDoorW.PrintMore
set_option linter.unusedVariables false
set_option linter.unusedSimpArgs false
/-- The first byte tells nothing. -/
def spareS : List UInt8 → Bool
  | a :: b :: _ => (a.toNat = 0 && decide (b.toNat < 128)) || (a.toNat = 255 && decide (128 ≤ b.toNat))
  | _ => false
theorem spare_eq (s : ByteArray) : ber_spare.f s = some (spareS (L s)) := by
  unfold ber_spare.f
  have hs := size_L s
  cases h : L s with
  | nil => rw [h] at hs; rw [if_neg (by rw [hs]; decide)]; rfl
  | cons a l =>
    cases l with
    | nil => rw [h] at hs; rw [if_neg (by rw [hs]; simp)]; rfl
    | cons b r =>
      rw [h] at hs
      simp only [List.length_cons] at hs
      have ea : bt s 0 = (a.toNat : Int) := by rw [bt_L, h]; rfl
      have eb : bt s 1 = (b.toNat : Int) := by rw [bt_L, h]; rfl
      have ha := a.toNat_lt
      have hb := b.toNat_lt
      rw [if_pos (by omega), if_pos (by omega), ea, eb]
      simp only [spareS]
      have h1s : (1 : Int) < (s.size : Int) := by omega
      simp only [h1s, if_true]
      by_cases h0 : a.toNat = 0
      · rw [if_pos (by omega)]
        by_cases h1 : b.toNat < 128
        · rw [if_pos (by omega)]; simp [h0, h1]
        · rw [if_neg (by omega), if_neg (by omega)]; simp [h0, h1]
      · rw [if_neg (by omega)]
        by_cases h2 : a.toNat = 255
        · rw [if_pos (by omega)]
          congr 1
          rw [Bool.eq_iff_iff]
          simp [h0, h2]
          omega
        · rw [if_neg (by omega)]; simp [h0, h2]
/-- Without the spare bytes in front. -/
def trimS : List UInt8 → List UInt8
  | [] => []
  | a :: l => if spareS (a :: l) = true then trimS l else a :: l
theorem trim_at : ∀ (l : List UInt8) (k : Nat), l.length < k → ber_trimmed.l0 k (Bs l) = some (Bs (trimS l))
  | [], k, h => by
    obtain ⟨k, rfl⟩ : ∃ m, k = m + 1 := ⟨k - 1, by omega⟩
    simp only [ber_trimmed.l0]
    rw [spare_eq, L_Bs]
    rfl
  | a :: l, k, h => by
    simp only [List.length_cons] at h
    obtain ⟨k, rfl⟩ : ∃ m, k = m + 1 := ⟨k - 1, by omega⟩
    simp only [ber_trimmed.l0]
    rw [spare_eq, L_Bs]
    simp only [Option.bind_some, trimS]
    by_cases hs : spareS (a :: l) = true
    · have e : (Bs (a :: l)).extract 1 (Bs (a :: l)).size = Bs l := by
        apply L_inj; rw [L_extract, L_Bs, L_Bs, size_Bs, List.take_of_length_le (Nat.le_refl _)]; rfl
      rw [if_pos hs, if_pos hs, if_pos (by rw [size_Bs]; simp only [List.length_cons]; omega), e]
      exact trim_at l k (by omega)
    · rw [if_neg hs, if_neg hs]
theorem onto_cons (n : Int) (b : UInt8) (l : List UInt8) : onto n (b :: l) = onto (n * 256 + (b.toNat : Int)) l := rfl
theorem trim_sNum : ∀ l : List UInt8, sNum (trimS l) = sNum l
  | [] => rfl
  | a :: l => by
    rw [trimS]
    by_cases hs : spareS (a :: l) = true
    · rw [if_pos hs, trim_sNum l]
      cases l with
      | nil => simp [spareS] at hs
      | cons b r =>
        show onto (sByte (b.toNat : Int)) r = onto (sByte (a.toNat : Int)) (b :: r)
        rw [onto_cons]
        congr 1
        simp [spareS] at hs
        have hb := b.toNat_lt
        unfold sByte
        rcases hs with ⟨h1, h2⟩ | ⟨h1, h2⟩
        · rw [h1]; simp; omega
        · rw [h1]; simp; omega
    · rw [if_neg hs]
theorem trim_spare : ∀ l : List UInt8, spareS (trimS l) = false
  | [] => rfl
  | a :: l => by
    rw [trimS]
    by_cases hs : spareS (a :: l) = true
    · rw [if_pos hs]; exact trim_spare l
    · rw [if_neg hs]; simpa using hs
theorem trim_len : ∀ l : List UInt8, (trimS l).length ≤ l.length ∧ ((trimS l).length = l.length → trimS l = l) ∧ (l ≠ [] → trimS l ≠ [])
  | [] => ⟨Nat.le_refl _, fun _ => rfl, fun h => h⟩
  | a :: l => by
    rw [trimS]
    have ih := trim_len l
    by_cases hs : spareS (a :: l) = true
    · rw [if_pos hs]
      simp only [List.length_cons]
      refine ⟨by omega, fun h => by omega, fun _ => ih.2.2 ?_⟩
      intro h
      rw [h] at hs
      simp [spareS] at hs
    · rw [if_neg hs]
      exact ⟨Nat.le_refl _, fun _ => rfl, fun h => h⟩
/-- The eight bytes of a number. -/
def W8 (n : Int) : List UInt8 := (bytes8 n).map fun x => UInt8.ofNat x.toNat
theorem W8_eq (n : Int) : W8 n = [UInt8.ofNat (n / 2 ^ 56 % 256).toNat, UInt8.ofNat (n / 2 ^ 48 % 256).toNat, UInt8.ofNat (n / 2 ^ 40 % 256).toNat, UInt8.ofNat (n / 2 ^ 32 % 256).toNat, UInt8.ofNat (n / 2 ^ 24 % 256).toNat, UInt8.ofNat (n / 2 ^ 16 % 256).toNat, UInt8.ofNat (n / 2 ^ 8 % 256).toNat, UInt8.ofNat (n / 2 ^ 0 % 256).toNat] := rfl
theorem onto_W8 (m n : Int) : onto m (W8 n) = m * 18446744073709551616 + n % 18446744073709551616 := by
  have u := fun j : Nat => u8_ofInt (n / 2 ^ j % 256) (by omega) (by omega)
  rw [W8_eq]
  simp only [onto_cons, u]
  have e : ∀ z : Int, onto z [] = z := fun _ => rfl
  rw [e]
  have q0 : (2 : Int) ^ 0 = 1 := rfl
  have q1 : (2 : Int) ^ 8 = 256 := rfl
  have q2 : (2 : Int) ^ 16 = 65536 := rfl
  have q3 : (2 : Int) ^ 24 = 16777216 := rfl
  have q4 : (2 : Int) ^ 32 = 4294967296 := rfl
  have q5 : (2 : Int) ^ 40 = 1099511627776 := rfl
  have q6 : (2 : Int) ^ 48 = 281474976710656 := rfl
  have q7 : (2 : Int) ^ 56 = 72057594037927936 := rfl
  rw [q0, q1, q2, q3, q4, q5, q6, q7]
  omega
theorem sNum_W8 (n : Int) (h0 : -9223372036854775808 ≤ n) (h1 : n ≤ 9223372036854775807) : sNum (W8 n) = n := by
  have h := onto_W8 0 n
  rw [W8_eq, onto_cons, u8_ofInt _ (by omega) (by omega)] at h
  have e : sNum (W8 n) = onto (sByte (n / 2 ^ 56 % 256)) (W8 n).tail := by
    rw [W8_eq]
    show onto (sByte (((UInt8.ofNat (n / 2 ^ 56 % 256).toNat).toNat : Int))) _ = _
    rw [u8_ofInt _ (by omega) (by omega)]
  have lin : ∀ (l : List UInt8) (a b : Int), onto (a + b) l = onto a l + b * 256 ^ l.length := by
    intro l
    induction l with
    | nil => intro a b; simp [onto]
    | cons x l ih =>
      intro a b
      rw [onto_cons, onto_cons, show (a + b) * 256 + (x.toNat : Int) = (a * 256 + (x.toNat : Int)) + b * 256 from by omega, ih, List.length_cons, Int.pow_succ]
      rw [Int.mul_assoc, Int.mul_comm 256]
  rw [e, W8_eq]
  simp only [List.tail_cons]
  have q7 : (2 : Int) ^ 56 = 72057594037927936 := rfl
  have p7 : (256 : Int) ^ 7 = 72057594037927936 := rfl
  unfold sByte
  by_cases ht : 128 ≤ n / 2 ^ 56 % 256
  · rw [if_pos ht, show n / 2 ^ 56 % 256 - 256 = (0 * 256 + n / 2 ^ 56 % 256) + (-256) from by omega, lin, h]
    simp only [List.length_cons, List.length_nil]
    rw [p7]
    rw [q7] at ht
    omega
  · rw [if_neg ht, show n / 2 ^ 56 % 256 = 0 * 256 + n / 2 ^ 56 % 256 from by omega, h]
    rw [q7] at ht
    omega
theorem W9_eq (n : Int) : (bytes9 n).map (fun x => UInt8.ofNat x.toNat) = 0 :: W8 n := rfl
theorem sNum_W9 (n : Int) (h0 : 0 ≤ n) (h1 : n ≤ 18446744073709551615) : sNum (0 :: W8 n) = n := by
  show onto (sByte 0) (W8 n) = n
  have e : sByte 0 = 0 := rfl
  rw [e, onto_W8]
  omega
theorem putN (n : Int) (k : Nat) (hk : 9 ≤ k) : ber_PutNumber.f k n = some (Bs (trimS (W8 n))) := by
  unfold ber_PutNumber.f ber_trimmed.f
  exact trim_at (W8 n) k (by simp [W8, bytes8]; omega)
theorem putU (n : Int) (k : Nat) (hk : 10 ≤ k) : ber_PutUnsigned.f k n = some (Bs (trimS (0 :: W8 n))) := by
  unfold ber_PutUnsigned.f ber_trimmed.f
  exact trim_at (0 :: W8 n) k (by simp [W8, bytes8]; omega)
theorem W8_len (n : Int) : (W8 n).length = 8 := by simp [W8, bytes8]
end Go.Proofs.YtjfimileopbadaaGreatDoor.BerS
/- Layer 5: what Wrap answers. -/
namespace Go.Proofs.YtjfimileopbadaaGreatDoor.BerS
open Go.RowKit Gong Go.Proofs.YtjfimileopbadaaGreatDoor.XPdF Go.Proofs.YtjfimileopbadaaGreatDoorW.PrintWords Go.Proofs.YtjfimileopbadaaGreatDoorW.PrintLast Go.Proofs.YtjfimileopbadaaGreatDoorW.PrintMore
set_option linter.unusedVariables false
set_option linter.unusedSimpArgs false
theorem wrap_at (t : Nat) (b : List UInt8) (ht : t < 256) (ht2 : t % 32 ≠ 31) (hb : b.length ≤ 16777216) (k : Nat) (hk : 4 ≤ k) : ber_Wrap.f k (t : Int) (Bs b) = some (Bs (enc t b), 0) := by
  unfold ber_Wrap.f
  rw [isTag_eq t ht]
  simp only [Option.bind_some]
  rw [if_pos (by simp [ht2]), if_neg (by rw [size_Bs]; omega), put_eq k t b ht (by omega) hk]
  rfl
end Go.Proofs.YtjfimileopbadaaGreatDoor.BerS
/- Layer 8: short binds; the chapter's example. -/
namespace Go.Proofs.YtjfimileopbadaaGreatDoor.PduS
open Go.RowKit Gong Go.Proofs.YtjfimileopbadaaGreatDoor.XPdF Go.Proofs.YtjfimileopbadaaGreatDoor.OidS Go.Proofs.YtjfimileopbadaaGreatDoorW.PrintWords Go.Proofs.YtjfimileopbadaaGreatDoorW.PrintLast Go.Proofs.YtjfimileopbadaaGreatDoorW.PrintMore
set_option linter.unusedVariables false
set_option linter.unusedSimpArgs false
theorem rd_at (l : List S30) (i : Nat) (h : i < l.length) : rd_T30 l (i : Int) = l[i]'h := by
  unfold rd_T30
  rw [Int.toNat_natCast, List.getD_eq_getElem?_getD, List.getElem?_eq_getElem h]
  rfl
/-- Are binds short? -/
def shortB (x : S30) : Prop := x.f1.f2.size ≤ 3000 ∧ x.f0.size ≤ 2000
theorem small_loop (l : List S30) (hl : l.length ≤ 8192) : ∀ (d i k : Nat), i + d = l.length → d < k → ∃ b, gonglaw08_small.l0 k l (i : Int) = some b ∧ (b = true ↔ ∀ x ∈ l.drop i, shortB x) := by
  intro d
  induction d with
  | zero =>
    intro i k hi hk
    obtain ⟨k, rfl⟩ : ∃ m, k = m + 1 := ⟨k - 1, by omega⟩
    rw [gonglaw08_small.l0, if_neg (by omega), List.drop_eq_nil_of_le (by omega)]
    exact ⟨true, rfl, by simp⟩
  | succ d ih =>
    intro i k hi hk
    obtain ⟨k, rfl⟩ : ∃ m, k = m + 1 := ⟨k - 1, by omega⟩
    have hlt : i < l.length := by omega
    rw [gonglaw08_small.l0, if_pos (by omega), if_pos (by omega), rd_at l i hlt, List.drop_eq_getElem_cons hlt]
    by_cases c1 : ((l[i].f1.f2).size : Int) > 3000
    · rw [if_pos c1]
      exact ⟨false, rfl, ⟨fun h => absurd h (by decide), fun h => by have := (h _ List.mem_cons_self).1; omega⟩⟩
    · rw [if_neg c1]
      by_cases c2 : ((l[i].f0).size : Int) > 2000
      · rw [if_pos c2]
        exact ⟨false, rfl, ⟨fun h => absurd h (by decide), fun h => by have := (h _ List.mem_cons_self).2; omega⟩⟩
      · rw [if_neg c2, wrap_succ i (by omega)]
        obtain ⟨b, h1, h2⟩ := ih (i + 1) k (by omega) (by omega)
        refine ⟨b, h1, h2.trans ?_⟩
        constructor
        · intro h x hx
          rcases List.mem_cons.1 hx with rfl | hx
          · exact ⟨by omega, by omega⟩
          · exact h x hx
        · intro h x hx
          exact h x (List.mem_cons_of_mem _ hx)
/-- Which lists are few, or too many, and short. -/
def smallL (l : List S30) : Prop := (l.length ≤ 40 ∨ (4096 < l.length ∧ l.length ≤ 8192)) ∧ ∀ x ∈ l, shortB x
theorem small_at (l : List S30) (k : Nat) (hk : 9000 ≤ k) : ∃ b, gonglaw08_small.f k l = some b ∧ (b = true ↔ smallL l) := by
  obtain ⟨k, rfl⟩ : ∃ m, k = m + 1 := ⟨k - 1, by omega⟩
  unfold gonglaw08_small.f smallL
  by_cases c1 : (l.length : Int) > 40
  · rw [if_pos c1]
    by_cases c2 : (l.length : Int) ≤ 4096
    · rw [if_pos c2, gonglaw08_small.j0, if_pos rfl]
      exact ⟨false, rfl, ⟨fun h => absurd h (by decide), fun h => by have := h.1; omega⟩⟩
    · rw [if_neg c2]
      by_cases c3 : (l.length : Int) > 8192
      · rw [decide_eq_true c3, gonglaw08_small.j0, if_pos rfl]
        exact ⟨false, rfl, ⟨fun h => absurd h (by decide), fun h => by have := h.1; omega⟩⟩
      · rw [decide_eq_false c3, gonglaw08_small.j0, if_neg Bool.false_ne_true]
        obtain ⟨b, h1, h2⟩ := small_loop l (by omega) l.length 0 k (by omega) (by omega)
        rw [List.drop_zero] at h2
        refine ⟨b, h1, h2.trans ⟨fun h => ⟨.inr (by omega), h⟩, fun h => h.2⟩⟩
  · rw [if_neg c1, decide_eq_false (by omega), gonglaw08_small.j0, if_neg Bool.false_ne_true]
    obtain ⟨b, h1, h2⟩ := small_loop l (by omega) l.length 0 k (by omega) (by omega)
    rw [List.drop_zero] at h2
    refine ⟨b, h1, h2.trans ⟨fun h => ⟨.inl (by omega), h⟩, fun h => h.2⟩⟩
theorem wrap_one (t : Nat) (b : List UInt8) (ht : t < 256) (ht2 : t % 32 ≠ 31) (hb : b.length ≤ 16777216) (k : Nat) (hk : 4 ≤ k) : pdu_wrap.f k (t : Int) (Bs b) = some (Bs (BerS.enc t b)) := by
  unfold pdu_wrap.f
  rw [show Bs b = BerS.Bs b from rfl, BerS.wrap_at t b ht ht2 hb k hk]
  rfl
theorem num_one (n : Int) (k : Nat) (hk : 30 ≤ k) : (ber_PutNumber.f k n).bind (fun p => pdu_wrap.f k 2 p) = some (Bs (BerS.enc 2 (BerS.trimS (BerS.W8 n)))) := by
  have h := (BerS.trim_len (BerS.W8 n)).1
  rw [BerS.W8_len] at h
  rw [BerS.putN n k (by omega), Option.bind_some]
  exact wrap_one 2 _ (by decide) (by decide) (by omega) k (by omega)
theorem works_at (k : Nat) (hk : 500 ≤ k) : gonglaw08_works.f k = some true := by
  have hc : pdu_Check.f k 167 1 0 0 ([] : List S30) = some 0 := by
    obtain ⟨k, rfl⟩ : ∃ m, k = m + 3 := ⟨k - 3, by omega⟩
    rfl
  have hn : pdu_Encode.nums k [1, 0, 0] (⟨#[]⟩ : ByteArray) = some (Bs [2, 1, 1, 2, 1, 0, 2, 1, 0]) := by
    have h1 := num_one 1 k (by omega)
    have h0 := num_one 0 k (by omega)
    rw [Option.bind_eq_some_iff] at h1 h0
    obtain ⟨p, hp, hq⟩ := h1
    obtain ⟨p0, hp0, hq0⟩ := h0
    simp only [pdu_Encode.nums, hp, hq, hp0, hq0, Option.bind_some, pdu_Encode.cat]
    rw [show BerS.enc 2 (BerS.trimS (BerS.W8 1)) = [2, 1, 1] by decide +kernel, show BerS.enc 2 (BerS.trimS (BerS.W8 0)) = [2, 1, 0] by decide +kernel]
    rw [if_pos (by decide), Option.bind_some, if_pos (by decide), Option.bind_some, if_pos (by decide), Option.bind_some]
    congr 1
  have e1 : pdu_Encode.f k 167 1 0 0 ([] : List S30) = some (⟨#[167, 11, 2, 1, 1, 2, 1, 0, 2, 1, 0, 48, 0]⟩, 0) := by
    unfold pdu_Encode.f
    rw [hc, Option.bind_some, if_pos rfl]
    unfold pdu_Encode.go
    rw [Option.bind_some, pdu_Encode.rest, hn, Option.bind_some, pdu_Encode.tail]
    have w1 := wrap_one 48 [] (by decide) (by decide) (by decide) k (by omega)
    have w2 := wrap_one 167 [2, 1, 1, 2, 1, 0, 2, 1, 0, 48, 0] (by decide) (by decide) (by decide) k (by omega)
    rw [show BerS.enc 48 [] = [48, 0] by decide +kernel] at w1
    rw [show BerS.enc 167 [2, 1, 1, 2, 1, 0, 2, 1, 0, 48, 0] = [167, 11, 2, 1, 1, 2, 1, 0, 2, 1, 0, 48, 0] by decide +kernel] at w2
    rw [show ((48 : Nat) : Int) = 48 from rfl] at w1
    rw [show ((167 : Nat) : Int) = 167 from rfl] at w2
    rw [show (⟨([] : List UInt8).toArray⟩ : ByteArray) = Bs [] from rfl, w1, Option.bind_some, pdu_Encode.cat, if_pos (by decide), Option.bind_some]
    rw [show Bs [2, 1, 1, 2, 1, 0, 2, 1, 0] ++ Bs [48, 0] = Bs [2, 1, 1, 2, 1, 0, 2, 1, 0, 48, 0] by rfl, w2, Option.bind_some, if_neg (by decide)]
    rfl
  unfold gonglaw08_works.f
  rw [e1]
  simp only [Option.bind_some]
  rw [toList_L, if_pos (show L (⟨#[167, 11, 2, 1, 1, 2, 1, 0, 2, 1, 0, 48, 0]⟩ : ByteArray) = [167, 11, 2, 1, 1, 2, 1, 0, 2, 1, 0, 48, 0] from rfl)]
  rfl
end Go.Proofs.YtjfimileopbadaaGreatDoor.PduS
/- Layer 6: the example; the arcs of a text that was put together; one arc more. -/
namespace Go.Proofs.YtjfimileopbadaaGreatDoor.OidS
open Go.RowKit Gong Go.Proofs.YtjfimileopbadaaGreatDoor.XPdF Go.Proofs.YtjfimileopbadaaGreatDoor.DecS Go.Proofs.YtjfimileopbadaaGreatDoorW.PrintWords Go.Proofs.YtjfimileopbadaaGreatDoorW.PrintLast Go.Proofs.YtjfimileopbadaaGreatDoorW.PrintMore
set_option linter.unusedVariables false
set_option linter.unusedSimpArgs false
theorem put_size {l : List Int} (h : isS l = true) : (Bs (putL l)).size ≤ 1000000000 := by
  obtain ⟨h1, h2, h3, h4⟩ := isS_parts h
  have := putL_len h3
  rw [← L_len, L_Bs]
  omega
theorem arcs_of {l : List Int} (h : isS l = true) (k : Nat) (hk : 500 ≤ k) : oid_Arcs.f k (Bs (putL l)) = some (l, 0) := by
  rw [arcs_eq _ (put_size h) k hk, L_Bs, arcsR_put h]
theorem joinL_snoc (w : List UInt8) : ∀ ws : List (List UInt8), ws ≠ [] → joinL 46 (ws ++ [w]) = joinL 46 ws ++ 46 :: w
  | [], h => absurd rfl h
  | [v], _ => rfl
  | v :: u :: ws, _ => by
    show v ++ 46 :: joinL 46 ((u :: ws) ++ [w]) = (v ++ 46 :: joinL 46 (u :: ws)) ++ 46 :: w
    rw [joinL_snoc w (u :: ws) (by simp)]
    simp
theorem putL_snoc (r : List Int) (n : Int) (h : r ≠ []) : putL (r ++ [n]) = putL r ++ 46 :: Lib.decDigits n.toNat := by
  unfold putL
  rw [List.map_append]
  exact joinL_snoc _ _ (by simpa using h)
end Go.Proofs.YtjfimileopbadaaGreatDoor.OidS
/- Layer 6: Less, Within, named, the example. -/
namespace Go.Proofs.YtjfimileopbadaaGreatDoor.OidS
open Go.RowKit Gong Go.Proofs.YtjfimileopbadaaGreatDoor.XPdF Go.Proofs.YtjfimileopbadaaGreatDoor.DecS Go.Proofs.YtjfimileopbadaaGreatDoorW.PrintWords Go.Proofs.YtjfimileopbadaaGreatDoorW.PrintLast Go.Proofs.YtjfimileopbadaaGreatDoorW.PrintMore
set_option linter.unusedVariables false
set_option linter.unusedSimpArgs false
theorem text_yes {l : List Int} (h : isS l = true) (k : Nat) (hk : 2000 ≤ k) : oid_Text.f k l = some (Bs (putL l), 0) := by
  obtain ⟨h1, h2, h3, h4⟩ := isS_parts h
  unfold oid_Text.f
  rw [is_eq l k (by omega), h]
  simp only [Option.bind_some, if_true]
  rw [put_eq l (by omega) h3 k hk]
  rfl
theorem text_no {l : List Int} (h : isS l = false) (k : Nat) (hk : 2000 ≤ k) : oid_Text.f k l = some ((⟨#[]⟩ : ByteArray), 60) := by
  unfold oid_Text.f
  rw [is_eq l k (by omega), h]
  rfl
def cmpL : List Int → List Int → Int
  | [], [] => 0
  | [], _ :: _ => -1
  | _ :: _, [] => 1
  | a :: x, b :: y => if a < b then -1 else if b < a then 1 else cmpL x y
def lessL (x y : List Int) : Bool := decide (cmpL x y < 0)
theorem equal_loop (x y : List Int) (h : x.length = y.length) (hx : x.length ≤ 1000) : ∀ (d i k : Nat), i + d = x.length → d < k →
    slices_Equal_int_int.l0 k x y (x.length : Int) (i : Int) = some (decide (x.drop i = y.drop i)) := by
  intro d
  induction d with
  | zero =>
    intro i k hi hk
    obtain ⟨k, rfl⟩ : ∃ m, k = m + 1 := ⟨k - 1, by omega⟩
    simp only [slices_Equal_int_int.l0]
    rw [if_neg (by omega), List.drop_eq_nil_of_le (show x.length ≤ i by omega), List.drop_eq_nil_of_le (show y.length ≤ i by omega), decide_eq_true rfl]
  | succ d ih =>
    intro i k hi hk
    obtain ⟨k, rfl⟩ : ∃ m, k = m + 1 := ⟨k - 1, by omega⟩
    have hlt : i < x.length := by omega
    simp only [slices_Equal_int_int.l0]
    rw [if_pos (by omega), if_pos (by omega), if_pos (by omega), if_pos (by omega), rd_get x i hlt, rd_get y i (by omega), List.drop_eq_getElem_cons hlt, List.drop_eq_getElem_cons (show i < y.length by omega)]
    by_cases c : x[i] = y[i]'(by omega)
    · rw [if_pos c, wrap_succ i (by omega), ih (i + 1) k (by omega) (by omega)]
      congr 1
      rw [decide_eq_decide]
      exact ⟨fun e => by rw [c, e], fun e => by injection e⟩
    · rw [if_neg c]
      congr 1
      rw [eq_comm, decide_eq_false_iff_not]
      intro e
      injection e with e1 e2
      exact c e1
theorem equal_eq (x y : List Int) (h : x.length = y.length) (hx : x.length ≤ 1000) (k : Nat) (hk : 1001 ≤ k) : slices_Equal_int_int.f k x y = some (decide (x = y)) := by
  unfold slices_Equal_int_int.f
  rw [if_pos (by omega)]
  have := equal_loop x y h hx x.length 0 k (by omega) (by omega)
  rw [Int.natCast_zero] at this
  exact this
theorem both_of {x y : List Int} (hx : isS x = true) (hy : isS y = true) (k : Nat) (hk : 500 ≤ k) : oid_both.f k (Bs (putL x)) (Bs (putL y)) = some (x, y, true) := by
  unfold oid_both.f
  rw [arcs_of hx k hk, arcs_of hy k hk]
  rfl
/-- Is an identifier within another one? -/
def inL (x y : List Int) : Bool := decide (x.length ≤ y.length ∧ x = y.take x.length)
theorem within_of {x y : List Int} (hx : isS x = true) (hy : isS y = true) (k : Nat) (hk : 2000 ≤ k) : oid_Within.f k (Bs (putL x)) (Bs (putL y)) = some (inL x y) := by
  obtain ⟨_, x2, _, _⟩ := isS_parts hx
  obtain ⟨_, y2, _, _⟩ := isS_parts hy
  unfold oid_Within.f inL
  rw [both_of hx hy k (by omega)]
  simp only [Option.bind_some, if_true]
  by_cases c : x.length ≤ y.length
  · rw [if_pos c, equal_eq x _ (by rw [List.length_take]; omega) (by omega) k (by omega)]
    simp [c]
  · rw [if_neg c, decide_eq_false (fun h => c h.1)]
theorem wf_i64 {x : Int} (h : (Lit.int .i64 x).wf = true) : -9223372036854775808 ≤ x ∧ x ≤ 9223372036854775807 := by
  simp [Lit.wf, IntKind.min, IntKind.max, IntKind.signed, IntKind.bits] at h
  exact h
end Go.Proofs.YtjfimileopbadaaGreatDoor.OidS
/- 'gonglaw08.PduFind': what the printed function answers is true. -/
namespace Go.Proofs.YtjfimileopbadaaGreatDoor.PduS
open Go.RowKit Gong Go.Proofs.YtjfimileopbadaaGreatDoor.XPdF Go.Proofs.YtjfimileopbadaaGreatDoor.OidS Go.Proofs.YtjfimileopbadaaGreatDoorW.PrintWords Go.Proofs.YtjfimileopbadaaGreatDoorW.PrintLast Go.Proofs.YtjfimileopbadaaGreatDoorW.PrintMore
set_option linter.unusedVariables false
set_option linter.unusedSimpArgs false
/-- Is one identifier's text within another's? -/
def withinS (a b : ByteArray) : Bool := match arcsS (L a), arcsS (L b) with | some x, some y => inL x y | _, _ => false
theorem Bs_of {s : ByteArray} {x : List Int} (h : arcsS (L s) = some x) : isS x = true ∧ s = Bs (putL x) := by
  obtain ⟨h1, h2⟩ := arcs_some h
  exact ⟨h1, by rw [h2, Bs_L]⟩
theorem within_eq (a b : ByteArray) (ha : a.size ≤ 1000000000) (hb : b.size ≤ 1000000000) (k : Nat) (hk : 2000 ≤ k) : oid_Within.f k a b = some (withinS a b) := by
  unfold withinS
  cases h1 : arcsS (L a) with
  | none =>
    unfold oid_Within.f oid_both.f
    rw [arcs_eq a ha k (by omega), arcs_eq b hb k (by omega)]
    unfold arcsR
    rw [h1]
    rfl
  | some x =>
    cases h2 : arcsS (L b) with
    | none =>
      unfold oid_Within.f oid_both.f
      rw [arcs_eq a ha k (by omega), arcs_eq b hb k (by omega)]
      unfold arcsR
      rw [h1, h2]
      rfl
    | some y =>
      obtain ⟨hx, rfl⟩ := Bs_of h1
      obtain ⟨hy, rfl⟩ := Bs_of h2
      exact within_of hx hy k hk
theorem find_loop (root : ByteArray) (hr : root.size ≤ 1000000000) (l : List S30) (hl : l.length ≤ 100000) (hs : ∀ x ∈ l, x.f0.size ≤ 2000) : ∀ (d i k : Nat) (acc : List S30), i + d = l.length → d + 2100 ≤ k → acc.length ≤ i →
    pdu_Find.l0 k root acc l (l.length : Int) (i : Int) = some (acc ++ (l.drop i).filter fun b => withinS root b.f0) := by
  intro d
  induction d with
  | zero =>
    intro i k acc hi hk ha
    obtain ⟨k, rfl⟩ : ∃ m, k = m + 1 := ⟨k - 1, by omega⟩
    rw [pdu_Find.l0, if_neg (by omega), List.drop_eq_nil_of_le (by omega)]
    simp
  | succ d ih =>
    intro i k acc hi hk ha
    obtain ⟨k, rfl⟩ : ∃ m, k = m + 1 := ⟨k - 1, by omega⟩
    have hlt : i < l.length := by omega
    have hm : l[i] ∈ l := List.getElem_mem hlt
    rw [pdu_Find.l0, if_pos (by omega), if_pos (by omega), if_pos (by omega), rd_at l i hlt, within_eq root _ hr (by have := hs _ hm; omega) k (by omega), List.drop_eq_getElem_cons hlt, wrap_succ i (by omega)]
    simp only [Option.bind_some]
    cases hw : withinS root l[i].f0 with
    | true =>
      rw [if_pos rfl, if_pos (by omega), ih (i + 1) k _ (by omega) (by omega) (by simp; omega), List.filter_cons, if_pos hw]
      simp
    | false =>
      rw [if_neg Bool.false_ne_true, ih (i + 1) k _ (by omega) (by omega) (by omega), List.filter_cons, if_neg (by rw [hw]; simp)]
theorem find_eq (root : ByteArray) (hr : root.size ≤ 1000000000) (l : List S30) (hl : l.length ≤ 100000) (hs : ∀ x ∈ l, x.f0.size ≤ 2000) (k : Nat) (hk : 110000 ≤ k) : pdu_Find.f k l root = some (l.filter fun b => withinS root b.f0) := by
  unfold pdu_Find.f
  have h := find_loop root hr l hl hs l.length 0 k [] (by omega) (by omega) (by simp)
  rw [show ((0 : Nat) : Int) = 0 from rfl] at h
  rw [h]
  simp
theorem child_in (r : List Int) (n : Int) (y : List Int) (h : inL (r ++ [n]) y = true) : inL r y = true := by
  unfold inL at h ⊢
  rw [decide_eq_true_iff] at h ⊢
  obtain ⟨h1, h2⟩ := h
  have hl : (r ++ [n]).length = r.length + 1 := by simp
  refine ⟨by omega, ?_⟩
  have h3 : r = (r ++ [n]).take r.length := by simp
  rw [h2, List.take_take] at h3
  rw [show min r.length (r ++ [n]).length = r.length by omega] at h3
  exact h3
theorem child_within {root c : ByteArray} {x : List Int} {n : Int} (h : arcsS (L root) = some x) (hc : arcsS (L c) = some (x ++ [n])) (b : ByteArray) (hb : withinS c b = true) : withinS root b = true := by
  unfold withinS at hb ⊢
  rw [hc] at hb
  rw [h]
  cases hy : arcsS (L b) with
  | none => rw [hy] at hb; exact hb
  | some y => rw [hy] at hb; exact child_in x n y hb
theorem filter_le {p q : S30 → Bool} (h : ∀ x, p x = true → q x = true) : ∀ l : List S30, (l.filter p).length ≤ (l.filter q).length
  | [] => by simp
  | x :: l => by
    have ih := filter_le h l
    rw [List.filter_cons, List.filter_cons]
    cases hp : p x with
    | true => rw [if_pos rfl, if_pos (h x hp), List.length_cons, List.length_cons]; omega
    | false =>
      rw [if_neg Bool.false_ne_true]
      split
      · rw [List.length_cons]; omega
      · exact ih
theorem end_at (root : ByteArray) (hr : root.size ≤ 1000000000) (all : List S30) (hl : all.length ≤ 100000) (hs : ∀ x ∈ all, x.f0.size ≤ 2000) (k : Nat) (hk : 110000 ≤ k) :
    ((oid_Child.f k root 1).bind fun bt232 => (if bt232.2 = 0 then ((pdu_Find.f k all bt232.1).bind fun t234 => (some (decide ((t234.length : Int) ≤ ((all.filter fun b => withinS root b.f0).length : Int))))) else (some true))) = some true := by
  unfold oid_Child.f
  rw [arcs_eq root hr k (by omega)]
  simp only [Option.bind_some]
  unfold arcsR
  cases h : arcsS (L root) with
  | none => rfl
  | some x =>
    obtain ⟨hx, _⟩ := Bs_of h
    have hxl := (isS_parts hx).2.1
    rw [if_pos rfl, if_neg (by decide), if_neg (by decide), if_pos (show x.length < 17592186044416 by omega)]
    cases hi : isS (x ++ [1]) with
    | true =>
      rw [text_yes hi k (by omega)]
      simp only [Option.bind_some]
      have hsz := put_size hi
      rw [if_pos trivial, find_eq _ hsz all hl hs k hk]
      simp only [Option.bind_some]
      congr 1
      apply decide_eq_true
      have := filter_le (p := fun b : S30 => withinS (Bs (putL (x ++ [1]))) b.f0) (q := fun b : S30 => withinS root b.f0) (fun b hb => child_within h (by rw [L_Bs]; exact arcs_put hi) b.f0 hb) all
      omega
    | false =>
      rw [text_no hi k (by omega)]
      rfl
theorem eq_self (x : S30) : (!((x.f0).toList == (x.f0).toList) || ((!((x.f1.f0) == (x.f1.f0)) || (!((x.f1.f1) == (x.f1.f1)) || (!((x.f1.f2).toList == (x.f1.f2).toList)))))) = false := by simp
theorem loop_at (root : ByteArray) (hr : root.size ≤ 1000000000) (all x y z : List S30) (hl : all.length ≤ 100000) (hs : ∀ b ∈ all, b.f0.size ≤ 2000) (hz : z = x ++ y) (hza : z = all.filter fun b => withinS root b.f0) : ∀ (d i k : Nat), i + d = z.length → d + 110001 ≤ k →
    gonglaw08_PduFind.l0 k root all x y z (z.length : Int) (i : Int) = some true := by
  have hzl : z.length ≤ all.length := by rw [hza]; exact List.length_filter_le _ _
  have hzb : ∀ b ∈ z, b.f0.size ≤ 2000 ∧ withinS root b.f0 = true := by
    intro b hb
    rw [hza, List.mem_filter] at hb
    exact ⟨hs b hb.1, hb.2⟩
  intro d
  induction d with
  | zero =>
    intro i k hi hk
    obtain ⟨k, rfl⟩ : ∃ m, k = m + 1 := ⟨k - 1, by omega⟩
    rw [gonglaw08_PduFind.l0, if_neg (by omega), hza]
    exact end_at root hr all hl hs k (by omega)
  | succ d ih =>
    intro i k hi hk
    obtain ⟨k, rfl⟩ : ∃ m, k = m + 1 := ⟨k - 1, by omega⟩
    have hlt : i < z.length := by omega
    have hm := hzb _ (List.getElem_mem hlt)
    have hxy : z.length = x.length + y.length := by rw [hz]; simp
    rw [gonglaw08_PduFind.l0, if_pos (by omega)]
    by_cases c : i < x.length
    · have hg : rd_T30 x (i : Int) = rd_T30 z (i : Int) := by
        rw [rd_at x i c, rd_at z i hlt]
        subst hz
        rw [List.getElem_append_left c]
      rw [if_pos (by omega), if_pos (by omega), if_pos (by omega), hg, eq_self, if_neg Bool.false_ne_true, rd_at z i hlt, within_eq root _ hr (by omega) k (by omega), hm.2]
      simp only [Option.bind_some]
      rw [if_pos trivial, wrap_succ i (by omega)]
      exact ih (i + 1) k (by omega) (by omega)
    · have hw : wrap64 ((i : Int) - (x.length : Int)) = ((i - x.length : Nat) : Int) := by unfold wrap64; omega
      have hg : rd_T30 y ((i - x.length : Nat) : Int) = rd_T30 z (i : Int) := by
        rw [rd_at y (i - x.length) (by omega), rd_at z i hlt]
        subst hz
        rw [List.getElem_append_right (by omega)]
      rw [if_neg (by omega), hw, if_pos (by omega), if_pos (by omega), if_pos (by omega), if_pos (by omega), hg, eq_self, if_neg Bool.false_ne_true, rd_at z i hlt, within_eq root _ hr (by omega) k (by omega), hm.2]
      simp only [Option.bind_some]
      rw [if_pos trivial, wrap_succ i (by omega)]
      exact ih (i + 1) k (by omega) (by omega)
theorem main_at (a b : List S30) (root : ByteArray) (hr : root.size ≤ 1000) (ha : smallL a) (hb : smallL b) (hl : a.length + b.length ≤ 80) (k : Nat) (hk : 120000 ≤ k) : gonglaw08_PduFind.j0 (k + 1) a b root false = some true := by
  have hsa : ∀ x ∈ a, x.f0.size ≤ 2000 := fun x hx => (ha.2 x hx).2
  have hsb : ∀ x ∈ b, x.f0.size ≤ 2000 := fun x hx => (hb.2 x hx).2
  have hsc : ∀ x ∈ a ++ b, x.f0.size ≤ 2000 := fun x hx => (List.mem_append.1 hx).elim (hsa x) (hsb x)
  have hlc : (a ++ b).length ≤ 100000 := by rw [List.length_append]; omega
  have fa := find_eq root (by omega) a (by omega) hsa k (by omega)
  have fb := find_eq root (by omega) b (by omega) hsb k (by omega)
  have fc := find_eq root (by omega) (a ++ b) hlc hsc k (by omega)
  have h1 := List.length_filter_le (fun b : S30 => withinS root b.f0) a
  have h2 := List.length_filter_le (fun b : S30 => withinS root b.f0) b
  have hz := List.filter_append (p := fun b : S30 => withinS root b.f0) a b
  generalize (a.filter fun b : S30 => withinS root b.f0) = x at *
  generalize (b.filter fun b : S30 => withinS root b.f0) = y at *
  generalize hq : ((a ++ b).filter fun b : S30 => withinS root b.f0) = z at *
  subst hz
  have hzl : (x ++ y).length ≤ 80 := by rw [List.length_append]; omega
  have hloop := loop_at root (by omega) (a ++ b) x y (x ++ y) hlc hsc rfl hq.symm (x ++ y).length 0 k (by omega) (by omega)
  have hw : wrap64 ((x.length : Int) + (y.length : Int)) = ((x ++ y).length : Int) := by rw [List.length_append]; unfold wrap64; omega
  have l1 : ([] : List S30).length + a.length < 2932031007402 := by rw [List.length_nil]; omega
  have l2 : ([] ++ a : List S30).length + b.length < 2932031007402 := by rw [List.nil_append]; omega
  rw [gonglaw08_PduFind.j0, if_neg Bool.false_ne_true, Option.bind_some, if_pos l1, Option.bind_some, if_pos l2, Option.bind_some, List.nil_append, fa, Option.bind_some, fb, Option.bind_some, fc, Option.bind_some]
  rw [hw, if_pos rfl]
  exact hloop
end Go.Proofs.YtjfimileopbadaaGreatDoor.PduS
namespace Go.Proofs.YtjfimileopbadaaGreatDoor.Pure
open Go.RowKit Gong Go.Proofs.YtjfimileopbadaaGreatDoor.XPdF Go.Proofs.YtjfimileopbadaaGreatDoor.PduS
theorem yes_at (a b : List S30) (root : ByteArray) (k : Nat) : gonglaw08_PduFind.j0 (k + 1) a b root true = some true := by
  rw [gonglaw08_PduFind.j0, if_pos rfl]
theorem PduFind {F G : S30 → Prop} (l0 l1 : List S30) (a2 : ByteArray) (w0 : l0.length ≤ maxLen ∧ l0.length * 48 ≤ 140737488351232 ∧ ∀ x ∈ l0, F x) (w1 : l1.length ≤ maxLen ∧ l1.length * 48 ≤ 140737488351232 ∧ ∀ x ∈ l1, G x) (w2 : a2.size ≤ 140737488351232) : ∃ k, gonglaw08_PduFind.f k l0 l1 a2 = some true := by
  refine ⟨120001, ?_⟩
  have hl0 : l0.length ≤ 140737488351232 := by have := w0.2.1; omega
  have hl1 : l1.length ≤ 140737488351232 := by have := w1.2.1; omega
  unfold gonglaw08_PduFind.f
  rw [works_at _ (by decide)]
  obtain ⟨b0, h0, e0⟩ := small_at l0 120001 (by decide)
  obtain ⟨b1, h1, e1⟩ := small_at l1 120001 (by decide)
  rw [h0, h1]
  simp only [Option.bind_some]
  rw [if_pos trivial]
  cases b0 with
  | false => rw [if_neg Bool.false_ne_true]; exact yes_at l0 l1 a2 120000
  | true =>
    rw [if_pos rfl]
    cases b1 with
    | false => rw [if_neg Bool.false_ne_true]; exact yes_at l0 l1 a2 120000
    | true =>
      rw [if_pos rfl]
      by_cases c : (a2.size : Int) > 1000
      · rw [if_pos c]; exact yes_at l0 l1 a2 120000
      · rw [if_neg c]
        by_cases c2 : wrap64 ((l0.length : Int) + (l1.length : Int)) > 80
        · rw [decide_eq_true c2]; exact yes_at l0 l1 a2 120000
        · rw [decide_eq_false c2]
          have hw : wrap64 ((l0.length : Int) + (l1.length : Int)) = (l0.length : Int) + (l1.length : Int) := by unfold wrap64; omega
          rw [hw] at c2
          exact main_at l0 l1 a2 (by omega) (e0.1 rfl) (e1.1 rfl) (by omega) 120000 (by decide)
end Go.Proofs.YtjfimileopbadaaGreatDoor.Pure
