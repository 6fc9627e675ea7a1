/- The plain texts behind the law, one after the other. -/
import Derived.Test.YtjfimileopbadaaGreatDoorXVaRx
import Derived.Lib.ItoaNum
import Derived.Lib.AtoiAll
import Derived.Lib.SplitLaws
import Derived.Lib.IndexBytes
import Derived.Lib.Join
import Derived.Lib.SlTrimSet
/- Numbers as decimal digits, and texts cut at a byte: plain lists. -/
namespace Go.Proofs.YtjfimileopbadaaGreatDoor.DecS
open Go
set_option linter.unusedVariables false
set_option linter.unusedSimpArgs false
theorem snoc_ind {α : Type} {P : List α → Prop} (h0 : P []) (h1 : ∀ l b, P l → P (l ++ [b])) : ∀ l, P l := by
  intro l
  have : ∀ (n : Nat) (l : List α), l.length = n → P l := by
    intro n
    induction n with
    | zero => intro l h; rw [List.eq_nil_of_length_eq_zero h]; exact h0
    | succ n ih =>
      intro l h
      have hn : l ≠ [] := by rintro rfl; simp at h
      rw [← List.dropLast_concat_getLast hn]
      exact h1 _ _ (ih _ (by rw [List.length_dropLast, h]; rfl))
  exact this _ l rfl
theorem head_app {α : Type} {l : List α} (h : l ≠ []) (m : List α) : (l ++ m).head? = l.head? := by
  cases l with
  | nil => exact absurd rfl h
  | cons a l => rfl
theorem dw_nil {α : Type} {p : α → Bool} : ∀ {l : List α}, l.dropWhile p = [] ↔ ∀ x ∈ l, p x = true
  | [] => by simp
  | a :: l => by
    rw [List.dropWhile_cons]
    by_cases h : p a = true
    · rw [if_pos h, dw_nil]
      simp [h]
    · rw [if_neg h]
      simp [h]
theorem tw_mem {α : Type} {p : α → Bool} {x : α} : ∀ {l : List α}, x ∈ l.takeWhile p → p x = true
  | [], h => by simp at h
  | a :: l, h => by
    rw [List.takeWhile_cons] at h
    by_cases ha : p a = true
    · rw [if_pos ha, List.mem_cons] at h
      rcases h with rfl | h
      · exact ha
      · exact tw_mem h
    · rw [if_neg ha] at h
      simp at h
/-- A digit. -/
def isD (b : UInt8) : Bool := decide (48 ≤ b.toNat ∧ b.toNat ≤ 57)
/-- What digits tell. -/
def val (l : List UInt8) : Nat := l.foldl (fun a b => a * 10 + (b.toNat - 48)) 0
theorem val_snoc (l : List UInt8) (b : UInt8) : val (l ++ [b]) = val l * 10 + (b.toNat - 48) := by simp [val]
/-- Digits without a nought ahead. -/
structure Canon (l : List UInt8) : Prop where
  ne : l ≠ []
  dig : ∀ b ∈ l, isD b = true
  hd : 1 < l.length → l.head? ≠ some 48
theorem digit_byte (u : Nat) (h : u < 10) : (UInt8.ofNat (48 + u)).toNat = 48 + u := by
  rw [UInt8.toNat_ofNat']
  omega
theorem isD_byte (u : Nat) (h : u < 10) : isD (UInt8.ofNat (48 + u)) = true := by
  unfold isD
  rw [digit_byte u h]
  simp
  omega
theorem isD_iff {b : UInt8} (h : isD b = true) : 48 ≤ b.toNat ∧ b.toNat ≤ 57 := by simpa [isD] using h
theorem byte_of {b : UInt8} (h : isD b = true) : UInt8.ofNat (48 + (b.toNat - 48)) = b := by
  have := isD_iff h
  rw [show 48 + (b.toNat - 48) = b.toNat from by omega, UInt8.ofNat_toNat]
theorem dd_step (u : Nat) (h : ¬ u < 10) : Lib.decDigits u = Lib.decDigits (u / 10) ++ [UInt8.ofNat (48 + u % 10)] := by
  conv => lhs; rw [Lib.decDigits, dif_neg h]
theorem dd_one (u : Nat) (h : u < 10) : Lib.decDigits u = [UInt8.ofNat (48 + u)] := by rw [Lib.decDigits, dif_pos h]
theorem val_dd : ∀ u : Nat, val (Lib.decDigits u) = u := by
  intro u
  induction u using Nat.strongRecOn with
  | _ u ih =>
    by_cases h : u < 10
    · rw [dd_one u h, show val [UInt8.ofNat (48 + u)] = 0 * 10 + ((UInt8.ofNat (48 + u)).toNat - 48) from rfl, digit_byte u h]
      omega
    · rw [dd_step u h, val_snoc, ih (u / 10) (by omega), digit_byte _ (by omega)]
      omega
theorem dd_ne (u : Nat) : Lib.decDigits u ≠ [] := by
  rw [Lib.decDigits]
  split <;> simp
theorem dd_head : ∀ u : Nat, 10 ≤ u → (Lib.decDigits u).head? ≠ some 48 := by
  intro u
  induction u using Nat.strongRecOn with
  | _ u ih =>
    intro h
    rw [dd_step u (by omega), head_app (dd_ne _)]
    by_cases h2 : u / 10 < 10
    · rw [dd_one _ h2]
      simp only [List.head?_cons, ne_eq, Option.some.injEq]
      intro e
      have := digit_byte (u / 10) h2
      rw [e] at this
      have e48 : (48 : UInt8).toNat = 48 := rfl
      omega
    · exact ih (u / 10) (by omega) (by omega)
theorem dd_dig : ∀ u : Nat, ∀ b ∈ Lib.decDigits u, isD b = true := by
  intro u
  induction u using Nat.strongRecOn with
  | _ u ih =>
    intro b hb
    by_cases h : u < 10
    · rw [dd_one u h, List.mem_singleton] at hb
      rw [hb]; exact isD_byte u h
    · rw [dd_step u h, List.mem_append, List.mem_singleton] at hb
      rcases hb with hb | hb
      · exact ih (u / 10) (by omega) b hb
      · rw [hb]; exact isD_byte _ (by omega)
theorem dd_canon (u : Nat) : Canon (Lib.decDigits u) := by
  refine ⟨dd_ne u, dd_dig u, fun h => ?_⟩
  by_cases h2 : u < 10
  · rw [dd_one u h2] at h; simp at h
  · exact dd_head u (by omega)
theorem val_pos {l : List UInt8} (hd : ∀ b ∈ l, isD b = true) (hh : l.head? ≠ some 48) (hn : l ≠ []) : 0 < val l := by
  induction l using snoc_ind with
  | h0 => exact absurd rfl hn
  | h1 l b ih =>
    rw [val_snoc]
    by_cases h0 : l = []
    · subst h0
      have h1 := isD_iff (hd b (by simp))
      have h2 : b.toNat ≠ 48 := fun e => by
        apply hh
        have : b = 48 := UInt8.toNat_inj.1 e
        rw [this]; rfl
      omega
    · have := ih (fun x hx => hd x (by simp [hx])) (by rwa [head_app h0] at hh) h0
      omega
theorem dd_val {l : List UInt8} (h : Canon l) : Lib.decDigits (val l) = l := by
  induction l using snoc_ind with
  | h0 => exact absurd rfl h.ne
  | h1 l b ih =>
    have hb := h.dig b (by simp)
    have h1 := isD_iff hb
    rw [val_snoc]
    by_cases h0 : l = []
    · subst h0
      rw [show val [] = 0 from rfl, Nat.zero_mul, Nat.zero_add, dd_one _ (by omega), byte_of hb]
      rfl
    · have hdl : ∀ x ∈ l, isD x = true := fun x hx => h.dig x (by simp [hx])
      have hl : 1 < (l ++ [b]).length := by
        have := List.length_pos_iff.2 h0
        simp only [List.length_append, List.length_cons, List.length_nil]
        omega
      have hh := h.hd hl
      rw [head_app h0] at hh
      have hp := val_pos hdl hh h0
      have hc : Canon l := ⟨h0, hdl, fun _ => hh⟩
      rw [dd_step _ (by omega), show (val l * 10 + (b.toNat - 48)) / 10 = val l from by omega, show (val l * 10 + (b.toNat - 48)) % 10 = b.toNat - 48 from by omega, ih hc, byte_of hb]
theorem val_lt {l : List UInt8} (h : ∀ b ∈ l, isD b = true) : val l < 10 ^ l.length := by
  induction l using snoc_ind with
  | h0 => simp [val]
  | h1 l b ih =>
    have h1 := isD_iff (h b (by simp))
    have := ih (fun x hx => h x (by simp [hx]))
    rw [val_snoc, List.length_append, List.length_cons, List.length_nil, Nat.pow_succ]
    omega
theorem parse_digits : ∀ (l : List UInt8) (acc : Nat), (∀ b ∈ l, isD b = true) → acc * 10 ^ l.length + 10 ^ l.length ≤ 1000000000000000000 → Lib.parseUint10 acc l = .ok (l.foldl (fun a b => a * 10 + (b.toNat - 48)) acc)
  | [], acc, _, _ => rfl
  | b :: l, acc, hd, hb => by
    have h1 := isD_iff (hd b (by simp))
    have hp : 1 ≤ 10 ^ l.length := Nat.pow_pos (by decide)
    rw [List.length_cons, Nat.pow_succ] at hb
    have h2 : acc * 10 + 10 ≤ 1000000000000000000 := by
      have h3 : (acc * 10 + 10) * 1 ≤ (acc * 10 + 10) * 10 ^ l.length := Nat.mul_le_mul_left _ hp
      have h4 : (acc * 10 + 10) * 10 ^ l.length = acc * (10 ^ l.length * 10) + 10 ^ l.length * 10 := by
        rw [Nat.add_mul, Nat.mul_assoc, Nat.mul_comm 10 (10 ^ l.length)]
      omega
    unfold Lib.parseUint10
    rw [if_pos h1, if_neg (by omega), if_neg (by omega)]
    refine parse_digits l _ (fun x hx => hd x (by simp [hx])) ?_
    have h5 : (acc * 10 + (b.toNat - 48)) * 10 ^ l.length + 10 ^ l.length ≤ acc * (10 ^ l.length * 10) + 10 ^ l.length * 10 := by
      have h6 : (b.toNat - 48) * 10 ^ l.length ≤ 9 * 10 ^ l.length := Nat.mul_le_mul_right _ (by omega)
      rw [Nat.add_mul, Nat.mul_assoc, Nat.mul_comm 10 (10 ^ l.length)]
      omega
    omega
theorem atoi_digits {l : List UInt8} (hd : ∀ b ∈ l, isD b = true) (hn : l ≠ []) (hl : l.length ≤ 17) : Lib.atoiAll l = .ok (val l : Int) := by
  cases l with
  | nil => exact absurd rfl hn
  | cons c r =>
    have h1 := isD_iff (hd c (by simp))
    have hp : (10 : Nat) ^ (c :: r).length ≤ 10 ^ 17 := Nat.pow_le_pow_right (by decide) hl
    have hpm : Lib.parseMag (c :: r) = .ok (val (c :: r)) := by
      unfold Lib.parseMag
      rw [if_neg (by simp)]
      exact parse_digits (c :: r) 0 hd (by rw [Nat.zero_mul, Nat.zero_add]; exact Nat.le_trans hp (by decide))
    have hv := val_lt hd
    unfold Lib.atoiAll
    simp only
    rw [if_neg (by omega), hpm]
    simp only
    have h45 : ¬ c.toNat = 45 := by omega
    have hlt : val (c :: r) < 10 ^ 17 := Nat.lt_of_lt_of_le hv hp
    rw [if_neg (by rintro ⟨_, h⟩; omega), if_neg (by rintro ⟨h, _⟩; exact h45 h), if_neg h45]
/-- All digits: nothing is left by Trim. -/
theorem trim_nil {l : List UInt8} : Lib.trimS l [48, 49, 50, 51, 52, 53, 54, 55, 56, 57] = [] ↔ ∀ b ∈ l, isD b = true := by
  have hc : ∀ b : UInt8, ([48, 49, 50, 51, 52, 53, 54, 55, 56, 57] : List UInt8).contains b = isD b := by
    have : ∀ n : Fin 256, ([48, 49, 50, 51, 52, 53, 54, 55, 56, 57] : List UInt8).contains (UInt8.ofNat n.val) = isD (UInt8.ofNat n.val) := by decide +kernel
    intro b
    have h := this ⟨b.toNat, b.toNat_lt⟩
    rw [UInt8.ofNat_toNat] at h
    exact h
  have hf : (fun b : UInt8 => ([48, 49, 50, 51, 52, 53, 54, 55, 56, 57] : List UInt8).contains b) = isD := funext hc
  unfold Lib.trimS Lib.trimLeftS Lib.trimRightS
  rw [hf]
  constructor
  · intro h b hb
    have h1 : ∀ x ∈ (l.reverse.dropWhile isD).reverse, isD x = true := by
      intro x hx
      have := dw_nil.1 h
      exact this x hx
    by_cases hm : b ∈ l.reverse.dropWhile isD
    · exact h1 b (List.mem_reverse.2 hm)
    · have hs := List.takeWhile_append_dropWhile (p := isD) (l := l.reverse)
      have hb2 : b ∈ l.reverse.takeWhile isD ++ l.reverse.dropWhile isD := by rw [hs]; exact List.mem_reverse.2 hb
      rcases List.mem_append.1 hb2 with hb3 | hb3
      · exact tw_mem hb3
      · exact absurd hb3 hm
  · intro h
    have h1 : l.reverse.dropWhile isD = [] := dw_nil.2 (fun x hx => h x (List.mem_reverse.1 hx))
    rw [h1]
    rfl
end Go.Proofs.YtjfimileopbadaaGreatDoor.DecS
/- Texts cut at a byte, and put together again: plain lists. -/
namespace Go.Proofs.YtjfimileopbadaaGreatDoor.DecS
open Go
set_option linter.unusedVariables false
set_option linter.unusedSimpArgs false
def splitL (c : UInt8) : List UInt8 → List (List UInt8)
  | [] => [[]]
  | b :: l => if b = c then [] :: splitL c l else (match splitL c l with
    | [] => [[b]]
    | w :: ws => (b :: w) :: ws)
def joinL (c : UInt8) : List (List UInt8) → List UInt8
  | [] => []
  | [w] => w
  | w :: v :: ws => w ++ c :: joinL c (v :: ws)
theorem splitL_cons (c : UInt8) (l : List UInt8) : ∃ w ws, splitL c l = w :: ws := by
  cases l with
  | nil => exact ⟨[], [], rfl⟩
  | cons b l =>
    unfold splitL
    split
    · exact ⟨_, _, rfl⟩
    · split <;> exact ⟨_, _, rfl⟩
theorem splitL_sep (c : UInt8) (l : List UInt8) : splitL c (c :: l) = [] :: splitL c l := by
  rw [splitL, if_pos rfl]
theorem splitL_other {c b : UInt8} (h : b ≠ c) {l : List UInt8} {w : List UInt8} {ws : List (List UInt8)} (hl : splitL c l = w :: ws) : splitL c (b :: l) = (b :: w) :: ws := by
  rw [splitL, if_neg h, hl]
theorem join_split (c : UInt8) : ∀ l : List UInt8, joinL c (splitL c l) = l
  | [] => rfl
  | b :: l => by
    obtain ⟨w, ws, hw⟩ := splitL_cons c l
    have ih := join_split c l
    rw [hw] at ih
    by_cases h : b = c
    · subst h
      rw [splitL_sep, hw]
      show [] ++ b :: joinL b (w :: ws) = _
      rw [ih]; rfl
    · rw [splitL_other h hw]
      cases ws with
      | nil => show b :: w = b :: l; rw [show joinL c [w] = w from rfl] at ih; rw [ih]
      | cons v ws =>
        show (b :: w) ++ c :: joinL c (v :: ws) = b :: l
        rw [show joinL c (w :: v :: ws) = w ++ c :: joinL c (v :: ws) from rfl] at ih
        rw [List.cons_append, ih]
theorem split_free (c : UInt8) : ∀ (l : List UInt8), ∀ w ∈ splitL c l, c ∉ w
  | [], w, hw => by
    rw [splitL, List.mem_singleton] at hw
    rw [hw]; simp
  | b :: l, w, hw => by
    obtain ⟨v, vs, hv⟩ := splitL_cons c l
    have ih := split_free c l
    by_cases h : b = c
    · subst h
      rw [splitL_sep, List.mem_cons] at hw
      rcases hw with rfl | hw
      · simp
      · exact ih w hw
    · rw [splitL_other h hv, List.mem_cons] at hw
      rcases hw with rfl | hw
      · have := ih v (by rw [hv]; simp)
        simp only [List.mem_cons, not_or]
        exact ⟨fun e => h e.symm, this⟩
      · exact ih w (by rw [hv]; simp [hw])
theorem split_app (c : UInt8) : ∀ (w l : List UInt8), c ∉ w → splitL c (w ++ c :: l) = w :: splitL c l
  | [], l, _ => splitL_sep c l
  | b :: w, l, h => by
    simp only [List.mem_cons, not_or] at h
    exact splitL_other (fun e => h.1 e.symm) (split_app c w l h.2)
theorem split_none (c : UInt8) : ∀ (w : List UInt8), c ∉ w → splitL c w = [w]
  | [], _ => rfl
  | b :: w, h => by
    simp only [List.mem_cons, not_or] at h
    exact splitL_other (fun e => h.1 e.symm) (split_none c w h.2)
theorem split_join (c : UInt8) : ∀ (ws : List (List UInt8)), ws ≠ [] → (∀ w ∈ ws, c ∉ w) → splitL c (joinL c ws) = ws
  | [], h, _ => absurd rfl h
  | [w], _, h => split_none c w (h w (by simp))
  | w :: v :: ws, _, h => by
    show splitL c (w ++ c :: joinL c (v :: ws)) = _
    rw [split_app c w _ (h w (by simp)), split_join c (v :: ws) (by simp) (fun x hx => h x (by simp only [List.mem_cons] at hx ⊢; exact .inr hx))]
theorem split_len (c : UInt8) : ∀ l : List UInt8, (splitL c l).length = l.count c + 1
  | [] => rfl
  | b :: l => by
    obtain ⟨v, vs, hv⟩ := splitL_cons c l
    have ih := split_len c l
    by_cases h : b = c
    · subst h
      rw [splitL_sep, List.length_cons, ih, List.count_cons_self]
    · rw [splitL_other h hv, List.length_cons, List.count_cons_of_ne h, ← ih, hv, List.length_cons]
theorem lib_join (c : UInt8) : ∀ ws : List (List UInt8), Lib.join ws [c] = joinL c ws
  | [] => rfl
  | [w] => Lib.join_one w [c]
  | w :: v :: ws => by
    have ih := lib_join c (v :: ws)
    show _ = w ++ c :: joinL c (v :: ws)
    rw [← ih, Lib.join_cons, Lib.join_cons]
    simp [Lib.joinTail]
theorem splitK_one (c : UInt8) : ∀ (l : List UInt8), Lib.splitK [c] 0 (l.count c) l = splitL c l
  | [] => rfl
  | b :: l => by
    have ih := splitK_one c l
    obtain ⟨v, vs, hv⟩ := splitL_cons c l
    by_cases h : b = c
    · subst h
      rw [List.count_cons_self, splitL_sep]
      have hx : Lib.index (b :: l) [b] = 0 := by rw [Lib.index_one, Lib.indexByte, if_pos (by simp)]
      unfold Lib.splitK
      rw [hx, if_neg (by decide)]
      show [] :: Lib.splitK [b] 0 (l.count b) l = _
      rw [ih]
    · rw [List.count_cons_of_ne h, splitL_other h hv]
      have hx : Lib.index (b :: l) [c] = if Lib.index l [c] == -1 then -1 else Lib.index l [c] + 1 := by
        rw [Lib.index_one, Lib.index_one, Lib.indexByte, if_neg (by simpa using h)]
      cases hk : l.count c with
      | zero =>
        rw [hk] at ih
        have e : [l] = splitL c l := ih
        rw [hv] at e
        injection e with e1 e2
        show [b :: l] = _
        rw [e1, ← e2]
      | succ k =>
        rw [hk] at ih
        unfold Lib.splitK at ih ⊢
        by_cases hm : Lib.index l [c] = -1
        · have hx2 : Lib.index (b :: l) [c] = -1 := by rw [hx, hm]; rfl
          rw [hx2, if_pos (by decide)]
          rw [hm, if_pos (by decide), hv] at ih
          injection ih with e1 e2
          rw [e1, ← e2]
        · have hge := Lib.index_ge l [c]
          obtain ⟨j, hj⟩ : ∃ j : Nat, Lib.index l [c] = j := ⟨(Lib.index l [c]).toNat, by omega⟩
          have n1 : ((j : Int) == -1) = false := beq_eq_false_iff_ne.mpr (by omega)
          have n2 : ((j : Int) + 1 == -1) = false := beq_eq_false_iff_ne.mpr (by omega)
          have hx2 : Lib.index (b :: l) [c] = (j : Int) + 1 := by rw [hx, hj, n1]; rfl
          rw [hj, n1, if_neg (by decide), hv] at ih
          rw [hx2, n2, if_neg (by decide)]
          injection ih with e1 e2
          have t1 : ((j : Int) + 1).toNat = j + 1 := by omega
          rw [t1]
          simp only [Int.toNat_natCast, Nat.add_zero, List.length_cons, List.length_nil, Nat.zero_add] at e1 e2 ⊢
          rw [show j + 1 + 1 = (j + 1) + 1 from rfl, List.take_succ_cons, List.drop_succ_cons, e1, e2]
end Go.Proofs.YtjfimileopbadaaGreatDoor.DecS
/- Layer 6: what Arcs, Text, Less, Within, Child and Rest answer, over lists. -/
namespace Go.Proofs.YtjfimileopbadaaGreatDoor.OidS
open Go.RowKit Gong Go.Proofs.YtjfimileopbadaaGreatDoor.XVaR Go.Proofs.YtjfimileopbadaaGreatDoor.DecS Go.Proofs.YtjfimileopbadaaGreatDoorW.PrintWords Go.Proofs.YtjfimileopbadaaGreatDoorW.PrintLast Go.Proofs.YtjfimileopbadaaGreatDoorW.PrintMore
set_option linter.unusedVariables false
set_option linter.unusedSimpArgs false
theorem leo_le {α : Type} {f : Nat → Option α} (hm : ∀ k, LeO (f k) (f (k + 1))) {a b : Nat} (h : a ≤ b) {r : α} (hr : f a = some r) : f b = some r := by
  induction h with
  | refl => exact hr
  | step _ ih => exact hm _ _ ih
theorem wrap_id {x : Int} (h1 : -9223372036854775808 ≤ x) (h2 : x ≤ 9223372036854775807) : wrap64 x = x := by unfold wrap64; omega
theorem wrap_succ (i : Nat) (h : i ≤ 4611686018427387904) : wrap64 ((i : Int) + 1) = ((i + 1 : Nat) : Int) := by unfold wrap64; omega
def L (s : ByteArray) : List UInt8 := s.data.toList
def Bs (l : List UInt8) : ByteArray := ⟨l.toArray⟩
theorem L_Bs (l : List UInt8) : L (Bs l) = l := by simp [L, Bs]
theorem Bs_L (s : ByteArray) : Bs (L s) = s := by cases s; simp [L, Bs]
theorem L_inj {a b : ByteArray} (h : L a = L b) : a = b := by rw [← Bs_L a, h, Bs_L]
theorem L_len (s : ByteArray) : (L s).length = s.size := by simp [L]
theorem toList_L (s : ByteArray) : s.toList = L s := Go.ByteArray.toList_eq s
/-- An arc; below 0: it is none. -/
def arcOf (w : List UInt8) : Int := if w ≠ [] ∧ w.length ≤ 10 ∧ ¬ (1 < w.length ∧ w.head? = some 48) ∧ w.all isD = true then (val w : Int) else -1
theorem arcOf_canon {w : List UInt8} (h : 0 ≤ arcOf w) : Canon w ∧ arcOf w = (val w : Int) ∧ w.length ≤ 10 := by
  unfold arcOf at h ⊢
  by_cases c : w ≠ [] ∧ w.length ≤ 10 ∧ ¬ (1 < w.length ∧ w.head? = some 48) ∧ w.all isD = true
  · rw [if_pos c]
    obtain ⟨c1, c2, c3, c4⟩ := c
    exact ⟨⟨c1, fun b hb => List.all_eq_true.1 c4 b hb, fun h1 e => c3 ⟨h1, e⟩⟩, rfl, c2⟩
  · rw [if_neg c] at h
    omega
theorem dd_short : ∀ (n : Nat), n < 10000000000 → (Lib.decDigits n).length ≤ 10 := by
  have key : ∀ (m n : Nat), n < 10 ^ (m + 1) → (Lib.decDigits n).length ≤ m + 1 := by
    intro m
    induction m with
    | zero => intro n h; rw [dd_one n (by omega)]; exact Nat.le_refl _
    | succ m ih =>
      intro n h
      by_cases c : n < 10
      · rw [dd_one n c]; simp
      · rw [dd_step n c, List.length_append]
        have := ih (n / 10) (by rw [Nat.pow_succ] at h; omega)
        simp only [List.length_cons, List.length_nil]
        omega
  intro n h
  exact key 9 n h
theorem arcOf_dd (n : Nat) (h : n < 10000000000) : arcOf (Lib.decDigits n) = (n : Int) := by
  have hc := dd_canon n
  unfold arcOf
  rw [if_pos ⟨hc.ne, dd_short n h, fun h1 => hc.hd h1.1 h1.2, List.all_eq_true.2 hc.dig⟩, val_dd]
theorem dd_arcOf {w : List UInt8} (h : 0 ≤ arcOf w) : Lib.decDigits (arcOf w).toNat = w := by
  obtain ⟨hc, e, _⟩ := arcOf_canon h
  rw [e, Int.toNat_natCast]
  exact dd_val hc
theorem bt_head (s : ByteArray) (h : 0 < s.size) : bt s 0 = 48 ↔ (L s).head? = some 48 := by
  have h1 : bt s 0 = ((s[0]'h).toNat : Int) := (bt_at s 0 h).symm
  have h2 : (L s).head? = some (s[0]'h) := by
    have h3 : 0 < (L s).length := by rw [L_len]; exact h
    rw [List.head?_eq_getElem?, List.getElem?_eq_getElem h3]
    rfl
  rw [h1, h2]
  constructor
  · intro e
    rw [Option.some.injEq]
    exact UInt8.toNat_inj.1 (by have e48 : (48 : UInt8).toNat = 48 := rfl; omega)
  · intro e
    rw [Option.some.injEq] at e
    rw [e]; rfl
theorem arc_eq (s : ByteArray) : oid_arc.f s = some (arcOf (L s)) := by
  have hl := L_len s
  unfold oid_arc.f arcOf
  by_cases c0 : s.size = 0
  · rw [if_pos c0, if_neg (fun h => h.1 (List.eq_nil_of_length_eq_zero (by omega)))]
  · rw [if_neg c0]
    by_cases c1 : 10 < s.size
    · rw [if_pos c1, if_neg (fun h => by have := h.2.1; omega)]
    · rw [if_neg c1]
      by_cases c2 : 1 < s.size ∧ bt s 0 = 48
      · rw [if_pos c2, if_neg (fun h => h.2.2.1 ⟨by omega, (bt_head s (by omega)).1 c2.2⟩)]
      · rw [if_neg c2]
        by_cases c3 : Lib.trimS s.data.toList [48, 49, 50, 51, 52, 53, 54, 55, 56, 57] = []
        · rw [if_pos c3]
          have hd := trim_nil.1 c3
          have hne : L s ≠ [] := fun e => by rw [e] at hl; simp at hl; omega
          have ha : Lib.atoiAll s.data.toList = .ok (val (L s) : Int) := atoi_digits hd hne (by show (L s).length ≤ 17; omega)
          rw [ha, if_pos ⟨hne, by omega, fun h => c2 ⟨by omega, (bt_head s (by omega)).2 h.2⟩, List.all_eq_true.2 hd⟩]
        · rw [if_neg c3, if_neg (fun h => c3 (trim_nil.2 (List.all_eq_true.1 h.2.2.2)))]
/-- Are arcs an identifier's? -/
def heads : List Int → Bool
  | a :: b :: _ => decide ((a < 2 ∧ b < 40) ∨ (a = 2 ∧ b ≤ 4294967215))
  | _ => false
def isS (l : List Int) : Bool := decide (2 ≤ l.length) && decide (l.length ≤ 128) && l.all (fun x => decide (0 ≤ x ∧ x ≤ 4294967295)) && heads l
theorem rd_get (l : List Int) (i : Nat) (h : i < l.length) : rd l (i : Int) = l[i]'h := by
  unfold rd
  rw [Int.toNat_natCast, List.getD_eq_getElem?_getD, List.getElem?_eq_getElem h]
  rfl
theorem is_loop (l : List Int) (h2 : 2 ≤ l.length) (h3 : l.length ≤ 128) : ∀ (d i k : Nat), i + d = l.length → d < k →
    oid_is.l0 k l l (l.length : Int) (i : Int) = some ((l.drop i).all (fun x => decide (0 ≤ x ∧ x ≤ 4294967295)) && heads l) := by
  intro d
  induction d with
  | zero =>
    intro i k hi hk
    obtain ⟨k, rfl⟩ : ∃ m, k = m + 1 := ⟨k - 1, by omega⟩
    simp only [oid_is.l0]
    have e : l.drop i = [] := List.drop_eq_nil_of_le (by omega)
    rw [if_neg (by omega), e]
    match l, h2 with
    | a :: b :: r, _ =>
      have r0 : rd (a :: b :: r) 0 = a := rfl
      have r1 : rd (a :: b :: r) 1 = b := rfl
      rw [r0, r1, if_pos (by simp only [List.length_cons]; omega)]
      simp only [List.all_nil, Bool.true_and, heads]
      by_cases c : a < 2
      · rw [if_pos c, if_pos (by simp only [List.length_cons]; omega)]
        congr 1
        rw [Bool.eq_iff_iff]
        simp only [decide_eq_true_eq]
        omega
      · rw [if_neg c]
        by_cases c2 : a = 2
        · rw [if_pos c2, if_pos (by simp only [List.length_cons]; omega)]
          congr 1
          rw [Bool.eq_iff_iff]
          simp only [decide_eq_true_eq]
          omega
        · rw [if_neg c2]
          congr 1
          rw [eq_comm, decide_eq_false_iff_not]
          omega
  | succ d ih =>
    intro i k hi hk
    obtain ⟨k, rfl⟩ : ∃ m, k = m + 1 := ⟨k - 1, by omega⟩
    have hlt : i < l.length := by omega
    simp only [oid_is.l0]
    rw [if_pos (by omega), if_pos (by omega), if_pos (by omega), rd_get l i hlt, List.drop_eq_getElem_cons hlt, List.all_cons]
    by_cases c1 : l[i] < 0
    · rw [if_pos c1, decide_eq_false (by omega)]
      rfl
    · rw [if_neg c1]
      by_cases c2 : l[i] > 4294967295
      · rw [if_pos c2, decide_eq_false (by omega)]
        rfl
      · rw [if_neg c2, wrap_succ i (by omega), decide_eq_true (by omega), Bool.true_and]
        exact ih (i + 1) k (by omega) (by omega)
theorem is_eq (l : List Int) (k : Nat) (hk : 200 ≤ k) : oid_is.f k l = some (isS l) := by
  obtain ⟨k, rfl⟩ : ∃ m, k = m + 1 := ⟨k - 1, by omega⟩
  unfold oid_is.f isS
  by_cases c1 : (l.length : Int) < 2
  · rw [if_pos c1]
    simp only [oid_is.j0, if_true]
    rw [decide_eq_false (by omega)]
    rfl
  · rw [if_neg c1, decide_eq_true (show 2 ≤ l.length by omega)]
    by_cases c2 : (l.length : Int) > 128
    · rw [decide_eq_true c2, decide_eq_false (show ¬ l.length ≤ 128 by omega)]
      simp only [oid_is.j0, if_true]
      rfl
    · rw [decide_eq_false c2, decide_eq_true (show l.length ≤ 128 by omega)]
      simp only [oid_is.j0]
      rw [if_neg (by decide)]
      have := is_loop l (by omega) (by omega) l.length 0 k (by omega) (by omega)
      rw [Int.natCast_zero] at this
      rw [this]
      rfl
end Go.Proofs.YtjfimileopbadaaGreatDoor.OidS
/- Layer 6: Arcs and Text, there and back. -/
namespace Go.Proofs.YtjfimileopbadaaGreatDoor.OidS
open Go.RowKit Gong Go.Proofs.YtjfimileopbadaaGreatDoor.XVaR Go.Proofs.YtjfimileopbadaaGreatDoor.DecS Go.Proofs.YtjfimileopbadaaGreatDoorW.PrintWords Go.Proofs.YtjfimileopbadaaGreatDoorW.PrintLast Go.Proofs.YtjfimileopbadaaGreatDoorW.PrintMore
set_option linter.unusedVariables false
set_option linter.unusedSimpArgs false
/-- The arcs of a text. -/
def arcsS (s : List UInt8) : Option (List Int) := if s.count 46 < 128 ∧ isS ((splitL 46 s).map arcOf) = true then some ((splitL 46 s).map arcOf) else none
def arcsR (s : List UInt8) : List Int × Int := match arcsS s with
  | some l => (l, 0)
  | none => ([], 60)
theorem rdOf_get (l : List ByteArray) (i : Nat) (h : i < l.length) : rdOf ByteArray.empty l (i : Int) = l[i]'h := by
  unfold rdOf
  rw [Int.toNat_natCast, List.getD_eq_getElem?_getD, List.getElem?_eq_getElem h]
  rfl
theorem arcs_loop (W : List ByteArray) (hW : W.length ≤ 128) : ∀ (d i k : Nat), i + d = W.length → d + 300 ≤ k →
    oid_Arcs.l0 k ((W.take i).map fun w => arcOf (L w)) W (W.length : Int) (i : Int) = some (if isS (W.map fun w => arcOf (L w)) = true then (W.map fun w => arcOf (L w), 0) else ([], 60)) := by
  intro d
  induction d with
  | zero =>
    intro i k hi hk
    obtain ⟨k, rfl⟩ : ∃ m, k = m + 1 := ⟨k - 1, by omega⟩
    simp only [oid_Arcs.l0]
    rw [if_neg (by omega), List.take_of_length_le (by omega), is_eq _ k (by omega)]
    simp only [Option.bind_some]
    split <;> rfl
  | succ d ih =>
    intro i k hi hk
    obtain ⟨k, rfl⟩ : ∃ m, k = m + 1 := ⟨k - 1, by omega⟩
    have hlt : i < W.length := by omega
    simp only [oid_Arcs.l0]
    rw [if_pos (by omega), if_pos (by omega), if_pos (by omega), rdOf_get W i hlt, arc_eq]
    simp only [Option.bind_some]
    have hl : ((W.take i).map fun w => arcOf (L w)).length = i := by rw [List.length_map, List.length_take]; omega
    rw [if_pos (by omega), wrap_succ i (by omega)]
    have e : ((W.take i).map fun w => arcOf (L w)) ++ [arcOf (L W[i])] = (W.take (i + 1)).map fun w => arcOf (L w) := by
      rw [List.take_succ_eq_append_getElem hlt, List.map_append]
      rfl
    rw [e]
    exact ih (i + 1) k (by omega) (by omega)
theorem count_eq (a : ByteArray) : strings_Count.f a (⟨#[46]⟩ : ByteArray) = some (((L a).count 46 : Nat) : Int) := rfl
theorem split_eq (a : ByteArray) (h : a.size ≤ 1000000000) : ∃ W : List ByteArray, strings_Split.f a (⟨#[46]⟩ : ByteArray) = some W ∧ W.map L = splitL 46 (L a) := by
  unfold strings_Split.f
  rw [if_pos ⟨by omega, by decide⟩]
  refine ⟨_, rfl, ?_⟩
  have h1 := Lib.splitB_data (⟨#[46]⟩ : ByteArray) 0 (Lib.countB a (⟨#[46]⟩ : ByteArray)) a
  have h2 : Lib.countB a (⟨#[46]⟩ : ByteArray) = (L a).count 46 := Lib.count_one 46 (L a)
  rw [h2] at h1 ⊢
  exact h1.trans (splitK_one 46 (L a))
theorem arcs_eq (a : ByteArray) (h : a.size ≤ 1000000000) (k : Nat) (hk : 500 ≤ k) : oid_Arcs.f k a = some (arcsR (L a)) := by
  unfold oid_Arcs.f
  rw [count_eq]
  simp only [Option.bind_some]
  by_cases c : (L a).count 46 < 128
  · rw [if_neg (by omega)]
    obtain ⟨W, hW, hm⟩ := split_eq a h
    rw [hW]
    simp only [Option.bind_some]
    have hl : W.length = (L a).count 46 + 1 := by rw [← split_len, ← hm, List.length_map]
    have := arcs_loop W (by omega) W.length 0 k (by omega) (by omega)
    rw [Int.natCast_zero] at this
    have e0 : ((W.take 0).map fun w => arcOf (L w)) = [] := rfl
    rw [e0] at this
    rw [this]
    have e1 : (W.map fun w => arcOf (L w)) = (splitL 46 (L a)).map arcOf := by rw [← hm, List.map_map]; rfl
    rw [e1]
    unfold arcsR arcsS
    by_cases c2 : isS ((splitL 46 (L a)).map arcOf) = true
    · rw [if_pos c2, if_pos ⟨c, c2⟩]
    · rw [if_neg c2, if_neg (fun h => c2 h.2)]
  · rw [if_pos (by omega)]
    unfold arcsR arcsS
    rw [if_neg (fun h => c h.1)]
/-- The text of arcs. -/
def putL (l : List Int) : List UInt8 := joinL 46 (l.map fun x => Lib.decDigits x.toNat)
theorem isS_parts {l : List Int} (h : isS l = true) : 2 ≤ l.length ∧ l.length ≤ 128 ∧ (∀ x ∈ l, 0 ≤ x ∧ x ≤ 4294967295) ∧ heads l = true := by
  unfold isS at h
  simp only [Bool.and_eq_true, decide_eq_true_eq, List.all_eq_true] at h
  exact ⟨h.1.1.1, h.1.1.2, h.1.2, h.2⟩
theorem dot_free (n : Nat) : (46 : UInt8) ∉ Lib.decDigits n := fun h => by
  have := dd_dig n 46 h
  exact absurd this (by decide)
theorem arcs_put {l : List Int} (h : isS l = true) : arcsS (putL l) = some l := by
  obtain ⟨h1, h2, h3, h4⟩ := isS_parts h
  have hs : splitL 46 (putL l) = l.map fun x => Lib.decDigits x.toNat := split_join 46 _ (by intro e; rw [List.map_eq_nil_iff] at e; rw [e] at h1; simp at h1) (fun w hw => by
    obtain ⟨x, _, rfl⟩ := List.mem_map.1 hw
    exact dot_free _)
  have hm : (splitL 46 (putL l)).map arcOf = l := by
    rw [hs, List.map_map]
    conv => rhs; rw [← List.map_id l]
    apply List.map_congr_left
    intro x hx
    have := h3 x hx
    show arcOf (Lib.decDigits x.toNat) = x
    rw [arcOf_dd _ (by omega)]
    omega
  have hc : (putL l).count 46 < 128 := by
    have := split_len 46 (putL l)
    rw [hs, List.length_map] at this
    omega
  unfold arcsS
  rw [hm, if_pos ⟨hc, h⟩]
theorem arcs_some {s : List UInt8} {l : List Int} (h : arcsS s = some l) : isS l = true ∧ putL l = s := by
  unfold arcsS at h
  by_cases c : s.count 46 < 128 ∧ isS ((splitL 46 s).map arcOf) = true
  · rw [if_pos c] at h
    injection h with h
    subst h
    refine ⟨c.2, ?_⟩
    obtain ⟨_, _, h3, _⟩ := isS_parts c.2
    unfold putL
    rw [List.map_map]
    have : (splitL 46 s).map ((fun x : Int => Lib.decDigits x.toNat) ∘ arcOf) = splitL 46 s := by
      conv => rhs; rw [← List.map_id (splitL 46 s)]
      apply List.map_congr_left
      intro w hw
      exact dd_arcOf (h3 _ (List.mem_map.2 ⟨w, hw, rfl⟩)).1
    rw [this, join_split]
  · rw [if_neg c] at h
    cases h
theorem arcsR_put {l : List Int} (h : isS l = true) : arcsR (putL l) = (l, 0) := by
  unfold arcsR
  rw [arcs_put h]
theorem putL_inj {l m : List Int} (hl : isS l = true) (hm : isS m = true) (h : putL l = putL m) : l = m := by
  have h1 := arcs_put hl
  rw [h, arcs_put hm] at h1
  injection h1 with h1
  exact h1.symm
theorem itoa_nat (n : Nat) (h : n ≤ 9223372036854775807) : strconv_Itoa.f (n : Int) = some (Bs (Lib.decDigits n)) := by
  unfold strconv_Itoa.f
  rw [if_pos (by omega)]
  unfold Lib.itoa
  rw [if_neg (by omega)]
  rfl
theorem joinL_len : ∀ ws : List (List UInt8), (∀ w ∈ ws, w.length ≤ 10) → (joinL 46 ws).length ≤ 11 * ws.length
  | [], _ => by simp [joinL]
  | [w], h => by have := h w (by simp); simp only [joinL, List.length_cons, List.length_nil]; omega
  | w :: v :: ws, h => by
    have h1 := h w (by simp)
    have h2 := joinL_len (v :: ws) (fun x hx => h x (by simp only [List.mem_cons] at hx ⊢; exact .inr hx))
    show (w ++ 46 :: joinL 46 (v :: ws)).length ≤ _
    simp only [List.length_append, List.length_cons] at h2 ⊢
    omega
theorem putL_len {l : List Int} (h : ∀ x ∈ l, 0 ≤ x ∧ x ≤ 4294967295) : (putL l).length ≤ 11 * l.length := by
  have := joinL_len (l.map fun x => Lib.decDigits x.toNat) (fun w hw => by
    obtain ⟨x, hx, rfl⟩ := List.mem_map.1 hw
    have := h x hx
    exact dd_short _ (by omega))
  rw [List.length_map] at this
  exact this
theorem put_loop (l : List Int) (hl : l.length ≤ 1000) (h : ∀ x ∈ l, 0 ≤ x ∧ x ≤ 4294967295) : ∀ (d i k : Nat), i + d = l.length → d < k →
    oid_put.l0 k ((l.take i).map fun x => Bs (Lib.decDigits x.toNat)) l (l.length : Int) (i : Int) = some (Bs (putL l)) := by
  intro d
  induction d with
  | zero =>
    intro i k hi hk
    obtain ⟨k, rfl⟩ : ∃ m, k = m + 1 := ⟨k - 1, by omega⟩
    simp only [oid_put.l0]
    rw [if_neg (by omega), List.take_of_length_le (by omega)]
    have e : ((l.map fun x => Bs (Lib.decDigits x.toNat)).map (·.data.toList)) = l.map fun x => Lib.decDigits x.toNat := by
      rw [List.map_map]
      apply List.map_congr_left
      intro x _
      exact L_Bs _
    have hp := putL_len h
    unfold strings_Join.f
    rw [e]
    have e2 : Lib.join (l.map fun x => Lib.decDigits x.toNat) (⟨#[46]⟩ : ByteArray).data.toList = putL l := lib_join 46 _
    rw [e2, if_pos ⟨by rw [List.length_map]; omega, by omega⟩]
    rfl
  | succ d ih =>
    intro i k hi hk
    obtain ⟨k, rfl⟩ : ∃ m, k = m + 1 := ⟨k - 1, by omega⟩
    have hlt : i < l.length := by omega
    have hx := h l[i] (List.getElem_mem hlt)
    simp only [oid_put.l0]
    rw [if_pos (by omega), if_pos (by omega), if_pos (by omega), rd_get l i hlt]
    have e0 : l[i] = ((l[i].toNat : Nat) : Int) := by omega
    have e1 : strconv_Itoa.f l[i] = some (Bs (Lib.decDigits l[i].toNat)) := by
      conv => lhs; rw [e0]
      exact itoa_nat _ (by omega)
    rw [e1]
    simp only [Option.bind_some]
    have hl2 : ((l.take i).map fun x => Bs (Lib.decDigits x.toNat)).length = i := by rw [List.length_map, List.length_take]; omega
    rw [if_pos (by omega), wrap_succ i (by omega)]
    have e : ((l.take i).map fun x => Bs (Lib.decDigits x.toNat)) ++ [Bs (Lib.decDigits l[i].toNat)] = (l.take (i + 1)).map fun x => Bs (Lib.decDigits x.toNat) := by
      rw [List.take_succ_eq_append_getElem hlt, List.map_append]
      rfl
    rw [e]
    exact ih (i + 1) k (by omega) (by omega)
theorem put_eq (l : List Int) (hl : l.length ≤ 1000) (h : ∀ x ∈ l, 0 ≤ x ∧ x ≤ 4294967295) (k : Nat) (hk : 2000 ≤ k) : oid_put.f k l = some (Bs (putL l)) := by
  unfold oid_put.f
  have := put_loop l hl h l.length 0 k (by omega) (by omega)
  rw [Int.natCast_zero] at this
  exact this
end Go.Proofs.YtjfimileopbadaaGreatDoor.OidS
/- Layer 7: which values may be; the program's answer and the reference's are one. -/
namespace Go.Proofs.YtjfimileopbadaaGreatDoor.ValS
open Go.RowKit Gong Go.Proofs.YtjfimileopbadaaGreatDoor.XVaR Go.Proofs.YtjfimileopbadaaGreatDoor.OidS Go.Proofs.YtjfimileopbadaaGreatDoorW.PrintWords Go.Proofs.YtjfimileopbadaaGreatDoorW.PrintLast Go.Proofs.YtjfimileopbadaaGreatDoorW.PrintMore
set_option linter.unusedVariables false
set_option linter.unusedSimpArgs false
/-- The forms of kinds. -/
def formOf (k : Int) : Int := if k = 2 then 1 else if k = 6 then 4 else if k = 5 then 5 else if k = 65 ∨ k = 66 ∨ k = 67 ∨ k = 70 then 2 else if k = 4 ∨ k = 64 ∨ k = 68 then 3 else 0
theorem of_eq (k : Int) : value_of.f k = some (formOf k) := by
  unfold value_of.f formOf
  by_cases h2 : k = 2
  · rw [if_pos h2, if_pos h2]
  rw [if_neg h2, if_neg h2]
  by_cases h6 : k = 6
  · rw [if_pos h6, if_pos h6]
  rw [if_neg h6, if_neg h6]
  by_cases h5 : k = 5
  · rw [if_pos h5, if_pos h5]
  rw [if_neg h5, if_neg h5]
  by_cases h65 : k = 65
  · rw [if_pos h65, if_pos (.inl h65)]
  rw [if_neg h65]
  by_cases h66 : k = 66
  · rw [if_pos h66, if_pos (.inr (.inl h66))]
  rw [if_neg h66]
  by_cases h67 : k = 67
  · rw [if_pos h67, if_pos (.inr (.inr (.inl h67)))]
  rw [if_neg h67]
  by_cases h70 : k = 70
  · rw [if_pos h70, if_pos (.inr (.inr (.inr h70)))]
  rw [if_neg h70, if_neg (show ¬ (k = 65 ∨ k = 66 ∨ k = 67 ∨ k = 70) from fun h => by omega)]
  by_cases h4 : k = 4
  · rw [if_pos h4, if_pos (.inl h4)]
  rw [if_neg h4]
  by_cases h64 : k = 64
  · rw [if_pos h64, if_pos (.inr (.inl h64))]
  rw [if_neg h64]
  by_cases h68 : k = 68
  · rw [if_pos h68, if_pos (.inr (.inr h68))]
  rw [if_neg h68, if_neg (show ¬ (k = 4 ∨ k = 64 ∨ k = 68) from fun h => by omega)]
/-- May a value be? -/
def okV (k n : Int) (s : ByteArray) : Bool :=
  if k = 2 then decide (s.toList = [] ∧ -2147483648 ≤ n ∧ n ≤ 2147483647) else
  if k = 6 then decide (n = 0 ∧ (arcsR (L s)).2 = 0) else
  if k = 5 then decide (n = 0 ∧ s.toList = []) else
  if k = 65 ∨ k = 66 ∨ k = 67 then decide (s.toList = [] ∧ 0 ≤ n ∧ n ≤ 4294967295) else
  if k = 70 then decide (s.toList = []) else
  if k = 64 then decide (n = 0 ∧ s.size = 4) else
  if k = 4 ∨ k = 68 then decide (n = 0 ∧ s.size ≤ 65535) else false
theorem ok2 (n : Int) (s : ByteArray) : okV 2 n s = decide (s.toList = [] ∧ -2147483648 ≤ n ∧ n ≤ 2147483647) := by unfold okV; rw [if_pos rfl]
theorem ok6 (n : Int) (s : ByteArray) : okV 6 n s = decide (n = 0 ∧ (arcsR (L s)).2 = 0) := by unfold okV; rw [if_neg (by decide), if_pos rfl]
theorem ok5 (n : Int) (s : ByteArray) : okV 5 n s = decide (n = 0 ∧ s.toList = []) := by unfold okV; rw [if_neg (by decide), if_neg (by decide), if_pos rfl]
theorem okU {k : Int} (n : Int) (s : ByteArray) (h : k = 65 ∨ k = 66 ∨ k = 67) : okV k n s = decide (s.toList = [] ∧ 0 ≤ n ∧ n ≤ 4294967295) := by unfold okV; rw [if_neg (by omega), if_neg (by omega), if_neg (by omega), if_pos h]
theorem ok70 (n : Int) (s : ByteArray) : okV 70 n s = decide (s.toList = []) := by unfold okV; rw [if_neg (by decide), if_neg (by decide), if_neg (by decide), if_neg (by decide), if_pos rfl]
theorem ok64 (n : Int) (s : ByteArray) : okV 64 n s = decide (n = 0 ∧ s.size = 4) := by unfold okV; rw [if_neg (by decide), if_neg (by decide), if_neg (by decide), if_neg (by decide), if_neg (by decide), if_pos rfl]
theorem ok4 {k : Int} (n : Int) (s : ByteArray) (h : k = 4 ∨ k = 68) : okV k n s = decide (n = 0 ∧ s.size ≤ 65535) := by unfold okV; rw [if_neg (by omega), if_neg (by omega), if_neg (by omega), if_neg (by omega), if_neg (by omega), if_neg (by omega), if_pos h]
theorem ok0 {k : Int} (n : Int) (s : ByteArray) (h : ¬ (k = 2 ∨ k = 6 ∨ k = 5 ∨ k = 65 ∨ k = 66 ∨ k = 67 ∨ k = 70 ∨ k = 64 ∨ k = 4 ∨ k = 68)) : okV k n s = false := by unfold okV; rw [if_neg (by omega), if_neg (by omega), if_neg (by omega), if_neg (by omega), if_neg (by omega), if_neg (by omega), if_neg (by omega)]
theorem right_eq (kd n : Int) (s : ByteArray) (hs : s.size ≤ 1000000000) (k : Nat) (hk : 500 ≤ k) : value_right.f k kd n s = some (okV kd n s) := by
  unfold value_right.f okV
  rw [of_eq]
  simp only [Option.bind_some]
  by_cases h2 : kd = 2
  · subst h2
    rw [if_pos (show formOf 2 = 1 from rfl), if_pos rfl]
    by_cases a : s.toList = []
    · rw [if_pos a]
      by_cases b : n ≥ -2147483648
      · rw [if_pos b]; congr 1; exact decide_eq_decide.2 ⟨fun h => ⟨a, b, h⟩, fun h => h.2.2⟩
      · rw [if_neg b]; congr 1; exact (decide_eq_false (fun h => b h.2.1)).symm
    · rw [if_neg a]; congr 1; exact (decide_eq_false (fun h => a h.1)).symm
  rw [if_neg h2]
  by_cases h6 : kd = 6
  · subst h6
    rw [if_neg (by decide), if_neg (by decide), if_neg (by decide), if_pos (show formOf 6 = 4 from rfl), if_pos rfl, arcs_eq s hs k hk]
    simp only [Option.bind_some]
    by_cases a : n = 0
    · rw [if_pos a]; congr 1; rw [Bool.eq_iff_iff, beq_iff_eq, decide_eq_true_iff]; exact ⟨fun h => ⟨a, h⟩, fun h => h.2⟩
    · rw [if_neg a]; congr 1; exact (decide_eq_false (fun h => a h.1)).symm
  rw [if_neg h6]
  by_cases h5 : kd = 5
  · subst h5
    rw [if_neg (by decide), if_neg (by decide), if_neg (by decide), if_neg (by decide), if_pos (show formOf 5 = 5 from rfl), if_pos rfl]
    congr 1
    rw [Bool.eq_iff_iff, Bool.and_eq_true, beq_iff_eq, beq_iff_eq, decide_eq_true_iff]
  rw [if_neg h5]
  by_cases hu : kd = 65 ∨ kd = 66 ∨ kd = 67
  · have e : formOf kd = 2 := by rcases hu with rfl | rfl | rfl <;> rfl
    rw [e, if_neg (by decide), if_pos rfl, if_pos hu]
    by_cases a : s.toList = []
    · rw [if_pos a, if_neg (show ¬ kd = 70 by omega)]
      by_cases b : n ≥ 0
      · rw [if_pos b]; congr 1; exact decide_eq_decide.2 ⟨fun h => ⟨a, b, h⟩, fun h => h.2.2⟩
      · rw [if_neg b]; congr 1; exact (decide_eq_false (fun h => b h.2.1)).symm
    · rw [if_neg a]; congr 1; exact (decide_eq_false (fun h => a h.1)).symm
  rw [if_neg hu]
  by_cases h70 : kd = 70
  · subst h70
    rw [if_neg (by decide), if_pos (show formOf 70 = 2 from rfl), if_pos rfl, if_pos rfl]
    by_cases a : s.toList = []
    · rw [if_pos a, decide_eq_true a]
    · rw [if_neg a, decide_eq_false a]
  simp only [if_neg h70]
  by_cases h64 : kd = 64
  · subst h64
    rw [if_neg (by decide), if_neg (by decide), if_pos (show formOf 64 = 3 from rfl), if_pos rfl]
    unfold value_long.f
    rw [if_pos rfl]
    simp only [Option.bind_some]
    by_cases a : n = 0
    · rw [if_pos a]; congr 1; rw [Bool.eq_iff_iff, beq_iff_eq, decide_eq_true_iff]; exact ⟨fun h => ⟨a, by omega⟩, fun h => by omega⟩
    · rw [if_neg a]; congr 1; exact (decide_eq_false (fun h => a h.1)).symm
  rw [if_neg h64]
  by_cases h4 : kd = 4 ∨ kd = 68
  · have e : formOf kd = 3 := by rcases h4 with rfl | rfl <;> rfl
    rw [e, if_neg (by decide), if_neg (by decide), if_pos rfl, if_pos h4]
    unfold value_long.f
    rw [if_neg h64]
    simp only [Option.bind_some]
    by_cases a : n = 0
    · rw [if_pos a]; congr 1; exact decide_eq_decide.2 ⟨fun h => ⟨a, by omega⟩, fun h => by omega⟩
    · rw [if_neg a]; congr 1; exact (decide_eq_false (fun h => a h.1)).symm
  rw [if_neg h4]
  have e : formOf kd = 0 := by
    unfold formOf
    rw [if_neg h2, if_neg h6, if_neg h5, if_neg (by omega), if_neg (by omega)]
  rw [e, if_neg (by decide), if_neg (by decide), if_neg (by decide), if_neg (by decide), if_neg (by decide)]
end Go.Proofs.YtjfimileopbadaaGreatDoor.ValS
/- Layer 6: the example; the arcs of a text that was put together; one arc more. -/
namespace Go.Proofs.YtjfimileopbadaaGreatDoor.OidS
open Go.RowKit Gong Go.Proofs.YtjfimileopbadaaGreatDoor.XVaR Go.Proofs.YtjfimileopbadaaGreatDoor.DecS Go.Proofs.YtjfimileopbadaaGreatDoorW.PrintWords Go.Proofs.YtjfimileopbadaaGreatDoorW.PrintLast Go.Proofs.YtjfimileopbadaaGreatDoorW.PrintMore
set_option linter.unusedVariables false
set_option linter.unusedSimpArgs false
theorem put_size {l : List Int} (h : isS l = true) : (Bs (putL l)).size ≤ 1000000000 := by
  obtain ⟨h1, h2, h3, h4⟩ := isS_parts h
  have := putL_len h3
  rw [← L_len, L_Bs]
  omega
theorem arcs_of {l : List Int} (h : isS l = true) (k : Nat) (hk : 500 ≤ k) : oid_Arcs.f k (Bs (putL l)) = some (l, 0) := by
  rw [arcs_eq _ (put_size h) k hk, L_Bs, arcsR_put h]
theorem joinL_snoc (w : List UInt8) : ∀ ws : List (List UInt8), ws ≠ [] → joinL 46 (ws ++ [w]) = joinL 46 ws ++ 46 :: w
  | [], h => absurd rfl h
  | [v], _ => rfl
  | v :: u :: ws, _ => by
    show v ++ 46 :: joinL 46 ((u :: ws) ++ [w]) = (v ++ 46 :: joinL 46 (u :: ws)) ++ 46 :: w
    rw [joinL_snoc w (u :: ws) (by simp)]
    simp
theorem putL_snoc (r : List Int) (n : Int) (h : r ≠ []) : putL (r ++ [n]) = putL r ++ 46 :: Lib.decDigits n.toNat := by
  unfold putL
  rw [List.map_append]
  exact joinL_snoc _ _ (by simpa using h)
end Go.Proofs.YtjfimileopbadaaGreatDoor.OidS
/- Layer 6: numbers by seven bits, there and back. -/
namespace Go.Proofs.YtjfimileopbadaaGreatDoor.OidS
open Go.RowKit Gong Go.Proofs.YtjfimileopbadaaGreatDoor.XVaR Go.Proofs.YtjfimileopbadaaGreatDoor.DecS Go.Proofs.YtjfimileopbadaaGreatDoorW.PrintWords Go.Proofs.YtjfimileopbadaaGreatDoorW.PrintLast Go.Proofs.YtjfimileopbadaaGreatDoorW.PrintMore
set_option linter.unusedVariables false
set_option linter.unusedSimpArgs false
/-- The groups ahead of the last one. -/
def hiG : Nat → List UInt8
  | n => if h : n < 128 then [UInt8.ofNat (n + 128)] else hiG (n / 128) ++ [UInt8.ofNat (n % 128 + 128)]
termination_by n => n
decreasing_by omega
def grp (n : Nat) : List UInt8 := if n < 128 then [UInt8.ofNat n] else hiG (n / 128) ++ [UInt8.ofNat (n % 128)]
theorem hiG_lo {n : Nat} (h : n < 128) : hiG n = [UInt8.ofNat (n + 128)] := by rw [hiG, dif_pos h]
theorem hiG_hi {n : Nat} (h : ¬ n < 128) : hiG n = hiG (n / 128) ++ [UInt8.ofNat (n % 128 + 128)] := by rw [hiG, dif_neg h]
theorem u8_nat (n : Nat) (h : n < 256) : (UInt8.ofNat n).toNat = n := by simp [UInt8.toNat_ofNat]; omega
theorem hiG_pos (n : Nat) : 0 < (hiG n).length := by
  by_cases c : n < 128
  · rw [hiG_lo c]; simp
  · rw [hiG_hi c, List.length_append]; simp
theorem hiG_len : ∀ (m n : Nat), n < 128 ^ (m + 1) → (hiG n).length ≤ m + 1 := by
  intro m
  induction m with
  | zero => intro n h; rw [hiG_lo (by simpa using h)]; exact Nat.le_refl _
  | succ m ih =>
    intro n h
    by_cases c : n < 128
    · rw [hiG_lo c]; simp
    · rw [hiG_hi c, List.length_append]
      have := ih (n / 128) (by rw [Nat.pow_succ] at h; omega)
      simp only [List.length_cons, List.length_nil]
      omega
theorem grp_len (n : Nat) (h : n ≤ 4294967295) : (grp n).length ≤ 5 := by
  unfold grp
  by_cases c : n < 128
  · rw [if_pos c]; simp
  · rw [if_neg c, List.length_append]
    have := hiG_len 3 (n / 128) (by show n / 128 < 268435456; omega)
    simp only [List.length_cons, List.length_nil]
    omega
theorem grp_pos (n : Nat) : 0 < (grp n).length := by
  unfold grp
  by_cases c : n < 128
  · rw [if_pos c]; simp
  · rw [if_neg c, List.length_append]; simp
theorem andn (b : Nat) (h : b < 256) : wrap64 (Go.bits .andNot .u8 (b : Int) 128) = ((b % 128 : Nat) : Int) := by
  have : ∀ m : Fin 256, wrap64 (Go.bits .andNot .u8 ((m.val : Nat) : Int) 128) = ((m.val % 128 : Nat) : Int) := by decide +kernel
  exact this ⟨b, h⟩
theorem wraps_i63 (n : Int) (h0 : 0 ≤ n) (h1 : n < 2 ^ 63) : IntKind.i64.wrap n = n := by
  have : (2 : Int) ^ 63 = 9223372036854775808 := rfl
  rw [IntKind.wrap_i64]; omega
theorem or7 (a c : Nat) (ha : a ≤ 4294967295) (hc : c < 128) : Go.bits .or .i64 (wrap64 ((a : Int) * 128)) (c : Int) = ((a * 128 + c : Nat) : Int) := by
  rw [wrap_id (by omega) (by omega)]
  have := bits_join .i64 63 (by decide) wraps_i63 7 ((a : Int) * 128) (c : Int) (by omega) (by show _ % (128 : Int) = 0; omega) (by show _ < (9223372036854775808 : Int); omega) (by omega) (by show _ < (128 : Int); omega) (by show _ < (9223372036854775808 : Int); omega)
  rw [this]
  omega
theorem bt_get (s : ByteArray) (i : Nat) (h : i < (L s).length) : bt s (i : Int) = (((L s)[i]'h).toNat : Int) := by
  rw [L_len] at h
  exact (bt_at s i h).symm
/-- One byte of a reading. -/
theorem step_eq (s : ByteArray) (a i k : Nat) (ha : a ≤ 4294967295) (hi : i < 9) (hl : i < (L s).length) :
    octet_groups.l0 (k + 2) s 4294967295 (a : Int) (i : Int) =
      (let b := ((L s)[i]'hl).toNat
       if i = 0 ∧ b = 128 then some (0, 0, 3) else if 4294967295 < a * 128 + b % 128 then some (0, 0, 2) else if b < 128 then some (((a * 128 + b % 128 : Nat) : Int), ((i + 1 : Nat) : Int), 0)
       else octet_groups.l0 k s 4294967295 ((a * 128 + b % 128 : Nat) : Int) ((i + 1 : Nat) : Int)) := by
  have hs := L_len s
  have hb := bt_get s i hl
  obtain ⟨b, hbb⟩ : ∃ b : Nat, ((L s)[i]'hl).toNat = b := ⟨_, rfl⟩
  have hb256 : b < 256 := by rw [← hbb]; exact UInt8.toNat_lt _
  rw [hbb] at hb ⊢
  simp only [octet_groups.l0]
  rw [if_pos (show (i : Int) < 9 by omega), if_neg (show ¬ (i : Int) = (s.size : Int) by omega), if_pos (show (0 : Int) ≤ (i : Int) by omega), if_pos (show (i : Int) < (s.size : Int) by omega), hb, andn b hb256, or7 a (b % 128) ha (by omega), wrap_succ i (by omega)]
  by_cases c0 : i = 0
  · rw [if_pos (show ((i + 1 : Nat) : Int) = 1 by omega)]
    simp only [octet_groups.j1]
    by_cases c1 : b = 128
    · rw [if_pos (show ((b : Int) == 128) = true by rw [beq_iff_eq]; omega), if_pos ⟨c0, c1⟩]
    · rw [if_neg (show ¬ ((b : Int) == 128) = true by rw [beq_iff_eq]; omega), if_neg (show ¬ (i = 0 ∧ b = 128) from fun h => c1 h.2)]
      by_cases c2 : 4294967295 < a * 128 + b % 128
      · rw [if_pos (show ((a * 128 + b % 128 : Nat) : Int) > 4294967295 by omega), if_pos c2]
      · rw [if_neg (show ¬ ((a * 128 + b % 128 : Nat) : Int) > 4294967295 by omega), if_neg c2]
        by_cases c3 : b < 128
        · rw [if_pos (show (b : Int) < 128 by omega), if_pos c3]
        · rw [if_neg (show ¬ (b : Int) < 128 by omega), if_neg c3]
  · rw [if_neg (show ¬ ((i + 1 : Nat) : Int) = 1 by omega)]
    simp only [octet_groups.j1]
    rw [if_neg (show ¬ false = true by decide), if_neg (show ¬ (i = 0 ∧ b = 128) from fun h => c0 h.1)]
    by_cases c2 : 4294967295 < a * 128 + b % 128
    · rw [if_pos (show ((a * 128 + b % 128 : Nat) : Int) > 4294967295 by omega), if_pos c2]
    · rw [if_neg (show ¬ ((a * 128 + b % 128 : Nat) : Int) > 4294967295 by omega), if_neg c2]
      by_cases c3 : b < 128
      · rw [if_pos (show (b : Int) < 128 by omega), if_pos c3]
      · rw [if_neg (show ¬ (b : Int) < 128 by omega), if_neg c3]
/-- What is read, is what is written. -/
theorem read_sound (s : ByteArray) : ∀ (d a i k : Nat), i + d = 9 → 2 * d < k → a ≤ 4294967295 → i ≤ (L s).length → (i = 0 → a = 0) → (0 < i → 0 < a ∧ (L s).take i = hiG a) →
    (∃ c : Int, c ≠ 0 ∧ octet_groups.l0 k s 4294967295 (a : Int) (i : Int) = some (0, 0, c)) ∨
    (∃ v j : Nat, v ≤ 4294967295 ∧ j ≤ (L s).length ∧ octet_groups.l0 k s 4294967295 (a : Int) (i : Int) = some ((v : Int), (j : Int), 0) ∧ (L s).take j = grp v) := by
  intro d
  induction d with
  | zero =>
    intro a i k hi hk ha hl h0 h1
    obtain ⟨k, rfl⟩ : ∃ m, k = m + 1 := ⟨k - 1, by omega⟩
    refine .inl ⟨3, by decide, ?_⟩
    simp only [octet_groups.l0]
    rw [if_neg (by omega)]
  | succ d ih =>
    intro a i k hi hk ha hl h0 h1
    obtain ⟨k, rfl⟩ : ∃ m, k = m + 2 := ⟨k - 2, by omega⟩
    have hs := L_len s
    by_cases ce : i = (L s).length
    · refine .inl ⟨10, by decide, ?_⟩
      simp only [octet_groups.l0]
      rw [if_pos (by omega), if_pos (by omega)]
    · have hlt : i < (L s).length := by omega
      rw [step_eq s a i k ha (by omega) hlt]
      obtain ⟨b, hbb⟩ : ∃ b : Nat, ((L s)[i]'hlt).toNat = b := ⟨_, rfl⟩
      have hb256 : b < 256 := by rw [← hbb]; exact UInt8.toNat_lt _
      have hofb : (L s)[i]'hlt = UInt8.ofNat b := by rw [← hbb]; simp
      simp only [hbb]
      have htk : (L s).take (i + 1) = (L s).take i ++ [UInt8.ofNat b] := by rw [List.take_succ_eq_append_getElem hlt, hofb]
      by_cases c1 : i = 0 ∧ b = 128
      · rw [if_pos c1]; exact .inl ⟨3, by decide, rfl⟩
      · rw [if_neg c1]
        by_cases c2 : 4294967295 < a * 128 + b % 128
        · rw [if_pos c2]; exact .inl ⟨2, by decide, rfl⟩
        · rw [if_neg c2]
          by_cases c3 : b < 128
          · rw [if_pos c3]
            refine .inr ⟨a * 128 + b % 128, i + 1, by omega, by omega, rfl, ?_⟩
            rw [htk]
            unfold grp
            by_cases ci : i = 0
            · obtain rfl := h0 ci
              subst ci
              rw [if_pos (by omega), show 0 * 128 + b % 128 = b by omega]
              rfl
            · obtain ⟨p1, p2⟩ := h1 (by omega)
              rw [if_neg (by omega), p2, show (a * 128 + b % 128) / 128 = a by omega, show (a * 128 + b % 128) % 128 = b by omega]
          · rw [if_neg c3]
            refine ih (a * 128 + b % 128) (i + 1) k (by omega) (by omega) (by omega) (by omega) (by omega) (fun _ => ⟨?_, ?_⟩)
            · by_cases ci : i = 0
              · have := c1; omega
              · have := (h1 (by omega)).1; omega
            · rw [htk]
              by_cases ci : i = 0
              · obtain rfl := h0 ci
                subst ci
                rw [hiG_lo (by omega), show 0 * 128 + b % 128 + 128 = b by omega]
                rfl
              · obtain ⟨p1, p2⟩ := h1 (by omega)
                rw [hiG_hi (by omega), p2, show (a * 128 + b % 128) / 128 = a by omega, show (a * 128 + b % 128) % 128 + 128 = b by omega]
/-- What is written, is read. -/
theorem read_hi (s : ByteArray) : ∀ (a k : Nat) (rest : List UInt8), 0 < a → a ≤ 4294967295 → L s = hiG a ++ rest → (hiG a).length < 9 →
    octet_groups.l0 (k + 2 * (hiG a).length) s 4294967295 0 0 = octet_groups.l0 k s 4294967295 (a : Int) ((hiG a).length : Int) := by
  intro a
  induction a using Nat.strongRecOn with
  | ind a ih =>
    intro k rest h0 h1 hL h9
    by_cases c : a < 128
    · rw [hiG_lo c] at hL h9 ⊢
      have hlt : 0 < (L s).length := by rw [hL]; simp
      have h := step_eq s 0 0 k (by omega) (by omega) hlt
      have hb : ((L s)[0]'hlt).toNat = a + 128 := by
        have : (L s)[0]'hlt = UInt8.ofNat (a + 128) := by simp only [hL]; rfl
        rw [this]; exact u8_nat _ (by omega)
      simp only [hb] at h
      rw [if_neg (by omega), if_neg (by omega), if_neg (by omega), show 0 * 128 + (a + 128) % 128 = a by omega] at h
      simp only [List.length_cons, List.length_nil]
      exact h
    · have hh := hiG_hi c
      have hlen : (hiG a).length = (hiG (a / 128)).length + 1 := by rw [hh, List.length_append]; rfl
      have hL2 : L s = hiG (a / 128) ++ (UInt8.ofNat (a % 128 + 128) :: rest) := by rw [hL, hh, List.append_assoc]; rfl
      have hr := ih (a / 128) (by omega) (k + 2) _ (by omega) (by omega) hL2 (by omega)
      rw [hlen, show k + 2 * ((hiG (a / 128)).length + 1) = k + 2 + 2 * (hiG (a / 128)).length by omega, hr]
      have hlt : (hiG (a / 128)).length < (L s).length := by rw [hL2, List.length_append]; simp
      have h := step_eq s (a / 128) (hiG (a / 128)).length k (by omega) (by omega) hlt
      have hb : ((L s)[(hiG (a / 128)).length]'hlt).toNat = a % 128 + 128 := by
        have : (L s)[(hiG (a / 128)).length]'hlt = UInt8.ofNat (a % 128 + 128) := by
          simp only [hL2]
          rw [List.getElem_append_right (Nat.le_refl _)]
          simp
        rw [this]; exact u8_nat _ (by omega)
      simp only [hb] at h
      have hp := hiG_pos (a / 128)
      rw [h, if_neg (by omega), if_neg (by omega), if_neg (by omega), show a / 128 * 128 + (a % 128 + 128) % 128 = a by omega]
theorem read_grp (s : ByteArray) (v k : Nat) (rest : List UInt8) (hv : v ≤ 4294967295) (hL : L s = grp v ++ rest) (hk : 20 ≤ k) : octet_groups.f k s 4294967295 = some ((v : Int), ((grp v).length : Int), 0) := by
  have hgl := grp_len v hv
  unfold octet_groups.f
  by_cases c : v < 128
  · have hg : grp v = [UInt8.ofNat v] := by unfold grp; rw [if_pos c]
    rw [hg] at hL ⊢
    obtain ⟨k, rfl⟩ : ∃ m, k = m + 2 := ⟨k - 2, by omega⟩
    have hlt : 0 < (L s).length := by rw [hL]; simp
    have h := step_eq s 0 0 k (by omega) (by omega) hlt
    have hb : ((L s)[0]'hlt).toNat = v := by
      have : (L s)[0]'hlt = UInt8.ofNat v := by simp only [hL]; rfl
      rw [this]; exact u8_nat _ (by omega)
    simp only [hb] at h
    rw [if_neg (by omega), if_neg (by omega), if_pos c, show 0 * 128 + v % 128 = v by omega] at h
    exact h
  · have hg : grp v = hiG (v / 128) ++ [UInt8.ofNat (v % 128)] := by unfold grp; rw [if_neg c]
    have hlen : (grp v).length = (hiG (v / 128)).length + 1 := by rw [hg, List.length_append]; rfl
    have hL2 : L s = hiG (v / 128) ++ (UInt8.ofNat (v % 128) :: rest) := by rw [hL, hg, List.append_assoc]; rfl
    obtain ⟨k, rfl⟩ : ∃ m, k = m + 2 + 2 * (hiG (v / 128)).length := ⟨k - 2 - 2 * (hiG (v / 128)).length, by omega⟩
    rw [read_hi s (v / 128) (k + 2) _ (by omega) (by omega) hL2 (by omega)]
    have hlt : (hiG (v / 128)).length < (L s).length := by rw [hL2, List.length_append]; simp
    have h := step_eq s (v / 128) (hiG (v / 128)).length k (by omega) (by omega) hlt
    have hb : ((L s)[(hiG (v / 128)).length]'hlt).toNat = v % 128 := by
      have : (L s)[(hiG (v / 128)).length]'hlt = UInt8.ofNat (v % 128) := by
        simp only [hL2]
        rw [List.getElem_append_right (Nat.le_refl _)]
        simp
      rw [this]; exact u8_nat _ (by omega)
    simp only [hb] at h
    rw [h, if_neg (by omega), if_neg (by omega), if_pos (by omega), show v / 128 * 128 + v % 128 % 128 = v by omega, hlen]
/-- The groups of a number. -/
theorem pow128 : (128 : Int) ^ 0 = 1 ∧ (128 : Int) ^ 1 = 128 ∧ (128 : Int) ^ 2 = 16384 ∧ (128 : Int) ^ 3 = 2097152 ∧ (128 : Int) ^ 4 = 268435456 ∧ (128 : Int) ^ 5 = 34359738368 := by decide
theorem groups_eq (n : Nat) (h : n ≤ 4294967295) : octet_Groups.f (n : Int) = some (Bs (grp n), 0) := by
  obtain ⟨q0, q1, q2, q3, q4, q5⟩ := pow128
  have drop_range : ∀ k : Nat, k ≤ 8 → (gbytes (n : Int)).drop (8 - k) = (List.range' (8 - k) (k + 1)).map fun i => gbyte (n : Int) i := by
    intro k hk
    unfold gbytes
    rw [← List.map_drop, List.range_eq_range', List.drop_range']
    congr 2 <;> omega
  unfold octet_Groups.f
  rw [if_neg (by omega), if_pos (by omega)]
  congr 2
  apply L_inj
  rw [L_Bs]
  unfold gkOf
  unfold grp
  by_cases c0 : n < 128
  · have e : gkAt 8 (n : Int) 0 = 0 := by unfold gkAt; rw [if_neg (by rw [q1]; omega)]
    rw [e, drop_range 0 (by omega), if_pos c0]
    have b0 : gbyte (n : Int) 8 = (n : Int) := by unfold gbyte; simp only [Nat.sub_self, q0]; rw [if_neg (by omega)]; omega
    simp only [List.range', List.map_cons, List.map_nil, Nat.sub_zero, b0]
    rfl
  · rw [if_neg c0]
    have b0 : gbyte (n : Int) 8 = ((n % 128 : Nat) : Int) := by unfold gbyte; simp only [Nat.sub_self, q0]; rw [if_neg (by omega)]; omega
    by_cases c1 : n < 16384
    · have e : gkAt 8 (n : Int) 0 = 1 := by unfold gkAt; rw [if_pos (by rw [q1]; omega)]; unfold gkAt; rw [if_neg (by rw [q2]; omega)]
      rw [e, drop_range 1 (by omega), hiG_lo (by omega)]
      have b1 : gbyte (n : Int) 7 = ((n / 128 + 128 : Nat) : Int) := by unfold gbyte; simp only [show 8 - 7 = 1 from rfl, q1]; rw [if_pos (by omega)]; omega
      simp only [List.range', List.map_cons, List.map_nil, show 8 - 1 = 7 from rfl, show 7 + 1 = 8 from rfl, b0, b1]
      rfl
    · rw [hiG_hi (show ¬ n / 128 < 128 by omega)]
      have b1 : gbyte (n : Int) 7 = ((n / 128 % 128 + 128 : Nat) : Int) := by unfold gbyte; simp only [show 8 - 7 = 1 from rfl, q1]; rw [if_pos (by omega)]; omega
      by_cases c2 : n < 2097152
      · have e : gkAt 8 (n : Int) 0 = 2 := by unfold gkAt; rw [if_pos (by rw [q1]; omega)]; unfold gkAt; rw [if_pos (by rw [q2]; omega)]; unfold gkAt; rw [if_neg (by rw [q3]; omega)]
        rw [e, drop_range 2 (by omega), hiG_lo (by omega)]
        have b2 : gbyte (n : Int) 6 = ((n / 128 / 128 + 128 : Nat) : Int) := by unfold gbyte; simp only [show 8 - 6 = 2 from rfl, q2]; rw [if_pos (by omega)]; omega
        simp only [List.range', List.map_cons, List.map_nil, show 8 - 2 = 6 from rfl, show 6 + 1 = 7 from rfl, show 7 + 1 = 8 from rfl, b0, b1, b2]
        rfl
      · rw [hiG_hi (show ¬ n / 128 / 128 < 128 by omega)]
        have b2 : gbyte (n : Int) 6 = ((n / 128 / 128 % 128 + 128 : Nat) : Int) := by unfold gbyte; simp only [show 8 - 6 = 2 from rfl, q2]; rw [if_pos (by omega)]; omega
        by_cases c3 : n < 268435456
        · have e : gkAt 8 (n : Int) 0 = 3 := by unfold gkAt; rw [if_pos (by rw [q1]; omega)]; unfold gkAt; rw [if_pos (by rw [q2]; omega)]; unfold gkAt; rw [if_pos (by rw [q3]; omega)]; unfold gkAt; rw [if_neg (by rw [q4]; omega)]
          rw [e, drop_range 3 (by omega), hiG_lo (by omega)]
          have b3 : gbyte (n : Int) 5 = ((n / 128 / 128 / 128 + 128 : Nat) : Int) := by unfold gbyte; simp only [show 8 - 5 = 3 from rfl, q3]; rw [if_pos (by omega)]; omega
          simp only [List.range', List.map_cons, List.map_nil, show 8 - 3 = 5 from rfl, show 5 + 1 = 6 from rfl, show 6 + 1 = 7 from rfl, show 7 + 1 = 8 from rfl, b0, b1, b2, b3]
          rfl
        · have e : gkAt 8 (n : Int) 0 = 4 := by unfold gkAt; rw [if_pos (by rw [q1]; omega)]; unfold gkAt; rw [if_pos (by rw [q2]; omega)]; unfold gkAt; rw [if_pos (by rw [q3]; omega)]; unfold gkAt; rw [if_pos (by rw [q4]; omega)]; unfold gkAt; rw [if_neg (by rw [q5]; omega)]
          rw [e, drop_range 4 (by omega), hiG_hi (show ¬ n / 128 / 128 / 128 < 128 by omega), hiG_lo (by omega)]
          have b3 : gbyte (n : Int) 5 = ((n / 128 / 128 / 128 % 128 + 128 : Nat) : Int) := by unfold gbyte; simp only [show 8 - 5 = 3 from rfl, q3]; rw [if_pos (by omega)]; omega
          have b4 : gbyte (n : Int) 4 = ((n / 128 / 128 / 128 / 128 + 128 : Nat) : Int) := by unfold gbyte; simp only [show 8 - 4 = 4 from rfl, q4]; rw [if_pos (by omega)]; omega
          simp only [List.range', List.map_cons, List.map_nil, show 4 + 1 = 5 from rfl, show 5 + 1 = 6 from rfl, show 6 + 1 = 7 from rfl, show 7 + 1 = 8 from rfl, b0, b1, b2, b3, b4]
          rfl
end Go.Proofs.YtjfimileopbadaaGreatDoor.OidS
/- Layer 6: octets: what is written is read, what is read is written. -/
namespace Go.Proofs.YtjfimileopbadaaGreatDoor.OidS
open Go.RowKit Gong Go.Proofs.YtjfimileopbadaaGreatDoor.XVaR Go.Proofs.YtjfimileopbadaaGreatDoor.DecS Go.Proofs.YtjfimileopbadaaGreatDoorW.PrintWords Go.Proofs.YtjfimileopbadaaGreatDoorW.PrintLast Go.Proofs.YtjfimileopbadaaGreatDoorW.PrintMore
set_option linter.unusedVariables false
set_option linter.unusedSimpArgs false
def catG (l : List Int) : List UInt8 := l.flatMap fun n => grp n.toNat
theorem catG_cons (n : Int) (l : List Int) : catG (n :: l) = grp n.toNat ++ catG l := by unfold catG; rw [List.flatMap_cons]
theorem groups_int (n : Int) (h0 : 0 ≤ n) (h1 : n ≤ 4294967295) : octet_Groups.f n = some (Bs (grp n.toNat), 0) := by
  have := groups_eq n.toNat (by omega)
  rw [show ((n.toNat : Nat) : Int) = n by omega] at this
  exact this
theorem go_eq : ∀ (l : List Int) (acc : List UInt8), (∀ x ∈ l, 0 ≤ x ∧ x ≤ 4294967295) → acc.length + 5 * l.length ≤ 1000000 → oid_Encode.go l acc = some (acc ++ catG l)
  | [], acc, _, _ => by simp [oid_Encode.go, catG]
  | n :: l, acc, h, hb => by
    have hn := h n (by simp)
    have hg := grp_len n.toNat (by omega)
    simp only [List.length_cons] at hb
    have hs : (Bs (grp n.toNat)).size = (grp n.toNat).length := by rw [← L_len, L_Bs]
    unfold oid_Encode.go
    rw [groups_int n hn.1 hn.2]
    simp only [Option.bind_some]
    rw [if_pos (by rw [hs]; omega), go_eq l _ (fun x hx => h x (by simp [hx])) (by rw [List.length_append]; show acc.length + (L (Bs (grp n.toNat))).length + _ ≤ _; rw [L_Bs]; omega), catG_cons]
    show some (acc ++ L (Bs (grp n.toNat)) ++ catG l) = _
    rw [L_Bs, List.append_assoc]
def encL : List Int → List UInt8
  | x0 :: x1 :: l => catG ((x1 + 40 * x0) :: l)
  | _ => []
theorem heads_le {x0 x1 : Int} {l : List Int} (h : isS (x0 :: x1 :: l) = true) : 0 ≤ x0 ∧ 0 ≤ x1 ∧ x1 + 40 * x0 ≤ 4294967295 ∧ mn ((x1 + 40 * x0) / 40) 2 = x0 := by
  obtain ⟨_, _, h3, h4⟩ := isS_parts h
  have a := h3 x0 (by simp)
  have b := h3 x1 (by simp)
  unfold heads at h4
  rw [decide_eq_true_eq] at h4
  refine ⟨a.1, b.1, by omega, ?_⟩
  unfold mn
  by_cases c : 2 < (x1 + 40 * x0) / 40
  · rw [if_pos c]; omega
  · rw [if_neg c]; omega
theorem enc_of {x : List Int} (h : isS x = true) (k : Nat) (hk : 500 ≤ k) : oid_Encode.f k (Bs (putL x)) = some (Bs (encL x), 0) := by
  obtain ⟨h1, h2, h3, h4⟩ := isS_parts h
  unfold oid_Encode.f
  rw [arcs_of h k hk]
  simp only [Option.bind_some, if_true]
  match x, h, h1, h2, h3 with
  | x0 :: x1 :: l, h, h1, h2, h3 =>
    obtain ⟨p0, p1, p2, _⟩ := heads_le h
    have b := h3 x0 (by simp)
    have e : wrap64 (x1 + wrap64 (40 * x0)) = x1 + 40 * x0 := by rw [wrap_id (x := 40 * x0) (by omega) (by omega), wrap_id (by omega) (by omega)]
    simp only [List.length_cons] at h2
    show (oid_Encode.go (wrap64 (x1 + wrap64 (40 * x0)) :: l) []).bind (fun o => some ((⟨o.toArray⟩ : ByteArray), 0)) = _
    rw [e, go_eq _ [] (fun y hy => by
      rcases List.mem_cons.1 hy with rfl | hy
      · exact ⟨by omega, p2⟩
      · exact h3 y (by simp [hy])) (by simp only [List.length_cons, List.length_nil]; omega)]
    rfl
/-- One reading. -/
theorem rg_err (s : ByteArray) (k : Nat) (c : Int) (hc : c ≠ 0) (h : octet_groups.f k s 4294967295 = some (0, 0, c)) : octet_Reader_Groups.f k s 0 4294967295 = some (0, s, c) := by
  unfold octet_Reader_Groups.f
  rw [if_pos rfl, h]
  simp only [Option.bind_some, octet_Reader_Refuse.f, if_true]
  rw [if_pos (by omega), if_pos (by omega)]
  have : s.extract (0 : Int).toNat s.size = s := by
    apply L_inj
    simp [L, ByteArray.data_extract]
  rw [this]
theorem rg_ok (s : ByteArray) (k v j : Nat) (hj : j ≤ (L s).length) (h : octet_groups.f k s 4294967295 = some ((v : Int), (j : Int), 0)) :
    ∃ s' : ByteArray, octet_Reader_Groups.f k s 0 4294967295 = some ((v : Int), s', 0) ∧ L s' = (L s).drop j := by
  have hs := L_len s
  refine ⟨s.extract j s.size, ?_, ?_⟩
  · unfold octet_Reader_Groups.f
    rw [if_pos rfl, h]
    simp only [Option.bind_some, octet_Reader_Refuse.f, if_true]
    rw [if_pos (by omega), if_pos (by omega), Int.toNat_natCast]
  · simp only [L, ByteArray.data_extract, Array.toList_extract, List.extract_eq_take_drop]
    exact List.take_of_length_le (by rw [List.length_drop]; show (L s).length - j ≤ _; omega)
theorem rg_sound (s : ByteArray) (k : Nat) (hk : 20 ≤ k) :
    (∃ c : Int, c ≠ 0 ∧ octet_Reader_Groups.f k s 0 4294967295 = some (0, s, c)) ∨
    (∃ (v : Nat) (s' : ByteArray), v ≤ 4294967295 ∧ octet_Reader_Groups.f k s 0 4294967295 = some ((v : Int), s', 0) ∧ L s = grp v ++ L s') := by
  rcases read_sound s 9 0 0 k (by omega) (by omega) (by omega) (by omega) (fun _ => rfl) (fun h => absurd h (by omega)) with ⟨c, hc, h⟩ | ⟨v, j, hv, hj, h, ht⟩
  · exact .inl ⟨c, hc, rg_err s k c hc h⟩
  · obtain ⟨s', h1, h2⟩ := rg_ok s k v j hj h
    exact .inr ⟨v, s', hv, h1, by rw [h2, ← ht, List.take_append_drop]⟩
theorem rg_grp (s : ByteArray) (v k : Nat) (rest : List UInt8) (hv : v ≤ 4294967295) (hL : L s = grp v ++ rest) (hk : 20 ≤ k) : ∃ s' : ByteArray, octet_Reader_Groups.f k s 0 4294967295 = some ((v : Int), s', 0) ∧ L s' = rest := by
  obtain ⟨s', h1, h2⟩ := rg_ok s k v (grp v).length (by rw [hL, List.length_append]; omega) (read_grp s v k rest hv hL hk)
  exact ⟨s', h1, by rw [h2, hL, List.drop_left]⟩
theorem j1_err (x : List Int) (s : ByteArray) (c : Int) (hc : c ≠ 0) (k : Nat) : oid_Decode.j1 (k + 1) x s c = some ((⟨#[]⟩ : ByteArray), 60) := by
  simp only [oid_Decode.j1, octet_Reader_Code.f, Option.bind_some]
  rw [if_neg hc]
theorem l0_err (x : List Int) (s : ByteArray) (c : Int) (hc : c ≠ 0) (k : Nat) : oid_Decode.l0 (k + 2) x s c = some ((⟨#[]⟩ : ByteArray), 60) := by
  simp only [oid_Decode.l0, octet_Reader_Code.f, Option.bind_some]
  rw [if_neg hc, j1_err x s c hc k]
theorem j1_yes {x : List Int} (hx : isS x = true) (s : ByteArray) (k : Nat) (hk : 2000 ≤ k) : oid_Decode.j1 (k + 1) x s 0 = some (Bs (putL x), 0) := by
  obtain ⟨h1, h2, h3, h4⟩ := isS_parts hx
  simp only [oid_Decode.j1, octet_Reader_Code.f, Option.bind_some, if_true]
  rw [is_eq x k (by omega), hx]
  simp only [Option.bind_some, if_true]
  rw [put_eq x (by omega) h3 k hk]
  rfl
theorem j1_no {x : List Int} (hx : isS x = false) (s : ByteArray) (k : Nat) (hk : 2000 ≤ k) : oid_Decode.j1 (k + 1) x s 0 = some ((⟨#[]⟩ : ByteArray), 60) := by
  simp only [oid_Decode.j1, octet_Reader_Code.f, Option.bind_some, if_true]
  rw [is_eq x k (by omega), hx]
  rfl
theorem size_L (s : ByteArray) : ((s.size : Int) > 0) ↔ L s ≠ [] := by
  have := L_len s
  constructor
  · intro h e; rw [e] at this; simp at this; omega
  · intro h
    have := List.length_pos_iff.2 h
    omega
/-- Octets that are read as arcs are those that are written. -/
theorem dec_sound : ∀ (d k : Nat) (x : List Int) (s : ByteArray), x.length + d = 130 → 2500 + 2 * d ≤ k →
    oid_Decode.l0 k x s 0 = some ((⟨#[]⟩ : ByteArray), 60) ∨ ∃ r : List Int, isS (x ++ r) = true ∧ L s = catG r ∧ oid_Decode.l0 k x s 0 = some (Bs (putL (x ++ r)), 0) := by
  intro d
  induction d with
  | zero =>
    intro k x s hd hk
    obtain ⟨k, rfl⟩ : ∃ m, k = m + 2 := ⟨k - 2, by omega⟩
    have hx : isS x = false := by
      rw [Bool.eq_false_iff]
      intro h
      have := (isS_parts h).2.1
      omega
    left
    simp only [oid_Decode.l0, octet_Reader_Code.f, octet_Reader_Left.f, Option.bind_some, if_true]
    rw [j1_no hx s k (by omega)]
    split
    · rw [if_neg (by omega)]
    · rfl
  | succ d ih =>
    intro k x s hd hk
    obtain ⟨k, rfl⟩ : ∃ m, k = m + 2 := ⟨k - 2, by omega⟩
    have hjr : oid_Decode.j1 (k + 1) x s 0 = some ((⟨#[]⟩ : ByteArray), 60) ∨ (isS x = true ∧ oid_Decode.j1 (k + 1) x s 0 = some (Bs (putL x), 0)) := by
      by_cases hx : isS x = true
      · exact .inr ⟨hx, j1_yes hx s k (by omega)⟩
      · exact .inl (j1_no (by simpa using hx) s k (by omega))
    simp only [oid_Decode.l0, octet_Reader_Code.f, octet_Reader_Left.f, Option.bind_some, if_true]
    by_cases cs : L s = []
    · rw [if_neg (fun h => (size_L s).1 h cs)]
      rcases hjr with h | ⟨h, h2⟩
      · exact .inl h
      · exact .inr ⟨[], by rw [List.append_nil]; exact h, by rw [cs]; rfl, by rw [List.append_nil]; exact h2⟩
    · rw [if_pos ((size_L s).2 cs)]
      by_cases cl : (x.length : Int) ≤ 128
      · rw [if_pos cl]
        rcases rg_sound s (k + 1) (by omega) with ⟨c, hc, h⟩ | ⟨v, s', hv, h, hL⟩
        · rw [h]
          simp only [Option.bind_some]
          rw [if_pos (by omega)]
          obtain ⟨k, rfl⟩ : ∃ m, k = m + 1 := ⟨k - 1, by omega⟩
          exact .inl (l0_err _ _ c hc k)
        · rw [h]
          simp only [Option.bind_some]
          rw [if_pos (by omega)]
          rcases ih (k + 1) (x ++ [(v : Int)]) s' (by rw [List.length_append]; simp only [List.length_cons, List.length_nil]; omega) (by omega) with h2 | ⟨r, h2, h3, h4⟩
          · exact .inl h2
          · rw [List.append_assoc] at h2 h4
            exact .inr ⟨(v : Int) :: r, h2, by rw [hL, h3, catG_cons, Int.toNat_natCast], h4⟩
      · rw [if_neg cl]
        have hx : isS x = false := by
          rw [Bool.eq_false_iff]
          intro h
          have := (isS_parts h).2.1
          omega
        exact .inl (j1_no hx s k (by omega))
theorem dec_back : ∀ (r : List Int) (k : Nat) (x : List Int) (s : ByteArray), isS (x ++ r) = true → L s = catG r → 2500 + 2 * r.length ≤ k → oid_Decode.l0 k x s 0 = some (Bs (putL (x ++ r)), 0)
  | [], k, x, s, hx, hs, hk => by
    obtain ⟨k, rfl⟩ : ∃ m, k = m + 2 := ⟨k - 2, by omega⟩
    rw [List.append_nil] at hx ⊢
    simp only [oid_Decode.l0, octet_Reader_Code.f, octet_Reader_Left.f, Option.bind_some, if_true]
    rw [if_neg (fun h => (size_L s).1 h hs)]
    exact j1_yes hx s k (by omega)
  | n :: r, k, x, s, hx, hs, hk => by
    obtain ⟨k, rfl⟩ : ∃ m, k = m + 1 := ⟨k - 1, by omega⟩
    obtain ⟨h1, h2, h3, h4⟩ := isS_parts hx
    have hn := h3 n (by simp)
    rw [catG_cons] at hs
    simp only [List.length_append, List.length_cons] at h2 hk
    simp only [oid_Decode.l0, octet_Reader_Code.f, octet_Reader_Left.f, Option.bind_some, if_true]
    have hne : L s ≠ [] := fun e => by
      have := grp_pos n.toNat
      rw [e] at hs
      have h0 := congrArg List.length hs
      rw [List.length_append] at h0
      simp only [List.length_nil] at h0
      omega
    rw [if_pos ((size_L s).2 hne), if_pos (by omega)]
    obtain ⟨s', e1, e2⟩ := rg_grp s n.toNat k _ (by omega) hs (by omega)
    rw [e1]
    simp only [Option.bind_some]
    rw [if_pos (by omega), show ((n.toNat : Nat) : Int) = n by omega, dec_back r k (x ++ [n]) s' (by rw [List.append_assoc]; exact hx) e2 (by omega), List.append_assoc]
    rfl
/-- What the first number says. -/
theorem first_eq (v : Int) (h0 : 0 ≤ v) (h1 : v ≤ 4294967295) : mn (wrap64 (Int.tdiv v 40)) 2 = mn (v / 40) 2 ∧ wrap64 (v - wrap64 (40 * mn (wrap64 (Int.tdiv v 40)) 2)) = v - 40 * mn (v / 40) 2 := by
  have e : Int.tdiv v 40 = v / 40 := Int.tdiv_eq_ediv_of_nonneg h0
  have hm : mn (v / 40) 2 = if 2 < v / 40 then 2 else v / 40 := rfl
  have hr : 0 ≤ mn (v / 40) 2 ∧ mn (v / 40) 2 ≤ 2 := by rw [hm]; split <;> omega
  rw [e, wrap_id (x := v / 40) (by omega) (by omega)]
  refine ⟨rfl, ?_⟩
  rw [wrap_id (x := 40 * mn (v / 40) 2) (by omega) (by omega), wrap_id (by omega) (by omega)]
theorem decode_sound (s : ByteArray) (k : Nat) (hk : 3000 ≤ k) : oid_Decode.f k s = some ((⟨#[]⟩ : ByteArray), 60) ∨ ∃ y : List Int, isS y = true ∧ oid_Decode.f k s = some (Bs (putL y), 0) ∧ L s = encL y := by
  unfold oid_Decode.f octet_Read.f
  simp only [Option.bind_some]
  rcases rg_sound s k (by omega) with ⟨c, hc, h⟩ | ⟨v, s', hv, h, hL⟩
  · rw [h]
    simp only [Option.bind_some]
    obtain ⟨k, rfl⟩ : ∃ m, k = m + 2 := ⟨k - 2, by omega⟩
    exact .inl (l0_err _ _ c hc k)
  · rw [h]
    simp only [Option.bind_some]
    obtain ⟨e1, e2⟩ := first_eq (v : Int) (by omega) (by omega)
    rw [e2, e1]
    rcases dec_sound 128 k [mn ((v : Int) / 40) 2, (v : Int) - 40 * mn ((v : Int) / 40) 2] s' rfl (by omega) with h2 | ⟨r, h2, h3, h4⟩
    · exact .inl h2
    · refine .inr ⟨_, h2, h4, ?_⟩
      show L s = catG _
      rw [hL, h3, catG_cons, show (v : Int) - 40 * mn ((v : Int) / 40) 2 + 40 * mn ((v : Int) / 40) 2 = (v : Int) by omega, Int.toNat_natCast]
      rfl
theorem decode_enc {x : List Int} (h : isS x = true) (k : Nat) (hk : 3000 ≤ k) : oid_Decode.f k (Bs (encL x)) = some (Bs (putL x), 0) := by
  obtain ⟨h1, h2, h3, h4⟩ := isS_parts h
  match x, h, h1, h2 with
  | x0 :: x1 :: l, h, h1, h2 =>
    obtain ⟨p0, p1, p2, p3⟩ := heads_le h
    simp only [List.length_cons] at h2
    unfold oid_Decode.f octet_Read.f
    simp only [Option.bind_some]
    have hL : L (Bs (encL (x0 :: x1 :: l))) = grp (x1 + 40 * x0).toNat ++ catG l := by rw [L_Bs]; exact catG_cons _ _
    obtain ⟨s', e1, e2⟩ := rg_grp _ (x1 + 40 * x0).toNat k _ (by omega) hL (by omega)
    rw [e1]
    simp only [Option.bind_some]
    rw [show (((x1 + 40 * x0).toNat : Nat) : Int) = x1 + 40 * x0 by omega]
    obtain ⟨f1, f2⟩ := first_eq (x1 + 40 * x0) (by omega) p2
    rw [f2, f1, p3, show x1 + 40 * x0 - 40 * x0 = x1 by omega]
    exact dec_back l k [x0, x1] s' h e2 (by omega)
end Go.Proofs.YtjfimileopbadaaGreatDoor.OidS
/- Layer 6: the reference's arcs, numbers and octets answer as the program's. -/
namespace Go.Proofs.YtjfimileopbadaaGreatDoor.OidS
open Go.RowKit Gong Go.Proofs.YtjfimileopbadaaGreatDoor.XVaR Go.Proofs.YtjfimileopbadaaGreatDoor.DecS Go.Proofs.YtjfimileopbadaaGreatDoorW.PrintWords Go.Proofs.YtjfimileopbadaaGreatDoorW.PrintLast Go.Proofs.YtjfimileopbadaaGreatDoorW.PrintMore
set_option linter.unusedVariables false
set_option linter.unusedSimpArgs false
theorem ris_loop (l : List Int) (h2 : 2 ≤ l.length) (h3 : l.length ≤ 128) : ∀ (d i k : Nat), i + d = l.length → d < k →
    gongref06_Is.l0 k l (i : Int) = some ((l.drop i).all (fun x => decide (0 ≤ x ∧ x ≤ 4294967295)) && (!(l.take i).all (fun x => decide (0 ≤ x)) || heads l)) ∨ (l.take i).all (fun x => decide (0 ≤ x)) = false := by
  intro d
  induction d with
  | zero =>
    intro i k hi hk
    obtain ⟨k, rfl⟩ : ∃ m, k = m + 1 := ⟨k - 1, by omega⟩
    by_cases hp : (l.take i).all (fun x => decide (0 ≤ x)) = true
    · left
      rw [hp]
      simp only [gongref06_Is.l0]
      have e : l.drop i = [] := List.drop_eq_nil_of_le (by omega)
      rw [if_neg (by omega), e]
      match l, h2, hp with
      | a :: b :: r, _, hp =>
        have r0 : rd (a :: b :: r) 0 = a := rfl
        have r1 : rd (a :: b :: r) 1 = b := rfl
        rw [List.take_of_length_le (by omega)] at hp
        simp only [List.all_cons, Bool.and_eq_true, decide_eq_true_eq] at hp
        rw [r0, r1, if_pos (by simp only [List.length_cons]; omega)]
        simp only [List.all_nil, Bool.true_and, Bool.not_true, Bool.false_or, heads]
        have hlen : (1 : Int) < ((a :: b :: r).length : Int) := by simp only [List.length_cons]; omega
        by_cases c : a < 2
        · rw [if_pos c, if_pos hlen]
          by_cases c1 : b ≤ 39
          · rw [if_pos c1, decide_eq_true (by omega)]
          · rw [if_neg c1]
            by_cases c2 : a = 2
            · omega
            · rw [if_neg c2, decide_eq_false (by omega)]
        · rw [if_neg c]
          by_cases c2 : a = 2
          · rw [if_pos c2, if_pos hlen]
            congr 1
            rw [Bool.eq_iff_iff]
            simp only [decide_eq_true_eq]
            omega
          · rw [if_neg c2, decide_eq_false (by omega)]
    · right
      simpa using hp
  | succ d ih =>
    intro i k hi hk
    obtain ⟨k, rfl⟩ : ∃ m, k = m + 1 := ⟨k - 1, by omega⟩
    have hlt : i < l.length := by omega
    by_cases hp : (l.take i).all (fun x => decide (0 ≤ x)) = true
    · left
      rw [hp]
      simp only [gongref06_Is.l0]
      rw [if_pos (by omega), if_pos (by omega), rd_get l i hlt, List.drop_eq_getElem_cons hlt, List.all_cons]
      by_cases c1 : l[i] < 0
      · rw [if_pos c1, decide_eq_false (by omega)]
        rfl
      · rw [if_neg c1]
        by_cases c2 : l[i] > 4294967295
        · rw [if_pos c2, decide_eq_false (by omega)]
          rfl
        · rw [if_neg c2, wrap_succ i (by omega), decide_eq_true (by omega), Bool.true_and]
          have hp2 : (l.take (i + 1)).all (fun x => decide (0 ≤ x)) = true := by
            rw [List.take_succ_eq_append_getElem hlt, List.all_append, hp]
            simp only [List.all_cons, List.all_nil, Bool.and_true, Bool.true_and, decide_eq_true_eq]
            omega
          rcases ih (i + 1) k (by omega) (by omega) with h | h
          · rw [h, hp2]
          · rw [hp2] at h; cases h
    · right
      simpa using hp
theorem ris_eq (l : List Int) (k : Nat) (hk : 200 ≤ k) : gongref06_Is.f k l = some (isS l) := by
  obtain ⟨k, rfl⟩ : ∃ m, k = m + 1 := ⟨k - 1, by omega⟩
  unfold gongref06_Is.f isS
  by_cases c1 : (l.length : Int) < 2
  · rw [if_pos c1]
    simp only [gongref06_Is.j0, if_true]
    rw [decide_eq_false (by omega)]
    rfl
  · rw [if_neg c1, decide_eq_true (show 2 ≤ l.length by omega)]
    by_cases c2 : (l.length : Int) > 128
    · rw [decide_eq_true c2, decide_eq_false (show ¬ l.length ≤ 128 by omega)]
      simp only [gongref06_Is.j0, if_true]
      rfl
    · rw [decide_eq_false c2, decide_eq_true (show l.length ≤ 128 by omega)]
      simp only [gongref06_Is.j0]
      rw [if_neg (by decide)]
      rcases ris_loop l (by omega) (by omega) l.length 0 k (by omega) (by omega) with h | h
      · rw [Int.natCast_zero] at h
        rw [h]
        rfl
      · cases h
/-- One digit. -/
theorem one_dig (n : Nat) (h : n ≤ 4294967295) : strOfNums ([(wrap64 (48 + (Int.tmod (n : Int) 10))) % 256] : List Int) = Bs [UInt8.ofNat (48 + n % 10)] := by
  have e : Int.tmod (n : Int) 10 = ((n % 10 : Nat) : Int) := by rw [Int.tmod_eq_emod_of_nonneg (by omega)]; omega
  have e2 : (wrap64 (48 + ((n % 10 : Nat) : Int))) % 256 = ((48 + n % 10 : Nat) : Int) := by rw [wrap_id (by omega) (by omega)]; omega
  rw [e, e2]
  rfl
theorem Bs_app (a b : List UInt8) : Bs a ++ Bs b = Bs (a ++ b) := by
  apply L_inj
  rw [L_Bs]
  simp [L, Bs]
theorem Bs_size (a : List UInt8) : (Bs a).size = a.length := by rw [← L_len, L_Bs]
theorem num_loop : ∀ (m n k : Nat) (acc : List UInt8), n < 10 ^ (m + 1) → n ≤ 4294967295 → m < k → acc.length + m ≤ 1000000 →
    gongref06_Number.l0 k (n : Int) (Bs acc) = some (Bs ((if n < 10 then [] else Lib.decDigits (n / 10)) ++ acc)) := by
  intro m
  induction m with
  | zero =>
    intro n k acc h hn hk hb
    obtain ⟨k, rfl⟩ : ∃ m, k = m + 1 := ⟨k - 1, by omega⟩
    have h9 : n < 10 := by simpa using h
    simp only [gongref06_Number.l0]
    rw [if_neg (by omega), if_pos h9]
    rfl
  | succ m ih =>
    intro n k acc h hn hk hb
    obtain ⟨k, rfl⟩ : ∃ m, k = m + 1 := ⟨k - 1, by omega⟩
    simp only [gongref06_Number.l0]
    by_cases c : n < 10
    · rw [if_neg (by omega), if_pos c]
      rfl
    · have e : wrap64 (Int.tdiv (n : Int) 10) = ((n / 10 : Nat) : Int) := by rw [Int.tdiv_eq_ediv_of_nonneg (by omega), wrap_id (by omega) (by omega)]; omega
      rw [if_pos (by omega), if_neg c, e]
      simp only [Option.bind_some]
      rw [one_dig (n / 10) (by omega), Bs_app, Bs_size, Bs_size]
      simp only [List.length_cons, List.length_nil]
      rw [if_pos (by omega), List.singleton_append, ih (n / 10) k _ (by rw [Nat.pow_succ] at h; omega) (by omega) (by omega) (by simp only [List.length_cons]; omega)]
      congr 2
      by_cases c2 : n / 10 < 10
      · rw [if_pos c2, dd_one _ c2, Nat.mod_eq_of_lt c2]
        rfl
      · rw [if_neg c2, dd_step (n / 10) c2, List.append_assoc]
        rfl
theorem num_eq (n : Nat) (h : n ≤ 4294967295) (k : Nat) (hk : 20 ≤ k) : gongref06_Number.f k (n : Int) = some (Bs (Lib.decDigits n)) := by
  unfold gongref06_Number.f
  rw [one_dig n h, num_loop 9 n k _ (by show n < 10000000000; omega) h (by omega) (by simp)]
  congr 2
  by_cases c : n < 10
  · rw [if_pos c, dd_one n c, Nat.mod_eq_of_lt c]
    rfl
  · rw [if_neg c, dd_step n c]
theorem rput_loop (l : List Int) (hl : l.length ≤ 1000) (h : ∀ x ∈ l, 0 ≤ x ∧ x ≤ 4294967295) : ∀ (d i k : Nat), i + d = l.length → d + 20 < k →
    gongref06_Put.l0 k l (Bs (putL (l.take i))) (i : Int) = some (Bs (putL l)) := by
  intro d
  induction d with
  | zero =>
    intro i k hi hk
    obtain ⟨k, rfl⟩ : ∃ m, k = m + 1 := ⟨k - 1, by omega⟩
    simp only [gongref06_Put.l0]
    rw [if_neg (by omega), List.take_of_length_le (by omega)]
  | succ d ih =>
    intro i k hi hk
    obtain ⟨k, rfl⟩ : ∃ m, k = m + 1 := ⟨k - 1, by omega⟩
    have hlt : i < l.length := by omega
    have hx := h l[i] (List.getElem_mem hlt)
    have hp := putL_len (l := l.take i) (fun x hx => h x (List.mem_of_mem_take hx))
    rw [List.length_take] at hp
    have hnum : gongref06_Number.f k l[i] = some (Bs (Lib.decDigits l[i].toNat)) := by
      have := num_eq l[i].toNat (by omega) k (by omega)
      rw [show ((l[i].toNat : Nat) : Int) = l[i] by omega] at this
      exact this
    have hds := dd_short l[i].toNat (by omega)
    have ht : l.take (i + 1) = l.take i ++ [l[i]] := List.take_succ_eq_append_getElem hlt
    simp only [gongref06_Put.l0]
    rw [if_pos (by omega), rd_get l i hlt, hnum]
    simp only [Option.bind_some]
    by_cases c : i = 0
    · subst c
      rw [if_neg (by omega), if_pos (by omega), Bs_app, Bs_size, Bs_size, if_pos (by omega), wrap_succ 0 (by omega)]
      have e : putL (l.take 0) ++ Lib.decDigits l[0].toNat = putL (l.take (0 + 1)) := by rw [ht]; rfl
      rw [e]
      exact ih (0 + 1) k (by omega) (by omega)
    · have hdot : Bs (putL (l.take i)) ++ (⟨#[46]⟩ : ByteArray) = Bs (putL (l.take i) ++ [46]) := Bs_app _ [46]
      rw [if_pos (by omega), hdot, Bs_app, Bs_size, Bs_size, Bs_size, if_pos (by omega), if_pos (by omega), if_pos (by rw [List.length_append]; simp only [List.length_cons, List.length_nil]; omega), wrap_succ i (by omega)]
      have hne : l.take i ≠ [] := fun e => by
        have := congrArg List.length e
        rw [List.length_take] at this
        simp only [List.length_nil] at this
        omega
      have e : putL (l.take i) ++ [46] ++ Lib.decDigits l[i].toNat = putL (l.take (i + 1)) := by
        rw [ht, putL_snoc _ _ hne, List.append_assoc]
        rfl
      rw [e]
      exact ih (i + 1) k (by omega) (by omega)
theorem rput_eq (l : List Int) (hl : l.length ≤ 1000) (h : ∀ x ∈ l, 0 ≤ x ∧ x ≤ 4294967295) (k : Nat) (hk : 2000 ≤ k) : gongref06_Put.f k l = some (Bs (putL l)) := by
  unfold gongref06_Put.f
  have := rput_loop l hl h l.length 0 k (by omega) (by omega)
  rw [Int.natCast_zero] at this
  exact this
/-- One group. -/
theorem one_grp (n : Nat) (h : n ≤ 4294967295) : strOfNums ([(wrap64 ((Int.tmod (n : Int) 128) + 128)) % 256] : List Int) = Bs [UInt8.ofNat (n % 128 + 128)] := by
  have e : Int.tmod (n : Int) 128 = ((n % 128 : Nat) : Int) := by rw [Int.tmod_eq_emod_of_nonneg (by omega)]; omega
  have e2 : (wrap64 (((n % 128 : Nat) : Int) + 128)) % 256 = ((n % 128 + 128 : Nat) : Int) := by rw [wrap_id (by omega) (by omega)]; omega
  rw [e, e2]
  rfl
theorem last_grp (n : Nat) (h : n ≤ 4294967295) : strOfNums ([(Int.tmod (n : Int) 128) % 256] : List Int) = Bs [UInt8.ofNat (n % 128)] := by
  have e : Int.tmod (n : Int) 128 % 256 = ((n % 128 : Nat) : Int) := by rw [Int.tmod_eq_emod_of_nonneg (by omega)]; omega
  rw [e]
  rfl
end Go.Proofs.YtjfimileopbadaaGreatDoor.OidS
/- Layer 6: the reference's Arcs, Encode and Decode. -/
namespace Go.Proofs.YtjfimileopbadaaGreatDoor.OidS
open Go.RowKit Gong Go.Proofs.YtjfimileopbadaaGreatDoor.XVaR Go.Proofs.YtjfimileopbadaaGreatDoor.DecS Go.Proofs.YtjfimileopbadaaGreatDoorW.PrintWords Go.Proofs.YtjfimileopbadaaGreatDoorW.PrintLast Go.Proofs.YtjfimileopbadaaGreatDoorW.PrintMore
set_option linter.unusedVariables false
set_option linter.unusedSimpArgs false
theorem wrap_nat (i : Nat) (h : i ≤ 4611686018427387904) : wrap64 (i : Int) = (i : Int) := wrap_id (by omega) (by omega)
theorem arcs_fin (s : ByteArray) (l : List Int) (a : Int) (p k : Nat) (hp : s.size < p) (hk : 2500 ≤ k) : gongref06_Arcs.l0 (k + 1) s l a (p : Int) = some (if isS l = true ∧ putL l = L s then (l, 0) else ([], 60)) := by
  simp only [gongref06_Arcs.l0]
  rw [if_neg (by omega), ris_eq l k (by omega)]
  simp only [Option.bind_some]
  by_cases c : isS l = true
  · obtain ⟨h1, h2, h3, h4⟩ := isS_parts c
    rw [if_pos c, rput_eq l (by omega) h3 k (by omega)]
    simp only [Option.bind_some, toList_L, L_Bs]
    by_cases c2 : putL l = L s
    · rw [if_pos c2, if_pos ⟨c, c2⟩]
    · rw [if_neg c2, if_neg (fun h => c2 h.2)]
  · rw [if_neg c, if_neg (fun h => c h.1)]
theorem arcs_total (s : ByteArray) (hs : s.size ≤ 100000) : ∀ (d p k : Nat) (l : List Int) (a : Int), p + d = s.size + 1 → 2 * d + 2600 ≤ k → 0 ≤ a → a ≤ 99999999999 → l.length ≤ p →
    ∃ r, gongref06_Arcs.l0 k s l a (p : Int) = some r ∧ (r = ([], 60) ∨ ∃ m, isS m = true ∧ putL m = L s ∧ r = (m, 0)) := by
  intro d
  induction d with
  | zero =>
    intro p k l a hp hk h0 h1 hl
    obtain ⟨k, rfl⟩ : ∃ m, k = m + 1 := ⟨k - 1, by omega⟩
    refine ⟨_, arcs_fin s l a p k (by omega) (by omega), ?_⟩
    by_cases c : isS l = true ∧ putL l = L s
    · rw [if_pos c]; exact .inr ⟨l, c.1, c.2, rfl⟩
    · rw [if_neg c]; exact .inl rfl
  | succ d ih =>
    intro p k l a hp hk h0 h1 hl
    obtain ⟨k, rfl⟩ : ∃ m, k = m + 2 := ⟨k - 2, by omega⟩
    have hend : ∃ r, gongref06_Arcs.j1 (k + 1) s l a (p : Int) true = some r ∧ (r = ([], 60) ∨ ∃ m, isS m = true ∧ putL m = L s ∧ r = (m, 0)) := by
      simp only [gongref06_Arcs.j1, if_true]
      rw [if_pos (by omega), wrap_succ p (by omega)]
      exact ih (p + 1) k _ 0 (by omega) (by omega) (by omega) (by omega) (by rw [List.length_append]; simp only [List.length_cons, List.length_nil]; omega)
    have hl0 : gongref06_Arcs.l0 (k + 2) s l a (p : Int) = if (p : Int) ≤ (s.size : Int) then (if (p : Int) = (s.size : Int) then (gongref06_Arcs.j1 (k + 1) s l a (p : Int) true) else (if 0 ≤ (p : Int) then (if (p : Int) < (s.size : Int) then (gongref06_Arcs.j1 (k + 1) s l a (p : Int) ((bt s (p : Int)) == 46)) else (none)) else (none))) else (gongref06_Arcs.l0 (k + 2) s l a (p : Int)) := by
      rw [if_pos (by omega)]
      conv => lhs; unfold gongref06_Arcs.l0
      rw [if_pos (by omega)]
    rw [hl0, if_pos (by omega)]
    by_cases ce : p = s.size
    · rw [if_pos (by omega)]; exact hend
    · rw [if_neg (by omega), if_pos (by omega), if_pos (by omega)]
      have hlt : p < (L s).length := by rw [L_len]; omega
      have hb := bt_get s p hlt
      obtain ⟨b, hbb⟩ : ∃ b : Nat, ((L s)[p]'hlt).toNat = b := ⟨_, rfl⟩
      have hb256 : b < 256 := by rw [← hbb]; exact UInt8.toNat_lt _
      rw [hbb] at hb
      by_cases cd : b = 46
      · rw [hb, show ((b : Int) == 46) = true by rw [beq_iff_eq]; omega]; exact hend
      · rw [hb, show ((b : Int) == 46) = false by rw [beq_eq_false_iff_ne]; omega]
        simp only [gongref06_Arcs.j1]
        rw [if_neg (by decide), if_pos (by omega), if_pos (by omega), hb]
        by_cases c1 : (b : Int) < 48
        · rw [if_pos c1]; exact ⟨_, rfl, .inl rfl⟩
        · rw [if_neg c1]
          by_cases c2 : (b : Int) > 57
          · rw [if_pos c2]; exact ⟨_, rfl, .inl rfl⟩
          · rw [if_neg c2]
            by_cases c3 : a > 4294967295
            · rw [if_pos c3]; exact ⟨_, rfl, .inl rfl⟩
            · rw [if_neg c3, wrap_succ p (by omega)]
              have e : wrap64 (wrap64 (a * 10) + ((b : Int) - 48) % 256) = a * 10 + ((b : Int) - 48) := by rw [wrap_id (x := a * 10) (by omega) (by omega), wrap_id (by omega) (by omega)]; omega
              rw [e]
              exact ih (p + 1) k l _ (by omega) (by omega) (by omega) (by omega) (by omega)
def fv (a : Nat) (w : List UInt8) : Nat := w.foldl (fun a b => a * 10 + (b.toNat - 48)) a
theorem fv_ge : ∀ (w : List UInt8) (a : Nat), a ≤ fv a w
  | [], a => Nat.le_refl _
  | b :: w, a => by
    have := fv_ge w (a * 10 + (b.toNat - 48))
    show a ≤ fv (a * 10 + (b.toNat - 48)) w
    omega
theorem drop_one {l : List UInt8} {p : Nat} {b : UInt8} {r : List UInt8} (h : l.drop p = b :: r) : ∃ hp : p < l.length, l[p]'hp = b ∧ l.drop (p + 1) = r := by
  have hp : p < l.length := by
    have := congrArg List.length h
    rw [List.length_drop] at this
    simp only [List.length_cons] at this
    omega
  rw [List.drop_eq_getElem_cons hp] at h
  injection h with h1 h2
  exact ⟨hp, h1, h2⟩
theorem scan_word (s : ByteArray) (hs : s.size ≤ 100000) (l : List Int) : ∀ (w rest : List UInt8) (a p k : Nat), (∀ b ∈ w, isD b = true) → (L s).drop p = w ++ rest → fv a w ≤ 4294967295 →
    gongref06_Arcs.l0 (k + 2 * w.length) s l (a : Int) (p : Int) = gongref06_Arcs.l0 k s l (fv a w : Int) ((p + w.length : Nat) : Int)
  | [], rest, a, p, k, _, _, _ => rfl
  | b :: w, rest, a, p, k, hd, hL, hv => by
    obtain ⟨hp, hb, hr⟩ := drop_one hL
    have hlen := L_len s
    have hbt := bt_get s p hp
    rw [hb] at hbt
    have hdig := isD_iff (hd b (by simp))
    have hge := fv_ge (b :: w) a
    have ha := fv_ge w (a * 10 + (b.toNat - 48))
    have hv2 : fv (a * 10 + (b.toNat - 48)) w ≤ 4294967295 := hv
    have ih := scan_word s hs l w rest (a * 10 + (b.toNat - 48)) (p + 1) k (fun x hx => hd x (by simp [hx])) hr hv2
    simp only [List.length_cons]
    rw [show k + 2 * (w.length + 1) = (k + 2 * w.length) + 2 by omega]
    generalize k + 2 * w.length = q at ih ⊢
    have e : wrap64 (wrap64 ((a : Int) * 10) + ((b.toNat : Int) - 48) % 256) = ((a * 10 + (b.toNat - 48) : Nat) : Int) := by rw [wrap_id (x := (a : Int) * 10) (by omega) (by omega), wrap_id (by omega) (by omega)]; omega
    conv => lhs; unfold gongref06_Arcs.l0
    rw [if_pos (by omega), if_neg (by omega), if_pos (by omega), if_pos (by omega), hbt, show ((b.toNat : Int) == 46) = false by rw [beq_eq_false_iff_ne]; omega]
    conv => lhs; unfold gongref06_Arcs.j1
    rw [if_neg (by decide), if_pos (by omega), if_pos (by omega), hbt, if_neg (by omega), if_neg (by omega), if_neg (by omega), e, wrap_succ p (by omega), ih]
    congr 1
    omega
theorem scan_end (s : ByteArray) (l : List Int) (a : Int) (p k : Nat) (hs : s.size ≤ 100000) (hl : l.length ≤ 1000) (hp : p = s.size ∨ ∃ r, (L s).drop p = 46 :: r) : gongref06_Arcs.l0 (k + 2) s l a (p : Int) = gongref06_Arcs.l0 k s (l ++ [a]) 0 ((p + 1 : Nat) : Int) := by
  have hlen := L_len s
  have hj : gongref06_Arcs.j1 (k + 1) s l a (p : Int) true = gongref06_Arcs.l0 k s (l ++ [a]) 0 ((p + 1 : Nat) : Int) := by
    have hp2 : p ≤ s.size := by
      rcases hp with h | ⟨r, h⟩
      · omega
      · obtain ⟨h1, _, _⟩ := drop_one h; omega
    conv => lhs; unfold gongref06_Arcs.j1
    rw [if_pos rfl, if_pos (by omega), wrap_succ p (by omega)]
  conv => lhs; unfold gongref06_Arcs.l0
  rcases hp with h | ⟨r, h⟩
  · rw [if_pos (by omega), if_pos (by omega)]
    exact hj
  · obtain ⟨h1, h2, _⟩ := drop_one h
    have hbt := bt_get s p h1
    rw [h2] at hbt
    have e46 : ((46 : UInt8).toNat : Int) = 46 := rfl
    rw [if_pos (by omega), if_neg (by omega), if_pos (by omega), if_pos (by omega), hbt, e46]
    exact hj
theorem scan_all (s : ByteArray) (hs : s.size ≤ 100000) : ∀ (ls l : List Int) (p k d : Nat), ls ≠ [] → (∀ x ∈ ls, 0 ≤ x ∧ x ≤ 4294967295) → l.length + ls.length ≤ 1000 → (L s).drop p = joinL 46 (ls.map fun x => Lib.decDigits x.toNat) → p + d = s.size + 1 →
    gongref06_Arcs.l0 (k + 2 * d) s l 0 (p : Int) = gongref06_Arcs.l0 k s (l ++ ls) 0 ((s.size + 1 : Nat) : Int)
  | [], _, _, _, _, h, _, _, _, _ => absurd rfl h
  | [n], l, p, k, d, _, hr, hl, hL, hd => by
    have hn := hr n (by simp)
    have hL2 : (L s).drop p = Lib.decDigits n.toNat ++ [] := by rw [hL, List.append_nil]; rfl
    have hv : fv 0 (Lib.decDigits n.toNat) = n.toNat := val_dd n.toNat
    have hlen : (Lib.decDigits n.toNat).length + p = s.size := by
      have h0 := congrArg List.length hL2
      rw [List.length_drop, List.append_nil, L_len] at h0
      have := List.length_pos_iff.2 (dd_ne n.toNat)
      omega
    have := scan_word s hs l (Lib.decDigits n.toNat) [] 0 p (k + 2) (dd_dig n.toNat) hL2 (by rw [hv]; omega)
    rw [show k + 2 * d = k + 2 + 2 * (Lib.decDigits n.toNat).length by omega]
    rw [Int.natCast_zero] at this
    rw [this, hv, show ((n.toNat : Nat) : Int) = n by omega, scan_end s l n _ k hs (by simp only [List.length_cons, List.length_nil] at hl; omega) (.inl (by omega)), show p + (Lib.decDigits n.toNat).length + 1 = s.size + 1 by omega]
  | n :: m :: ls, l, p, k, d, _, hr, hl, hL, hd => by
    have hn := hr n (by simp)
    have hL2 : (L s).drop p = Lib.decDigits n.toNat ++ (46 :: joinL 46 ((m :: ls).map fun x => Lib.decDigits x.toNat)) := hL
    have hv : fv 0 (Lib.decDigits n.toNat) = n.toNat := val_dd n.toNat
    have hlen : (Lib.decDigits n.toNat).length + p + 1 ≤ s.size := by
      have h0 := congrArg List.length hL2
      rw [List.length_drop, List.length_append, L_len] at h0
      simp only [List.length_cons] at h0
      omega
    have hdr : (L s).drop (p + (Lib.decDigits n.toNat).length) = 46 :: joinL 46 ((m :: ls).map fun x => Lib.decDigits x.toNat) := by rw [← List.drop_drop, hL2, List.drop_left]
    obtain ⟨d2, rfl⟩ : ∃ d2, d = d2 + 1 + (Lib.decDigits n.toNat).length := ⟨d - 1 - (Lib.decDigits n.toNat).length, by omega⟩
    have := scan_word s hs l (Lib.decDigits n.toNat) _ 0 p (k + 2 * d2 + 2) (dd_dig n.toNat) hL2 (by rw [hv]; omega)
    rw [show k + 2 * (d2 + 1 + (Lib.decDigits n.toNat).length) = k + 2 * d2 + 2 + 2 * (Lib.decDigits n.toNat).length by omega]
    rw [Int.natCast_zero] at this
    simp only [List.length_cons] at hl
    rw [this, hv, show ((n.toNat : Nat) : Int) = n by omega, scan_end s l n _ (k + 2 * d2) hs (by omega) (.inr ⟨_, hdr⟩)]
    obtain ⟨_, _, hdr2⟩ := drop_one hdr
    have := scan_all s hs (m :: ls) (l ++ [n]) (p + (Lib.decDigits n.toNat).length + 1) k d2 (by simp) (fun x hx => hr x (by simp only [List.mem_cons] at hx ⊢; exact .inr hx)) (by simp only [List.length_append, List.length_cons, List.length_nil]; omega) hdr2 (by omega)
    rw [this, List.append_assoc]
    rfl
theorem rarcs_eq (a : ByteArray) (k : Nat) (hk : 9000 ≤ k) : gongref06_Arcs.f k a = some (arcsR (L a)) := by
  have hlen := L_len a
  unfold gongref06_Arcs.f
  by_cases c : (a.size : Int) > 1408
  · rw [if_pos c]
    have : arcsS (L a) = none := by
      cases h : arcsS (L a) with
      | none => rfl
      | some l =>
        obtain ⟨h1, h2⟩ := arcs_some h
        obtain ⟨_, p2, p3, _⟩ := isS_parts h1
        have := putL_len p3
        rw [h2] at this
        omega
    unfold arcsR
    rw [this]
  · rw [if_neg c]
    cases h : arcsS (L a) with
    | none =>
      obtain ⟨r, h1, h2⟩ := arcs_total a (by omega) (a.size + 1) 0 k [] 0 (by omega) (by omega) (by omega) (by omega) (by simp)
      rw [Int.natCast_zero] at h1
      rw [h1]
      unfold arcsR
      rw [h]
      rcases h2 with h2 | ⟨m, p1, p2, _⟩
      · rw [h2]
      · rw [← p2, arcs_put p1] at h; cases h
    | some l =>
      obtain ⟨h1, h2⟩ := arcs_some h
      obtain ⟨q1, q2, q3, _⟩ := isS_parts h1
      obtain ⟨q, rfl⟩ : ∃ q, k = q + 1 + 2 * (a.size + 1) := ⟨k - 1 - 2 * (a.size + 1), by omega⟩
      have := scan_all a (by omega) l [] 0 (q + 1) (a.size + 1) (by intro e; rw [e] at q1; simp at q1) q3 (by simp only [List.length_nil]; omega) (by rw [List.drop_zero, ← h2]; rfl) (by omega)
      rw [Int.natCast_zero] at this
      rw [this, List.nil_append, arcs_fin a l 0 (a.size + 1) q (by omega) (by omega), if_pos ⟨h1, h2⟩]
      unfold arcsR
      rw [h]
end Go.Proofs.YtjfimileopbadaaGreatDoor.OidS
/- Layer 6: the reference's Decode. -/
namespace Go.Proofs.YtjfimileopbadaaGreatDoor.OidS
open Go.RowKit Gong Go.Proofs.YtjfimileopbadaaGreatDoor.XVaR Go.Proofs.YtjfimileopbadaaGreatDoor.DecS Go.Proofs.YtjfimileopbadaaGreatDoorW.PrintWords Go.Proofs.YtjfimileopbadaaGreatDoorW.PrintLast Go.Proofs.YtjfimileopbadaaGreatDoorW.PrintMore
set_option linter.unusedVariables false
set_option linter.unusedSimpArgs false
theorem rst_nums (a i p b : Nat) (ha : a ≤ 4294967295) (hi : i < 9) (hp : p ≤ 200000) (hb : b < 256) : wrap64 ((p : Int) + (i : Int)) = ((p + i : Nat) : Int) ∧ wrap64 (b : Int) = (b : Int) ∧ wrap64 (wrap64 ((a : Int) * 128) + Int.tmod (b : Int) 128) = ((a * 128 + b % 128 : Nat) : Int) ∧ wrap64 (((p + i : Nat) : Int) + 1) = ((p + i + 1 : Nat) : Int) := by
  refine ⟨?_, wrap_nat b (by omega), ?_, wrap_succ (p + i) (by omega)⟩
  · rw [wrap_id (by omega) (by omega)]; omega
  · rw [Int.tmod_eq_emod_of_nonneg (by omega), wrap_id (x := (a : Int) * 128) (by omega) (by omega), wrap_id (by omega) (by omega)]; omega
theorem rstep_eq (s : ByteArray) (a i p k : Nat) (ha : a ≤ 4294967295) (hi : i < 9) (hs : s.size ≤ 100000) (hl : p + i < (L s).length) :
    gongref01_Reader_Groups.l0 (k + 2) 4294967295 (a : Int) (i : Int) s (p : Int) 0 =
      (let b := ((L s)[p + i]'hl).toNat
       if i = 0 ∧ b = 128 then some (0, s, (p : Int), 3) else if 4294967295 < a * 128 + b % 128 then some (0, s, (p : Int), 2) else if b < 128 then some (((a * 128 + b % 128 : Nat) : Int), s, ((p + i + 1 : Nat) : Int), 0)
       else gongref01_Reader_Groups.l0 k 4294967295 ((a * 128 + b % 128 : Nat) : Int) ((i + 1 : Nat) : Int) s (p : Int) 0) := by
  have hlen := L_len s
  have hb := bt_get s (p + i) hl
  obtain ⟨b, hbb⟩ : ∃ b : Nat, ((L s)[p + i]'hl).toNat = b := ⟨_, rfl⟩
  have hb256 : b < 256 := by rw [← hbb]; exact UInt8.toNat_lt _
  rw [hbb] at hb ⊢
  have g1 : (i : Int) < 9 := by omega
  have g2 : ¬ ((p + i : Nat) : Int) ≥ (s.size : Int) := by omega
  have g3 : (0 : Int) ≤ ((p + i : Nat) : Int) := by omega
  have g4 : ((p + i : Nat) : Int) < (s.size : Int) := by omega
  have g5 := wrap_succ i (by omega)
  obtain ⟨e1, e2, e3, e4⟩ := rst_nums a i p b ha hi (by omega) hb256
  simp only [gongref01_Reader_Groups.l0]
  rw [if_pos g1, e1, if_neg g2, if_pos g3, if_pos g4, hb, e2]
  simp only [gongref01_Reader_Groups.j1]
  rw [e1, e3, e4, g5]
  clear e1 e2 e3 e4 g5 g1 g2 g3 g4
  by_cases c0 : i = 0
  · rw [if_pos (show (i : Int) = 0 by omega)]
    by_cases c1 : b = 128
    · rw [if_pos (show ((b : Int) == 128) = true by rw [beq_iff_eq]; omega), if_pos (show i = 0 ∧ b = 128 from ⟨c0, c1⟩)]
    · rw [if_neg (show ¬ ((b : Int) == 128) = true by rw [beq_iff_eq]; omega), if_neg (show ¬ (i = 0 ∧ b = 128) from fun h => c1 h.2)]
      by_cases c2 : 4294967295 < a * 128 + b % 128
      · rw [if_pos (show ((a * 128 + b % 128 : Nat) : Int) > 4294967295 by omega), if_pos c2]
      · rw [if_neg (show ¬ ((a * 128 + b % 128 : Nat) : Int) > 4294967295 by omega), if_neg c2]
        by_cases c3 : b < 128
        · rw [if_pos (show (b : Int) < 128 by omega), if_pos c3]
        · rw [if_neg (show ¬ (b : Int) < 128 by omega), if_neg c3]
  · rw [if_neg (show ¬ (i : Int) = 0 by omega), if_neg (show ¬ false = true by decide), if_neg (show ¬ (i = 0 ∧ b = 128) from fun h => c0 h.1)]
    by_cases c2 : 4294967295 < a * 128 + b % 128
    · rw [if_pos (show ((a * 128 + b % 128 : Nat) : Int) > 4294967295 by omega), if_pos c2]
    · rw [if_neg (show ¬ ((a * 128 + b % 128 : Nat) : Int) > 4294967295 by omega), if_neg c2]
      by_cases c3 : b < 128
      · rw [if_pos (show (b : Int) < 128 by omega), if_pos c3]
      · rw [if_neg (show ¬ (b : Int) < 128 by omega), if_neg c3]
/-- The reference reads a number as the program does. -/
theorem rel_groups (s s' : ByteArray) (p : Nat) (hs : s.size ≤ 100000) (hp : p ≤ s.size) (hd : L s' = (L s).drop p) : ∀ (d a i k : Nat), i + d = 9 → 2 * d < k → a ≤ 4294967295 → i ≤ (L s').length →
    ∀ v j c : Int, octet_groups.l0 k s' 4294967295 (a : Int) (i : Int) = some (v, j, c) → gongref01_Reader_Groups.l0 k 4294967295 (a : Int) (i : Int) s (p : Int) 0 = some (if c = 0 then (v, s, (p : Int) + j, 0) else (0, s, (p : Int), c)) := by
  have hlen := L_len s
  have hlen2 : (L s').length = s.size - p := by rw [hd, List.length_drop, hlen]
  have hlen3 := L_len s'
  intro d
  induction d with
  | zero =>
    intro a i k hi hk ha hl v j c h
    obtain ⟨k, rfl⟩ : ∃ m, k = m + 1 := ⟨k - 1, by omega⟩
    simp only [octet_groups.l0] at h
    rw [if_neg (by omega)] at h
    injection h with h
    injection h with h1 h2
    injection h2 with h2 h3
    subst h3
    simp only [gongref01_Reader_Groups.l0]
    rw [if_neg (by omega), if_neg (by decide)]
  | succ d ih =>
    intro a i k hi hk ha hl v j c h
    obtain ⟨k, rfl⟩ : ∃ m, k = m + 2 := ⟨k - 2, by omega⟩
    by_cases ce : i = (L s').length
    · simp only [octet_groups.l0] at h
      rw [if_pos (by omega), if_pos (by omega)] at h
      injection h with h
      injection h with h1 h2
      injection h2 with h2 h3
      subst h3
      simp only [gongref01_Reader_Groups.l0]
      rw [if_pos (by omega), if_pos (by rw [wrap_id (by omega) (by omega)]; omega), if_neg (by decide)]
    · have hlt : i < (L s').length := by omega
      have hlt2 : p + i < (L s).length := by omega
      rw [step_eq s' a i k ha (by omega) hlt] at h
      rw [rstep_eq s a i p k ha (by omega) hs hlt2]
      have hbe : (L s')[i]'hlt = (L s)[p + i]'hlt2 := by simp only [hd, List.getElem_drop]
      rw [hbe] at h
      obtain ⟨b, hbb⟩ : ∃ b : Nat, ((L s)[p + i]'hlt2).toNat = b := ⟨_, rfl⟩
      simp only [hbb] at h ⊢
      by_cases c1 : i = 0 ∧ b = 128
      · rw [if_pos c1] at h ⊢
        injection h with h
        injection h with h1 h2
        injection h2 with h2 h3
        subst h3
        rw [if_neg (by decide)]
      · rw [if_neg c1] at h ⊢
        by_cases c2 : 4294967295 < a * 128 + b % 128
        · rw [if_pos c2] at h ⊢
          injection h with h
          injection h with h1 h2
          injection h2 with h2 h3
          subst h3
          rw [if_neg (by decide)]
        · rw [if_neg c2] at h ⊢
          by_cases c3 : b < 128
          · rw [if_pos c3] at h ⊢
            injection h with h
            injection h with h1 h2
            injection h2 with h2 h3
            subst h1 h2 h3
            rw [if_pos rfl]
            have ej : ((p + i + 1 : Nat) : Int) = (p : Int) + ((i + 1 : Nat) : Int) := by omega
            rw [ej]
          · rw [if_neg c3] at h ⊢
            exact ih _ (i + 1) k (by omega) (by omega) (by omega) (by omega) v j c h
theorem rrg_sound (s : ByteArray) (p k : Nat) (hs : s.size ≤ 100000) (hp : p ≤ s.size) (hk : 20 ≤ k) :
    (∃ c : Int, c ≠ 0 ∧ gongref01_Reader_Groups.f k s (p : Int) 0 4294967295 = some (0, s, (p : Int), c)) ∨
    (∃ v j : Nat, v ≤ 4294967295 ∧ 0 < j ∧ p + j ≤ s.size ∧ gongref01_Reader_Groups.f k s (p : Int) 0 4294967295 = some ((v : Int), s, ((p + j : Nat) : Int), 0) ∧ (L s).drop p = grp v ++ (L s).drop (p + j)) := by
  have hlen := L_len s
  have hd : L (Bs ((L s).drop p)) = (L s).drop p := L_Bs _
  have hlen2 : (L (Bs ((L s).drop p))).length = s.size - p := by rw [hd, List.length_drop, hlen]
  have hf : gongref01_Reader_Groups.f k s (p : Int) 0 4294967295 = gongref01_Reader_Groups.l0 k 4294967295 0 0 s (p : Int) 0 := by unfold gongref01_Reader_Groups.f; rw [if_pos rfl]
  have rel := rel_groups s _ p hs hp hd 9 0 0 k (by omega) (by omega) (by omega) (by omega)
  rw [hf]
  rcases read_sound (Bs ((L s).drop p)) 9 0 0 k (by omega) (by omega) (by omega) (by omega) (fun _ => rfl) (fun h => absurd h (by omega)) with ⟨c, hc, h⟩ | ⟨v, j, hv, hj, h, ht⟩
  · have := rel _ _ _ h
    rw [if_neg hc] at this
    exact .inl ⟨c, hc, this⟩
  · have := rel _ _ _ h
    rw [if_pos rfl] at this
    have hgp := grp_pos v
    have hj0 : 0 < j := by
      have h0 := congrArg List.length ht
      rw [List.length_take] at h0
      omega
    refine .inr ⟨v, j, hv, hj0, by omega, ?_, ?_⟩
    · rw [Int.natCast_add]
      exact this
    · rw [← ht, hd, ← List.drop_drop, List.take_append_drop]
theorem rrg_grp (s : ByteArray) (p v k : Nat) (rest : List UInt8) (hs : s.size ≤ 100000) (hp : p ≤ s.size) (hv : v ≤ 4294967295) (hL : (L s).drop p = grp v ++ rest) (hk : 20 ≤ k) :
    gongref01_Reader_Groups.f k s (p : Int) 0 4294967295 = some ((v : Int), s, ((p + (grp v).length : Nat) : Int), 0) ∧ p + (grp v).length ≤ s.size ∧ (L s).drop (p + (grp v).length) = rest := by
  have hlen := L_len s
  have hd : L (Bs ((L s).drop p)) = (L s).drop p := L_Bs _
  have hf : gongref01_Reader_Groups.f k s (p : Int) 0 4294967295 = gongref01_Reader_Groups.l0 k 4294967295 0 0 s (p : Int) 0 := by unfold gongref01_Reader_Groups.f; rw [if_pos rfl]
  have rel := rel_groups s _ p hs hp hd 9 0 0 k (by omega) (by omega) (by omega) (by omega)
  have h := read_grp (Bs ((L s).drop p)) v k rest hv (by rw [hd, hL]) hk
  have := rel _ _ _ h
  rw [if_pos rfl] at this
  refine ⟨by rw [hf, Int.natCast_add]; exact this, ?_, by rw [← List.drop_drop, hL, List.drop_left]⟩
  have h0 := congrArg List.length hL
  rw [List.length_drop, List.length_append] at h0
  omega
theorem rl0_err (s : ByteArray) (p : Int) (c : Int) (hc : c ≠ 0) (l : List Int) (k : Nat) : gongref06_Decode.l0 (k + 1) s p c l = some ((⟨#[]⟩ : ByteArray), 60) := by
  simp only [gongref06_Decode.l0]
  rw [if_neg (fun h => hc h.2), if_neg hc]
theorem rl0_end (s : ByteArray) (p : Nat) (hs : s.size ≤ 100000) (hp : p = s.size) (l : List Int) (k : Nat) (hk : 2000 ≤ k) : gongref06_Decode.l0 (k + 1) s (p : Int) 0 l = some (if isS l = true then (Bs (putL l), 0) else ((⟨#[]⟩ : ByteArray), 60)) := by
  simp only [gongref06_Decode.l0]
  rw [if_neg (fun h => by have := h.1; rw [wrap_id (by omega) (by omega)] at this; omega), if_pos trivial, ris_eq l k (by omega)]
  simp only [Option.bind_some]
  by_cases c : isS l = true
  · obtain ⟨h1, h2, h3, h4⟩ := isS_parts c
    rw [if_pos c, if_pos c, rput_eq l (by omega) h3 k (by omega)]
    rfl
  · rw [if_neg c, if_neg c]
theorem rl0_step (s : ByteArray) (p : Nat) (hs : s.size ≤ 100000) (hp : p < s.size) (l : List Int) (hl : l.length ≤ 1000000) (k : Nat) : gongref06_Decode.l0 (k + 1) s (p : Int) 0 l = (gongref01_Reader_Groups.f k s (p : Int) 0 4294967295).bind fun t => gongref06_Decode.l0 k t.2.1 t.2.2.1 t.2.2.2 (l ++ [t.1]) := by
  simp only [gongref06_Decode.l0]
  rw [if_pos ⟨by rw [wrap_id (by omega) (by omega)]; omega, trivial⟩]
  simp only [if_pos (show (l.length + 1) * 8 ≤ 140737488355328 by omega)]
theorem rdec_sound (s : ByteArray) (hs : s.size ≤ 1000) : ∀ (d p k : Nat) (l : List Int), p + d = s.size → 2500 + d ≤ k → l.length ≤ p + 10 →
    gongref06_Decode.l0 k s (p : Int) 0 l = some ((⟨#[]⟩ : ByteArray), 60) ∨ ∃ r : List Int, isS (l ++ r) = true ∧ (L s).drop p = catG r ∧ gongref06_Decode.l0 k s (p : Int) 0 l = some (Bs (putL (l ++ r)), 0) := by
  intro d
  induction d using Nat.strongRecOn with
  | ind d ih =>
    intro p k l hd hk hl
    have hlen := L_len s
    obtain ⟨k, rfl⟩ : ∃ m, k = m + 1 := ⟨k - 1, by omega⟩
    by_cases ce : p = s.size
    · rw [rl0_end s p (by omega) ce l k (by omega)]
      by_cases c : isS l = true
      · rw [if_pos c]
        exact .inr ⟨[], by rw [List.append_nil]; exact c, by rw [List.drop_eq_nil_of_le (by omega)]; rfl, by rw [List.append_nil]⟩
      · rw [if_neg c]; exact .inl rfl
    · rw [rl0_step s p (by omega) (by omega) l (by omega) k]
      rcases rrg_sound s p k (by omega) (by omega) (by omega) with ⟨c, hc, h⟩ | ⟨v, j, hv, hj0, hj, h, hL⟩
      · rw [h]
        simp only [Option.bind_some]
        obtain ⟨k, rfl⟩ : ∃ m, k = m + 1 := ⟨k - 1, by omega⟩
        exact .inl (rl0_err s _ c hc _ k)
      · rw [h]
        simp only [Option.bind_some]
        rcases ih (d - j) (by omega) (p + j) k (l ++ [(v : Int)]) (by omega) (by omega) (by rw [List.length_append]; simp only [List.length_cons, List.length_nil]; omega) with h2 | ⟨r, h2, h3, h4⟩
        · exact .inl h2
        · rw [List.append_assoc] at h2 h4
          exact .inr ⟨(v : Int) :: r, h2, by rw [hL, h3, catG_cons, Int.toNat_natCast], h4⟩
theorem rdec_back (s : ByteArray) (hs : s.size ≤ 1000) : ∀ (r : List Int) (p k : Nat) (l : List Int), p ≤ s.size → isS (l ++ r) = true → (L s).drop p = catG r → 2500 + r.length ≤ k → gongref06_Decode.l0 k s (p : Int) 0 l = some (Bs (putL (l ++ r)), 0)
  | [], p, k, l, hp, hx, hL, hk => by
    obtain ⟨k, rfl⟩ : ∃ m, k = m + 1 := ⟨k - 1, by omega⟩
    have hlen := L_len s
    have hps : p = s.size := by
      have h0 := congrArg List.length hL
      rw [List.length_drop] at h0
      simp only [catG, List.flatMap_nil, List.length_nil] at h0
      omega
    rw [List.append_nil] at hx ⊢
    rw [rl0_end s p (by omega) hps l k (by omega), if_pos hx]
  | n :: r, p, k, l, hp, hx, hL, hk => by
    obtain ⟨k, rfl⟩ : ∃ m, k = m + 1 := ⟨k - 1, by omega⟩
    have hlen := L_len s
    obtain ⟨h1, h2, h3, h4⟩ := isS_parts hx
    have hn := h3 n (by simp)
    rw [catG_cons] at hL
    simp only [List.length_append, List.length_cons] at h2 hk
    obtain ⟨e1, e2, e3⟩ := rrg_grp s p n.toNat k _ (by omega) hp (by omega) hL (by omega)
    have hgp := grp_pos n.toNat
    rw [rl0_step s p (by omega) (by omega) l (by omega) k, e1]
    simp only [Option.bind_some]
    rw [show ((n.toNat : Nat) : Int) = n by omega, rdec_back s hs r _ k (l ++ [n]) e2 (by rw [List.append_assoc]; exact hx) e3 (by omega), List.append_assoc]
    rfl
theorem catG_len : ∀ l : List Int, (∀ x ∈ l, 0 ≤ x ∧ x ≤ 4294967295) → (catG l).length ≤ 5 * l.length
  | [], _ => by simp [catG]
  | n :: l, h => by
    have h1 := h n (by simp)
    have h2 := grp_len n.toNat (by omega)
    have h3 := catG_len l (fun x hx => h x (by simp [hx]))
    rw [catG_cons, List.length_append, List.length_cons]
    omega
theorem encL_len {x : List Int} (h : isS x = true) : 0 < (encL x).length ∧ (encL x).length ≤ 640 := by
  obtain ⟨h1, h2, h3, h4⟩ := isS_parts h
  match x, h, h1, h2, h3 with
  | x0 :: x1 :: l, h, h1, h2, h3 =>
    obtain ⟨p0, p1, p2, p3⟩ := heads_le h
    have e : encL (x0 :: x1 :: l) = grp (x1 + 40 * x0).toNat ++ catG l := catG_cons _ _
    have a := grp_len (x1 + 40 * x0).toNat (by omega)
    have b := grp_pos (x1 + 40 * x0).toNat
    have c := catG_len l (fun x hx => h3 x (by simp [hx]))
    simp only [List.length_cons] at h2
    rw [e, List.length_append]
    omega
theorem dec_same (s : ByteArray) (k : Nat) (hk : 9000 ≤ k) : ∃ r, oid_Decode.f k s = some r ∧ gongref06_Decode.f k s = some r := by
  have hlen := L_len s
  have hf : ∀ n : Int, gongref06_Decode.first n = mn (n / 40) 2 := fun n => rfl
  rcases decode_sound s k (by omega) with h | ⟨y, hy, h, hL⟩
  · refine ⟨_, h, ?_⟩
    unfold gongref06_Decode.f
    by_cases c0 : s.size = 0
    · rw [if_pos c0]
    · rw [if_neg c0]
      by_cases c1 : 640 < s.size
      · rw [if_pos c1]
      · rw [if_neg c1]
        rcases rrg_sound s 0 k (by omega) (by omega) (by omega) with ⟨c, hc, h2⟩ | ⟨v, j, hv, hj0, hj, h2, hL⟩
        · rw [Int.natCast_zero] at h2
          rw [h2]
          simp only [Option.bind_some]
          obtain ⟨k, rfl⟩ : ∃ m, k = m + 1 := ⟨k - 1, by omega⟩
          rw [if_pos (by omega), rl0_err s _ c hc _ k]
        · rw [Int.natCast_zero] at h2
          rw [h2]
          simp only [Option.bind_some]
          rw [if_pos (by omega), hf]
          rcases rdec_sound s (by omega) (s.size - (0 + j)) (0 + j) k [mn ((v : Int) / 40) 2, (v : Int) - 40 * mn ((v : Int) / 40) 2] (by omega) (by omega) (by simp only [List.length_cons, List.length_nil]; omega) with h3 | ⟨r, h3, h4, h5⟩
          · exact h3
          · exfalso
            have e : Bs (encL ([mn ((v : Int) / 40) 2, (v : Int) - 40 * mn ((v : Int) / 40) 2] ++ r)) = s := by
              apply L_inj
              rw [L_Bs]
              show catG (((v : Int) - 40 * mn ((v : Int) / 40) 2 + 40 * mn ((v : Int) / 40) 2) :: r) = _
              rw [List.drop_zero] at hL
              rw [hL, h4, catG_cons, show (v : Int) - 40 * mn ((v : Int) / 40) 2 + 40 * mn ((v : Int) / 40) 2 = (v : Int) by omega, Int.toNat_natCast]
            have := decode_enc h3 k (by omega)
            rw [e, h] at this
            injection this with this
            injection this with _ this
            cases this
  · refine ⟨_, h, ?_⟩
    have hsz := encL_len hy
    rw [← hL] at hsz
    unfold gongref06_Decode.f
    rw [if_neg (by omega), if_neg (by omega)]
    obtain ⟨h1, h2, h3, h4⟩ := isS_parts hy
    match y, hy, h1, h2, h3, hL with
    | x0 :: x1 :: l, hy, h1, h2, h3, hL =>
      obtain ⟨p0, p1, p2, p3⟩ := heads_le hy
      have hL2 : (L s).drop 0 = grp (x1 + 40 * x0).toNat ++ catG l := by rw [List.drop_zero, hL]; exact catG_cons _ _
      obtain ⟨e1, e2, e3⟩ := rrg_grp s 0 _ k _ (by omega) (by omega) (by omega) hL2 (by omega)
      rw [Int.natCast_zero] at e1
      simp only [List.length_cons] at h2
      rw [e1]
      simp only [Option.bind_some]
      rw [show (((x1 + 40 * x0).toNat : Nat) : Int) = x1 + 40 * x0 by omega, if_pos (by omega), hf, p3, show x1 + 40 * x0 - 40 * x0 = x1 by omega]
      exact rdec_back s (by omega) l _ k [x0, x1] e2 hy e3 (by omega)
end Go.Proofs.YtjfimileopbadaaGreatDoor.OidS
/- Layer 5 in plain lists: lengths, elements, their shortest forms; what the printed functions answer in these words. -/
namespace Go.Proofs.YtjfimileopbadaaGreatDoor.BerS
open Go.RowKit Gong Go.Proofs.YtjfimileopbadaaGreatDoor.XVaR Go.Proofs.YtjfimileopbadaaGreatDoorW.PrintWords Go.Proofs.YtjfimileopbadaaGreatDoorW.PrintLast Go.Proofs.YtjfimileopbadaaGreatDoorW.PrintMore
set_option linter.unusedVariables false
set_option linter.unusedSimpArgs false
/-- A text's bytes, and back. -/
def L (s : ByteArray) : List UInt8 := s.data.toList
def Bs (l : List UInt8) : ByteArray := ⟨l.toArray⟩
theorem L_Bs (l : List UInt8) : L (Bs l) = l := rfl
theorem data_Bs (l : List UInt8) : (Bs l).data.toList = l := rfl
theorem data_L (s : ByteArray) : s.data.toList = L s := rfl
theorem Bs_L (s : ByteArray) : Bs (L s) = s := by rcases s with ⟨⟨l⟩⟩; rfl
theorem L_inj {a b : ByteArray} (h : L a = L b) : a = b := by rw [← Bs_L a, h, Bs_L]
theorem size_L (s : ByteArray) : s.size = (L s).length := by simp [L]
theorem size_Bs (l : List UInt8) : (Bs l).size = l.length := by rw [size_L, L_Bs]
theorem L_extract (s : ByteArray) (a b : Nat) : L (s.extract a b) = ((L s).take b).drop a := by
  unfold L
  simp [List.drop_take]
theorem L_append (a b : ByteArray) : L (a ++ b) = L a ++ L b := by simp [L]
theorem toList_L (s : ByteArray) : s.toList = L s := ByteArray.toList_eq s
theorem bt_L (s : ByteArray) (i : Int) : bt s i = (((L s).getD i.toNat 0).toNat : Int) := by
  unfold bt
  by_cases h : i.toNat < s.size
  · rw [dif_pos h]
    rcases s with ⟨⟨l⟩⟩
    have h' : i.toNat < l.length := by simpa [ByteArray.size] using h
    simp [L, List.getD, h', ByteArray.getElem_eq_getElem_data]
  · rw [dif_neg h]
    rcases s with ⟨⟨l⟩⟩
    have h' : l.length ≤ i.toNat := by have : ¬ i.toNat < l.length := h; omega
    simp [L, List.getD, List.getElem?_eq_none h']
theorem wrap_id {n : Int} (h0 : -9223372036854775808 ≤ n) (h1 : n ≤ 9223372036854775807) : wrap64 n = n := by unfold wrap64; omega
/-- A number of bytes, the highest first. -/
def beN (l : List UInt8) : Nat := l.foldl (fun n b => n * 256 + b.toNat) 0
theorem beNum_beN (l : List UInt8) : beNum l = (beN l : Int) := by
  have key : ∀ (l : List UInt8) (a : Nat), l.foldl (fun (n : Int) b => n * 256 + (b.toNat : Int)) (a : Int) = ((l.foldl (fun n b => n * 256 + b.toNat) a : Nat) : Int) := by
    intro l
    induction l with
    | nil => intro a; rfl
    | cons b l ih => intro a; simp only [List.foldl_cons]; rw [← ih]; simp
  exact key l 0
theorem beN_lt (l : List UInt8) : beN l < 256 ^ l.length := by
  have h := (beNum_lt l).2
  rw [beNum_beN] at h
  have e : (256 : Int) ^ l.length = ((256 ^ l.length : Nat) : Int) := by rw [Int.natCast_pow]; rfl
  rw [e] at h
  omega
/-- The length that stands at the beginning, and how many bytes it has. -/
def lenS : List UInt8 → Option (Nat × Nat)
  | [] => none
  | b :: l => if b.toNat < 128 then some (b.toNat, 1) else if b.toNat = 128 ∨ 132 < b.toNat then none else if l.length < b.toNat - 128 then none else some (beN (l.take (b.toNat - 128)), 1 + (b.toNat - 128))
/-- The element at the beginning: its tag, its body, and what stands behind it. -/
def nextS : List UInt8 → Option (Nat × List UInt8 × List UInt8)
  | [] => none
  | t :: l => if t.toNat % 32 = 31 then none else
    match lenS l with
    | none => none
    | some (n, g) => if (l.drop g).length < n then none else some (t.toNat, (l.drop g).take n, (l.drop g).drop n)
theorem lenS_le {l : List UInt8} {n g : Nat} (h : lenS l = some (n, g)) : 1 ≤ g ∧ g ≤ 5 ∧ g ≤ l.length := by
  cases l with
  | nil => exact absurd h (by simp [lenS])
  | cons b l =>
    simp only [lenS] at h
    have hb := b.toNat_lt
    by_cases h1 : b.toNat < 128
    · rw [if_pos h1] at h
      simp only [Option.some.injEq, Prod.mk.injEq] at h
      simp only [List.length_cons]; omega
    · rw [if_neg h1] at h
      by_cases h2 : b.toNat = 128 ∨ 132 < b.toNat
      · rw [if_pos h2] at h; simp at h
      · rw [if_neg h2] at h
        by_cases h3 : l.length < b.toNat - 128
        · rw [if_pos h3] at h; simp at h
        · rw [if_neg h3] at h
          simp only [Option.some.injEq, Prod.mk.injEq] at h
          simp only [List.length_cons]; omega
theorem and31 (t : Nat) (h : t < 256) : Go.bits .and .i64 (t : Int) 31 = ((t % 32 : Nat) : Int) := by
  have := bits_mask .i64 63 (by decide) (fun n h0 h1 => by rw [IntKind.wrap_i64]; have : (2 : Int) ^ 63 = 9223372036854775808 := rfl; omega) 5 (by decide) (t : Int) (by omega) (by have : (2 : Int) ^ 63 = 9223372036854775808 := rfl; omega)
  have e : ((2 : Int) ^ 5 - 1) = 31 := rfl
  have e2 : ((2 : Int) ^ 5) = 32 := rfl
  rw [e, e2] at this
  rw [this]; omega
theorem isTag_eq (t : Nat) (h : t < 256) : ber_isTag.f (t : Int) = some (decide (t % 32 ≠ 31)) := by
  unfold ber_isTag.f
  rw [if_pos (by omega), if_pos (by omega), and31 t h]
  congr 1
  rw [Bool.eq_iff_iff]
  simp
  omega
end Go.Proofs.YtjfimileopbadaaGreatDoor.BerS
/- Layer 5: what 'put' answers, in plain lists. -/
namespace Go.Proofs.YtjfimileopbadaaGreatDoor.BerS
open Go.RowKit Gong Go.Proofs.YtjfimileopbadaaGreatDoor.XVaR Go.Proofs.YtjfimileopbadaaGreatDoorW.PrintWords Go.Proofs.YtjfimileopbadaaGreatDoorW.PrintLast Go.Proofs.YtjfimileopbadaaGreatDoorW.PrintMore
set_option linter.unusedVariables false
set_option linter.unusedSimpArgs false
/-- A number's last w bytes, the highest first. -/
def wideB (n w : Nat) : List UInt8 := ((bytes8 (n : Int)).drop (8 - w)).map fun x => UInt8.ofNat x.toNat
theorem wideB_len (n w : Nat) (h : w ≤ 8) : (wideB n w).length = w := by simp [wideB, bytes8]; omega
theorem strOf_map (xs : List Int) : strOfNums xs = Bs (xs.map fun x => UInt8.ofNat x.toNat) := rfl
theorem pow256 (w : Nat) : (2 : Int) ^ (8 * w) = ((256 ^ w : Nat) : Int) := by
  rw [Int.pow_mul, Int.natCast_pow]; rfl
theorem wide_small (n w : Nat) (h1 : 1 ≤ w) (h8 : w ≤ 8) (h : n < 256 ^ w) : octet_Wide.f (n : Int) (w : Int) = some (Bs (wideB n w), 0) := by
  unfold octet_Wide.f
  rw [if_pos ⟨by omega, by omega, by omega⟩, Int.toNat_natCast, pow256]
  have : (n : Int) / ((256 ^ w : Nat) : Int) = 0 := Int.ediv_eq_zero_of_lt (by omega) (by omega)
  rw [this, if_neg (by omega)]
  rfl
theorem shr8 (n w : Nat) (h8 : w ≤ 7) : shr .i64 (n : Int) (wrap64 (8 * (w : Int))) = ((n / 256 ^ w : Nat) : Int) := by
  rw [wrap_id (by omega) (by omega)]
  unfold shr
  have e : (8 * (w : Int)).toNat = 8 * w := by omega
  have e2 : IntKind.i64.bits = 64 := rfl
  rw [e, e2, Nat.min_eq_left (by omega), pow256]
  rfl
theorem bytesOf_map (l : List UInt8) : (Go.Proofs.YtjfimileopbadaaGreatDoorW.PrintWords.bytesOf (Bs l)).map (fun x => UInt8.ofNat x.toNat) = l := by
  unfold Go.Proofs.YtjfimileopbadaaGreatDoorW.PrintWords.bytesOf
  rw [data_Bs, List.map_map]
  conv => rhs; rw [← List.map_id l]
  congr 1
  funext b
  simp
/-- The tag's byte, and the first one of a long length. -/
theorem put_step (k n w : Nat) (tag : Int) (body : List UInt8) (h0 : 0 ≤ tag) (h1 : tag < 256) (hw1 : 1 ≤ w) (hw : w ≤ 4) (hn : n < 4294967296) (hb : body.length ≤ 140737488355328) :
    ber_put.l0 (k + 1) (Bs body) (n : Int) [tag % 256, (n : Int) % 256] (w : Int) =
      if n < 256 ^ w then some (Bs (UInt8.ofNat tag.toNat :: UInt8.ofNat (128 + w) :: (wideB n w ++ body))) else ber_put.l0 k (Bs body) (n : Int) [tag % 256, (n : Int) % 256] ((w + 1 : Nat) : Int) := by
  simp only [ber_put.l0]
  rw [shr8 n w (by omega), wrap_id (by omega) (by omega), if_pos (by omega)]
  by_cases h : n < 256 ^ w
  · rw [if_pos h, Nat.div_eq_of_lt h, if_neg (by decide), wide_small n w hw1 (by omega) h]
    simp only [Option.bind_some]
    rw [if_pos (by simp)]
    have e1 : wrap64 (128 + (w : Int)) % 256 = ((128 + w : Nat) : Int) := by rw [wrap_id (by omega) (by omega)]; omega
    have e2 : tag % 256 = tag := by omega
    rw [e1, e2]
    have e3 : ([tag, (n : Int) % 256].set (1 : Int).toNat ((128 + w : Nat) : Int)) = [tag, ((128 + w : Nat) : Int)] := rfl
    rw [e3, size_Bs, wideB_len n w (by omega), if_pos (by simp; omega)]
    have e4 : strOfNums ([tag, ((128 + w : Nat) : Int)] ++ Go.Proofs.YtjfimileopbadaaGreatDoorW.PrintWords.bytesOf (Bs (wideB n w))) = Bs (UInt8.ofNat tag.toNat :: UInt8.ofNat (128 + w) :: wideB n w) := by
      rw [strOf_map, List.map_append, bytesOf_map]
      rfl
    rw [e4, if_pos (by rw [size_Bs, size_Bs]; simp [wideB_len n w (by omega)]; omega)]
    rfl
  · rw [if_neg h, if_pos (by have : 0 < n / 256 ^ w := Nat.div_pos (by omega) (Nat.pow_pos (by decide)); omega)]
    rw [wrap_id (by omega) (by omega)]
    rfl
/-- How many bytes a number takes (below 2^32), at least one. -/
def nby (n : Nat) : Nat := if n < 256 then 1 else if n < 65536 then 2 else if n < 16777216 then 3 else 4
/-- A length in its shortest form. -/
def lenEnc (n : Nat) : List UInt8 := if n < 128 then [UInt8.ofNat n] else UInt8.ofNat (128 + nby n) :: wideB n (nby n)
/-- An element. -/
def enc (t : Nat) (body : List UInt8) : List UInt8 := UInt8.ofNat t :: (lenEnc body.length ++ body)
theorem put_eq (k t : Nat) (body : List UInt8) (ht : t < 256) (hb : body.length < 4294967296) (hk : 4 ≤ k) : ber_put.f k (t : Int) (Bs body) = some (Bs (enc t body)) := by
  unfold ber_put.f
  simp only [Option.bind_some, size_Bs]
  by_cases h : body.length < 128
  · rw [if_neg (by omega), if_pos (by rw [strOf_map, size_Bs]; simp; omega)]
    congr 1
    apply L_inj
    rw [L_append, strOf_map, L_Bs, L_Bs, L_Bs]
    have e1 : (t : Int) % 256 = (t : Int) := by omega
    have e2 : (body.length : Int) % 256 = (body.length : Int) := by omega
    simp [enc, lenEnc, h, e1, e2]
  · rw [if_pos (by omega)]
    obtain ⟨k, rfl⟩ : ∃ m, k = m + 4 := ⟨k - 4, by omega⟩
    have st := fun j w hw1 hw => put_step j body.length w (t : Int) body (by omega) (by omega) hw1 hw hb (by omega)
    have s1 := st (k + 3) 1 (by omega) (by omega)
    have s2 := st (k + 2) 2 (by omega) (by omega)
    have s3 := st (k + 1) 3 (by omega) (by omega)
    have s4 := st k 4 (by omega) (by omega)
    rw [show ((1 : Nat) : Int) = 1 from rfl] at s1
    rw [show k + 4 = k + 3 + 1 from rfl, s1]
    have p1 : 256 ^ 1 = 256 := rfl
    have p2 : 256 ^ 2 = 65536 := rfl
    have p3 : 256 ^ 3 = 16777216 := rfl
    have p4 : 256 ^ 4 = 4294967296 := rfl
    rw [p1]
    by_cases h1 : body.length < 256
    · rw [if_pos h1]
      simp [enc, lenEnc, h, nby, h1]
    · rw [if_neg h1, s2, p2]
      by_cases h2 : body.length < 65536
      · rw [if_pos h2]
        simp [enc, lenEnc, h, nby, h1, h2]
      · rw [if_neg h2, s3, p3]
        by_cases h3 : body.length < 16777216
        · rw [if_pos h3]
          simp [enc, lenEnc, h, nby, h1, h2, h3]
        · rw [if_neg h3, s4, p4, if_pos (by omega)]
          simp [enc, lenEnc, h, nby, h1, h2, h3]
theorem u8_ofInt (x : Int) (h0 : 0 ≤ x) (h1 : x < 256) : ((UInt8.ofNat x.toNat).toNat : Int) = x := by
  rw [UInt8.toNat_ofNat']
  omega
theorem beN_wide (n w : Nat) (hw1 : 1 ≤ w) (hw : w ≤ 4) (hn : n < 256 ^ w) : beN (wideB n w) = n := by
  have hr : List.range 8 = [0, 1, 2, 3, 4, 5, 6, 7] := rfl
  have p1 : 256 ^ 1 = 256 := rfl
  have p2 : 256 ^ 2 = 65536 := rfl
  have p3 : 256 ^ 3 = 16777216 := rfl
  have p4 : 256 ^ 4 = 4294967296 := rfl
  have q1 : (2 : Int) ^ 8 = 256 := rfl
  have q2 : (2 : Int) ^ 16 = 65536 := rfl
  have q3 : (2 : Int) ^ 24 = 16777216 := rfl
  have key : ((beN (wideB n w) : Nat) : Int) = (n : Int) := by
    have hw' : w = 1 ∨ w = 2 ∨ w = 3 ∨ w = 4 := by omega
    rcases hw' with rfl | rfl | rfl | rfl
    · have e := u8_ofInt ((n : Int) % 256) (by omega) (by omega)
      simp [wideB, bytes8, hr, beN] at e ⊢
      omega
    · have e := u8_ofInt ((n : Int) % 256) (by omega) (by omega)
      have e2 := u8_ofInt ((n : Int) / 256 % 256) (by omega) (by omega)
      simp [wideB, bytes8, hr, beN, q1] at e e2 ⊢
      omega
    · have e := u8_ofInt ((n : Int) % 256) (by omega) (by omega)
      have e2 := u8_ofInt ((n : Int) / 256 % 256) (by omega) (by omega)
      have e3 := u8_ofInt ((n : Int) / 65536 % 256) (by omega) (by omega)
      simp [wideB, bytes8, hr, beN, q1, q2] at e e2 e3 ⊢
      omega
    · have e := u8_ofInt ((n : Int) % 256) (by omega) (by omega)
      have e2 := u8_ofInt ((n : Int) / 256 % 256) (by omega) (by omega)
      have e3 := u8_ofInt ((n : Int) / 65536 % 256) (by omega) (by omega)
      have e4 := u8_ofInt ((n : Int) / 16777216 % 256) (by omega) (by omega)
      simp [wideB, bytes8, hr, beN, q1, q2, q3] at e e2 e3 e4 ⊢
      omega
  omega
theorem nby_le (n : Nat) (hn : n < 4294967296) : 1 ≤ nby n ∧ nby n ≤ 4 ∧ n < 256 ^ nby n := by
  have p1 : 256 ^ 1 = 256 := rfl
  have p2 : 256 ^ 2 = 65536 := rfl
  have p3 : 256 ^ 3 = 16777216 := rfl
  have p4 : 256 ^ 4 = 4294967296 := rfl
  unfold nby
  split
  · omega
  · split
    · omega
    · split <;> omega
theorem lenEnc_len (n : Nat) : (lenEnc n).length = if n < 128 then 1 else 1 + nby n := by
  unfold lenEnc
  split
  · rfl
  · rw [List.length_cons, wideB_len _ _ (by unfold nby; split <;> (try split) <;> (try split) <;> omega)]
    omega
theorem lenS_enc (n : Nat) (r : List UInt8) (hn : n < 4294967296) : lenS (lenEnc n ++ r) = some (n, (lenEnc n).length) := by
  rw [lenEnc_len]
  unfold lenEnc
  by_cases h : n < 128
  · rw [if_pos h, if_pos h]
    have e : (UInt8.ofNat n).toNat = n := by rw [UInt8.toNat_ofNat']; omega
    simp only [List.cons_append, List.nil_append, lenS, e]
    rw [if_pos h]
  · rw [if_neg h, if_neg h]
    obtain ⟨h1, h4, h5⟩ := nby_le n hn
    have e : (UInt8.ofNat (128 + nby n)).toNat = 128 + nby n := by rw [UInt8.toNat_ofNat']; omega
    have hl := wideB_len n (nby n) (by omega)
    simp only [List.cons_append, lenS, e]
    rw [if_neg (by omega), if_neg (by omega), if_neg (by rw [List.length_append, hl]; omega)]
    have e2 : 128 + nby n - 128 = nby n := by omega
    rw [e2, List.take_append_of_le_length (by omega), List.take_of_length_le (by omega), beN_wide n _ h1 h4 h5]
theorem next_enc (t : Nat) (b r : List UInt8) (ht : t < 256) (ht2 : t % 32 ≠ 31) (hb : b.length < 4294967296) : nextS (enc t b ++ r) = some (t, b, r) := by
  have e : (UInt8.ofNat t).toNat = t := by rw [UInt8.toNat_ofNat']; omega
  unfold enc
  simp only [List.cons_append, List.append_assoc, nextS, e]
  rw [if_neg ht2, lenS_enc _ _ hb]
  simp only [List.drop_left]
  rw [if_neg (by rw [List.length_append]; omega)]
  simp
theorem lenEnc_pos (n : Nat) : 1 ≤ (lenEnc n).length := by rw [lenEnc_len]; split <;> omega
theorem enc_len (t : Nat) (b : List UInt8) : (enc t b).length = 1 + (lenEnc b.length).length + b.length := by
  simp [enc]; omega
end Go.Proofs.YtjfimileopbadaaGreatDoor.BerS
/- Layer 5: whole numbers in their shortest forms, and back. -/
namespace Go.Proofs.YtjfimileopbadaaGreatDoor.BerS
open Go.RowKit Gong Go.Proofs.YtjfimileopbadaaGreatDoor.XVaR Go.Proofs.YtjfimileopbadaaGreatDoorW.PrintWords Go.Proofs.YtjfimileopbadaaGreatDoorW.PrintLast Go.Proofs.YtjfimileopbadaaGreatDoorW.PrintMore
set_option linter.unusedVariables false
set_option linter.unusedSimpArgs false
/-- The first byte tells nothing. -/
def spareS : List UInt8 → Bool
  | a :: b :: _ => (a.toNat = 0 && decide (b.toNat < 128)) || (a.toNat = 255 && decide (128 ≤ b.toNat))
  | _ => false
theorem spare_eq (s : ByteArray) : ber_spare.f s = some (spareS (L s)) := by
  unfold ber_spare.f
  have hs := size_L s
  cases h : L s with
  | nil => rw [h] at hs; rw [if_neg (by rw [hs]; decide)]; rfl
  | cons a l =>
    cases l with
    | nil => rw [h] at hs; rw [if_neg (by rw [hs]; simp)]; rfl
    | cons b r =>
      rw [h] at hs
      simp only [List.length_cons] at hs
      have ea : bt s 0 = (a.toNat : Int) := by rw [bt_L, h]; rfl
      have eb : bt s 1 = (b.toNat : Int) := by rw [bt_L, h]; rfl
      have ha := a.toNat_lt
      have hb := b.toNat_lt
      rw [if_pos (by omega), if_pos (by omega), ea, eb]
      simp only [spareS]
      have h1s : (1 : Int) < (s.size : Int) := by omega
      simp only [h1s, if_true]
      by_cases h0 : a.toNat = 0
      · rw [if_pos (by omega)]
        by_cases h1 : b.toNat < 128
        · rw [if_pos (by omega)]; simp [h0, h1]
        · rw [if_neg (by omega), if_neg (by omega)]; simp [h0, h1]
      · rw [if_neg (by omega)]
        by_cases h2 : a.toNat = 255
        · rw [if_pos (by omega)]
          congr 1
          rw [Bool.eq_iff_iff]
          simp [h0, h2]
          omega
        · rw [if_neg (by omega)]; simp [h0, h2]
/-- Without the spare bytes in front. -/
def trimS : List UInt8 → List UInt8
  | [] => []
  | a :: l => if spareS (a :: l) = true then trimS l else a :: l
theorem trim_at : ∀ (l : List UInt8) (k : Nat), l.length < k → ber_trimmed.l0 k (Bs l) = some (Bs (trimS l))
  | [], k, h => by
    obtain ⟨k, rfl⟩ : ∃ m, k = m + 1 := ⟨k - 1, by omega⟩
    simp only [ber_trimmed.l0]
    rw [spare_eq, L_Bs]
    rfl
  | a :: l, k, h => by
    simp only [List.length_cons] at h
    obtain ⟨k, rfl⟩ : ∃ m, k = m + 1 := ⟨k - 1, by omega⟩
    simp only [ber_trimmed.l0]
    rw [spare_eq, L_Bs]
    simp only [Option.bind_some, trimS]
    by_cases hs : spareS (a :: l) = true
    · have e : (Bs (a :: l)).extract 1 (Bs (a :: l)).size = Bs l := by
        apply L_inj; rw [L_extract, L_Bs, L_Bs, size_Bs, List.take_of_length_le (Nat.le_refl _)]; rfl
      rw [if_pos hs, if_pos hs, if_pos (by rw [size_Bs]; simp only [List.length_cons]; omega), e]
      exact trim_at l k (by omega)
    · rw [if_neg hs, if_neg hs]
theorem onto_cons (n : Int) (b : UInt8) (l : List UInt8) : onto n (b :: l) = onto (n * 256 + (b.toNat : Int)) l := rfl
theorem trim_sNum : ∀ l : List UInt8, sNum (trimS l) = sNum l
  | [] => rfl
  | a :: l => by
    rw [trimS]
    by_cases hs : spareS (a :: l) = true
    · rw [if_pos hs, trim_sNum l]
      cases l with
      | nil => simp [spareS] at hs
      | cons b r =>
        show onto (sByte (b.toNat : Int)) r = onto (sByte (a.toNat : Int)) (b :: r)
        rw [onto_cons]
        congr 1
        simp [spareS] at hs
        have hb := b.toNat_lt
        unfold sByte
        rcases hs with ⟨h1, h2⟩ | ⟨h1, h2⟩
        · rw [h1]; simp; omega
        · rw [h1]; simp; omega
    · rw [if_neg hs]
theorem trim_spare : ∀ l : List UInt8, spareS (trimS l) = false
  | [] => rfl
  | a :: l => by
    rw [trimS]
    by_cases hs : spareS (a :: l) = true
    · rw [if_pos hs]; exact trim_spare l
    · rw [if_neg hs]; simpa using hs
theorem trim_len : ∀ l : List UInt8, (trimS l).length ≤ l.length ∧ ((trimS l).length = l.length → trimS l = l) ∧ (l ≠ [] → trimS l ≠ [])
  | [] => ⟨Nat.le_refl _, fun _ => rfl, fun h => h⟩
  | a :: l => by
    rw [trimS]
    have ih := trim_len l
    by_cases hs : spareS (a :: l) = true
    · rw [if_pos hs]
      simp only [List.length_cons]
      refine ⟨by omega, fun h => by omega, fun _ => ih.2.2 ?_⟩
      intro h
      rw [h] at hs
      simp [spareS] at hs
    · rw [if_neg hs]
      exact ⟨Nat.le_refl _, fun _ => rfl, fun h => h⟩
/-- The eight bytes of a number. -/
def W8 (n : Int) : List UInt8 := (bytes8 n).map fun x => UInt8.ofNat x.toNat
theorem W8_eq (n : Int) : W8 n = [UInt8.ofNat (n / 2 ^ 56 % 256).toNat, UInt8.ofNat (n / 2 ^ 48 % 256).toNat, UInt8.ofNat (n / 2 ^ 40 % 256).toNat, UInt8.ofNat (n / 2 ^ 32 % 256).toNat, UInt8.ofNat (n / 2 ^ 24 % 256).toNat, UInt8.ofNat (n / 2 ^ 16 % 256).toNat, UInt8.ofNat (n / 2 ^ 8 % 256).toNat, UInt8.ofNat (n / 2 ^ 0 % 256).toNat] := rfl
theorem onto_W8 (m n : Int) : onto m (W8 n) = m * 18446744073709551616 + n % 18446744073709551616 := by
  have u := fun j : Nat => u8_ofInt (n / 2 ^ j % 256) (by omega) (by omega)
  rw [W8_eq]
  simp only [onto_cons, u]
  have e : ∀ z : Int, onto z [] = z := fun _ => rfl
  rw [e]
  have q0 : (2 : Int) ^ 0 = 1 := rfl
  have q1 : (2 : Int) ^ 8 = 256 := rfl
  have q2 : (2 : Int) ^ 16 = 65536 := rfl
  have q3 : (2 : Int) ^ 24 = 16777216 := rfl
  have q4 : (2 : Int) ^ 32 = 4294967296 := rfl
  have q5 : (2 : Int) ^ 40 = 1099511627776 := rfl
  have q6 : (2 : Int) ^ 48 = 281474976710656 := rfl
  have q7 : (2 : Int) ^ 56 = 72057594037927936 := rfl
  rw [q0, q1, q2, q3, q4, q5, q6, q7]
  omega
theorem sNum_W8 (n : Int) (h0 : -9223372036854775808 ≤ n) (h1 : n ≤ 9223372036854775807) : sNum (W8 n) = n := by
  have h := onto_W8 0 n
  rw [W8_eq, onto_cons, u8_ofInt _ (by omega) (by omega)] at h
  have e : sNum (W8 n) = onto (sByte (n / 2 ^ 56 % 256)) (W8 n).tail := by
    rw [W8_eq]
    show onto (sByte (((UInt8.ofNat (n / 2 ^ 56 % 256).toNat).toNat : Int))) _ = _
    rw [u8_ofInt _ (by omega) (by omega)]
  have lin : ∀ (l : List UInt8) (a b : Int), onto (a + b) l = onto a l + b * 256 ^ l.length := by
    intro l
    induction l with
    | nil => intro a b; simp [onto]
    | cons x l ih =>
      intro a b
      rw [onto_cons, onto_cons, show (a + b) * 256 + (x.toNat : Int) = (a * 256 + (x.toNat : Int)) + b * 256 from by omega, ih, List.length_cons, Int.pow_succ]
      rw [Int.mul_assoc, Int.mul_comm 256]
  rw [e, W8_eq]
  simp only [List.tail_cons]
  have q7 : (2 : Int) ^ 56 = 72057594037927936 := rfl
  have p7 : (256 : Int) ^ 7 = 72057594037927936 := rfl
  unfold sByte
  by_cases ht : 128 ≤ n / 2 ^ 56 % 256
  · rw [if_pos ht, show n / 2 ^ 56 % 256 - 256 = (0 * 256 + n / 2 ^ 56 % 256) + (-256) from by omega, lin, h]
    simp only [List.length_cons, List.length_nil]
    rw [p7]
    rw [q7] at ht
    omega
  · rw [if_neg ht, show n / 2 ^ 56 % 256 = 0 * 256 + n / 2 ^ 56 % 256 from by omega, h]
    rw [q7] at ht
    omega
theorem W9_eq (n : Int) : (bytes9 n).map (fun x => UInt8.ofNat x.toNat) = 0 :: W8 n := rfl
theorem sNum_W9 (n : Int) (h0 : 0 ≤ n) (h1 : n ≤ 18446744073709551615) : sNum (0 :: W8 n) = n := by
  show onto (sByte 0) (W8 n) = n
  have e : sByte 0 = 0 := rfl
  rw [e, onto_W8]
  omega
theorem putN (n : Int) (k : Nat) (hk : 9 ≤ k) : ber_PutNumber.f k n = some (Bs (trimS (W8 n))) := by
  unfold ber_PutNumber.f ber_trimmed.f
  exact trim_at (W8 n) k (by simp [W8, bytes8]; omega)
theorem putU (n : Int) (k : Nat) (hk : 10 ≤ k) : ber_PutUnsigned.f k n = some (Bs (trimS (0 :: W8 n))) := by
  unfold ber_PutUnsigned.f ber_trimmed.f
  exact trim_at (0 :: W8 n) k (by simp [W8, bytes8]; omega)
theorem W8_len (n : Int) : (W8 n).length = 8 := by simp [W8, bytes8]
theorem number_back (n : Int) (h0 : -9223372036854775808 ≤ n) (h1 : n ≤ 9223372036854775807) : ber_Number.f (Bs (trimS (W8 n))) = some (n, 0) := by
  have hl := trim_len (W8 n)
  rw [W8_len] at hl
  have hne : trimS (W8 n) ≠ [] := hl.2.2 (by intro h; have := W8_len n; rw [h] at this; simp at this)
  have hp := List.length_pos_iff.mpr hne
  unfold ber_Number.f
  rw [if_pos (by rw [size_Bs]; omega), spare_eq, L_Bs, trim_spare]
  simp only [Option.bind_some]
  rw [if_neg (by decide), data_Bs, trim_sNum, sNum_W8 n h0 h1]
theorem unsigned_back (n : Int) (h0 : 0 ≤ n) (h1 : n ≤ 18446744073709551615) : ber_Unsigned.f (Bs (trimS (0 :: W8 n))) = some (n, 0) := by
  have hl := trim_len (0 :: W8 n)
  simp only [List.length_cons, W8_len] at hl
  have hne : trimS (0 :: W8 n) ≠ [] := hl.2.2 (by simp)
  have hp := List.length_pos_iff.mpr hne
  have hv : sNum (trimS (0 :: W8 n)) = n := by rw [trim_sNum, sNum_W9 n h0 h1]
  obtain ⟨a, r, hr⟩ : ∃ a r, trimS (0 :: W8 n) = a :: r := by
    cases h : trimS (0 :: W8 n) with
    | nil => exact absurd h hne
    | cons a r => exact ⟨a, r, rfl⟩
  have ha := a.toNat_lt
  have neg : ∀ (l : List UInt8) (x : Int), x < 0 → onto x l < 0 := by
    intro l
    induction l with
    | nil => intro x hx; exact hx
    | cons b l ih => intro x hx; rw [onto_cons]; have := b.toNat_lt; exact ih _ (by omega)
  have hv2 : onto (sByte (a.toNat : Int)) r = n := by rw [← hv, hr]; rfl
  have ha7 : a.toNat < 128 := by
    by_cases h : a.toNat < 128
    · exact h
    · have hs : sByte (a.toNat : Int) < 0 := by unfold sByte; rw [if_pos (by omega)]; omega
      have := neg r _ hs
      omega
  have hb : beNum (a :: r) = n := by
    rw [← hv2]
    show onto (0 * 256 + (a.toNat : Int)) r = _
    congr 1
    unfold sByte
    rw [if_neg (by omega)]
    omega
  have hsp := trim_spare (0 :: W8 n)
  rw [hr] at hsp hp hl ⊢
  have ebt : bt (Bs (a :: r)) 0 = (a.toNat : Int) := by rw [bt_L]; rfl
  unfold ber_Unsigned.f
  rw [ebt, if_pos (by rw [size_Bs]; omega), spare_eq, L_Bs, hsp]
  simp only [Option.bind_some]
  rw [if_neg (by decide), data_Bs, hb]
  by_cases h9 : 8 < (Bs (a :: r)).size ∧ (a.toNat : Int) ≠ 0
  · obtain ⟨h9, h10⟩ := h9
    rw [size_Bs] at h9
    have := hl.2.1 (by omega)
    rw [List.cons.injEq] at this
    rw [this.1] at h10
    exact absurd rfl h10
  · rw [if_neg h9]
end Go.Proofs.YtjfimileopbadaaGreatDoor.BerS
/- Layer 5: the reference's Number and Unsigned answer as the program's. -/
namespace Go.Proofs.YtjfimileopbadaaGreatDoor.BerS
open Go.RowKit Gong Go.Proofs.YtjfimileopbadaaGreatDoor.XVaR Go.Proofs.YtjfimileopbadaaGreatDoorW.PrintWords Go.Proofs.YtjfimileopbadaaGreatDoorW.PrintLast Go.Proofs.YtjfimileopbadaaGreatDoorW.PrintMore
set_option linter.unusedVariables false
set_option linter.unusedSimpArgs false
/-- Behind the test for bytes to spare. -/
theorem num_j0 (k : Nat) (a : ByteArray) : gongref05_Number.j0 (k + 1) a false = (ber_spare.f a).bind fun b => gongref05_Number.j1 k a b := by
  simp only [gongref05_Number.j0, ber_spare.f]
  rw [if_neg (by simp)]
  by_cases h1 : (a.size : Int) > 1
  · have h1' : (1 : Int) < (a.size : Int) := h1
    have h0 : (0 : Int) < (a.size : Int) := by omega
    by_cases h2 : bt a 0 = 0
    · by_cases h3 : bt a 1 < 128
      · simp only [h1', h0, h2, h3, if_true, gt_iff_lt]; rfl
      · simp only [h1', h0, h2, h3, if_true, if_false, gt_iff_lt]; rfl
    · by_cases h4 : bt a 0 = 255
      · simp only [h1', h0, h2, h4, if_true, if_false, gt_iff_lt]; rfl
      · simp only [h1', h0, h2, h4, if_true, if_false, gt_iff_lt]; rfl
  · rw [if_neg h1, if_neg h1]; rfl
theorem bt_get (s : ByteArray) (i : Nat) (h : i < (L s).length) : bt s (i : Int) = (((L s)[i]'h).toNat : Int) := by
  rw [bt_L, Int.toNat_natCast, List.getD_eq_getElem?_getD, List.getElem?_eq_getElem h]
  rfl
theorem num_loop (s : ByteArray) (b : UInt8) (t : List UInt8) (hL : L s = b :: t) (hs : t.length ≤ 7) : ∀ (d i k : Nat), i + d = t.length → d < k →
    gongref05_Number.l0 k s (onto (sByte (b.toNat : Int)) (t.take i)) ((i + 1 : Nat) : Int) = some (onto (sByte (b.toNat : Int)) t, 0) := by
  have hsz : s.size = t.length + 1 := by rw [size_L, hL]; rfl
  intro d
  induction d with
  | zero =>
    intro i k hi hk
    obtain ⟨k, rfl⟩ : ∃ m, k = m + 1 := ⟨k - 1, by omega⟩
    simp only [gongref05_Number.l0]
    rw [if_neg (by omega), List.take_of_length_le (by omega)]
  | succ d ih =>
    intro i k hi hk
    obtain ⟨k, rfl⟩ : ∃ m, k = m + 1 := ⟨k - 1, by omega⟩
    simp only [gongref05_Number.l0]
    rw [if_pos (by omega), if_pos (by omega)]
    have hlt : i < t.length := by omega
    have e1 : bt s ((i + 1 : Nat) : Int) = (((t.getD i 0)).toNat : Int) := by
      rw [bt_get s (i + 1) (by rw [hL]; simp; omega)]
      simp [hL, List.getD_eq_getElem?_getD, hlt]
    have e2 := onto_small (b.toNat : Int) t i (by omega) (by have := b.toNat_lt; omega) (by omega)
    rw [e1, i64_or_byte _ (t.getD i 0) e2.1 e2.2, ← onto_take _ _ _ hlt, wrap_id (by omega) (by omega), show ((i + 1 : Nat) : Int) + 1 = ((i + 1 + 1 : Nat) : Int) by omega]
    exact ih (i + 1) k (by omega) (by omega)
theorem refNumber_eq (a : ByteArray) (k : Nat) (hk : 20 ≤ k) : gongref05_Number.f k a = ber_Number.f a := by
  obtain ⟨k, rfl⟩ : ∃ m, k = m + 5 := ⟨k - 5, by omega⟩
  unfold gongref05_Number.f ber_Number.f
  by_cases h0 : (a.size : Int) < 1
  · rw [if_pos h0, if_neg (by omega)]
    simp only [gongref05_Number.j0]
    rfl
  · rw [if_neg h0]
    by_cases h8 : (a.size : Int) > 8
    · rw [decide_eq_true h8, if_neg (by omega)]
      simp only [gongref05_Number.j0]
      rfl
    · rw [decide_eq_false h8, if_pos (by omega), num_j0, spare_eq]
      simp only [Option.bind_some]
      cases hsp : spareS (L a) with
      | true =>
        simp only [gongref05_Number.j1]
        rfl
      | false =>
        simp only [gongref05_Number.j1, gongref05_Number.j2]
        rw [if_neg Bool.false_ne_true, if_neg Bool.false_ne_true, if_pos (show 0 < (a.size : Int) by omega)]
        obtain ⟨b, t, hL⟩ : ∃ b t, L a = b :: t := by
          cases hl : L a with
          | nil => have : a.size = 0 := by rw [size_L, hl]; rfl
                   omega
          | cons b t => exact ⟨b, t, rfl⟩
        have hsz : a.size = t.length + 1 := by rw [size_L, hL]; rfl
        have hb0 : bt a 0 = (b.toNat : Int) := by rw [bt_L, hL]; rfl
        have hb := b.toNat_lt
        have hsn : sNum a.data.toList = onto (sByte (b.toNat : Int)) t := by rw [show a.data.toList = b :: t from hL]; rfl
        have step : ∀ s0 : Int, s0 = (if bt a 0 ≥ 128 then -1 else 0) → gongref05_Number.l0 (k + 2) a s0 0 = some (sNum a.data.toList, 0) := by
          intro s0 hs0
          rw [gongref05_Number.l0]
          rw [if_pos (by omega), if_pos (by omega)]
          have e3 : Go.bits .or .i64 (wrap64 (s0 * 256)) (wrap64 (bt a 0)) = sByte (b.toNat : Int) := by
            rw [hb0, i64_or_byte s0 b (by rw [hs0]; split <;> omega) (by rw [hs0]; split <;> omega)]
            rw [hb0] at hs0
            unfold sByte
            split at hs0 <;> rename_i hh
            · rw [if_pos (by omega), hs0]; omega
            · rw [if_neg (by omega), hs0]; omega
          rw [e3, show wrap64 ((0 : Int) + 1) = ((0 + 1 : Nat) : Int) by unfold wrap64; omega, hsn]
          have := num_loop a b t hL (by omega) t.length 0 (k + 1) (by omega) (by omega)
          rw [show onto (sByte (b.toNat : Int)) (t.take 0) = sByte (b.toNat : Int) from rfl] at this
          exact this
        by_cases h128 : bt a 0 ≥ 128
        · rw [if_pos h128]
          exact step _ (by rw [if_pos h128])
        · rw [if_neg h128]
          exact step _ (by rw [if_neg h128])
/-- A number without a sign: where the first byte is below 128 the two readings are one. -/
theorem sNum_be {l : List UInt8} {b : UInt8} {t : List UInt8} (hl : l = b :: t) (h : b.toNat < 128) : sNum l = beNum l := by
  subst hl
  have e : sByte (b.toNat : Int) = 0 * 256 + (b.toNat : Int) := by
    unfold sByte
    rw [if_neg (by omega)]
    omega
  unfold sNum beNum onto
  rw [List.headD_cons, List.tail_cons, List.foldl_cons, e]
theorem sNum_neg {l : List UInt8} {b : UInt8} {t : List UInt8} (hl : l = b :: t) (h : 128 ≤ b.toNat) : sNum l < 0 := by
  subst hl
  unfold sNum
  simp only [List.headD_cons, List.tail_cons]
  have hb := b.toNat_lt
  have : ∀ (t : List UInt8) (n : Int), n < 0 → onto n t < 0 := by
    intro t
    induction t with
    | nil => intro n h; exact h
    | cons x t ih =>
      intro n h
      have hx := x.toNat_lt
      exact ih (n * 256 + (x.toNat : Int)) (by omega)
  exact this t _ (by unfold sByte; rw [if_pos (by omega)]; omega)
theorem uns_loop (s : ByteArray) (t : List UInt8) (b : UInt8) (hL : L s = b :: t) (hs : t.length = 8) : ∀ (d i k : Nat), i + d = 8 → d < k →
    gongref05_Unsigned.l0 k s (beNum (t.take i)) ((i + 1 : Nat) : Int) = some (beNum t, 0) := by
  have hsz : s.size = 9 := by rw [size_L, hL]; simp [hs]
  intro d
  induction d with
  | zero =>
    intro i k hi hk
    obtain ⟨k, rfl⟩ : ∃ m, k = m + 1 := ⟨k - 1, by omega⟩
    simp only [gongref05_Unsigned.l0]
    rw [if_neg (by omega), List.take_of_length_le (by omega)]
  | succ d ih =>
    intro i k hi hk
    obtain ⟨k, rfl⟩ : ∃ m, k = m + 1 := ⟨k - 1, by omega⟩
    simp only [gongref05_Unsigned.l0]
    rw [if_pos (by omega), if_pos (by omega), if_pos (by omega)]
    have hlt : i < t.length := by omega
    have e1 : bt s ((i + 1 : Nat) : Int) = (((t.getD i 0)).toNat : Int) := by
      rw [bt_get s (i + 1) (by rw [hL]; simp; omega)]
      simp [hL, List.getD_eq_getElem?_getD, hlt]
    rw [e1, u64_or8 _ (t.getD i 0) (beNum_lt _).1 (beNum_le t i (by omega)), ← beNum_take t i hlt, wrap_id (by omega) (by omega), show ((i + 1 : Nat) : Int) + 1 = ((i + 1 + 1 : Nat) : Int) by omega]
    exact ih (i + 1) k (by omega) (by omega)
theorem beNum_zero (t : List UInt8) : beNum (0 :: t) = beNum t := by simp [beNum]
theorem refUns_eq (a : ByteArray) (k : Nat) (hk : 30 ≤ k) : gongref05_Unsigned.f k a = ber_Unsigned.f a := by
  obtain ⟨k, rfl⟩ : ∃ m, k = m + 1 := ⟨k - 1, by omega⟩
  have low : gongref05_Unsigned.j0 (k + 1) a false = (ber_Number.f a).bind fun r => if r.2 = 0 then (if r.1 < 0 then some (0, 50) else some (IntKind.u64.wrap r.1, 0)) else some (0, 50) := by
    simp only [gongref05_Unsigned.j0]
    rw [if_neg (by simp), refNumber_eq a k (by omega)]
  unfold gongref05_Unsigned.f ber_Unsigned.f
  cases hl : L a with
  | nil =>
    have hsz : a.size = 0 := by rw [size_L, hl]; rfl
    rw [if_neg (by omega), low, if_neg (by omega)]
    unfold ber_Number.f
    rw [if_neg (by omega)]
    rfl
  | cons b t =>
    have hsz : a.size = t.length + 1 := by rw [size_L, hl]; rfl
    have hb0 : bt a 0 = (b.toNat : Int) := by rw [bt_L, hl]; rfl
    have hb := b.toNat_lt
    have hal : a.data.toList = b :: t := hl
    have hspf : ber_spare.f a = some (spareS (L a)) := spare_eq a
    by_cases h9 : (a.size : Int) = 9
    · have num9 : ber_Number.f a = some (0, 50) := by unfold ber_Number.f; rw [if_neg (by omega)]
      have low9 : gongref05_Unsigned.j0 (k + 1) a false = some (0, 50) := by rw [low, num9]; rfl
      rw [if_pos h9, if_pos (by omega)]
      obtain ⟨c, u, ht⟩ : ∃ c u, t = c :: u := by
        cases t with
        | nil => simp at hsz; omega
        | cons c u => exact ⟨c, u, rfl⟩
      have hb1 : bt a 1 = (c.toNat : Int) := by rw [bt_L, hl, ht]; rfl
      by_cases hz : bt a 0 = 0
      · rw [if_pos hz, if_pos (by omega)]
        have hbz : b = 0 := UInt8.toNat_inj.1 (by rw [hb0] at hz; simp; omega)
        by_cases h1 : bt a 1 ≥ 128
        · have hs2 : spareS (L a) = false := by
            rw [hl, ht]
            simp only [spareS]
            simp
            omega
          rw [decide_eq_true h1, if_pos ⟨by omega, by omega, by omega⟩, hspf, hs2]
          simp only [Option.bind_some, gongref05_Unsigned.j0]
          rw [if_pos trivial, if_neg (by simp), if_neg (by omega)]
          have := uns_loop a t b hl (by omega) 8 0 k (by omega) (by omega)
          rw [List.take_zero] at this
          refine Eq.trans this ?_
          rw [hal, hbz, beNum_zero]
        · have hs2 : spareS (L a) = true := by
            rw [hl, ht]
            simp only [spareS]
            simp
            omega
          rw [decide_eq_false h1, low9, if_pos ⟨by omega, by omega, by omega⟩, hspf, hs2]
          rfl
      · rw [if_neg hz, low9]
        by_cases h1 : bt a 0 < 128
        · rw [if_pos ⟨by omega, by omega, h1⟩, hspf]
          simp only [Option.bind_some]
          cases spareS (L a) with
          | true => rfl
          | false => rw [if_neg Bool.false_ne_true, if_pos ⟨by omega, hz⟩]
        · rw [if_neg (by omega)]
    · rw [if_neg h9]
      by_cases hbig : a.size > 9
      · have num9 : ber_Number.f a = some (0, 50) := by unfold ber_Number.f; rw [if_neg (by omega)]
        have low9 : gongref05_Unsigned.j0 (k + 1) a false = some (0, 50) := by rw [low, num9]; rfl
        rw [low9, if_neg (by omega)]
      · have hnum : ber_Number.f a = if spareS (L a) = true then some (0, 50) else some (sNum a.data.toList, 0) := by
          unfold ber_Number.f
          rw [if_pos (by omega), hspf]
          rfl
        cases hsp : spareS (L a) with
        | true =>
          have lowv : gongref05_Unsigned.j0 (k + 1) a false = some (0, 50) := by rw [low, hnum, hsp]; rfl
          rw [lowv]
          by_cases h1 : bt a 0 < 128
          · rw [if_pos ⟨by omega, by omega, h1⟩, hspf, hsp]; rfl
          · rw [if_neg (by omega)]
        | false =>
          have lowv : gongref05_Unsigned.j0 (k + 1) a false = if sNum a.data.toList < 0 then some (0, 50) else some (IntKind.u64.wrap (sNum a.data.toList), 0) := by rw [low, hnum, hsp]; rfl
          rw [lowv]
          by_cases h1 : bt a 0 < 128
          · have e1 := sNum_be hal (by omega)
            have e2 := beNum_lt a.data.toList
            have e3 : beNum a.data.toList < 18446744073709551616 := by
              have h4 : (256 : Nat) ^ a.data.toList.length ≤ 18446744073709551616 := Nat.pow_le_pow_right (j := 8) (by decide : 0 < 256) (by rw [hal, List.length_cons]; omega)
              have h5 : (256 : Int) ^ a.data.toList.length = ((256 ^ a.data.toList.length : Nat) : Int) := by rw [Int.natCast_pow]; rfl
              rw [h5] at e2
              omega
            rw [e1, if_neg (by omega), wraps_u64 _ e2.1 (by omega), if_pos ⟨by omega, by omega, h1⟩, hspf, hsp]
            simp only [Option.bind_some]
            rw [if_neg Bool.false_ne_true, if_neg (by omega)]
          · rw [if_pos (sNum_neg hal (by omega)), if_neg (by omega)]
end Go.Proofs.YtjfimileopbadaaGreatDoor.BerS
/- Layer 7: the reference's Check and Decode answer as the program's. -/
namespace Go.Proofs.YtjfimileopbadaaGreatDoor.ValS
open Go.RowKit Gong Go.Proofs.YtjfimileopbadaaGreatDoor.XVaR Go.Proofs.YtjfimileopbadaaGreatDoor.OidS Go.Proofs.YtjfimileopbadaaGreatDoorW.PrintWords Go.Proofs.YtjfimileopbadaaGreatDoorW.PrintLast Go.Proofs.YtjfimileopbadaaGreatDoorW.PrintMore
set_option linter.unusedVariables false
set_option linter.unusedSimpArgs false
theorem isOid_eq (s : ByteArray) (k : Nat) (hk : 9000 ≤ k) : gongref07_isOid.f k s = some ((arcsR (L s)).2 == 0) := by
  unfold gongref07_isOid.f
  rw [rarcs_eq s k hk]
  rfl
theorem code_of {p : Prop} [Decidable p] : (if p then some (0 : Int) else some 70) = some (if decide p = true then 0 else 70) := by
  by_cases h : p
  · rw [if_pos h, if_pos (decide_eq_true h)]
  · rw [if_neg h, if_neg (by simp [h])]
theorem chk_eq (kd n : Int) (s : ByteArray) (k : Nat) (hk : 9100 ≤ k) : gongref07_Check.f k kd n s = some (if okV kd n s = true then 0 else 70) := by
  obtain ⟨k, rfl⟩ : ∃ m, k = m + 2 := ⟨k - 2, by omega⟩
  unfold gongref07_Check.f
  by_cases h2 : kd = 2
  · subst h2
    rw [ok2, if_pos rfl, ← code_of]
    by_cases a : s.toList = []
    · rw [if_pos a]
      by_cases b : n ≥ -2147483648
      · rw [if_pos b]
        by_cases c : n ≤ 2147483647
        · rw [if_pos c, if_pos ⟨a, b, c⟩]
        · rw [if_neg c, if_neg (fun h => c h.2.2)]
      · rw [if_neg b, if_neg (fun h => b h.2.1)]
    · rw [if_neg a, if_neg (fun h => a h.1)]
  rw [if_neg h2]
  by_cases h4 : kd = 4 ∨ kd = 68
  · have e : (if kd = 4 then gongref07_Check.j0 (k + 2) kd (kd == 4) kd n s else gongref07_Check.j0 (k + 2) kd (kd == 68) kd n s) = gongref07_Check.j0 (k + 2) kd true kd n s := by
      rcases h4 with rfl | rfl
      · rw [if_pos rfl]; rfl
      · rw [if_neg (by decide)]; rfl
    rw [e, ok4 n s h4, ← code_of, gongref07_Check.j0, if_pos rfl]
    by_cases a : n = 0
    · rw [if_pos a]
      by_cases b : (s.size : Int) ≤ 65535
      · rw [if_pos b, if_pos ⟨a, by omega⟩]
      · rw [if_neg b, if_neg (fun h => b (by omega))]
    · rw [if_neg a, if_neg (fun h => a h.1)]
  have e : (if kd = 4 then gongref07_Check.j0 (k + 2) kd (kd == 4) kd n s else gongref07_Check.j0 (k + 2) kd (kd == 68) kd n s) = gongref07_Check.j0 (k + 2) kd false kd n s := by
    rw [if_neg (by omega), show (kd == 68) = false from beq_eq_false_iff_ne.mpr (by omega)]
  rw [e, gongref07_Check.j0, if_neg Bool.false_ne_true]
  by_cases h5 : kd = 5
  · subst h5
    rw [if_pos rfl, ok5, ← code_of]
    by_cases a : n = 0
    · rw [if_pos a]
      by_cases b : s.toList = []
      · rw [if_pos b, if_pos ⟨a, b⟩]
      · rw [if_neg b, if_neg (fun h => b h.2)]
    · rw [if_neg a, if_neg (fun h => a h.1)]
  rw [if_neg h5]
  by_cases h6 : kd = 6
  · subst h6
    rw [if_pos rfl, ok6, ← code_of, isOid_eq s (k + 1) (by omega)]
    simp only [Option.bind_some]
    by_cases a : n = 0
    · rw [if_pos a]
      by_cases b : (arcsR (L s)).2 = 0
      · rw [if_pos (by rw [b]; rfl), if_pos ⟨a, b⟩]
      · rw [if_neg (by rw [beq_iff_eq]; exact b), if_neg (fun h => b h.2)]
    · rw [if_neg a, if_neg (fun h => a h.1)]
  rw [if_neg h6]
  by_cases h64 : kd = 64
  · subst h64
    rw [if_pos rfl, ok64, ← code_of]
    by_cases a : n = 0
    · rw [if_pos a]
      by_cases b : (s.size : Int) = 4
      · rw [if_pos b, if_pos ⟨a, by omega⟩]
      · rw [if_neg b, if_neg (fun h => b (by omega))]
    · rw [if_neg a, if_neg (fun h => a h.1)]
  rw [if_neg h64]
  by_cases hu : kd = 65 ∨ kd = 66 ∨ kd = 67
  · have e : (if kd = 65 then gongref07_Check.j1 (k + 1) kd (kd == 65) kd n s else if kd = 66 then gongref07_Check.j1 (k + 1) kd (kd == 66) kd n s else gongref07_Check.j1 (k + 1) kd (kd == 67) kd n s) = gongref07_Check.j1 (k + 1) kd true kd n s := by
      rcases hu with rfl | rfl | rfl
      · rw [if_pos rfl]; rfl
      · rw [if_neg (by decide), if_pos rfl]; rfl
      · rw [if_neg (by decide), if_neg (by decide)]; rfl
    rw [e, okU n s hu, ← code_of, gongref07_Check.j1, if_pos rfl]
    by_cases a : s.toList = []
    · rw [if_pos a]
      by_cases b : n ≥ 0
      · rw [if_pos b]
        by_cases c : n ≤ 4294967295
        · rw [if_pos c, if_pos ⟨a, b, c⟩]
        · rw [if_neg c, if_neg (fun h => c h.2.2)]
      · rw [if_neg b, if_neg (fun h => b h.2.1)]
    · rw [if_neg a, if_neg (fun h => a h.1)]
  have e : (if kd = 65 then gongref07_Check.j1 (k + 1) kd (kd == 65) kd n s else if kd = 66 then gongref07_Check.j1 (k + 1) kd (kd == 66) kd n s else gongref07_Check.j1 (k + 1) kd (kd == 67) kd n s) = gongref07_Check.j1 (k + 1) kd false kd n s := by
    rw [if_neg (by omega), if_neg (by omega), show (kd == 67) = false from beq_eq_false_iff_ne.mpr (by omega)]
  rw [e, gongref07_Check.j1, if_neg Bool.false_ne_true]
  by_cases h70 : kd = 70
  · subst h70
    rw [if_pos rfl, ok70, ← code_of]
  · rw [if_neg h70, ok0 n s (by omega)]
    rfl
theorem num_some (a : ByteArray) : ∃ r, ber_Number.f a = some r := by
  unfold ber_Number.f
  rw [BerS.spare_eq]
  simp only [Option.bind_some]
  split
  · split <;> exact ⟨_, rfl⟩
  · exact ⟨_, rfl⟩
theorem uns_some (a : ByteArray) : ∃ r, ber_Unsigned.f a = some r := by
  unfold ber_Unsigned.f
  rw [BerS.spare_eq]
  simp only [Option.bind_some]
  split
  · split
    · exact ⟨_, rfl⟩
    · split <;> exact ⟨_, rfl⟩
  · exact ⟨_, rfl⟩
/-- What both make of what was read. -/
theorem fin_same (kd n : Int) (s : ByteArray) (e : Int) (hs : s.size ≤ 1000000000) (k : Nat) (hk : 9100 ≤ k) : ∃ r, value_Decode.fin k kd n s e = some r ∧ gongref07_Decode.fin k kd n s e = some r := by
  unfold value_Decode.fin gongref07_Decode.fin
  by_cases he : e = 0
  · rw [if_pos he, if_pos he, right_eq kd n s hs k (by omega), chk_eq kd n s k hk]
    simp only [Option.bind_some]
    cases hok : okV kd n s with
    | true =>
      rw [if_pos rfl, if_pos rfl, if_pos rfl]
      exact ⟨_, rfl, rfl⟩
    | false =>
      exact ⟨_, rfl, rfl⟩
  · rw [if_neg he, if_neg he]
    exact ⟨_, rfl, rfl⟩
theorem dec_size (s : ByteArray) (k : Nat) (hk : 3000 ≤ k) {r : ByteArray × Int} (h : oid_Decode.f k s = some r) : r.1.size ≤ 1000000000 := by
  rcases decode_sound s k hk with h1 | ⟨y, hy, h1, _⟩
  · rw [h1, Option.some.injEq] at h
    subst h
    show 0 ≤ _
    omega
  · rw [h1, Option.some.injEq] at h
    subst h
    exact put_size hy
theorem val_dec (kd : Int) (s : ByteArray) (hs : s.size ≤ 1000000000) (k : Nat) (hk : 9300 ≤ k) : ∃ r, value_Decode.f k kd s = some r ∧ gongref07_Decode.f k kd s = some r := by
  unfold value_Decode.f gongref07_Decode.f
  rw [of_eq]
  simp only [Option.bind_some]
  by_cases h2 : kd = 2
  · subst h2
    obtain ⟨r, hr⟩ := num_some s
    rw [if_pos (show formOf 2 = 1 from rfl), if_pos rfl, BerS.refNumber_eq s k (by omega), hr]
    exact fin_same 2 r.1 _ r.2 (by decide) k (by omega)
  rw [if_neg h2]
  by_cases hu : kd = 65 ∨ kd = 66 ∨ kd = 67 ∨ kd = 70
  · have e : formOf kd = 2 := by rcases hu with rfl | rfl | rfl | rfl <;> rfl
    obtain ⟨r, hr⟩ := uns_some s
    rw [if_neg (by rw [e]; decide), if_pos e, if_pos hu, BerS.refUns_eq s k (by omega), hr]
    exact fin_same kd (wrap64 r.1) _ r.2 (by decide) k (by omega)
  rw [if_neg hu]
  by_cases h6 : kd = 6
  · subst h6
    obtain ⟨r, h1, h2⟩ := dec_same s k (by omega)
    rw [if_neg (by decide), if_neg (by decide), if_pos (show formOf 6 = 4 from rfl), if_pos rfl, h1, h2]
    exact fin_same 6 0 r.1 r.2 (dec_size s k (by omega) h1) k (by omega)
  rw [if_neg h6]
  have e : formOf kd ≠ 1 ∧ formOf kd ≠ 2 ∧ formOf kd ≠ 4 := by
    unfold formOf
    rw [if_neg h2, if_neg h6, if_neg hu]
    split
    · decide
    · split <;> decide
  rw [if_neg e.1, if_neg e.2.1, if_neg e.2.2]
  exact fin_same kd 0 s 0 hs k (by omega)
end Go.Proofs.YtjfimileopbadaaGreatDoor.ValS
/- Layer 5: what Wrap answers. -/
namespace Go.Proofs.YtjfimileopbadaaGreatDoor.BerS
open Go.RowKit Gong Go.Proofs.YtjfimileopbadaaGreatDoor.XVaR Go.Proofs.YtjfimileopbadaaGreatDoorW.PrintWords Go.Proofs.YtjfimileopbadaaGreatDoorW.PrintLast Go.Proofs.YtjfimileopbadaaGreatDoorW.PrintMore
set_option linter.unusedVariables false
set_option linter.unusedSimpArgs false
theorem wrap_at (t : Nat) (b : List UInt8) (ht : t < 256) (ht2 : t % 32 ≠ 31) (hb : b.length ≤ 16777216) (k : Nat) (hk : 4 ≤ k) : ber_Wrap.f k (t : Int) (Bs b) = some (Bs (enc t b), 0) := by
  unfold ber_Wrap.f
  rw [isTag_eq t ht]
  simp only [Option.bind_some]
  rw [if_pos (by simp [ht2]), if_neg (by rw [size_Bs]; omega), put_eq k t b ht (by omega) hk]
  rfl
end Go.Proofs.YtjfimileopbadaaGreatDoor.BerS
/- Layer 7: the chapter's examples. -/
namespace Go.Proofs.YtjfimileopbadaaGreatDoor.ValS
open Go.RowKit Gong Go.Proofs.YtjfimileopbadaaGreatDoor.XVaR Go.Proofs.YtjfimileopbadaaGreatDoor.OidS Go.Proofs.YtjfimileopbadaaGreatDoorW.PrintWords Go.Proofs.YtjfimileopbadaaGreatDoorW.PrintLast Go.Proofs.YtjfimileopbadaaGreatDoorW.PrintMore
set_option linter.unusedVariables false
set_option linter.unusedSimpArgs false
theorem works_at (k : Nat) (hk : 500 ≤ k) : gonglaw07_works.f k = some true := by
  have e1 : value_Encode.f k 67 300 (⟨#[]⟩ : ByteArray) = some (⟨#[67, 2, 1, 44]⟩, 0) := by
    unfold value_Encode.f
    rw [right_eq 67 300 _ (by decide) k hk, show okV 67 300 (⟨#[]⟩ : ByteArray) = true by decide +kernel, of_eq]
    simp only [Option.bind_some]
    rw [if_pos trivial, if_neg (by decide), if_pos (show formOf 67 = 2 from rfl), show IntKind.u64.wrap 300 = 300 by decide +kernel, BerS.putU 300 k (by omega)]
    simp only [Option.bind_some]
    rw [show BerS.trimS (0 :: BerS.W8 300) = [1, 44] by decide +kernel]
    have := BerS.wrap_at 67 [1, 44] (by decide) (by decide) (by decide) k (by omega)
    rw [show ((67 : Nat) : Int) = 67 from rfl] at this
    rw [this]
    rfl
  have e2 : value_Show.f k 64 0 (⟨#[127, 0, 0, 1]⟩ : ByteArray) = some (⟨#[49, 50, 55, 46, 48, 46, 48, 46, 49]⟩, 0) := by
    unfold value_Show.f
    rw [right_eq 64 0 _ (by decide) k hk, show okV 64 0 (⟨#[127, 0, 0, 1]⟩ : ByteArray) = true by decide +kernel, of_eq]
    simp only [Option.bind_some]
    rw [if_pos trivial, if_neg (by decide), if_neg (by decide), if_neg (by decide), if_pos trivial]
    rw [show value_pointed.f (⟨#[127, 0, 0, 1]⟩ : ByteArray) = some (⟨#[49, 50, 55, 46, 48, 46, 48, 46, 49]⟩ : ByteArray) by decide +kernel]
    rfl
  unfold gonglaw07_works.f
  rw [e1, e2]
  simp only [Option.bind_some]
  rw [toList_L, if_pos (show L (⟨#[67, 2, 1, 44]⟩ : ByteArray) = [67, 2, 1, 44] from rfl), if_pos trivial, toList_L, if_pos (show L (⟨#[49, 50, 55, 46, 48, 46, 48, 46, 49]⟩ : ByteArray) = [49, 50, 55, 46, 48, 46, 48, 46, 49] from rfl)]
  rfl
end Go.Proofs.YtjfimileopbadaaGreatDoor.ValS
/- 'gonglaw07.ValueReads': what the printed function answers is true. -/
namespace Go.Proofs.YtjfimileopbadaaGreatDoor.Pure
open Go.RowKit Gong Go.Proofs.YtjfimileopbadaaGreatDoor.XVaR Go.Proofs.YtjfimileopbadaaGreatDoor.ValS Go.Proofs.YtjfimileopbadaaGreatDoorW.PrintWords Go.Proofs.YtjfimileopbadaaGreatDoorW.PrintLast Go.Proofs.YtjfimileopbadaaGreatDoorW.PrintMore
set_option linter.unusedVariables false
theorem ValueReads (a0 : Int) (a1 : ByteArray) (w0 : (Lit.int .i64 a0).wf = true) (w1 : a1.size ≤ 140737488351232) : ∃ k, gonglaw07_ValueReads.f k a0 a1 = some true := by
  refine ⟨9500, ?_⟩
  unfold gonglaw07_ValueReads.f
  rw [works_at 9500 (by decide)]
  by_cases h : (a1.size : Int) > 3000
  · rw [if_pos h]; rfl
  · rw [if_neg h]
    obtain ⟨r, h1, h2⟩ := val_dec a0 a1 (by omega) 9500 (by decide)
    rw [h1, h2]
    simp
end Go.Proofs.YtjfimileopbadaaGreatDoor.Pure
