/- Layer 3: what the program reads out of a stamp. -/
import Derived.Test.YtjcenencgnfffaaDoorRStpBase
namespace Go.Proofs.YtjcenencgnfffaaDoor.StpS
open Go.RowKit Gong Go.Proofs.YtjcenencgnfffaaDoor.XStR Go.Proofs.YtjcenencgnfffaaDoor.DecS Go.Proofs.YtjcenencgnfffaaDoorW.PrintWords Go.Proofs.YtjcenencgnfffaaDoorW.PrintLast Go.Proofs.YtjcenencgnfffaaDoorW.PrintMore
set_option linter.unusedVariables false
set_option linter.unusedSimpArgs false
/-- Has a text a shape? -/
def fitsL : List UInt8 → List UInt8 → Bool
  | [], [] => true
  | a :: x, p :: q => (if p = 100 then isD a else a == p) && fitsL x q
  | _, _ => false
theorem fitsL_len : ∀ {x q : List UInt8}, fitsL x q = true → x.length = q.length
  | [], [], _ => rfl
  | a :: x, p :: q, h => by
    rw [fitsL, Bool.and_eq_true] at h
    rw [List.length_cons, List.length_cons, fitsL_len h.2]
  | [], p :: q, h => by simp [fitsL] at h
  | a :: x, [], h => by simp [fitsL] at h
theorem digit_eq (b : UInt8) : stamp_digit.f (b.toNat : Int) = some (isD b) := by
  unfold stamp_digit.f isD
  by_cases c : 48 ≤ b.toNat
  · rw [if_pos (show ((b.toNat : Int) ≥ 48) by omega)]
    congr 1
    rw [decide_eq_decide]
    omega
  · rw [if_neg (show ¬ ((b.toNat : Int) ≥ 48) by omega)]
    congr 1
    rw [eq_comm, decide_eq_false_iff_not]
    omega
theorem fits_loop (s p : ByteArray) (hl : (L s).length = (L p).length) (hb : (L s).length ≤ 1000) : ∀ (d i k : Nat), i + d = (L s).length → d < k →
    stamp_fits.l0 k s p (s.size : Int) (i : Int) = some (fitsL ((L s).drop i) ((L p).drop i)) := by
  intro d
  induction d with
  | zero =>
    intro i k hi hk
    obtain ⟨k, rfl⟩ : ∃ m, k = m + 1 := ⟨k - 1, by omega⟩
    have hs := L_len s
    have hp := L_len p
    simp only [stamp_fits.l0]
    rw [if_neg (by omega), List.drop_eq_nil_of_le (by omega), List.drop_eq_nil_of_le (by omega)]
    rfl
  | succ d ih =>
    intro i k hi hk
    obtain ⟨k, rfl⟩ : ∃ m, k = m + 1 := ⟨k - 1, by omega⟩
    have hs := L_len s
    have hp := L_len p
    have h1 : i < (L s).length := by omega
    have h2 : i < (L p).length := by omega
    have hw : wrap64 ((i : Int) + 1) = ((i + 1 : Nat) : Int) := by rw [wrap_id (by omega) (by omega)]; rfl
    have ih' := ih (i + 1) k (by omega) (by omega)
    simp only [stamp_fits.l0]
    rw [if_pos (by omega), if_pos (by omega), if_pos (by omega), bt_get s i h1, bt_get p i h2, hw, ih', digit_eq, List.drop_eq_getElem_cons h1, List.drop_eq_getElem_cons h2, fitsL]
    by_cases c : (L p)[i] = 100
    · rw [if_pos (by rw [c]; rfl), if_pos (by omega), if_pos c, Option.bind_some]
      by_cases c2 : isD (L s)[i] = true
      · rw [if_pos c2, c2, Bool.true_and]
      · rw [if_neg c2, Bool.not_eq_true _ |>.mp c2, Bool.false_and]
    · rw [if_neg (fun h => c (UInt8.toNat_inj.1 (by have e : (100 : UInt8).toNat = 100 := rfl; omega))), if_pos (by omega), if_neg c]
      by_cases c2 : (L s)[i] = (L p)[i]
      · rw [if_pos (by rw [c2]), beq_iff_eq.mpr c2, Bool.true_and]
      · rw [if_neg (fun h => c2 (UInt8.toNat_inj.1 (by omega))), beq_eq_false_iff_ne.mpr c2, Bool.false_and]
theorem fits_eq (s p : ByteArray) (hp : (L p).length ≤ 100) (k : Nat) (hk : 110 ≤ k) : stamp_fits.f k s p = some (fitsL (L s) (L p)) := by
  have h1 := L_len s
  have h2 := L_len p
  unfold stamp_fits.f
  by_cases c : (s.size : Int) = (p.size : Int)
  · rw [if_pos c]
    have := fits_loop s p (by omega) (by omega) (L s).length 0 k (by omega) (by omega)
    exact this
  · rw [if_neg c]
    congr 1
    cases h : fitsL (L s) (L p) with
    | false => rfl
    | true =>
      have := fitsL_len h
      omega
theorem number_eq (s : ByteArray) (hd : ∀ b ∈ L s, isD b = true) (hn : L s ≠ []) (hl : (L s).length ≤ 17) : stamp_number.f s = some (val (L s) : Int) := by
  have h1 := L_len s
  unfold stamp_number.f
  rw [if_pos (by omega), show Lib.atoiAll s.data.toList = .ok (val (L s) : Int) from atoi_digits hd hn hl]
theorem val_lt' {l : List UInt8} (h : ∀ b ∈ l, isD b = true) (k : Nat) (hk : l.length ≤ k) : (val l : Int) < (10 ^ k : Nat) := by
  have h1 := val_lt h
  have h2 : 10 ^ l.length ≤ 10 ^ k := Nat.pow_le_pow_right (by decide) hk
  omega
/-! The part behind the point. -/
theorem prefix_eq (s : ByteArray) (hs : s.size ≤ 1000) : strings_CutPrefix.f s (⟨#[46]⟩ : ByteArray) = some (match L s with | [] => (s, false) | b :: r => if b = 46 then (Bs r, true) else (s, false)) := by
  have hl := L_len s
  have e1 : (⟨#[46]⟩ : ByteArray).size = 1 := rfl
  unfold strings_CutPrefix.f stringslite_CutPrefix.f stringslite_HasPrefix.f
  rw [e1]
  by_cases c : 1 ≤ s.size
  · rw [if_pos (show (s.size : Int) ≥ ((1 : Nat) : Int) by omega), if_pos (by omega), if_pos (by omega), Option.bind_some]
    have h1 : L (s.extract 0 ((1 : Nat) : Int).toNat) = (L s).take 1 := L_take s 1
    have h2 : L (s.extract ((1 : Nat) : Int).toNat s.size) = (L s).drop 1 := L_drop s 1
    cases hL : L s with
    | nil => rw [hL] at hl; simp at hl; omega
    | cons b r =>
      have hb : ((s.extract 0 ((1 : Nat) : Int).toNat).toList == (⟨#[46]⟩ : ByteArray).toList) = (b == 46) := by
        rw [toList_L, toList_L, h1, hL, show L (⟨#[46]⟩ : ByteArray) = [46] from rfl]
        show ([b] == [46]) = (b == 46)
        rw [List.cons_beq_cons]
        simp
      rw [hb]
      by_cases c2 : b = 46
      · subst c2
        rw [if_pos (show ((46 : UInt8) == 46) = true from rfl), if_pos (by omega), if_pos (by omega), Option.bind_some]
        simp only [if_true]
        congr 2
        exact L_inj (by rw [h2, hL, L_Bs]; rfl)
      · rw [if_neg (show ¬ (b == 46) = true from fun h => c2 (beq_iff_eq.1 h)), Option.bind_some]
        simp only [if_neg c2]
  · rw [if_neg (show ¬ (s.size : Int) ≥ ((1 : Nat) : Int) by omega), Option.bind_some, if_neg (by decide), Option.bind_some]
    cases hL : L s with
    | nil => rfl
    | cons b r => rw [hL] at hl; simp at hl; omega
theorem repeat_eq (n : Nat) (h : n ≤ 9) : strings_Repeat.f (⟨#[48]⟩ : ByteArray) (n : Int) = some (Bs (List.replicate n 48)) := by
  unfold strings_Repeat.f
  have e1 : (⟨#[48]⟩ : ByteArray).size = 1 := rfl
  rw [if_pos ⟨by omega, by omega, by rw [e1, Int.toNat_natCast]; omega⟩, Int.toNat_natCast]
  have : n = 0 ∨ n = 1 ∨ n = 2 ∨ n = 3 ∨ n = 4 ∨ n = 5 ∨ n = 6 ∨ n = 7 ∨ n = 8 ∨ n = 9 := by omega
  rcases this with rfl | rfl | rfl | rfl | rfl | rfl | rfl | rfl | rfl | rfl <;> rfl
/-- What the end of part's loop answers. -/
theorem part_end (x : ByteArray) (i : Nat) (hi : i ≤ 9) (hx : i ≤ (L x).length) (hd : ∀ b ∈ (L x).take i, isD b = true) :
    ((strings_Repeat.f (⟨#[48]⟩ : ByteArray) (wrap64 (9 - (i : Int)))).bind fun t => (if (x.extract 0 (i : Int).toNat).size + t.size ≤ 9223372036854775807 then ((stamp_number.f ((x.extract 0 (i : Int).toNat) ++ t)).bind fun n => (some (n, x.extract (i : Int).toNat x.size, decide ((i : Int) > 0)))) else (none)))
      = some (((val ((L x).take i) * 10 ^ (9 - i) : Nat) : Int), Bs ((L x).drop i), decide (0 < i)) := by
  have hl := L_len x
  have ht : ((L x).take i).length = i := by rw [List.length_take]; omega
  rw [wrap_id (by omega) (by omega), show (9 - (i : Int)) = ((9 - i : Nat) : Int) from by omega, repeat_eq _ (by omega), Option.bind_some, Int.toNat_natCast]
  have e1 : L (x.extract 0 i) = (L x).take i := L_take x i
  have e2 : (x.extract 0 i).size = i := by rw [← L_len, e1, ht]
  rw [if_pos (by rw [e2, Bs_size, List.length_replicate]; omega)]
  have e3 : L (x.extract 0 i ++ Bs (List.replicate (9 - i) 48)) = (L x).take i ++ List.replicate (9 - i) 48 := by rw [L_app, e1, L_Bs]
  have hd2 : ∀ b ∈ L (x.extract 0 i ++ Bs (List.replicate (9 - i) 48)), isD b = true := by
    rw [e3]
    intro b hb
    rcases List.mem_append.1 hb with hb | hb
    · exact hd b hb
    · rw [(List.mem_replicate.1 hb).2]; decide
  have hl2 : (L (x.extract 0 i ++ Bs (List.replicate (9 - i) 48))).length = 9 := by rw [e3, List.length_append, ht, List.length_replicate]; omega
  rw [number_eq _ hd2 (fun e => by rw [e] at hl2; simp at hl2) (by omega), Option.bind_some, e3, val_app0]
  congr 2
  congr 1
  · exact L_inj (by rw [L_drop, L_Bs])
  · rw [decide_eq_decide]; omega
theorem part_loop (x : ByteArray) (hx : (L x).length ≤ 1000) : ∀ (d i k : Nat), i + d = 9 → i ≤ (L x).length → (∀ b ∈ (L x).take i, isD b = true) → d < k →
    ∃ j, j = (((L x).takeWhile isD).take 9).length ∧ stamp_part.l0 k x (i : Int) = some (((val ((L x).take j) * 10 ^ (9 - j) : Nat) : Int), Bs ((L x).drop j), decide (0 < j)) := by
  have hl := L_len x
  have stop : ∀ i, i ≤ 9 → i ≤ (L x).length → (∀ b ∈ (L x).take i, isD b = true) → (i = 9 ∨ ∀ b r, (L x).drop i = b :: r → isD b = false) → i = (((L x).takeWhile isD).take 9).length := by
    intro i h9 hi hd hs
    have e := List.take_append_drop i (L x)
    have ht : ((L x).take i).length = i := by rw [List.length_take]; omega
    rcases hs with rfl | hs
    · have h1 : ((L x).take 9) <+: (L x).takeWhile isD := by
        have : (L x).takeWhile isD = (L x).take 9 ++ ((L x).drop 9).takeWhile isD := by
          conv => lhs; rw [← e]
          rw [List.takeWhile_append_of_pos (fun b hb => hd b hb)]
        rw [this]
        exact List.prefix_append _ _
      have h2 := h1.length_le
      rw [ht] at h2
      rw [List.length_take]
      omega
    · have : (L x).takeWhile isD = (L x).take i := by
        conv => lhs; rw [← e]
        exact tw_app _ _ hd hs
      rw [this, List.take_of_length_le (by omega), ht]
  intro d
  induction d with
  | zero =>
    intro i k hi hxi hd hk
    obtain ⟨k, rfl⟩ : ∃ m, k = m + 1 := ⟨k - 1, by omega⟩
    have : i = 9 := by omega
    subst this
    refine ⟨9, stop 9 (by omega) hxi hd (.inl rfl), ?_⟩
    have he := part_end x 9 (by omega) hxi hd
    simp only [stamp_part.l0]
    by_cases c : ((9 : Nat) : Int) < (x.size : Int)
    · rw [if_pos c, if_neg (by omega), if_pos (by omega), if_pos (by omega)]
      exact he
    · rw [if_neg c, if_pos (by omega), if_pos (by omega)]
      exact he
  | succ d ih =>
    intro i k hi hxi hd hk
    obtain ⟨k, rfl⟩ : ∃ m, k = m + 1 := ⟨k - 1, by omega⟩
    have he := part_end x i (by omega) hxi hd
    simp only [stamp_part.l0]
    by_cases c : (i : Int) < (x.size : Int)
    · have h1 : i < (L x).length := by omega
      rw [if_pos c, if_pos (by omega), if_pos (by omega), bt_get x i h1, digit_eq, Option.bind_some]
      by_cases c2 : isD (L x)[i] = true
      · rw [if_pos c2, show wrap64 ((i : Int) + 1) = ((i + 1 : Nat) : Int) from by rw [wrap_id (by omega) (by omega)]; rfl]
        refine ih (i + 1) k (by omega) (by omega) (fun b hb => ?_) (by omega)
        rw [List.take_succ_eq_append_getElem h1, List.mem_append, List.mem_singleton] at hb
        rcases hb with hb | hb
        · exact hd b hb
        · rw [hb]; exact c2
      · rw [if_neg c2, if_pos (by omega)]
        refine ⟨i, stop i (by omega) hxi hd (.inr (fun b r hbr => ?_)), he⟩
        rw [List.drop_eq_getElem_cons h1, List.cons.injEq] at hbr
        rw [← hbr.1]
        exact Bool.not_eq_true _ |>.mp c2
    · rw [if_neg c, if_pos (by omega), if_pos (by omega)]
      refine ⟨i, stop i (by omega) hxi hd (.inr (fun b r hbr => ?_)), he⟩
      rw [List.drop_eq_nil_of_le (by omega)] at hbr
      exact absurd hbr (by simp)
/-- The program's part: what partL tells; no part: nothing is said of the rest. -/
theorem part_eq (s : ByteArray) (hs : s.size ≤ 1000) (k : Nat) (hk : 20 ≤ k) :
    (∃ n r, partL (L s) = some (n, r) ∧ 0 ≤ n ∧ n < 1000000000 ∧ r.length ≤ 1000 ∧ stamp_part.f k s = some (n, Bs r, true)) ∨ (partL (L s) = none ∧ ∃ n r, 0 ≤ n ∧ n < 1000000000 ∧ (L r).length ≤ 1000 ∧ stamp_part.f k s = some (n, r, false)) := by
  have hl := L_len s
  unfold stamp_part.f
  rw [prefix_eq s hs, Option.bind_some]
  cases hL : L s with
  | nil =>
    left
    refine ⟨0, [], rfl, by decide, by decide, by simp, ?_⟩
    simp only
    rw [if_neg (by decide)]
    congr 2
    congr 1
    exact L_inj (by rw [hL, L_Bs])
  | cons b r =>
    have hrl : r.length ≤ 999 := by rw [hL, List.length_cons] at hl; omega
    by_cases c : b = 46
    · subst c
      simp only [if_true]
      obtain ⟨j, hj, hf⟩ := part_loop (Bs r) (by rw [L_Bs]; omega) 9 0 k (by omega) (by omega) (by simp) (by omega)
      rw [L_Bs] at hj hf
      have hf' : stamp_part.l0 k (Bs r) 0 = _ := hf
      rw [hf']
      have hjl : j ≤ 9 := by rw [hj, List.length_take]; omega
      have hdig : ∀ b ∈ r.take j, isD b = true := by
        intro b hb
        have h1 : r.take j = (r.takeWhile isD).take 9 := by
          have hp : ((r.takeWhile isD).take 9) <+: r := (List.take_prefix _ _).trans (List.takeWhile_prefix _)
          rw [hj]
          exact (List.prefix_iff_eq_take.1 hp).symm
        rw [h1] at hb
        exact tw_mem (List.mem_of_mem_take hb)
      have hv : val (r.take j) * 10 ^ (9 - j) < 1000000000 := by
        have h1 := val_lt hdig
        have h2 : 10 ^ (r.take j).length ≤ 10 ^ j := Nat.pow_le_pow_right (by decide) (by rw [List.length_take]; omega)
        have h3 : 10 ^ j * 10 ^ (9 - j) = 10 ^ 9 := by rw [← Nat.pow_add]; congr 1; omega
        have h4 : 0 < 10 ^ (9 - j) := Nat.pow_pos (by decide)
        calc val (r.take j) * 10 ^ (9 - j) < 10 ^ j * 10 ^ (9 - j) := Nat.mul_lt_mul_of_pos_right (by omega) h4
          _ = 1000000000 := by rw [h3]
      have ht : (r.takeWhile isD).take 9 = r.take j := by
        have hp : ((r.takeWhile isD).take 9) <+: r := (List.take_prefix _ _).trans (List.takeWhile_prefix _)
        rw [hj]
        exact List.prefix_iff_eq_take.1 hp
      rw [partL, if_pos rfl, ht]
      have hlt : (r.take j).length = j := by rw [← ht, ← hj]
      by_cases c2 : j = 0
      · right
        subst c2
        refine ⟨by rw [List.take_zero, if_pos rfl], _, _, by omega, by omega, ?_, rfl⟩
        rw [L_Bs, List.length_drop]
        omega
      · left
        rw [if_neg (fun e => by rw [e] at hlt; simp at hlt; omega), hlt]
        refine ⟨_, _, rfl, by omega, by omega, by rw [List.length_drop]; omega, ?_⟩
        rw [decide_eq_true (by omega)]
    · left
      rw [partL, if_neg c]
      simp only [if_neg c]
      rw [if_neg (by decide)]
      refine ⟨0, b :: r, rfl, by decide, by decide, by rw [List.length_cons]; omega, ?_⟩
      congr 2
      congr 1
      exact L_inj (by rw [hL, L_Bs])
end Go.Proofs.YtjcenencgnfffaaDoor.StpS
