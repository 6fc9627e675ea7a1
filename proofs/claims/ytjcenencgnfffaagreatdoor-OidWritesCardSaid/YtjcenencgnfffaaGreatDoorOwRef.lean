/- Layer 6: the reference's arcs, numbers and octets answer as the program's. -/
import Derived.Test.YtjcenencgnfffaaGreatDoorOidBase
namespace Go.Proofs.YtjcenencgnfffaaGreatDoor.OidS
open Go.RowKit Gong Go.Proofs.YtjcenencgnfffaaGreatDoor.XOiW Go.Proofs.YtjcenencgnfffaaGreatDoor.DecS Go.Proofs.YtjcenencgnfffaaGreatDoorW.PrintWords Go.Proofs.YtjcenencgnfffaaGreatDoorW.PrintLast Go.Proofs.YtjcenencgnfffaaGreatDoorW.PrintMore
set_option linter.unusedVariables false
set_option linter.unusedSimpArgs false
theorem ris_loop (l : List Int) (h2 : 2 ≤ l.length) (h3 : l.length ≤ 128) : ∀ (d i k : Nat), i + d = l.length → d < k →
    gongref06_Is.l0 k l (i : Int) = some ((l.drop i).all (fun x => decide (0 ≤ x ∧ x ≤ 4294967295)) && (!(l.take i).all (fun x => decide (0 ≤ x)) || heads l)) ∨ (l.take i).all (fun x => decide (0 ≤ x)) = false := by
  intro d
  induction d with
  | zero =>
    intro i k hi hk
    obtain ⟨k, rfl⟩ : ∃ m, k = m + 1 := ⟨k - 1, by omega⟩
    by_cases hp : (l.take i).all (fun x => decide (0 ≤ x)) = true
    · left
      rw [hp]
      simp only [gongref06_Is.l0]
      have e : l.drop i = [] := List.drop_eq_nil_of_le (by omega)
      rw [if_neg (by omega), e]
      match l, h2, hp with
      | a :: b :: r, _, hp =>
        have r0 : rd (a :: b :: r) 0 = a := rfl
        have r1 : rd (a :: b :: r) 1 = b := rfl
        rw [List.take_of_length_le (by omega)] at hp
        simp only [List.all_cons, Bool.and_eq_true, decide_eq_true_eq] at hp
        rw [r0, r1, if_pos (by simp only [List.length_cons]; omega)]
        simp only [List.all_nil, Bool.true_and, Bool.not_true, Bool.false_or, heads]
        have hlen : (1 : Int) < ((a :: b :: r).length : Int) := by simp only [List.length_cons]; omega
        by_cases c : a < 2
        · rw [if_pos c, if_pos hlen]
          by_cases c1 : b ≤ 39
          · rw [if_pos c1, decide_eq_true (by omega)]
          · rw [if_neg c1]
            by_cases c2 : a = 2
            · omega
            · rw [if_neg c2, decide_eq_false (by omega)]
        · rw [if_neg c]
          by_cases c2 : a = 2
          · rw [if_pos c2, if_pos hlen]
            congr 1
            rw [Bool.eq_iff_iff]
            simp only [decide_eq_true_eq]
            omega
          · rw [if_neg c2, decide_eq_false (by omega)]
    · right
      simpa using hp
  | succ d ih =>
    intro i k hi hk
    obtain ⟨k, rfl⟩ : ∃ m, k = m + 1 := ⟨k - 1, by omega⟩
    have hlt : i < l.length := by omega
    by_cases hp : (l.take i).all (fun x => decide (0 ≤ x)) = true
    · left
      rw [hp]
      simp only [gongref06_Is.l0]
      rw [if_pos (by omega), if_pos (by omega), rd_get l i hlt, List.drop_eq_getElem_cons hlt, List.all_cons]
      by_cases c1 : l[i] < 0
      · rw [if_pos c1, decide_eq_false (by omega)]
        rfl
      · rw [if_neg c1]
        by_cases c2 : l[i] > 4294967295
        · rw [if_pos c2, decide_eq_false (by omega)]
          rfl
        · rw [if_neg c2, wrap_succ i (by omega), decide_eq_true (by omega), Bool.true_and]
          have hp2 : (l.take (i + 1)).all (fun x => decide (0 ≤ x)) = true := by
            rw [List.take_succ_eq_append_getElem hlt, List.all_append, hp]
            simp only [List.all_cons, List.all_nil, Bool.and_true, Bool.true_and, decide_eq_true_eq]
            omega
          rcases ih (i + 1) k (by omega) (by omega) with h | h
          · rw [h, hp2]
          · rw [hp2] at h; cases h
    · right
      simpa using hp
theorem ris_eq (l : List Int) (k : Nat) (hk : 200 ≤ k) : gongref06_Is.f k l = some (isS l) := by
  obtain ⟨k, rfl⟩ : ∃ m, k = m + 1 := ⟨k - 1, by omega⟩
  unfold gongref06_Is.f isS
  by_cases c1 : (l.length : Int) < 2
  · rw [if_pos c1]
    simp only [gongref06_Is.j0, if_true]
    rw [decide_eq_false (by omega)]
    rfl
  · rw [if_neg c1, decide_eq_true (show 2 ≤ l.length by omega)]
    by_cases c2 : (l.length : Int) > 128
    · rw [decide_eq_true c2, decide_eq_false (show ¬ l.length ≤ 128 by omega)]
      simp only [gongref06_Is.j0, if_true]
      rfl
    · rw [decide_eq_false c2, decide_eq_true (show l.length ≤ 128 by omega)]
      simp only [gongref06_Is.j0]
      rw [if_neg (by decide)]
      rcases ris_loop l (by omega) (by omega) l.length 0 k (by omega) (by omega) with h | h
      · rw [Int.natCast_zero] at h
        rw [h]
        rfl
      · cases h
/-- One digit. -/
theorem one_dig (n : Nat) (h : n ≤ 4294967295) : strOfNums ([(wrap64 (48 + (Int.tmod (n : Int) 10))) % 256] : List Int) = Bs [UInt8.ofNat (48 + n % 10)] := by
  have e : Int.tmod (n : Int) 10 = ((n % 10 : Nat) : Int) := by rw [Int.tmod_eq_emod_of_nonneg (by omega)]; omega
  have e2 : (wrap64 (48 + ((n % 10 : Nat) : Int))) % 256 = ((48 + n % 10 : Nat) : Int) := by rw [wrap_id (by omega) (by omega)]; omega
  rw [e, e2]
  rfl
theorem Bs_app (a b : List UInt8) : Bs a ++ Bs b = Bs (a ++ b) := by
  apply L_inj
  rw [L_Bs]
  simp [L, Bs]
theorem Bs_size (a : List UInt8) : (Bs a).size = a.length := by rw [← L_len, L_Bs]
theorem num_loop : ∀ (m n k : Nat) (acc : List UInt8), n < 10 ^ (m + 1) → n ≤ 4294967295 → m < k → acc.length + m ≤ 1000000 →
    gongref06_Number.l0 k (n : Int) (Bs acc) = some (Bs ((if n < 10 then [] else Lib.decDigits (n / 10)) ++ acc)) := by
  intro m
  induction m with
  | zero =>
    intro n k acc h hn hk hb
    obtain ⟨k, rfl⟩ : ∃ m, k = m + 1 := ⟨k - 1, by omega⟩
    have h9 : n < 10 := by simpa using h
    simp only [gongref06_Number.l0]
    rw [if_neg (by omega), if_pos h9]
    rfl
  | succ m ih =>
    intro n k acc h hn hk hb
    obtain ⟨k, rfl⟩ : ∃ m, k = m + 1 := ⟨k - 1, by omega⟩
    simp only [gongref06_Number.l0]
    by_cases c : n < 10
    · rw [if_neg (by omega), if_pos c]
      rfl
    · have e : wrap64 (Int.tdiv (n : Int) 10) = ((n / 10 : Nat) : Int) := by rw [Int.tdiv_eq_ediv_of_nonneg (by omega), wrap_id (by omega) (by omega)]; omega
      rw [if_pos (by omega), if_neg c, e]
      simp only [Option.bind_some]
      rw [one_dig (n / 10) (by omega), Bs_app, Bs_size, Bs_size]
      simp only [List.length_cons, List.length_nil]
      rw [if_pos (by omega), List.singleton_append, ih (n / 10) k _ (by rw [Nat.pow_succ] at h; omega) (by omega) (by omega) (by simp only [List.length_cons]; omega)]
      congr 2
      by_cases c2 : n / 10 < 10
      · rw [if_pos c2, dd_one _ c2, Nat.mod_eq_of_lt c2]
        rfl
      · rw [if_neg c2, dd_step (n / 10) c2, List.append_assoc]
        rfl
theorem num_eq (n : Nat) (h : n ≤ 4294967295) (k : Nat) (hk : 20 ≤ k) : gongref06_Number.f k (n : Int) = some (Bs (Lib.decDigits n)) := by
  unfold gongref06_Number.f
  rw [one_dig n h, num_loop 9 n k _ (by show n < 10000000000; omega) h (by omega) (by simp)]
  congr 2
  by_cases c : n < 10
  · rw [if_pos c, dd_one n c, Nat.mod_eq_of_lt c]
    rfl
  · rw [if_neg c, dd_step n c]
theorem rput_loop (l : List Int) (hl : l.length ≤ 1000) (h : ∀ x ∈ l, 0 ≤ x ∧ x ≤ 4294967295) : ∀ (d i k : Nat), i + d = l.length → d + 20 < k →
    gongref06_Put.l0 k l (Bs (putL (l.take i))) (i : Int) = some (Bs (putL l)) := by
  intro d
  induction d with
  | zero =>
    intro i k hi hk
    obtain ⟨k, rfl⟩ : ∃ m, k = m + 1 := ⟨k - 1, by omega⟩
    simp only [gongref06_Put.l0]
    rw [if_neg (by omega), List.take_of_length_le (by omega)]
  | succ d ih =>
    intro i k hi hk
    obtain ⟨k, rfl⟩ : ∃ m, k = m + 1 := ⟨k - 1, by omega⟩
    have hlt : i < l.length := by omega
    have hx := h l[i] (List.getElem_mem hlt)
    have hp := putL_len (l := l.take i) (fun x hx => h x (List.mem_of_mem_take hx))
    rw [List.length_take] at hp
    have hnum : gongref06_Number.f k l[i] = some (Bs (Lib.decDigits l[i].toNat)) := by
      have := num_eq l[i].toNat (by omega) k (by omega)
      rw [show ((l[i].toNat : Nat) : Int) = l[i] by omega] at this
      exact this
    have hds := dd_short l[i].toNat (by omega)
    have ht : l.take (i + 1) = l.take i ++ [l[i]] := List.take_succ_eq_append_getElem hlt
    simp only [gongref06_Put.l0]
    rw [if_pos (by omega), rd_get l i hlt, hnum]
    simp only [Option.bind_some]
    by_cases c : i = 0
    · subst c
      rw [if_neg (by omega), if_pos (by omega), Bs_app, Bs_size, Bs_size, if_pos (by omega), wrap_succ 0 (by omega)]
      have e : putL (l.take 0) ++ Lib.decDigits l[0].toNat = putL (l.take (0 + 1)) := by rw [ht]; rfl
      rw [e]
      exact ih (0 + 1) k (by omega) (by omega)
    · have hdot : Bs (putL (l.take i)) ++ (⟨#[46]⟩ : ByteArray) = Bs (putL (l.take i) ++ [46]) := Bs_app _ [46]
      rw [if_pos (by omega), hdot, Bs_app, Bs_size, Bs_size, Bs_size, if_pos (by omega), if_pos (by omega), if_pos (by rw [List.length_append]; simp only [List.length_cons, List.length_nil]; omega), wrap_succ i (by omega)]
      have hne : l.take i ≠ [] := fun e => by
        have := congrArg List.length e
        rw [List.length_take] at this
        simp only [List.length_nil] at this
        omega
      have e : putL (l.take i) ++ [46] ++ Lib.decDigits l[i].toNat = putL (l.take (i + 1)) := by
        rw [ht, putL_snoc _ _ hne, List.append_assoc]
        rfl
      rw [e]
      exact ih (i + 1) k (by omega) (by omega)
theorem rput_eq (l : List Int) (hl : l.length ≤ 1000) (h : ∀ x ∈ l, 0 ≤ x ∧ x ≤ 4294967295) (k : Nat) (hk : 2000 ≤ k) : gongref06_Put.f k l = some (Bs (putL l)) := by
  unfold gongref06_Put.f
  have := rput_loop l hl h l.length 0 k (by omega) (by omega)
  rw [Int.natCast_zero] at this
  exact this
end Go.Proofs.YtjcenencgnfffaaGreatDoor.OidS
