/- Both frames of a message are the same. -/
import Derived.Test.YthacblokhhhlmaaDoorFrmHead
import Derived.Test.YthacblokhhhlmaaDoorDecLib
namespace Go.Proofs.YthacblokhhhlmaaDoor.FrmS
open Go.RowKit Gong Go.Proofs.YthacblokhhhlmaaDoor.XFf Go.Proofs.YthacblokhhhlmaaDoor.DecS Go.Proofs.YthacblokhhhlmaaDoorW.PrintWords Go.Proofs.YthacblokhhhlmaaDoorW.PrintLast Go.Proofs.YthacblokhhhlmaaDoorW.PrintMore
set_option linter.unusedVariables false
set_option linter.unusedSimpArgs false
theorem L_inj {a b : ByteArray} (h : L a = L b) : a = b := by rw [← Bs_L a, ← Bs_L b, h]
theorem one_dig (n : Nat) (h : n ≤ 4294967295) : strOfNums ([(wrap64 (48 + (Int.tmod (n : Int) 10))) % 256] : List Int) = Bs [UInt8.ofNat (48 + n % 10)] := by
  have e : Int.tmod (n : Int) 10 = ((n % 10 : Nat) : Int) := by rw [Int.tmod_eq_emod_of_nonneg (by omega)]; omega
  have e2 : (wrap64 (48 + ((n % 10 : Nat) : Int))) % 256 = ((48 + n % 10 : Nat) : Int) := by rw [wrap_id (by omega) (by omega)]; omega
  rw [e, e2]
  rfl
theorem Bs_app (a b : List UInt8) : Bs a ++ Bs b = Bs (a ++ b) := by
  apply L_inj
  rw [L_Bs]
  simp [L, Bs]
theorem Bs_size (a : List UInt8) : (Bs a).size = a.length := by rw [← L_len, L_Bs]
theorem num_loop : ∀ (m n k : Nat) (acc : List UInt8), n < 10 ^ (m + 1) → n ≤ 4294967295 → m < k → acc.length + m ≤ 1000000 →
    gongref06_Number.l0 k (n : Int) (Bs acc) = some (Bs ((if n < 10 then [] else Lib.decDigits (n / 10)) ++ acc)) := by
  intro m
  induction m with
  | zero =>
    intro n k acc h hn hk hb
    obtain ⟨k, rfl⟩ : ∃ m, k = m + 1 := ⟨k - 1, by omega⟩
    have h9 : n < 10 := by simpa using h
    simp only [gongref06_Number.l0]
    rw [if_neg (by omega), if_pos h9]
    rfl
  | succ m ih =>
    intro n k acc h hn hk hb
    obtain ⟨k, rfl⟩ : ∃ m, k = m + 1 := ⟨k - 1, by omega⟩
    simp only [gongref06_Number.l0]
    by_cases c : n < 10
    · rw [if_neg (by omega), if_pos c]
      rfl
    · have e : wrap64 (Int.tdiv (n : Int) 10) = ((n / 10 : Nat) : Int) := by rw [Int.tdiv_eq_ediv_of_nonneg (by omega), wrap_id (by omega) (by omega)]; omega
      rw [if_pos (by omega), if_neg c, e]
      simp only [Option.bind_some]
      rw [one_dig (n / 10) (by omega), Bs_app, Bs_size, Bs_size]
      simp only [List.length_cons, List.length_nil]
      rw [if_pos (by omega), List.singleton_append, ih (n / 10) k _ (by rw [Nat.pow_succ] at h; omega) (by omega) (by omega) (by simp only [List.length_cons]; omega)]
      congr 2
      by_cases c2 : n / 10 < 10
      · rw [if_pos c2, dd_one _ c2, Nat.mod_eq_of_lt c2]
        rfl
      · rw [if_neg c2, dd_step (n / 10) c2, List.append_assoc]
        rfl
theorem num_eq (n : Nat) (h : n ≤ 4294967295) (k : Nat) (hk : 20 ≤ k) : gongref06_Number.f k (n : Int) = some (Bs (Lib.decDigits n)) := by
  unfold gongref06_Number.f
  rw [one_dig n h, num_loop 9 n k _ (by show n < 10000000000; omega) h (by omega) (by simp)]
  congr 2
  by_cases c : n < 10
  · rw [if_pos c, dd_one n c, Nat.mod_eq_of_lt c]
    rfl
  · rw [if_neg c, dd_step n c]
theorem dd_len : ∀ u : Nat, (Lib.decDigits u).length ≤ u + 1 ∧ 1 ≤ (Lib.decDigits u).length := by
  intro u
  induction u using Nat.strongRecOn with
  | _ u ih =>
    rw [Lib.decDigits]
    split
    · simp
    · have := ih (u / 10) (by omega)
      simp only [List.length_append, List.length_cons, List.length_nil]
      omega
theorem toList_L (s : ByteArray) : s.toList = L s := ByteArray.toList_eq s
theorem frames_eq (a : ByteArray) (h : a.size ≤ 70000) : ∃ (r1 : ByteArray) (r2 : Int), frame_Frame.f a = some (r1, r2) ∧ gongref12_Frame.f 20 a = some (r1, r2) := by
  unfold frame_Frame.f gongref12_Frame.f
  by_cases c1 : a.toList = ([] : List UInt8)
  · rw [if_pos c1, if_pos c1]; exact ⟨_, _, rfl, rfl⟩
  · rw [if_neg c1, if_neg c1]
    by_cases c2 : (a.size : Int) > 65535
    · rw [if_pos c2, if_pos c2]; exact ⟨_, _, rfl, rfl⟩
    · rw [if_neg c2, if_neg c2, num_eq a.size (by omega) 20 (by omega)]
      have e : strconv_Itoa.f (a.size : Int) = some (Bs (Lib.decDigits a.size)) := by
        unfold strconv_Itoa.f
        rw [if_pos (by omega)]
        unfold Lib.itoa
        rw [if_neg (by omega)]
        rfl
      have hl := dd_len a.size
      have hs : (Bs (Lib.decDigits a.size) ++ (⟨#[32]⟩ : ByteArray)).size = (Lib.decDigits a.size).length + 1 := by rw [ByteArray.size_append, Bs_size]; rfl
      rw [e]
      simp only [Option.bind_some]
      rw [Bs_size, hs, if_pos (by omega), if_pos (by omega)]
      exact ⟨_, _, rfl, rfl⟩
theorem spoil_eq (l : List ByteArray) (hl : l.length ≤ 1000) : ∃ r, gongbook_SpoilTexts.f 2000 l = some r := by
  have hloop : ∀ (d : Nat) (m : List ByteArray) (i k : Nat), d + i = m.length → d < k → m.length ≤ 1000 → ∃ r, gongbook_SpoilTexts.l0 k m (i : Int) = some r := by
    intro d
    induction d with
    | zero =>
      intro m i k h hk hm
      obtain ⟨k, rfl⟩ : ∃ q, k = q + 1 := ⟨k - 1, by omega⟩
      rw [gongbook_SpoilTexts.l0, if_neg (by omega)]
      exact ⟨_, rfl⟩
    | succ d ih =>
      intro m i k h hk hm
      obtain ⟨k, rfl⟩ : ∃ q, k = q + 1 := ⟨k - 1, by omega⟩
      have hi : i ≤ 1000 := by omega
      rw [gongbook_SpoilTexts.l0, if_pos (by omega), if_pos (by omega), wr6 i (by omega)]
      exact ih _ (i + 1) k (by rw [List.length_set]; omega) (by omega) (by rw [List.length_set]; exact hm)
  exact hloop l.length l 0 2000 (by omega) (by omega) hl
theorem body_small {F : Fm} (h : Inv F) : F.body.length ≤ 140737488355328 := by
  have m2 := h.m2
  rcases h.st with h | h | h | h
  · rw [h.2.2.2]; simp
  · rw [h.2.2.2.2.2]; simp
  · omega
  · rw [h.2.2.2]; simp
theorem rs_small {F : Fm} {R : Rf} (h : Rel F R) : R.s.size ≤ 200000 := by
  have h1 := h.same.2.2
  have h2 := (held_nn h.inv).2
  omega
end Go.Proofs.YthacblokhhhlmaaDoor.FrmS
