/- Layer 12: a frame's bytes, fed. -/
import Derived.Test.YteidlffajcogcaaDoorFrmSpec
import Derived.Lib.ItoaNum
namespace Go.Proofs.YteidlffajcogcaaDoor.FrmS
open Go.RowKit Gong Go.Proofs.YteidlffajcogcaaDoor.XFb Go.Proofs.YteidlffajcogcaaDoorW.PrintWords Go.Proofs.YteidlffajcogcaaDoorW.PrintLast Go.Proofs.YteidlffajcogcaaDoorW.PrintMore
set_option linter.unusedVariables false
set_option linter.unusedSimpArgs false
theorem digit_toNat (u : Nat) (h : u < 10) : ((UInt8.ofNat (48 + u)).toNat : Int) = 48 + (u : Int) := by
  rw [UInt8.toNat_ofNat']
  omega
theorem bstep_first (most d : Int) (u : Nat) (h1 : 1 ≤ u) (h2 : u < 10) (h3 : (u : Int) ≤ most) : bstep ⟨most, 0, 0, 0, [], d⟩ (UInt8.ofNat (48 + u)) = some (⟨most, 1, (u : Int), 1, [], d⟩, none) := by
  have hd := digit_toNat u h2
  have hw : wrap64 (wrap64 (0 * 10) + (48 + (u : Int) - 48)) = (u : Int) := by unfold wrap64; omega
  have hw2 : wrap64 (0 + 1) = 1 := by unfold wrap64; omega
  have hh : Fm.head ⟨most, 0, 0, 0, [], d⟩ (48 + (u : Int)) = (true, ⟨most, 1, (u : Int), 1, [], d⟩) := by
    unfold Fm.head
    rw [if_neg (by show ¬ ((0 : Int) = 1 ∧ _); omega), if_neg (by show ¬ ((0 : Int) = 0 ∧ _); omega), if_neg (by omega)]
    simp only [hw, hw2, decide_eq_true h3]
  unfold bstep
  rw [if_neg (by show ¬ (0 : Int) = 2; decide), hd, hh]
  exact if_pos rfl
theorem bstep_digit (most d : Int) (v u dg : Nat) (h2 : u < 10) (h3 : (v : Int) * 10 + u ≤ most) (h4 : most ≤ 65535) (h5 : dg ≤ 65536) : bstep ⟨most, 1, (v : Int), (dg : Int), [], d⟩ (UInt8.ofNat (48 + u)) = some (⟨most, 1, (v : Int) * 10 + u, ((dg + 1 : Nat) : Int), [], d⟩, none) := by
  have hd := digit_toNat u h2
  have hw : wrap64 (wrap64 ((v : Int) * 10) + (48 + (u : Int) - 48)) = (v : Int) * 10 + u := by unfold wrap64; omega
  have hw2 : wrap64 ((dg : Int) + 1) = ((dg + 1 : Nat) : Int) := by unfold wrap64; omega
  have hh : Fm.head ⟨most, 1, (v : Int), (dg : Int), [], d⟩ (48 + (u : Int)) = (true, ⟨most, 1, (v : Int) * 10 + u, ((dg + 1 : Nat) : Int), [], d⟩) := by
    unfold Fm.head
    rw [if_neg (by show ¬ ((1 : Int) = 1 ∧ 48 + (u : Int) = 32); omega), if_neg (by show ¬ ((1 : Int) = 0 ∧ _); omega), if_neg (by omega)]
    simp only [hw, hw2, decide_eq_true h3]
  unfold bstep
  rw [if_neg (by show ¬ (1 : Int) = 2; decide), hd, hh]
  exact if_pos rfl
theorem bstep_blank (most d n dg : Int) : bstep ⟨most, 1, n, dg, [], d⟩ 32 = some (⟨most, 2, n, dg, [], d⟩, none) := by
  unfold bstep
  rw [if_neg (by show ¬ (1 : Int) = 2; decide)]
  rfl
theorem dd_len : ∀ u : Nat, (Lib.decDigits u).length ≤ u + 1 ∧ 1 ≤ (Lib.decDigits u).length := by
  intro u
  induction u using Nat.strongRecOn with
  | _ u ih =>
    rw [Lib.decDigits]
    split
    · simp
    · have := ih (u / 10) (by omega)
      simp only [List.length_append, List.length_cons, List.length_nil]
      omega
theorem run_digits (most d : Int) (hm : most ≤ 65535) : ∀ (u : Nat), 1 ≤ u → (u : Int) ≤ most → ∀ (rest : List UInt8) (out : List ByteArray),
    brun ⟨most, 0, 0, 0, [], d⟩ (Lib.decDigits u ++ rest) out = brun ⟨most, 1, (u : Int), ((Lib.decDigits u).length : Int), [], d⟩ rest out := by
  intro u
  induction u using Nat.strongRecOn with
  | _ u ih =>
    intro h1 h2 rest out
    by_cases c : u < 10
    · rw [Lib.decDigits, dif_pos c, List.singleton_append, brun_some (bstep_first most d u h1 c h2)]
      rfl
    · have e : Lib.decDigits u = Lib.decDigits (u / 10) ++ [UInt8.ofNat (48 + u % 10)] := by
        conv => lhs; rw [Lib.decDigits, dif_neg c]
      have hl := dd_len (u / 10)
      have hv : ((u / 10 : Nat) : Int) * 10 + ((u % 10 : Nat) : Int) = (u : Int) := by omega
      rw [e, List.append_assoc, ih (u / 10) (by omega) (by omega) (by omega) _ out, List.singleton_append,
        brun_some (bstep_digit most d (u / 10) (u % 10) (Lib.decDigits (u / 10)).length (by omega) (by omega) hm (by omega)), hv]
      simp only [List.length_append, List.length_cons, List.length_nil]
/-- A frame's head. -/
theorem run_head (most d : Int) (hm : most ≤ 65535) (u : Nat) (h1 : 1 ≤ u) (h2 : (u : Int) ≤ most) (rest : List UInt8) (out : List ByteArray) :
    brun ⟨most, 0, 0, 0, [], d⟩ (Lib.decDigits u ++ 32 :: rest) out = brun ⟨most, 2, (u : Int), ((Lib.decDigits u).length : Int), [], d⟩ rest out := by
  rw [run_digits most d hm u h1 h2, brun_some (bstep_blank _ _ _ _)]
/-- A whole frame. -/
theorem run_frame (most d : Int) (hm : most ≤ 65535) (m rest : List UInt8) (h1 : 1 ≤ m.length) (h2 : (m.length : Int) ≤ most) (out : List ByteArray) :
    brun ⟨most, 0, 0, 0, [], d⟩ (Lib.decDigits m.length ++ 32 :: (m ++ rest)) out = brun ⟨most, 0, 0, 0, [], d⟩ rest (out ++ [Bs m]) := by
  rw [run_head most d hm m.length h1 h2, brun_full m rfl rest out (by show ((0 : Nat) : Int) < (m.length : Int); omega) (by show ((0 : Nat) : Int) + (m.length : Int) = (m.length : Int); omega)]
  rfl
theorem append_L (a b : ByteArray) : L (a ++ b) = L a ++ L b := by simp [L]
theorem itoa_nat (n : Nat) (h : n ≤ 1000000) : strconv_Itoa.f (n : Int) = some (Bs (Lib.decDigits n)) := by
  unfold strconv_Itoa.f
  rw [if_pos (by omega)]
  unfold Lib.itoa
  rw [if_neg (by omega)]
  rfl
theorem frame_eq (m : ByteArray) (h1 : 1 ≤ m.size) (h2 : m.size ≤ 65535) : ∃ t, frame_Frame.f m = some (t, 0) ∧ L t = Lib.decDigits m.size ++ 32 :: L m := by
  unfold frame_Frame.f
  have hne : ¬ m.toList = ([] : List UInt8) := by
    have := toList_ne (a := m) (by omega)
    intro e
    rw [e] at this
    simp at this
  rw [if_neg hne, if_neg (by omega), itoa_nat m.size (by omega)]
  simp only [Option.bind_some]
  have hl := dd_len m.size
  have s1 : (Bs (Lib.decDigits m.size)).size = (Lib.decDigits m.size).length := by rw [← L_len, L_Bs]
  have s2 : (Bs (Lib.decDigits m.size) ++ (⟨#[32]⟩ : ByteArray)).size = (Lib.decDigits m.size).length + 1 := by rw [← L_len, append_L, L_Bs]; simp [L]
  rw [if_pos (by omega), if_pos (by omega)]
  refine ⟨_, rfl, ?_⟩
  rw [append_L, append_L, L_Bs]
  simp [L]
end Go.Proofs.YteidlffajcogcaaDoor.FrmS
