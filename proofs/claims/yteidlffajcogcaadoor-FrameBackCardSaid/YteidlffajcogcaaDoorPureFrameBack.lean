/- Messages that are framed, one behind the other, are told as they were, and nothing is held; with a beginning of one more frame behind, that is held; with a byte behind that begins none, the stream is dead, and tells them all the same. Conditions: those of the statement. -/
import Derived.Test.YteidlffajcogcaaDoorFrmFrame
import Derived.Test.YteidlffajcogcaaDoorFrmFed
namespace Go.Proofs.YteidlffajcogcaaDoor.Pure
open Go.RowKit Gong Go.Proofs.YteidlffajcogcaaDoor.FrmS Go.Proofs.YteidlffajcogcaaDoor.XFb Go.Proofs.YteidlffajcogcaaDoorW.PrintWords Go.Proofs.YteidlffajcogcaaDoorW.PrintLast
set_option linter.unusedVariables false
set_option linter.unusedSimpArgs false
theorem nil_toList : (⟨#[]⟩ : ByteArray).toList = ([] : List UInt8) := by rw [Lib.toList_data]
theorem cut_at (s : ByteArray) (n : Nat) : ∃ t, gongbook_Cut.f s (n : Int) = some t ∧ t.size ≤ n := by
  unfold gongbook_Cut.f
  by_cases c : (s.size : Int) > n
  · rw [if_pos c, if_pos (by omega), if_pos (by omega)]
    refine ⟨_, rfl, ?_⟩
    rw [ByteArray.size_extract, Int.toNat_natCast]
    omega
  · rw [if_neg c]
    exact ⟨s, rfl, by omega⟩
theorem fedB (s : ByteArray) (hs : s.size ≤ 500000) (k : Nat) (hk : 600000 ≤ k) :
    gonglaw12_fed.f k 200 s [] = some ((brun ⟨200, 0, 0, 0, [], 0⟩ (L s) []).1, (brun ⟨200, 0, 0, 0, [], 0⟩ (L s) []).2.state == 3, (brun ⟨200, 0, 0, 0, [], 0⟩ (L s) []).2.held) :=
  fed_eq 200 (by omega) (by omega) s hs [] (by simp) (by simp) k hk
theorem run_behind (s t : List UInt8) (want : List ByteArray) (h : brun ⟨200, 0, 0, 0, [], 0⟩ s [] = (want, ⟨200, 0, 0, 0, [], 0⟩)) : brun ⟨200, 0, 0, 0, [], 0⟩ (s ++ t) [] = brun ⟨200, 0, 0, 0, [], 0⟩ t want := by
  rw [brun_append (inv_new 200 (by omega) (by omega)) (by show ¬ (0 : Int) = 3; decide), h]
  exact if_neg (by show ¬ (0 : Int) = 3; decide)
/-- A byte that begins none. -/
theorem last_part (x : Int) (hx0 : 0 ≤ x) (hx1 : x ≤ 255) (s : ByteArray) (hs : s.size ≤ 10000) (want : List ByteArray) (hw : want.length ≤ 1000) (hr : brun ⟨200, 0, 0, 0, [], 0⟩ (L s) [] = (want, ⟨200, 0, 0, 0, [], 0⟩)) (k : Nat) (hk : 600000 ≤ k) (hb : x < 49 ∨ 57 < x) :
    (if s.size + (strOfNums [x]).size ≤ 9223372036854775807 then ((gonglaw12_fed.f k 200 (s ++ (strOfNums [x])) ([] : List Int)).bind fun bt139 => ((gongbook_SameTexts.f k bt139.1 want).bind fun t144 => (if t144 = true then (if bt139.2.1 = true then (some (bt139.2.2 == 0)) else (some false)) else (some false)))) else (none)) = some true := by
  have hsz : (strOfNums [x]).size = 1 := by simp [strOfNums]; rfl
  have hL : L (strOfNums [x]) = [UInt8.ofNat x.toNat] := by simp [strOfNums, L]
  have ha : (s ++ strOfNums [x]).size = s.size + 1 := by rw [← L_len, append_L, List.length_append, L_len, L_len, hsz]
  have hbs : bstep ⟨200, 0, 0, 0, [], 0⟩ (UInt8.ofNat x.toNat) = none := by
    have e : ((UInt8.ofNat x.toNat).toNat : Int) = x := by
      rw [UInt8.toNat_ofNat']
      omega
    have hh : (Fm.head ⟨200, 0, 0, 0, [], 0⟩ x).1 = false := by
      unfold Fm.head
      rw [if_neg (by show ¬ ((0 : Int) = 1 ∧ _); omega)]
      by_cases c : x = 48
      · rw [if_pos ⟨rfl, c⟩]
      · rw [if_neg (fun h => c h.2), if_pos (by omega)]
    unfold bstep
    rw [if_neg (by show ¬ (0 : Int) = 2; decide), e, hh]
    rfl
  rw [if_pos (by omega), fedB _ (by omega) k hk, append_L, hL, run_behind _ _ want hr, brun_none hbs]
  simp only [Option.bind_some]
  rw [same_refl want (by omega) k (by omega)]
  simp only [Option.bind_some, if_true]
  rw [if_pos (by rfl)]
  rfl
theorem dd3 (n : Nat) (h : n ≤ 200) : (Lib.decDigits n).length ≤ 3 := by
  rw [Lib.decDigits]
  split
  · simp
  · rw [Lib.decDigits]
    split
    · simp
    · rw [Lib.decDigits, dif_pos (by omega)]
      simp
theorem j4_at (x : Int) (hx0 : 0 ≤ x) (hx1 : x ≤ 255) (s : ByteArray) (hs : s.size ≤ 10000) (want : List ByteArray) (hw : want.length ≤ 1000) (hr : brun ⟨200, 0, 0, 0, [], 0⟩ (L s) [] = (want, ⟨200, 0, 0, 0, [], 0⟩)) (k : Nat) (hk : 600002 ≤ k) :
    gonglaw12_FrameBack.j4 k x s want false = some true := by
  obtain ⟨k, rfl⟩ : ∃ m, k = m + 1 + 1 := ⟨k - 2, by omega⟩
  simp only [gonglaw12_FrameBack.j4]
  rw [if_neg (by decide)]
  by_cases c1 : x ≥ 49
  · rw [if_pos c1]
    by_cases c2 : x ≤ 57
    · rw [decide_eq_true c2]
      simp only [gonglaw12_FrameBack.j5, if_true, Option.bind_some]
      exact last_part 48 (by omega) (by omega) s hs want hw hr k (by omega) (by omega)
    · rw [decide_eq_false c2]
      simp only [gonglaw12_FrameBack.j5]
      rw [if_neg (by decide)]
      simp only [Option.bind_some]
      exact last_part x hx0 hx1 s hs want hw hr k (by omega) (by omega)
  · rw [if_neg c1]
    simp only [gonglaw12_FrameBack.j5]
    rw [if_neg (by decide)]
    simp only [Option.bind_some]
    exact last_part x hx0 hx1 s hs want hw hr k (by omega) (by omega)
theorem wrap2 (a b : Int) (h0 : 0 ≤ a) (h1 : a ≤ 1000000) (h2 : 0 ≤ b) (h3 : b ≤ 1000000) : wrap64 (wrap64 (a + 1) + b) = a + 1 + b := by
  rw [wrap_id (x := a + 1) (by omega) (by omega), wrap_id (by omega) (by omega)]
theorem j3_rest (M c : ByteArray) (hms : M.size = 1 + c.size) (hcs : c.size ≤ 100) (x : Int) (hx0 : 0 ≤ x) (hx1 : x ≤ 255) (s : ByteArray) (hs : s.size ≤ 9000) (want : List ByteArray) (hw : want.length ≤ 1000) (hr : brun ⟨200, 0, 0, 0, [], 0⟩ (L s) [] = (want, ⟨200, 0, 0, 0, [], 0⟩)) (k : Nat) (hk : 600002 ≤ k) :
    ((frame_Frame.f M).bind fun bt119 => (if 0 ≤ (wrap64 ((bt119.1.size : Int) - 1)) then (if (wrap64 ((bt119.1.size : Int) - 1)) ≤ (bt119.1.size : Int) then (if s.size + (bt119.1.extract 0 ((wrap64 ((bt119.1.size : Int) - 1)) : Int).toNat).size ≤ 9223372036854775807 then ((gonglaw12_fed.f k 200 (s ++ (bt119.1.extract 0 ((wrap64 ((bt119.1.size : Int) - 1)) : Int).toNat)) ([] : List Int)).bind fun bt121 => (if bt119.2 = 0 then ((gongbook_SameTexts.f k bt121.1 want).bind fun t126 => (if t126 = true then (if bt121.2.1 = true then (gonglaw12_FrameBack.j4 k x s want true) else (gonglaw12_FrameBack.j4 k x s want (bt121.2.2 != (wrap64 ((bt119.1.size : Int) - 1))))) else (gonglaw12_FrameBack.j4 k x s want true))) else (gonglaw12_FrameBack.j4 k x s want true))) else (none)) else (none)) else (none))) = some true := by
  have hm1 : 1 ≤ M.size := by omega
  have hm2 : M.size ≤ 200 := by omega
  obtain ⟨t, ht, hL⟩ := frame_eq M hm1 (Nat.le_trans hm2 (by decide))
  rw [ht]
  simp only [Option.bind_some]
  have hdl : 1 ≤ (Lib.decDigits M.size).length ∧ (Lib.decDigits M.size).length ≤ 3 := ⟨(dd_len M.size).2, dd3 M.size hm2⟩
  have hLM := L_len M
  have hlt := congrArg List.length hL
  rw [List.length_append, List.length_cons, L_len, L_len] at hlt
  have hrd := run_head 200 0 (by decide) M.size hm1 (by omega)
  obtain ⟨D, hD⟩ : ∃ D, D = Lib.decDigits M.size := ⟨_, rfl⟩
  rw [← hD] at hL hdl hlt hrd
  clear hD ht
  obtain ⟨n, hn⟩ : ∃ n : Nat, n = M.size := ⟨_, rfl⟩
  rw [← hn] at hms hm1 hm2 hLM hlt hrd
  clear hn
  obtain ⟨dg, hdg⟩ : ∃ dg : Nat, dg = D.length := ⟨_, rfl⟩
  rw [← hdg] at hdl hlt hrd
  obtain ⟨q, hq⟩ : ∃ q : Nat, q = c.size := ⟨_, rfl⟩
  rw [← hq] at hms hcs
  clear hq
  obtain ⟨z, hz⟩ : ∃ z : Nat, z = t.size := ⟨_, rfl⟩
  rw [← hz] at hlt ⊢
  have hz1 : z = dg + (q + 1 + 1) := by omega
  have hw1 : wrap64 ((z : Int) - 1) = ((z - 1 : Nat) : Int) := by unfold wrap64; omega
  rw [hw1]
  clear hw1
  rw [if_pos (Int.natCast_nonneg _), if_pos (by omega)]
  simp only [Int.toNat_natCast]
  have hLe : L (t.extract 0 (z - 1)) = D ++ 32 :: ((L M).take q) := by
    have e1 : z - 1 = D.length + (q + 1) := by omega
    rw [L_extract, List.drop_zero, hL, e1, List.take_append, List.take_of_length_le (by omega), Nat.add_sub_cancel_left, List.take_succ_cons]
  have hes : (t.extract 0 (z - 1)).size = z - 1 := by
    rw [← L_len, hLe, List.length_append, List.length_cons, List.length_take]
    omega
  obtain ⟨E, hE⟩ : ∃ E, E = t.extract 0 (z - 1) := ⟨_, rfl⟩
  rw [← hE] at hLe hes ⊢
  clear hE
  have hsz : (s ++ E).size ≤ 500000 := by
    have e2 : (s ++ E).size = s.size + E.size := by rw [← L_len, append_L, List.length_append, L_len, L_len]
    rw [e2]
    omega
  have hbl : ((L M).take q).length = q := by rw [List.length_take]; omega
  have hrun : brun ⟨200, 0, 0, 0, [], 0⟩ (L E) want = (want, ⟨200, 2, (n : Int), (dg : Int), (L M).take q, 0⟩) := by
    rw [hLe, hrd]
    have hb := brun_body ((L M).take q) (F := ⟨200, 2, (n : Int), (dg : Int), [], 0⟩) rfl [] want (by show ((0 : Nat) : Int) + (((L M).take q).length : Int) < (n : Int); rw [hbl]; omega)
    rw [List.append_nil, List.nil_append] at hb
    rw [hb, brun]
  rw [if_pos (by omega), fedB _ hsz k (by omega), append_L, run_behind _ _ want hr, hrun]
  simp only [Option.bind_some]
  rw [if_pos trivial, same_refl want (by omega) k (by omega)]
  simp only [Option.bind_some, if_true]
  rw [if_neg (by show ¬ ((2 : Int) == 3) = true; decide)]
  have hheld : (Fm.mk 200 2 (n : Int) (dg : Int) ((L M).take q) 0).held = ((z - 1 : Nat) : Int) := by
    unfold Fm.held
    rw [if_neg (by show ¬ (2 : Int) = 1; decide), if_pos rfl]
    simp only [hbl]
    exact (wrap2 (dg : Int) (q : Int) (by omega) (by omega) (by omega) (by omega)).trans (by omega)
  rw [hheld, bne_self_eq_false]
  exact j4_at x hx0 hx1 s (by omega) want hw hr k hk
theorem j3_at (more : ByteArray) (x : Int) (hx0 : 0 ≤ x) (hx1 : x ≤ 255) (s : ByteArray) (hs : s.size ≤ 9000) (want : List ByteArray) (hw : want.length ≤ 1000) (hr : brun ⟨200, 0, 0, 0, [], 0⟩ (L s) [] = (want, ⟨200, 0, 0, 0, [], 0⟩)) (k : Nat) (hk : 600003 ≤ k) :
    gonglaw12_FrameBack.j3 k more x s want false = some true := by
  obtain ⟨k, rfl⟩ : ∃ m, k = m + 1 := ⟨k - 1, by omega⟩
  simp only [gonglaw12_FrameBack.j3]
  rw [if_neg (by decide)]
  obtain ⟨c, hc, hcs⟩ := cut_at more 100
  have e100 : ((100 : Nat) : Int) = 100 := by rfl
  rw [e100] at hc
  rw [hc]
  simp only [Option.bind_some]
  have hms : ((⟨#[120]⟩ : ByteArray) ++ c).size = 1 + c.size := by rw [← L_len, append_L, List.length_append, L_len, L_len]; rfl
  rw [if_pos (by show 1 + c.size ≤ _; omega)]
  obtain ⟨M, hM⟩ : ∃ M : ByteArray, M = (⟨#[120]⟩ : ByteArray) ++ c := ⟨_, rfl⟩
  rw [← hM] at hms ⊢
  clear hM
  exact j3_rest M c hms hcs x hx0 hx1 s hs want hw hr k (by omega)
theorem loop_at (l : List ByteArray) (hl : l.length ≤ 8796093021952) (more : ByteArray) (x : Int) (hx0 : 0 ≤ x) (hx1 : x ≤ 255) : ∀ (d i k : Nat) (s : ByteArray) (want : List ByteArray), i + d = min l.length 20 → s.size ≤ i * 300 → want.length ≤ i → brun ⟨200, 0, 0, 0, [], 0⟩ (L s) [] = (want, ⟨200, 0, 0, 0, [], 0⟩) → d * 3 + 600010 ≤ k →
    gonglaw12_FrameBack.l0 k l more x s want (i : Int) = some true := by
  intro d
  induction d with
  | zero =>
    intro i k s want hi hs hw hr hk
    obtain ⟨k, rfl⟩ : ∃ m, k = m + 1 + 1 := ⟨k - 2, by omega⟩
    have hj : gonglaw12_FrameBack.j1 (k + 1) l more x s want (i : Int) false = some true := by
      simp only [gonglaw12_FrameBack.j1]
      rw [if_neg (by decide), fedB s (by omega) k (by omega), hr]
      simp only [Option.bind_some]
      rw [same_refl want (by omega) k (by omega)]
      simp only [Option.bind_some, if_true]
      rw [if_neg (by show ¬ ((0 : Int) == 3) = true; decide)]
      exact j3_at more x hx0 hx1 s (by omega) want (by omega) hr k (by omega)
    simp only [gonglaw12_FrameBack.l0]
    by_cases c : (i : Int) < (l.length : Int)
    · rw [if_pos c, decide_eq_false (by omega)]
      exact hj
    · rw [if_neg c]
      exact hj
  | succ d ih =>
    intro i k s want hi hs hw hr hk
    obtain ⟨k, rfl⟩ : ∃ m, k = m + 1 + 1 + 1 := ⟨k - 3, by omega⟩
    simp only [gonglaw12_FrameBack.l0]
    rw [if_pos (by omega), decide_eq_true (by omega)]
    simp only [gonglaw12_FrameBack.j1, if_true]
    rw [if_pos (by omega), if_pos (by omega)]
    obtain ⟨m, hm, hms⟩ := cut_at (rdOf ByteArray.empty l (i : Int)) 200
    have e200 : ((200 : Nat) : Int) = 200 := by rfl
    rw [e200] at hm
    rw [hm]
    simp only [Option.bind_some]
    have hw1 : wrap64 ((i : Int) + 1) = ((i + 1 : Nat) : Int) := by unfold wrap64; omega
    rw [hw1]
    clear hw1
    by_cases c : m.size = 0
    · obtain rfl := size_zero c
      have hf : frame_Frame.f (⟨#[]⟩ : ByteArray) = some ((⟨#[]⟩ : ByteArray), 1) := by
        unfold frame_Frame.f
        rw [if_pos nil_toList]
      rw [hf]
      simp only [Option.bind_some]
      rw [if_pos nil_toList, if_pos trivial]
      have hb : ((⟨#[]⟩ : ByteArray).toList != ([] : List UInt8)) = false := by rw [nil_toList]; rfl
      rw [hb]
      simp only [gonglaw12_FrameBack.j2]
      rw [if_neg (by decide)]
      clear hms c hm hf hb e200
      rw [show wrap64 ((i : Int) + 1) = ((i + 1 : Nat) : Int) from by unfold wrap64; omega]
      exact ih (i + 1) k s want (by omega) (Nat.le_trans hs (Nat.mul_le_mul_right _ (Nat.le_succ i))) (Nat.le_succ_of_le hw) hr (by omega)
    · clear e200
      have hm2 : m.size ≤ 65535 := Nat.le_trans hms (by decide)
      have hm1 : 1 ≤ m.size := Nat.one_le_iff_ne_zero.mpr c
      obtain ⟨t, ht, hL⟩ := frame_eq m hm1 hm2
      rw [ht]
      simp only [Option.bind_some]
      have hne : ¬ m.toList = ([] : List UInt8) := by
        have := toList_ne (a := m) c
        intro e
        rw [e] at this
        simp at this
      have hdl := dd_len m.size
      have hts : t.size ≤ 250 := by
        have h1 : Lib.decDigits m.size = Lib.decDigits m.size := rfl
        have h2 : t.size = (Lib.decDigits m.size).length + (m.size + 1) := by rw [← L_len, hL, List.length_append, List.length_cons, L_len]
        have h3 : (Lib.decDigits m.size).length ≤ 3 := dd3 m.size (by omega)
        omega
      rw [if_neg hne, if_pos trivial, if_pos (by omega), if_pos (by omega)]
      refine ih (i + 1) (k + 1) (s ++ t) (want ++ [m]) (by omega) ?_ (by simp only [List.length_append, List.length_cons, List.length_nil]; omega) ?_ (by omega)
      · rw [← L_len, append_L, List.length_append, L_len, L_len]; omega
      · rw [append_L, run_behind _ _ want hr, hL]
        have hf := run_frame 200 0 (by omega) (L m) [] (by rw [L_len]; omega) (by rw [L_len]; omega) want
        rw [List.append_nil, L_len, Bs_L] at hf
        rw [hf, brun]
theorem FrameBack (l0 : List ByteArray) (a1 : ByteArray) (a2 : Int) (hl : l0.length ≤ maxLen ∧ l0.length * 16 ≤ 140737488351232 ∧ ∀ x ∈ l0, x.size ≤ 140737488351232) (h1 : a1.size ≤ 140737488351232) (h2 : (Lit.int .u8 a2).wf = true) : ∃ k, gonglaw12_FrameBack.f k l0 a1 a2 = some true := by
  obtain ⟨K, hK⟩ : ∃ K : Nat, 700000 ≤ K := ⟨_, Nat.le_refl _⟩
  refine ⟨K, ?_⟩
  have hx : 0 ≤ a2 ∧ a2 ≤ 255 := by
    simp [Lit.wf, IntKind.min, IntKind.max, IntKind.signed, IntKind.bits] at h2
    exact h2
  unfold gonglaw12_FrameBack.f
  have hwk : gonglaw12_works.f K = some true := rfl
  rw [hwk]
  simp only [Option.bind_some, if_true]
  exact loop_at l0 (by have := hl.2.1; omega) a1 a2 hx.1 hx.2 (min l0.length 20) 0 K ⟨#[]⟩ [] (by omega) (by show 0 ≤ _; omega) (Nat.le_refl _) rfl (by omega)
end Go.Proofs.YteidlffajcogcaaDoor.Pure
