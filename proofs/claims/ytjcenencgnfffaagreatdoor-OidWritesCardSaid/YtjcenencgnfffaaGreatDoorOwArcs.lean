/- Layer 6: the reference's Arcs, Encode and Decode. -/
import Derived.Test.YtjcenencgnfffaaGreatDoorOwRef
namespace Go.Proofs.YtjcenencgnfffaaGreatDoor.OidS
open Go.RowKit Gong Go.Proofs.YtjcenencgnfffaaGreatDoor.XOiW Go.Proofs.YtjcenencgnfffaaGreatDoor.DecS Go.Proofs.YtjcenencgnfffaaGreatDoorW.PrintWords Go.Proofs.YtjcenencgnfffaaGreatDoorW.PrintLast Go.Proofs.YtjcenencgnfffaaGreatDoorW.PrintMore
set_option linter.unusedVariables false
set_option linter.unusedSimpArgs false
theorem bt_get (s : ByteArray) (i : Nat) (h : i < (L s).length) : bt s (i : Int) = (((L s)[i]'h).toNat : Int) := by
  rw [L_len] at h
  exact (bt_at s i h).symm
theorem wrap_nat (i : Nat) (h : i ≤ 4611686018427387904) : wrap64 (i : Int) = (i : Int) := wrap_id (by omega) (by omega)
theorem arcs_fin (s : ByteArray) (l : List Int) (a : Int) (p k : Nat) (hp : s.size < p) (hk : 2500 ≤ k) : gongref06_Arcs.l0 (k + 1) s l a (p : Int) = some (if isS l = true ∧ putL l = L s then (l, 0) else ([], 60)) := by
  simp only [gongref06_Arcs.l0]
  rw [if_neg (by omega), ris_eq l k (by omega)]
  simp only [Option.bind_some]
  by_cases c : isS l = true
  · obtain ⟨h1, h2, h3, h4⟩ := isS_parts c
    rw [if_pos c, rput_eq l (by omega) h3 k (by omega)]
    simp only [Option.bind_some, toList_L, L_Bs]
    by_cases c2 : putL l = L s
    · rw [if_pos c2, if_pos ⟨c, c2⟩]
    · rw [if_neg c2, if_neg (fun h => c2 h.2)]
  · rw [if_neg c, if_neg (fun h => c h.1)]
theorem arcs_total (s : ByteArray) (hs : s.size ≤ 100000) : ∀ (d p k : Nat) (l : List Int) (a : Int), p + d = s.size + 1 → 2 * d + 2600 ≤ k → 0 ≤ a → a ≤ 99999999999 → l.length ≤ p →
    ∃ r, gongref06_Arcs.l0 k s l a (p : Int) = some r ∧ (r = ([], 60) ∨ ∃ m, isS m = true ∧ putL m = L s ∧ r = (m, 0)) := by
  intro d
  induction d with
  | zero =>
    intro p k l a hp hk h0 h1 hl
    obtain ⟨k, rfl⟩ : ∃ m, k = m + 1 := ⟨k - 1, by omega⟩
    refine ⟨_, arcs_fin s l a p k (by omega) (by omega), ?_⟩
    by_cases c : isS l = true ∧ putL l = L s
    · rw [if_pos c]; exact .inr ⟨l, c.1, c.2, rfl⟩
    · rw [if_neg c]; exact .inl rfl
  | succ d ih =>
    intro p k l a hp hk h0 h1 hl
    obtain ⟨k, rfl⟩ : ∃ m, k = m + 2 := ⟨k - 2, by omega⟩
    have hend : ∃ r, gongref06_Arcs.j1 (k + 1) s l a (p : Int) true = some r ∧ (r = ([], 60) ∨ ∃ m, isS m = true ∧ putL m = L s ∧ r = (m, 0)) := by
      simp only [gongref06_Arcs.j1, if_true]
      rw [if_pos (by omega), wrap_succ p (by omega)]
      exact ih (p + 1) k _ 0 (by omega) (by omega) (by omega) (by omega) (by rw [List.length_append]; simp only [List.length_cons, List.length_nil]; omega)
    have hl0 : gongref06_Arcs.l0 (k + 2) s l a (p : Int) = if (p : Int) ≤ (s.size : Int) then (if (p : Int) = (s.size : Int) then (gongref06_Arcs.j1 (k + 1) s l a (p : Int) true) else (if 0 ≤ (p : Int) then (if (p : Int) < (s.size : Int) then (gongref06_Arcs.j1 (k + 1) s l a (p : Int) ((bt s (p : Int)) == 46)) else (none)) else (none))) else (gongref06_Arcs.l0 (k + 2) s l a (p : Int)) := by
      rw [if_pos (by omega)]
      conv => lhs; unfold gongref06_Arcs.l0
      rw [if_pos (by omega)]
    rw [hl0, if_pos (by omega)]
    by_cases ce : p = s.size
    · rw [if_pos (by omega)]; exact hend
    · rw [if_neg (by omega), if_pos (by omega), if_pos (by omega)]
      have hlt : p < (L s).length := by rw [L_len]; omega
      have hb := bt_get s p hlt
      obtain ⟨b, hbb⟩ : ∃ b : Nat, ((L s)[p]'hlt).toNat = b := ⟨_, rfl⟩
      have hb256 : b < 256 := by rw [← hbb]; exact UInt8.toNat_lt _
      rw [hbb] at hb
      by_cases cd : b = 46
      · rw [hb, show ((b : Int) == 46) = true by rw [beq_iff_eq]; omega]; exact hend
      · rw [hb, show ((b : Int) == 46) = false by rw [beq_eq_false_iff_ne]; omega]
        simp only [gongref06_Arcs.j1]
        rw [if_neg (by decide), if_pos (by omega), if_pos (by omega), hb]
        by_cases c1 : (b : Int) < 48
        · rw [if_pos c1]; exact ⟨_, rfl, .inl rfl⟩
        · rw [if_neg c1]
          by_cases c2 : (b : Int) > 57
          · rw [if_pos c2]; exact ⟨_, rfl, .inl rfl⟩
          · rw [if_neg c2]
            by_cases c3 : a > 4294967295
            · rw [if_pos c3]; exact ⟨_, rfl, .inl rfl⟩
            · rw [if_neg c3, wrap_succ p (by omega)]
              have e : wrap64 (wrap64 (a * 10) + ((b : Int) - 48) % 256) = a * 10 + ((b : Int) - 48) := by rw [wrap_id (x := a * 10) (by omega) (by omega), wrap_id (by omega) (by omega)]; omega
              rw [e]
              exact ih (p + 1) k l _ (by omega) (by omega) (by omega) (by omega) (by omega)
def fv (a : Nat) (w : List UInt8) : Nat := w.foldl (fun a b => a * 10 + (b.toNat - 48)) a
theorem fv_ge : ∀ (w : List UInt8) (a : Nat), a ≤ fv a w
  | [], a => Nat.le_refl _
  | b :: w, a => by
    have := fv_ge w (a * 10 + (b.toNat - 48))
    show a ≤ fv (a * 10 + (b.toNat - 48)) w
    omega
theorem drop_one {l : List UInt8} {p : Nat} {b : UInt8} {r : List UInt8} (h : l.drop p = b :: r) : ∃ hp : p < l.length, l[p]'hp = b ∧ l.drop (p + 1) = r := by
  have hp : p < l.length := by
    have := congrArg List.length h
    rw [List.length_drop] at this
    simp only [List.length_cons] at this
    omega
  rw [List.drop_eq_getElem_cons hp] at h
  injection h with h1 h2
  exact ⟨hp, h1, h2⟩
theorem scan_word (s : ByteArray) (hs : s.size ≤ 100000) (l : List Int) : ∀ (w rest : List UInt8) (a p k : Nat), (∀ b ∈ w, isD b = true) → (L s).drop p = w ++ rest → fv a w ≤ 4294967295 →
    gongref06_Arcs.l0 (k + 2 * w.length) s l (a : Int) (p : Int) = gongref06_Arcs.l0 k s l (fv a w : Int) ((p + w.length : Nat) : Int)
  | [], rest, a, p, k, _, _, _ => rfl
  | b :: w, rest, a, p, k, hd, hL, hv => by
    obtain ⟨hp, hb, hr⟩ := drop_one hL
    have hlen := L_len s
    have hbt := bt_get s p hp
    rw [hb] at hbt
    have hdig := isD_iff (hd b (by simp))
    have hge := fv_ge (b :: w) a
    have ha := fv_ge w (a * 10 + (b.toNat - 48))
    have hv2 : fv (a * 10 + (b.toNat - 48)) w ≤ 4294967295 := hv
    have ih := scan_word s hs l w rest (a * 10 + (b.toNat - 48)) (p + 1) k (fun x hx => hd x (by simp [hx])) hr hv2
    simp only [List.length_cons]
    rw [show k + 2 * (w.length + 1) = (k + 2 * w.length) + 2 by omega]
    generalize k + 2 * w.length = q at ih ⊢
    have e : wrap64 (wrap64 ((a : Int) * 10) + ((b.toNat : Int) - 48) % 256) = ((a * 10 + (b.toNat - 48) : Nat) : Int) := by rw [wrap_id (x := (a : Int) * 10) (by omega) (by omega), wrap_id (by omega) (by omega)]; omega
    conv => lhs; unfold gongref06_Arcs.l0
    rw [if_pos (by omega), if_neg (by omega), if_pos (by omega), if_pos (by omega), hbt, show ((b.toNat : Int) == 46) = false by rw [beq_eq_false_iff_ne]; omega]
    conv => lhs; unfold gongref06_Arcs.j1
    rw [if_neg (by decide), if_pos (by omega), if_pos (by omega), hbt, if_neg (by omega), if_neg (by omega), if_neg (by omega), e, wrap_succ p (by omega), ih]
    congr 1
    omega
theorem scan_end (s : ByteArray) (l : List Int) (a : Int) (p k : Nat) (hs : s.size ≤ 100000) (hl : l.length ≤ 1000) (hp : p = s.size ∨ ∃ r, (L s).drop p = 46 :: r) : gongref06_Arcs.l0 (k + 2) s l a (p : Int) = gongref06_Arcs.l0 k s (l ++ [a]) 0 ((p + 1 : Nat) : Int) := by
  have hlen := L_len s
  have hj : gongref06_Arcs.j1 (k + 1) s l a (p : Int) true = gongref06_Arcs.l0 k s (l ++ [a]) 0 ((p + 1 : Nat) : Int) := by
    have hp2 : p ≤ s.size := by
      rcases hp with h | ⟨r, h⟩
      · omega
      · obtain ⟨h1, _, _⟩ := drop_one h; omega
    conv => lhs; unfold gongref06_Arcs.j1
    rw [if_pos rfl, if_pos (by omega), wrap_succ p (by omega)]
  conv => lhs; unfold gongref06_Arcs.l0
  rcases hp with h | ⟨r, h⟩
  · rw [if_pos (by omega), if_pos (by omega)]
    exact hj
  · obtain ⟨h1, h2, _⟩ := drop_one h
    have hbt := bt_get s p h1
    rw [h2] at hbt
    have e46 : ((46 : UInt8).toNat : Int) = 46 := rfl
    rw [if_pos (by omega), if_neg (by omega), if_pos (by omega), if_pos (by omega), hbt, e46]
    exact hj
theorem scan_all (s : ByteArray) (hs : s.size ≤ 100000) : ∀ (ls l : List Int) (p k d : Nat), ls ≠ [] → (∀ x ∈ ls, 0 ≤ x ∧ x ≤ 4294967295) → l.length + ls.length ≤ 1000 → (L s).drop p = joinL 46 (ls.map fun x => Lib.decDigits x.toNat) → p + d = s.size + 1 →
    gongref06_Arcs.l0 (k + 2 * d) s l 0 (p : Int) = gongref06_Arcs.l0 k s (l ++ ls) 0 ((s.size + 1 : Nat) : Int)
  | [], _, _, _, _, h, _, _, _, _ => absurd rfl h
  | [n], l, p, k, d, _, hr, hl, hL, hd => by
    have hn := hr n (by simp)
    have hL2 : (L s).drop p = Lib.decDigits n.toNat ++ [] := by rw [hL, List.append_nil]; rfl
    have hv : fv 0 (Lib.decDigits n.toNat) = n.toNat := val_dd n.toNat
    have hlen : (Lib.decDigits n.toNat).length + p = s.size := by
      have h0 := congrArg List.length hL2
      rw [List.length_drop, List.append_nil, L_len] at h0
      have := List.length_pos_iff.2 (dd_ne n.toNat)
      omega
    have := scan_word s hs l (Lib.decDigits n.toNat) [] 0 p (k + 2) (dd_dig n.toNat) hL2 (by rw [hv]; omega)
    rw [show k + 2 * d = k + 2 + 2 * (Lib.decDigits n.toNat).length by omega]
    rw [Int.natCast_zero] at this
    rw [this, hv, show ((n.toNat : Nat) : Int) = n by omega, scan_end s l n _ k hs (by simp only [List.length_cons, List.length_nil] at hl; omega) (.inl (by omega)), show p + (Lib.decDigits n.toNat).length + 1 = s.size + 1 by omega]
  | n :: m :: ls, l, p, k, d, _, hr, hl, hL, hd => by
    have hn := hr n (by simp)
    have hL2 : (L s).drop p = Lib.decDigits n.toNat ++ (46 :: joinL 46 ((m :: ls).map fun x => Lib.decDigits x.toNat)) := hL
    have hv : fv 0 (Lib.decDigits n.toNat) = n.toNat := val_dd n.toNat
    have hlen : (Lib.decDigits n.toNat).length + p + 1 ≤ s.size := by
      have h0 := congrArg List.length hL2
      rw [List.length_drop, List.length_append, L_len] at h0
      simp only [List.length_cons] at h0
      omega
    have hdr : (L s).drop (p + (Lib.decDigits n.toNat).length) = 46 :: joinL 46 ((m :: ls).map fun x => Lib.decDigits x.toNat) := by rw [← List.drop_drop, hL2, List.drop_left]
    obtain ⟨d2, rfl⟩ : ∃ d2, d = d2 + 1 + (Lib.decDigits n.toNat).length := ⟨d - 1 - (Lib.decDigits n.toNat).length, by omega⟩
    have := scan_word s hs l (Lib.decDigits n.toNat) _ 0 p (k + 2 * d2 + 2) (dd_dig n.toNat) hL2 (by rw [hv]; omega)
    rw [show k + 2 * (d2 + 1 + (Lib.decDigits n.toNat).length) = k + 2 * d2 + 2 + 2 * (Lib.decDigits n.toNat).length by omega]
    rw [Int.natCast_zero] at this
    simp only [List.length_cons] at hl
    rw [this, hv, show ((n.toNat : Nat) : Int) = n by omega, scan_end s l n _ (k + 2 * d2) hs (by omega) (.inr ⟨_, hdr⟩)]
    obtain ⟨_, _, hdr2⟩ := drop_one hdr
    have := scan_all s hs (m :: ls) (l ++ [n]) (p + (Lib.decDigits n.toNat).length + 1) k d2 (by simp) (fun x hx => hr x (by simp only [List.mem_cons] at hx ⊢; exact .inr hx)) (by simp only [List.length_append, List.length_cons, List.length_nil]; omega) hdr2 (by omega)
    rw [this, List.append_assoc]
    rfl
theorem rarcs_eq (a : ByteArray) (k : Nat) (hk : 9000 ≤ k) : gongref06_Arcs.f k a = some (arcsR (L a)) := by
  have hlen := L_len a
  unfold gongref06_Arcs.f
  by_cases c : (a.size : Int) > 1408
  · rw [if_pos c]
    have : arcsS (L a) = none := by
      cases h : arcsS (L a) with
      | none => rfl
      | some l =>
        obtain ⟨h1, h2⟩ := arcs_some h
        obtain ⟨_, p2, p3, _⟩ := isS_parts h1
        have := putL_len p3
        rw [h2] at this
        omega
    unfold arcsR
    rw [this]
  · rw [if_neg c]
    cases h : arcsS (L a) with
    | none =>
      obtain ⟨r, h1, h2⟩ := arcs_total a (by omega) (a.size + 1) 0 k [] 0 (by omega) (by omega) (by omega) (by omega) (by simp)
      rw [Int.natCast_zero] at h1
      rw [h1]
      unfold arcsR
      rw [h]
      rcases h2 with h2 | ⟨m, p1, p2, _⟩
      · rw [h2]
      · rw [← p2, arcs_put p1] at h; cases h
    | some l =>
      obtain ⟨h1, h2⟩ := arcs_some h
      obtain ⟨q1, q2, q3, _⟩ := isS_parts h1
      obtain ⟨q, rfl⟩ : ∃ q, k = q + 1 + 2 * (a.size + 1) := ⟨k - 1 - 2 * (a.size + 1), by omega⟩
      have := scan_all a (by omega) l [] 0 (q + 1) (a.size + 1) (by intro e; rw [e] at q1; simp at q1) q3 (by simp only [List.length_nil]; omega) (by rw [List.drop_zero, ← h2]; rfl) (by omega)
      rw [Int.natCast_zero] at this
      rw [this, List.nil_append, arcs_fin a l 0 (a.size + 1) q (by omega) (by omega), if_pos ⟨h1, h2⟩]
      unfold arcsR
      rw [h]
end Go.Proofs.YtjcenencgnfffaaGreatDoor.OidS
