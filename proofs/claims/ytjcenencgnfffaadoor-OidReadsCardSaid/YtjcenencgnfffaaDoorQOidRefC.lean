/- Layer 6: the reference's Decode. -/
import Derived.Test.YtjcenencgnfffaaDoorQOidRefB
namespace Go.Proofs.YtjcenencgnfffaaDoor.OidS
open Go.RowKit Gong Go.Proofs.YtjcenencgnfffaaDoor.XOiR Go.Proofs.YtjcenencgnfffaaDoor.DecS Go.Proofs.YtjcenencgnfffaaDoorW.PrintWords Go.Proofs.YtjcenencgnfffaaDoorW.PrintLast Go.Proofs.YtjcenencgnfffaaDoorW.PrintMore
set_option linter.unusedVariables false
set_option linter.unusedSimpArgs false
theorem rst_nums (a i p b : Nat) (ha : a ≤ 4294967295) (hi : i < 9) (hp : p ≤ 200000) (hb : b < 256) : wrap64 ((p : Int) + (i : Int)) = ((p + i : Nat) : Int) ∧ wrap64 (b : Int) = (b : Int) ∧ wrap64 (wrap64 ((a : Int) * 128) + Int.tmod (b : Int) 128) = ((a * 128 + b % 128 : Nat) : Int) ∧ wrap64 (((p + i : Nat) : Int) + 1) = ((p + i + 1 : Nat) : Int) := by
  refine ⟨?_, wrap_nat b (by omega), ?_, wrap_succ (p + i) (by omega)⟩
  · rw [wrap_id (by omega) (by omega)]; omega
  · rw [Int.tmod_eq_emod_of_nonneg (by omega), wrap_id (x := (a : Int) * 128) (by omega) (by omega), wrap_id (by omega) (by omega)]; omega
theorem rstep_eq (s : ByteArray) (a i p k : Nat) (ha : a ≤ 4294967295) (hi : i < 9) (hs : s.size ≤ 100000) (hl : p + i < (L s).length) :
    gongref01_Reader_Groups.l0 (k + 2) 4294967295 (a : Int) (i : Int) s (p : Int) 0 =
      (let b := ((L s)[p + i]'hl).toNat
       if i = 0 ∧ b = 128 then some (0, s, (p : Int), 3) else if 4294967295 < a * 128 + b % 128 then some (0, s, (p : Int), 2) else if b < 128 then some (((a * 128 + b % 128 : Nat) : Int), s, ((p + i + 1 : Nat) : Int), 0)
       else gongref01_Reader_Groups.l0 k 4294967295 ((a * 128 + b % 128 : Nat) : Int) ((i + 1 : Nat) : Int) s (p : Int) 0) := by
  have hlen := L_len s
  have hb := bt_get s (p + i) hl
  obtain ⟨b, hbb⟩ : ∃ b : Nat, ((L s)[p + i]'hl).toNat = b := ⟨_, rfl⟩
  have hb256 : b < 256 := by rw [← hbb]; exact UInt8.toNat_lt _
  rw [hbb] at hb ⊢
  have g1 : (i : Int) < 9 := by omega
  have g2 : ¬ ((p + i : Nat) : Int) ≥ (s.size : Int) := by omega
  have g3 : (0 : Int) ≤ ((p + i : Nat) : Int) := by omega
  have g4 : ((p + i : Nat) : Int) < (s.size : Int) := by omega
  have g5 := wrap_succ i (by omega)
  obtain ⟨e1, e2, e3, e4⟩ := rst_nums a i p b ha hi (by omega) hb256
  simp only [gongref01_Reader_Groups.l0]
  rw [if_pos g1, e1, if_neg g2, if_pos g3, if_pos g4, hb, e2]
  simp only [gongref01_Reader_Groups.j1]
  rw [e1, e3, e4, g5]
  clear e1 e2 e3 e4 g5 g1 g2 g3 g4
  by_cases c0 : i = 0
  · rw [if_pos (show (i : Int) = 0 by omega)]
    by_cases c1 : b = 128
    · rw [if_pos (show ((b : Int) == 128) = true by rw [beq_iff_eq]; omega), if_pos (show i = 0 ∧ b = 128 from ⟨c0, c1⟩)]
    · rw [if_neg (show ¬ ((b : Int) == 128) = true by rw [beq_iff_eq]; omega), if_neg (show ¬ (i = 0 ∧ b = 128) from fun h => c1 h.2)]
      by_cases c2 : 4294967295 < a * 128 + b % 128
      · rw [if_pos (show ((a * 128 + b % 128 : Nat) : Int) > 4294967295 by omega), if_pos c2]
      · rw [if_neg (show ¬ ((a * 128 + b % 128 : Nat) : Int) > 4294967295 by omega), if_neg c2]
        by_cases c3 : b < 128
        · rw [if_pos (show (b : Int) < 128 by omega), if_pos c3]
        · rw [if_neg (show ¬ (b : Int) < 128 by omega), if_neg c3]
  · rw [if_neg (show ¬ (i : Int) = 0 by omega), if_neg (show ¬ false = true by decide), if_neg (show ¬ (i = 0 ∧ b = 128) from fun h => c0 h.1)]
    by_cases c2 : 4294967295 < a * 128 + b % 128
    · rw [if_pos (show ((a * 128 + b % 128 : Nat) : Int) > 4294967295 by omega), if_pos c2]
    · rw [if_neg (show ¬ ((a * 128 + b % 128 : Nat) : Int) > 4294967295 by omega), if_neg c2]
      by_cases c3 : b < 128
      · rw [if_pos (show (b : Int) < 128 by omega), if_pos c3]
      · rw [if_neg (show ¬ (b : Int) < 128 by omega), if_neg c3]
/-- The reference reads a number as the program does. -/
theorem rel_groups (s s' : ByteArray) (p : Nat) (hs : s.size ≤ 100000) (hp : p ≤ s.size) (hd : L s' = (L s).drop p) : ∀ (d a i k : Nat), i + d = 9 → 2 * d < k → a ≤ 4294967295 → i ≤ (L s').length →
    ∀ v j c : Int, octet_groups.l0 k s' 4294967295 (a : Int) (i : Int) = some (v, j, c) → gongref01_Reader_Groups.l0 k 4294967295 (a : Int) (i : Int) s (p : Int) 0 = some (if c = 0 then (v, s, (p : Int) + j, 0) else (0, s, (p : Int), c)) := by
  have hlen := L_len s
  have hlen2 : (L s').length = s.size - p := by rw [hd, List.length_drop, hlen]
  have hlen3 := L_len s'
  intro d
  induction d with
  | zero =>
    intro a i k hi hk ha hl v j c h
    obtain ⟨k, rfl⟩ : ∃ m, k = m + 1 := ⟨k - 1, by omega⟩
    simp only [octet_groups.l0] at h
    rw [if_neg (by omega)] at h
    injection h with h
    injection h with h1 h2
    injection h2 with h2 h3
    subst h3
    simp only [gongref01_Reader_Groups.l0]
    rw [if_neg (by omega), if_neg (by decide)]
  | succ d ih =>
    intro a i k hi hk ha hl v j c h
    obtain ⟨k, rfl⟩ : ∃ m, k = m + 2 := ⟨k - 2, by omega⟩
    by_cases ce : i = (L s').length
    · simp only [octet_groups.l0] at h
      rw [if_pos (by omega), if_pos (by omega)] at h
      injection h with h
      injection h with h1 h2
      injection h2 with h2 h3
      subst h3
      simp only [gongref01_Reader_Groups.l0]
      rw [if_pos (by omega), if_pos (by rw [wrap_id (by omega) (by omega)]; omega), if_neg (by decide)]
    · have hlt : i < (L s').length := by omega
      have hlt2 : p + i < (L s).length := by omega
      rw [step_eq s' a i k ha (by omega) hlt] at h
      rw [rstep_eq s a i p k ha (by omega) hs hlt2]
      have hbe : (L s')[i]'hlt = (L s)[p + i]'hlt2 := by simp only [hd, List.getElem_drop]
      rw [hbe] at h
      obtain ⟨b, hbb⟩ : ∃ b : Nat, ((L s)[p + i]'hlt2).toNat = b := ⟨_, rfl⟩
      simp only [hbb] at h ⊢
      by_cases c1 : i = 0 ∧ b = 128
      · rw [if_pos c1] at h ⊢
        injection h with h
        injection h with h1 h2
        injection h2 with h2 h3
        subst h3
        rw [if_neg (by decide)]
      · rw [if_neg c1] at h ⊢
        by_cases c2 : 4294967295 < a * 128 + b % 128
        · rw [if_pos c2] at h ⊢
          injection h with h
          injection h with h1 h2
          injection h2 with h2 h3
          subst h3
          rw [if_neg (by decide)]
        · rw [if_neg c2] at h ⊢
          by_cases c3 : b < 128
          · rw [if_pos c3] at h ⊢
            injection h with h
            injection h with h1 h2
            injection h2 with h2 h3
            subst h1 h2 h3
            rw [if_pos rfl]
            have ej : ((p + i + 1 : Nat) : Int) = (p : Int) + ((i + 1 : Nat) : Int) := by omega
            rw [ej]
          · rw [if_neg c3] at h ⊢
            exact ih _ (i + 1) k (by omega) (by omega) (by omega) (by omega) v j c h
theorem rrg_sound (s : ByteArray) (p k : Nat) (hs : s.size ≤ 100000) (hp : p ≤ s.size) (hk : 20 ≤ k) :
    (∃ c : Int, c ≠ 0 ∧ gongref01_Reader_Groups.f k s (p : Int) 0 4294967295 = some (0, s, (p : Int), c)) ∨
    (∃ v j : Nat, v ≤ 4294967295 ∧ 0 < j ∧ p + j ≤ s.size ∧ gongref01_Reader_Groups.f k s (p : Int) 0 4294967295 = some ((v : Int), s, ((p + j : Nat) : Int), 0) ∧ (L s).drop p = grp v ++ (L s).drop (p + j)) := by
  have hlen := L_len s
  have hd : L (Bs ((L s).drop p)) = (L s).drop p := L_Bs _
  have hlen2 : (L (Bs ((L s).drop p))).length = s.size - p := by rw [hd, List.length_drop, hlen]
  have hf : gongref01_Reader_Groups.f k s (p : Int) 0 4294967295 = gongref01_Reader_Groups.l0 k 4294967295 0 0 s (p : Int) 0 := by unfold gongref01_Reader_Groups.f; rw [if_pos rfl]
  have rel := rel_groups s _ p hs hp hd 9 0 0 k (by omega) (by omega) (by omega) (by omega)
  rw [hf]
  rcases read_sound (Bs ((L s).drop p)) 9 0 0 k (by omega) (by omega) (by omega) (by omega) (fun _ => rfl) (fun h => absurd h (by omega)) with ⟨c, hc, h⟩ | ⟨v, j, hv, hj, h, ht⟩
  · have := rel _ _ _ h
    rw [if_neg hc] at this
    exact .inl ⟨c, hc, this⟩
  · have := rel _ _ _ h
    rw [if_pos rfl] at this
    have hgp := grp_pos v
    have hj0 : 0 < j := by
      have h0 := congrArg List.length ht
      rw [List.length_take] at h0
      omega
    refine .inr ⟨v, j, hv, hj0, by omega, ?_, ?_⟩
    · rw [Int.natCast_add]
      exact this
    · rw [← ht, hd, ← List.drop_drop, List.take_append_drop]
theorem rrg_grp (s : ByteArray) (p v k : Nat) (rest : List UInt8) (hs : s.size ≤ 100000) (hp : p ≤ s.size) (hv : v ≤ 4294967295) (hL : (L s).drop p = grp v ++ rest) (hk : 20 ≤ k) :
    gongref01_Reader_Groups.f k s (p : Int) 0 4294967295 = some ((v : Int), s, ((p + (grp v).length : Nat) : Int), 0) ∧ p + (grp v).length ≤ s.size ∧ (L s).drop (p + (grp v).length) = rest := by
  have hlen := L_len s
  have hd : L (Bs ((L s).drop p)) = (L s).drop p := L_Bs _
  have hf : gongref01_Reader_Groups.f k s (p : Int) 0 4294967295 = gongref01_Reader_Groups.l0 k 4294967295 0 0 s (p : Int) 0 := by unfold gongref01_Reader_Groups.f; rw [if_pos rfl]
  have rel := rel_groups s _ p hs hp hd 9 0 0 k (by omega) (by omega) (by omega) (by omega)
  have h := read_grp (Bs ((L s).drop p)) v k rest hv (by rw [hd, hL]) hk
  have := rel _ _ _ h
  rw [if_pos rfl] at this
  refine ⟨by rw [hf, Int.natCast_add]; exact this, ?_, by rw [← List.drop_drop, hL, List.drop_left]⟩
  have h0 := congrArg List.length hL
  rw [List.length_drop, List.length_append] at h0
  omega
theorem rl0_err (s : ByteArray) (p : Int) (c : Int) (hc : c ≠ 0) (l : List Int) (k : Nat) : gongref06_Decode.l0 (k + 1) s p c l = some ((⟨#[]⟩ : ByteArray), 60) := by
  simp only [gongref06_Decode.l0]
  rw [if_neg (fun h => hc h.2), if_neg hc]
theorem rl0_end (s : ByteArray) (p : Nat) (hs : s.size ≤ 100000) (hp : p = s.size) (l : List Int) (k : Nat) (hk : 2000 ≤ k) : gongref06_Decode.l0 (k + 1) s (p : Int) 0 l = some (if isS l = true then (Bs (putL l), 0) else ((⟨#[]⟩ : ByteArray), 60)) := by
  simp only [gongref06_Decode.l0]
  rw [if_neg (fun h => by have := h.1; rw [wrap_id (by omega) (by omega)] at this; omega), if_pos trivial, ris_eq l k (by omega)]
  simp only [Option.bind_some]
  by_cases c : isS l = true
  · obtain ⟨h1, h2, h3, h4⟩ := isS_parts c
    rw [if_pos c, if_pos c, rput_eq l (by omega) h3 k (by omega)]
    rfl
  · rw [if_neg c, if_neg c]
theorem rl0_step (s : ByteArray) (p : Nat) (hs : s.size ≤ 100000) (hp : p < s.size) (l : List Int) (hl : l.length ≤ 1000000) (k : Nat) : gongref06_Decode.l0 (k + 1) s (p : Int) 0 l = (gongref01_Reader_Groups.f k s (p : Int) 0 4294967295).bind fun t => gongref06_Decode.l0 k t.2.1 t.2.2.1 t.2.2.2 (l ++ [t.1]) := by
  simp only [gongref06_Decode.l0]
  rw [if_pos ⟨by rw [wrap_id (by omega) (by omega)]; omega, trivial⟩]
  simp only [if_pos (show (l.length + 1) * 8 ≤ 140737488355328 by omega)]
theorem rdec_sound (s : ByteArray) (hs : s.size ≤ 1000) : ∀ (d p k : Nat) (l : List Int), p + d = s.size → 2500 + d ≤ k → l.length ≤ p + 10 →
    gongref06_Decode.l0 k s (p : Int) 0 l = some ((⟨#[]⟩ : ByteArray), 60) ∨ ∃ r : List Int, isS (l ++ r) = true ∧ (L s).drop p = catG r ∧ gongref06_Decode.l0 k s (p : Int) 0 l = some (Bs (putL (l ++ r)), 0) := by
  intro d
  induction d using Nat.strongRecOn with
  | ind d ih =>
    intro p k l hd hk hl
    have hlen := L_len s
    obtain ⟨k, rfl⟩ : ∃ m, k = m + 1 := ⟨k - 1, by omega⟩
    by_cases ce : p = s.size
    · rw [rl0_end s p (by omega) ce l k (by omega)]
      by_cases c : isS l = true
      · rw [if_pos c]
        exact .inr ⟨[], by rw [List.append_nil]; exact c, by rw [List.drop_eq_nil_of_le (by omega)]; rfl, by rw [List.append_nil]⟩
      · rw [if_neg c]; exact .inl rfl
    · rw [rl0_step s p (by omega) (by omega) l (by omega) k]
      rcases rrg_sound s p k (by omega) (by omega) (by omega) with ⟨c, hc, h⟩ | ⟨v, j, hv, hj0, hj, h, hL⟩
      · rw [h]
        simp only [Option.bind_some]
        obtain ⟨k, rfl⟩ : ∃ m, k = m + 1 := ⟨k - 1, by omega⟩
        exact .inl (rl0_err s _ c hc _ k)
      · rw [h]
        simp only [Option.bind_some]
        rcases ih (d - j) (by omega) (p + j) k (l ++ [(v : Int)]) (by omega) (by omega) (by rw [List.length_append]; simp only [List.length_cons, List.length_nil]; omega) with h2 | ⟨r, h2, h3, h4⟩
        · exact .inl h2
        · rw [List.append_assoc] at h2 h4
          exact .inr ⟨(v : Int) :: r, h2, by rw [hL, h3, catG_cons, Int.toNat_natCast], h4⟩
theorem rdec_back (s : ByteArray) (hs : s.size ≤ 1000) : ∀ (r : List Int) (p k : Nat) (l : List Int), p ≤ s.size → isS (l ++ r) = true → (L s).drop p = catG r → 2500 + r.length ≤ k → gongref06_Decode.l0 k s (p : Int) 0 l = some (Bs (putL (l ++ r)), 0)
  | [], p, k, l, hp, hx, hL, hk => by
    obtain ⟨k, rfl⟩ : ∃ m, k = m + 1 := ⟨k - 1, by omega⟩
    have hlen := L_len s
    have hps : p = s.size := by
      have h0 := congrArg List.length hL
      rw [List.length_drop] at h0
      simp only [catG, List.flatMap_nil, List.length_nil] at h0
      omega
    rw [List.append_nil] at hx ⊢
    rw [rl0_end s p (by omega) hps l k (by omega), if_pos hx]
  | n :: r, p, k, l, hp, hx, hL, hk => by
    obtain ⟨k, rfl⟩ : ∃ m, k = m + 1 := ⟨k - 1, by omega⟩
    have hlen := L_len s
    obtain ⟨h1, h2, h3, h4⟩ := isS_parts hx
    have hn := h3 n (by simp)
    rw [catG_cons] at hL
    simp only [List.length_append, List.length_cons] at h2 hk
    obtain ⟨e1, e2, e3⟩ := rrg_grp s p n.toNat k _ (by omega) hp (by omega) hL (by omega)
    have hgp := grp_pos n.toNat
    rw [rl0_step s p (by omega) (by omega) l (by omega) k, e1]
    simp only [Option.bind_some]
    rw [show ((n.toNat : Nat) : Int) = n by omega, rdec_back s hs r _ k (l ++ [n]) e2 (by rw [List.append_assoc]; exact hx) e3 (by omega), List.append_assoc]
    rfl
theorem catG_len : ∀ l : List Int, (∀ x ∈ l, 0 ≤ x ∧ x ≤ 4294967295) → (catG l).length ≤ 5 * l.length
  | [], _ => by simp [catG]
  | n :: l, h => by
    have h1 := h n (by simp)
    have h2 := grp_len n.toNat (by omega)
    have h3 := catG_len l (fun x hx => h x (by simp [hx]))
    rw [catG_cons, List.length_append, List.length_cons]
    omega
theorem encL_len {x : List Int} (h : isS x = true) : 0 < (encL x).length ∧ (encL x).length ≤ 640 := by
  obtain ⟨h1, h2, h3, h4⟩ := isS_parts h
  match x, h, h1, h2, h3 with
  | x0 :: x1 :: l, h, h1, h2, h3 =>
    obtain ⟨p0, p1, p2, p3⟩ := heads_le h
    have e : encL (x0 :: x1 :: l) = grp (x1 + 40 * x0).toNat ++ catG l := catG_cons _ _
    have a := grp_len (x1 + 40 * x0).toNat (by omega)
    have b := grp_pos (x1 + 40 * x0).toNat
    have c := catG_len l (fun x hx => h3 x (by simp [hx]))
    simp only [List.length_cons] at h2
    rw [e, List.length_append]
    omega
theorem dec_same (s : ByteArray) (k : Nat) (hk : 9000 ≤ k) : ∃ r, oid_Decode.f k s = some r ∧ gongref06_Decode.f k s = some r := by
  have hlen := L_len s
  have hf : ∀ n : Int, gongref06_Decode.first n = mn (n / 40) 2 := fun n => rfl
  rcases decode_sound s k (by omega) with h | ⟨y, hy, h, hL⟩
  · refine ⟨_, h, ?_⟩
    unfold gongref06_Decode.f
    by_cases c0 : s.size = 0
    · rw [if_pos c0]
    · rw [if_neg c0]
      by_cases c1 : 640 < s.size
      · rw [if_pos c1]
      · rw [if_neg c1]
        rcases rrg_sound s 0 k (by omega) (by omega) (by omega) with ⟨c, hc, h2⟩ | ⟨v, j, hv, hj0, hj, h2, hL⟩
        · rw [Int.natCast_zero] at h2
          rw [h2]
          simp only [Option.bind_some]
          obtain ⟨k, rfl⟩ : ∃ m, k = m + 1 := ⟨k - 1, by omega⟩
          rw [if_pos (by omega), rl0_err s _ c hc _ k]
        · rw [Int.natCast_zero] at h2
          rw [h2]
          simp only [Option.bind_some]
          rw [if_pos (by omega), hf]
          rcases rdec_sound s (by omega) (s.size - (0 + j)) (0 + j) k [mn ((v : Int) / 40) 2, (v : Int) - 40 * mn ((v : Int) / 40) 2] (by omega) (by omega) (by simp only [List.length_cons, List.length_nil]; omega) with h3 | ⟨r, h3, h4, h5⟩
          · exact h3
          · exfalso
            have e : Bs (encL ([mn ((v : Int) / 40) 2, (v : Int) - 40 * mn ((v : Int) / 40) 2] ++ r)) = s := by
              apply L_inj
              rw [L_Bs]
              show catG (((v : Int) - 40 * mn ((v : Int) / 40) 2 + 40 * mn ((v : Int) / 40) 2) :: r) = _
              rw [List.drop_zero] at hL
              rw [hL, h4, catG_cons, show (v : Int) - 40 * mn ((v : Int) / 40) 2 + 40 * mn ((v : Int) / 40) 2 = (v : Int) by omega, Int.toNat_natCast]
            have := decode_enc h3 k (by omega)
            rw [e, h] at this
            injection this with this
            injection this with _ this
            cases this
  · refine ⟨_, h, ?_⟩
    have hsz := encL_len hy
    rw [← hL] at hsz
    unfold gongref06_Decode.f
    rw [if_neg (by omega), if_neg (by omega)]
    obtain ⟨h1, h2, h3, h4⟩ := isS_parts hy
    match y, hy, h1, h2, h3, hL with
    | x0 :: x1 :: l, hy, h1, h2, h3, hL =>
      obtain ⟨p0, p1, p2, p3⟩ := heads_le hy
      have hL2 : (L s).drop 0 = grp (x1 + 40 * x0).toNat ++ catG l := by rw [List.drop_zero, hL]; exact catG_cons _ _
      obtain ⟨e1, e2, e3⟩ := rrg_grp s 0 _ k _ (by omega) (by omega) (by omega) hL2 (by omega)
      rw [Int.natCast_zero] at e1
      simp only [List.length_cons] at h2
      rw [e1]
      simp only [Option.bind_some]
      rw [show (((x1 + 40 * x0).toNat : Nat) : Int) = x1 + 40 * x0 by omega, if_pos (by omega), hf, p3, show x1 + 40 * x0 - 40 * x0 = x1 by omega]
      exact rdec_back s (by omega) l _ k [x0, x1] e2 hy e3 (by omega)
end Go.Proofs.YtjcenencgnfffaaDoor.OidS
