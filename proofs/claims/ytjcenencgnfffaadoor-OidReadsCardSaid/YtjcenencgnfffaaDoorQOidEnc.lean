/- Layer 6: octets: what is written is read, what is read is written. -/
import Derived.Test.YtjcenencgnfffaaDoorQOidGrp
namespace Go.Proofs.YtjcenencgnfffaaDoor.OidS
open Go.RowKit Gong Go.Proofs.YtjcenencgnfffaaDoor.XOiR Go.Proofs.YtjcenencgnfffaaDoor.DecS Go.Proofs.YtjcenencgnfffaaDoorW.PrintWords Go.Proofs.YtjcenencgnfffaaDoorW.PrintLast Go.Proofs.YtjcenencgnfffaaDoorW.PrintMore
set_option linter.unusedVariables false
set_option linter.unusedSimpArgs false
def catG (l : List Int) : List UInt8 := l.flatMap fun n => grp n.toNat
theorem catG_cons (n : Int) (l : List Int) : catG (n :: l) = grp n.toNat ++ catG l := by unfold catG; rw [List.flatMap_cons]
theorem groups_int (n : Int) (h0 : 0 ≤ n) (h1 : n ≤ 4294967295) : octet_Groups.f n = some (Bs (grp n.toNat), 0) := by
  have := groups_eq n.toNat (by omega)
  rw [show ((n.toNat : Nat) : Int) = n by omega] at this
  exact this
theorem go_eq : ∀ (l : List Int) (acc : List UInt8), (∀ x ∈ l, 0 ≤ x ∧ x ≤ 4294967295) → acc.length + 5 * l.length ≤ 1000000 → oid_Encode.go l acc = some (acc ++ catG l)
  | [], acc, _, _ => by simp [oid_Encode.go, catG]
  | n :: l, acc, h, hb => by
    have hn := h n (by simp)
    have hg := grp_len n.toNat (by omega)
    simp only [List.length_cons] at hb
    have hs : (Bs (grp n.toNat)).size = (grp n.toNat).length := by rw [← L_len, L_Bs]
    unfold oid_Encode.go
    rw [groups_int n hn.1 hn.2]
    simp only [Option.bind_some]
    rw [if_pos (by rw [hs]; omega), go_eq l _ (fun x hx => h x (by simp [hx])) (by rw [List.length_append]; show acc.length + (L (Bs (grp n.toNat))).length + _ ≤ _; rw [L_Bs]; omega), catG_cons]
    show some (acc ++ L (Bs (grp n.toNat)) ++ catG l) = _
    rw [L_Bs, List.append_assoc]
def encL : List Int → List UInt8
  | x0 :: x1 :: l => catG ((x1 + 40 * x0) :: l)
  | _ => []
theorem heads_le {x0 x1 : Int} {l : List Int} (h : isS (x0 :: x1 :: l) = true) : 0 ≤ x0 ∧ 0 ≤ x1 ∧ x1 + 40 * x0 ≤ 4294967295 ∧ mn ((x1 + 40 * x0) / 40) 2 = x0 := by
  obtain ⟨_, _, h3, h4⟩ := isS_parts h
  have a := h3 x0 (by simp)
  have b := h3 x1 (by simp)
  unfold heads at h4
  rw [decide_eq_true_eq] at h4
  refine ⟨a.1, b.1, by omega, ?_⟩
  unfold mn
  by_cases c : 2 < (x1 + 40 * x0) / 40
  · rw [if_pos c]; omega
  · rw [if_neg c]; omega
theorem enc_of {x : List Int} (h : isS x = true) (k : Nat) (hk : 500 ≤ k) : oid_Encode.f k (Bs (putL x)) = some (Bs (encL x), 0) := by
  obtain ⟨h1, h2, h3, h4⟩ := isS_parts h
  unfold oid_Encode.f
  rw [arcs_of h k hk]
  simp only [Option.bind_some, if_true]
  match x, h, h1, h2, h3 with
  | x0 :: x1 :: l, h, h1, h2, h3 =>
    obtain ⟨p0, p1, p2, _⟩ := heads_le h
    have b := h3 x0 (by simp)
    have e : wrap64 (x1 + wrap64 (40 * x0)) = x1 + 40 * x0 := by rw [wrap_id (x := 40 * x0) (by omega) (by omega), wrap_id (by omega) (by omega)]
    simp only [List.length_cons] at h2
    show (oid_Encode.go (wrap64 (x1 + wrap64 (40 * x0)) :: l) []).bind (fun o => some ((⟨o.toArray⟩ : ByteArray), 0)) = _
    rw [e, go_eq _ [] (fun y hy => by
      rcases List.mem_cons.1 hy with rfl | hy
      · exact ⟨by omega, p2⟩
      · exact h3 y (by simp [hy])) (by simp only [List.length_cons, List.length_nil]; omega)]
    rfl
/-- One reading. -/
theorem rg_err (s : ByteArray) (k : Nat) (c : Int) (hc : c ≠ 0) (h : octet_groups.f k s 4294967295 = some (0, 0, c)) : octet_Reader_Groups.f k s 0 4294967295 = some (0, s, c) := by
  unfold octet_Reader_Groups.f
  rw [if_pos rfl, h]
  simp only [Option.bind_some, octet_Reader_Refuse.f, if_true]
  rw [if_pos (by omega), if_pos (by omega)]
  have : s.extract (0 : Int).toNat s.size = s := by
    apply L_inj
    simp [L, ByteArray.data_extract]
  rw [this]
theorem rg_ok (s : ByteArray) (k v j : Nat) (hj : j ≤ (L s).length) (h : octet_groups.f k s 4294967295 = some ((v : Int), (j : Int), 0)) :
    ∃ s' : ByteArray, octet_Reader_Groups.f k s 0 4294967295 = some ((v : Int), s', 0) ∧ L s' = (L s).drop j := by
  have hs := L_len s
  refine ⟨s.extract j s.size, ?_, ?_⟩
  · unfold octet_Reader_Groups.f
    rw [if_pos rfl, h]
    simp only [Option.bind_some, octet_Reader_Refuse.f, if_true]
    rw [if_pos (by omega), if_pos (by omega), Int.toNat_natCast]
  · simp only [L, ByteArray.data_extract, Array.toList_extract, List.extract_eq_take_drop]
    exact List.take_of_length_le (by rw [List.length_drop]; show (L s).length - j ≤ _; omega)
theorem rg_sound (s : ByteArray) (k : Nat) (hk : 20 ≤ k) :
    (∃ c : Int, c ≠ 0 ∧ octet_Reader_Groups.f k s 0 4294967295 = some (0, s, c)) ∨
    (∃ (v : Nat) (s' : ByteArray), v ≤ 4294967295 ∧ octet_Reader_Groups.f k s 0 4294967295 = some ((v : Int), s', 0) ∧ L s = grp v ++ L s') := by
  rcases read_sound s 9 0 0 k (by omega) (by omega) (by omega) (by omega) (fun _ => rfl) (fun h => absurd h (by omega)) with ⟨c, hc, h⟩ | ⟨v, j, hv, hj, h, ht⟩
  · exact .inl ⟨c, hc, rg_err s k c hc h⟩
  · obtain ⟨s', h1, h2⟩ := rg_ok s k v j hj h
    exact .inr ⟨v, s', hv, h1, by rw [h2, ← ht, List.take_append_drop]⟩
theorem rg_grp (s : ByteArray) (v k : Nat) (rest : List UInt8) (hv : v ≤ 4294967295) (hL : L s = grp v ++ rest) (hk : 20 ≤ k) : ∃ s' : ByteArray, octet_Reader_Groups.f k s 0 4294967295 = some ((v : Int), s', 0) ∧ L s' = rest := by
  obtain ⟨s', h1, h2⟩ := rg_ok s k v (grp v).length (by rw [hL, List.length_append]; omega) (read_grp s v k rest hv hL hk)
  exact ⟨s', h1, by rw [h2, hL, List.drop_left]⟩
theorem j1_err (x : List Int) (s : ByteArray) (c : Int) (hc : c ≠ 0) (k : Nat) : oid_Decode.j1 (k + 1) x s c = some ((⟨#[]⟩ : ByteArray), 60) := by
  simp only [oid_Decode.j1, octet_Reader_Code.f, Option.bind_some]
  rw [if_neg hc]
theorem l0_err (x : List Int) (s : ByteArray) (c : Int) (hc : c ≠ 0) (k : Nat) : oid_Decode.l0 (k + 2) x s c = some ((⟨#[]⟩ : ByteArray), 60) := by
  simp only [oid_Decode.l0, octet_Reader_Code.f, Option.bind_some]
  rw [if_neg hc, j1_err x s c hc k]
theorem j1_yes {x : List Int} (hx : isS x = true) (s : ByteArray) (k : Nat) (hk : 2000 ≤ k) : oid_Decode.j1 (k + 1) x s 0 = some (Bs (putL x), 0) := by
  obtain ⟨h1, h2, h3, h4⟩ := isS_parts hx
  simp only [oid_Decode.j1, octet_Reader_Code.f, Option.bind_some, if_true]
  rw [is_eq x k (by omega), hx]
  simp only [Option.bind_some, if_true]
  rw [put_eq x (by omega) h3 k hk]
  rfl
theorem j1_no {x : List Int} (hx : isS x = false) (s : ByteArray) (k : Nat) (hk : 2000 ≤ k) : oid_Decode.j1 (k + 1) x s 0 = some ((⟨#[]⟩ : ByteArray), 60) := by
  simp only [oid_Decode.j1, octet_Reader_Code.f, Option.bind_some, if_true]
  rw [is_eq x k (by omega), hx]
  rfl
theorem size_L (s : ByteArray) : ((s.size : Int) > 0) ↔ L s ≠ [] := by
  have := L_len s
  constructor
  · intro h e; rw [e] at this; simp at this; omega
  · intro h
    have := List.length_pos_iff.2 h
    omega
/-- Octets that are read as arcs are those that are written. -/
theorem dec_sound : ∀ (d k : Nat) (x : List Int) (s : ByteArray), x.length + d = 130 → 2500 + 2 * d ≤ k →
    oid_Decode.l0 k x s 0 = some ((⟨#[]⟩ : ByteArray), 60) ∨ ∃ r : List Int, isS (x ++ r) = true ∧ L s = catG r ∧ oid_Decode.l0 k x s 0 = some (Bs (putL (x ++ r)), 0) := by
  intro d
  induction d with
  | zero =>
    intro k x s hd hk
    obtain ⟨k, rfl⟩ : ∃ m, k = m + 2 := ⟨k - 2, by omega⟩
    have hx : isS x = false := by
      rw [Bool.eq_false_iff]
      intro h
      have := (isS_parts h).2.1
      omega
    left
    simp only [oid_Decode.l0, octet_Reader_Code.f, octet_Reader_Left.f, Option.bind_some, if_true]
    rw [j1_no hx s k (by omega)]
    split
    · rw [if_neg (by omega)]
    · rfl
  | succ d ih =>
    intro k x s hd hk
    obtain ⟨k, rfl⟩ : ∃ m, k = m + 2 := ⟨k - 2, by omega⟩
    have hjr : oid_Decode.j1 (k + 1) x s 0 = some ((⟨#[]⟩ : ByteArray), 60) ∨ (isS x = true ∧ oid_Decode.j1 (k + 1) x s 0 = some (Bs (putL x), 0)) := by
      by_cases hx : isS x = true
      · exact .inr ⟨hx, j1_yes hx s k (by omega)⟩
      · exact .inl (j1_no (by simpa using hx) s k (by omega))
    simp only [oid_Decode.l0, octet_Reader_Code.f, octet_Reader_Left.f, Option.bind_some, if_true]
    by_cases cs : L s = []
    · rw [if_neg (fun h => (size_L s).1 h cs)]
      rcases hjr with h | ⟨h, h2⟩
      · exact .inl h
      · exact .inr ⟨[], by rw [List.append_nil]; exact h, by rw [cs]; rfl, by rw [List.append_nil]; exact h2⟩
    · rw [if_pos ((size_L s).2 cs)]
      by_cases cl : (x.length : Int) ≤ 128
      · rw [if_pos cl]
        rcases rg_sound s (k + 1) (by omega) with ⟨c, hc, h⟩ | ⟨v, s', hv, h, hL⟩
        · rw [h]
          simp only [Option.bind_some]
          rw [if_pos (by omega)]
          obtain ⟨k, rfl⟩ : ∃ m, k = m + 1 := ⟨k - 1, by omega⟩
          exact .inl (l0_err _ _ c hc k)
        · rw [h]
          simp only [Option.bind_some]
          rw [if_pos (by omega)]
          rcases ih (k + 1) (x ++ [(v : Int)]) s' (by rw [List.length_append]; simp only [List.length_cons, List.length_nil]; omega) (by omega) with h2 | ⟨r, h2, h3, h4⟩
          · exact .inl h2
          · rw [List.append_assoc] at h2 h4
            exact .inr ⟨(v : Int) :: r, h2, by rw [hL, h3, catG_cons, Int.toNat_natCast], h4⟩
      · rw [if_neg cl]
        have hx : isS x = false := by
          rw [Bool.eq_false_iff]
          intro h
          have := (isS_parts h).2.1
          omega
        exact .inl (j1_no hx s k (by omega))
theorem dec_back : ∀ (r : List Int) (k : Nat) (x : List Int) (s : ByteArray), isS (x ++ r) = true → L s = catG r → 2500 + 2 * r.length ≤ k → oid_Decode.l0 k x s 0 = some (Bs (putL (x ++ r)), 0)
  | [], k, x, s, hx, hs, hk => by
    obtain ⟨k, rfl⟩ : ∃ m, k = m + 2 := ⟨k - 2, by omega⟩
    rw [List.append_nil] at hx ⊢
    simp only [oid_Decode.l0, octet_Reader_Code.f, octet_Reader_Left.f, Option.bind_some, if_true]
    rw [if_neg (fun h => (size_L s).1 h hs)]
    exact j1_yes hx s k (by omega)
  | n :: r, k, x, s, hx, hs, hk => by
    obtain ⟨k, rfl⟩ : ∃ m, k = m + 1 := ⟨k - 1, by omega⟩
    obtain ⟨h1, h2, h3, h4⟩ := isS_parts hx
    have hn := h3 n (by simp)
    rw [catG_cons] at hs
    simp only [List.length_append, List.length_cons] at h2 hk
    simp only [oid_Decode.l0, octet_Reader_Code.f, octet_Reader_Left.f, Option.bind_some, if_true]
    have hne : L s ≠ [] := fun e => by
      have := grp_pos n.toNat
      rw [e] at hs
      have h0 := congrArg List.length hs
      rw [List.length_append] at h0
      simp only [List.length_nil] at h0
      omega
    rw [if_pos ((size_L s).2 hne), if_pos (by omega)]
    obtain ⟨s', e1, e2⟩ := rg_grp s n.toNat k _ (by omega) hs (by omega)
    rw [e1]
    simp only [Option.bind_some]
    rw [if_pos (by omega), show ((n.toNat : Nat) : Int) = n by omega, dec_back r k (x ++ [n]) s' (by rw [List.append_assoc]; exact hx) e2 (by omega), List.append_assoc]
    rfl
/-- What the first number says. -/
theorem first_eq (v : Int) (h0 : 0 ≤ v) (h1 : v ≤ 4294967295) : mn (wrap64 (Int.tdiv v 40)) 2 = mn (v / 40) 2 ∧ wrap64 (v - wrap64 (40 * mn (wrap64 (Int.tdiv v 40)) 2)) = v - 40 * mn (v / 40) 2 := by
  have e : Int.tdiv v 40 = v / 40 := Int.tdiv_eq_ediv_of_nonneg h0
  have hm : mn (v / 40) 2 = if 2 < v / 40 then 2 else v / 40 := rfl
  have hr : 0 ≤ mn (v / 40) 2 ∧ mn (v / 40) 2 ≤ 2 := by rw [hm]; split <;> omega
  rw [e, wrap_id (x := v / 40) (by omega) (by omega)]
  refine ⟨rfl, ?_⟩
  rw [wrap_id (x := 40 * mn (v / 40) 2) (by omega) (by omega), wrap_id (by omega) (by omega)]
theorem decode_sound (s : ByteArray) (k : Nat) (hk : 3000 ≤ k) : oid_Decode.f k s = some ((⟨#[]⟩ : ByteArray), 60) ∨ ∃ y : List Int, isS y = true ∧ oid_Decode.f k s = some (Bs (putL y), 0) ∧ L s = encL y := by
  unfold oid_Decode.f octet_Read.f
  simp only [Option.bind_some]
  rcases rg_sound s k (by omega) with ⟨c, hc, h⟩ | ⟨v, s', hv, h, hL⟩
  · rw [h]
    simp only [Option.bind_some]
    obtain ⟨k, rfl⟩ : ∃ m, k = m + 2 := ⟨k - 2, by omega⟩
    exact .inl (l0_err _ _ c hc k)
  · rw [h]
    simp only [Option.bind_some]
    obtain ⟨e1, e2⟩ := first_eq (v : Int) (by omega) (by omega)
    rw [e2, e1]
    rcases dec_sound 128 k [mn ((v : Int) / 40) 2, (v : Int) - 40 * mn ((v : Int) / 40) 2] s' rfl (by omega) with h2 | ⟨r, h2, h3, h4⟩
    · exact .inl h2
    · refine .inr ⟨_, h2, h4, ?_⟩
      show L s = catG _
      rw [hL, h3, catG_cons, show (v : Int) - 40 * mn ((v : Int) / 40) 2 + 40 * mn ((v : Int) / 40) 2 = (v : Int) by omega, Int.toNat_natCast]
      rfl
theorem decode_enc {x : List Int} (h : isS x = true) (k : Nat) (hk : 3000 ≤ k) : oid_Decode.f k (Bs (encL x)) = some (Bs (putL x), 0) := by
  obtain ⟨h1, h2, h3, h4⟩ := isS_parts h
  match x, h, h1, h2 with
  | x0 :: x1 :: l, h, h1, h2 =>
    obtain ⟨p0, p1, p2, p3⟩ := heads_le h
    simp only [List.length_cons] at h2
    unfold oid_Decode.f octet_Read.f
    simp only [Option.bind_some]
    have hL : L (Bs (encL (x0 :: x1 :: l))) = grp (x1 + 40 * x0).toNat ++ catG l := by rw [L_Bs]; exact catG_cons _ _
    obtain ⟨s', e1, e2⟩ := rg_grp _ (x1 + 40 * x0).toNat k _ (by omega) hL (by omega)
    rw [e1]
    simp only [Option.bind_some]
    rw [show (((x1 + 40 * x0).toNat : Nat) : Int) = x1 + 40 * x0 by omega]
    obtain ⟨f1, f2⟩ := first_eq (x1 + 40 * x0) (by omega) p2
    rw [f2, f1, p3, show x1 + 40 * x0 - 40 * x0 = x1 by omega]
    exact dec_back l k [x0, x1] s' h e2 (by omega)
theorem same_loop (x : List Int) (hx : x.length ≤ 1000) : ∀ (d i k : Nat), i + d = x.length → d < k → gongbook_SameInts.l0 k x x true (i : Int) = some true := by
  intro d
  induction d with
  | zero =>
    intro i k hi hk
    obtain ⟨k, rfl⟩ : ∃ m, k = m + 1 := ⟨k - 1, by omega⟩
    simp only [gongbook_SameInts.l0, if_true]
    rw [if_neg (by omega)]
  | succ d ih =>
    intro i k hi hk
    obtain ⟨k, rfl⟩ : ∃ m, k = m + 1 := ⟨k - 1, by omega⟩
    simp only [gongbook_SameInts.l0, if_true]
    rw [if_pos (by omega), if_pos (by omega), if_pos (by omega), beq_self_eq_true, wrap_succ i (by omega)]
    exact ih (i + 1) k (by omega) (by omega)
theorem same_eq (x : List Int) (hx : x.length ≤ 1000) (k : Nat) (hk : 1001 ≤ k) : gongbook_SameInts.f k x x = some true := by
  unfold gongbook_SameInts.f
  rw [beq_self_eq_true]
  have := same_loop x hx x.length 0 k (by omega) (by omega)
  rw [Int.natCast_zero] at this
  exact this
end Go.Proofs.YtjcenencgnfffaaDoor.OidS
