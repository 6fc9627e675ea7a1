/- The text of any arcs, an arc more behind any text, which of two texts stands ahead, is within the other, and what is left of it, is as the document has it; arcs stay. -/
import Derived.Test.YtjcenencgnfffaaGreatDoorOwOps
import Derived.Test.YtjcenencgnfffaaGreatDoorOwArcs
namespace Go.Proofs.YtjcenencgnfffaaGreatDoor.OidS
open Go.RowKit Gong Go.Proofs.YtjcenencgnfffaaGreatDoor.XOiW Go.Proofs.YtjcenencgnfffaaGreatDoor.DecS Go.Proofs.YtjcenencgnfffaaGreatDoorW.PrintWords Go.Proofs.YtjcenencgnfffaaGreatDoorW.PrintLast Go.Proofs.YtjcenencgnfffaaGreatDoorW.PrintMore
set_option linter.unusedVariables false
set_option linter.unusedSimpArgs false
/-- The text of arcs, and why there is none. -/
def textR (l : List Int) : ByteArray × Int := if isS l = true then (Bs (putL l), 0) else (⟨#[]⟩, 60)
theorem text_eq (l : List Int) (k : Nat) (hk : 3000 ≤ k) : oid_Text.f k l = some (textR l) := by
  unfold textR
  by_cases c : isS l = true
  · rw [if_pos c]; exact text_yes c k (by omega)
  · rw [if_neg c]; exact text_no (Bool.not_eq_true _ |>.mp c) k (by omega)
theorem rtext_eq (l : List Int) (k : Nat) (hk : 3000 ≤ k) : gongref06_Text.f k l = some (textR l) := by
  unfold gongref06_Text.f textR
  rw [ris_eq l k (by omega), Option.bind_some]
  by_cases c : isS l = true
  · obtain ⟨_, h2, h3, _⟩ := isS_parts c
    rw [if_pos c, if_pos c, rput_eq l (by omega) h3 k (by omega), Option.bind_some]
  · rw [if_neg c, if_neg c]
theorem arcsR_or (s : List UInt8) : (∃ l, arcsS s = some l ∧ arcsR s = (l, 0) ∧ isS l = true ∧ putL l = s) ∨ (arcsS s = none ∧ arcsR s = ([], 60)) := by
  unfold arcsR
  cases h : arcsS s with
  | none => exact .inr ⟨rfl, rfl⟩
  | some l => exact .inl ⟨l, rfl, rfl, (arcs_some h).1, (arcs_some h).2⟩
theorem child_same (x : ByteArray) (n : Int) (hx : x.size ≤ 100000) (k : Nat) (hk : 9000 ≤ k) : ∃ r, oid_Child.f k x n = some r ∧ gongref06_Child.f k x n = some r := by
  unfold oid_Child.f gongref06_Child.f
  rw [arcs_eq x (by omega) k (by omega), rarcs_eq x k hk, Option.bind_some, Option.bind_some]
  rcases arcsR_or (L x) with ⟨l, _, h, hl, _⟩ | ⟨_, h⟩
  · obtain ⟨_, h2, _, _⟩ := isS_parts hl
    rw [h]
    simp only [if_true]
    by_cases c1 : n < 0
    · rw [if_pos c1, if_pos c1]
      exact ⟨_, rfl, rfl⟩
    · rw [if_neg c1, if_neg c1]
      by_cases c2 : n > 4294967295
      · rw [if_pos c2, if_pos c2]
        exact ⟨_, rfl, rfl⟩
      · rw [if_neg c2, if_neg c2, if_pos (by omega), Option.bind_some, if_pos (by simp only [List.length_nil]; omega), Option.bind_some, List.nil_append, if_pos (by omega), text_eq _ k (by omega), rtext_eq _ k (by omega)]
        exact ⟨_, rfl, rfl⟩
  · rw [h]
    simp only
    rw [if_neg (by decide), if_neg (by decide)]
    exact ⟨_, rfl, rfl⟩
theorem both_eq (x y : ByteArray) (hx : x.size ≤ 100000) (hy : y.size ≤ 100000) (k : Nat) (hk : 500 ≤ k) : oid_both.f k x y = some ((arcsR (L x)).1, (arcsR (L y)).1, decide ((arcsR (L x)).2 = 0 ∧ (arcsR (L y)).2 = 0)) := by
  unfold oid_both.f
  rw [arcs_eq x (by omega) k hk, arcs_eq y (by omega) k hk, Option.bind_some, Option.bind_some]
  by_cases c : (arcsR (L x)).2 = 0
  · rw [if_pos c]
    congr 3
    by_cases d : (arcsR (L y)).2 = 0
    · rw [decide_eq_true ⟨c, d⟩]; exact beq_iff_eq.mpr d
    · rw [decide_eq_false (fun h => d h.2)]; exact beq_eq_false_iff_ne.mpr d
  · rw [if_neg c, decide_eq_false (fun h => c h.1)]
theorem arcsR_len (s : List UInt8) : (arcsR s).1.length ≤ 128 := by
  rcases arcsR_or s with ⟨l, _, h, hl, _⟩ | ⟨_, h⟩
  · rw [h]; exact (isS_parts hl).2.1
  · rw [h]; simp
theorem begins_loop (a b : List Int) (hb : b.length ≤ 1000) (h : a.length ≤ b.length) : ∀ (d i k : Nat), i + d = a.length → d < k → gongref06_begins.l0 k a b (i : Int) = some (decide (a.drop i = (b.take a.length).drop i)) := by
  have hl : (b.take a.length).length = a.length := by rw [List.length_take]; omega
  intro d
  induction d with
  | zero =>
    intro i k hi hk
    obtain ⟨k, rfl⟩ : ∃ m, k = m + 1 := ⟨k - 1, by omega⟩
    simp only [gongref06_begins.l0]
    rw [if_neg (by omega), List.drop_eq_nil_of_le (by omega), List.drop_eq_nil_of_le (by omega), decide_eq_true rfl]
  | succ d ih =>
    intro i k hi hk
    obtain ⟨k, rfl⟩ : ∃ m, k = m + 1 := ⟨k - 1, by omega⟩
    have h1 : i < a.length := by omega
    have h2 : i < b.length := by omega
    have h3 : i < (b.take a.length).length := by omega
    have e : (b.take a.length)[i]'h3 = b[i]'h2 := List.getElem_take
    simp only [gongref06_begins.l0]
    rw [if_pos (by omega), if_pos (by omega), if_pos (by omega), rd_get a i h1, rd_get b i h2, List.drop_eq_getElem_cons h1, List.drop_eq_getElem_cons h3, e]
    by_cases c : a[i] = b[i]
    · rw [if_pos c, wrap_succ i (by omega), ih (i + 1) k (by omega) (by omega)]
      congr 1
      rw [decide_eq_decide, c]
      simp
    · rw [if_neg c, decide_eq_false (fun h => c (by injection h))]
theorem begins_eq (a b : List Int) (ha : a.length ≤ 1000) (hb : b.length ≤ 1000) (k : Nat) (hk : 1001 ≤ k) : gongref06_begins.f k a b = some (inL a b) := by
  unfold gongref06_begins.f inL
  by_cases c : (a.length : Int) > (b.length : Int)
  · rw [if_pos c, decide_eq_false (by omega)]
  · rw [if_neg c]
    have := begins_loop a b hb (by omega) a.length 0 k (by omega) (by omega)
    rw [Int.natCast_zero, List.drop_zero, List.drop_zero] at this
    rw [this]
    congr 1
    rw [decide_eq_decide]
    exact ⟨fun h => ⟨by omega, h⟩, fun h => h.2⟩
/-- Within, of any texts. -/
def inR (a b : List Int × Int) : Bool := decide (a.2 = 0 ∧ b.2 = 0) && inL a.1 b.1
theorem within_eq (x y : ByteArray) (hx : x.size ≤ 100000) (hy : y.size ≤ 100000) (k : Nat) (hk : 2000 ≤ k) : oid_Within.f k x y = some (inR (arcsR (L x)) (arcsR (L y))) := by
  have l1 := arcsR_len (L x)
  have l2 := arcsR_len (L y)
  unfold oid_Within.f inR inL
  rw [both_eq x y hx hy k (by omega), Option.bind_some]
  simp only
  by_cases c : (arcsR (L x)).2 = 0 ∧ (arcsR (L y)).2 = 0
  · rw [decide_eq_true c, if_pos rfl, Bool.true_and]
    by_cases d : (arcsR (L x)).1.length ≤ (arcsR (L y)).1.length
    · rw [if_pos d, equal_eq _ _ (by rw [List.length_take]; omega) (by omega) k (by omega)]
      congr 1
      rw [decide_eq_decide]
      exact ⟨fun h => ⟨d, h⟩, fun h => h.2⟩
    · rw [if_neg d, decide_eq_false (fun h => d h.1)]
  · rw [decide_eq_false c, if_neg (by decide), Bool.false_and]
theorem rwithin_eq (x y : ByteArray) (k : Nat) (hk : 9000 ≤ k) : gongref06_Within.f k x y = some (inR (arcsR (L x)) (arcsR (L y))) := by
  have l1 := arcsR_len (L x)
  have l2 := arcsR_len (L y)
  unfold gongref06_Within.f inR
  rw [rarcs_eq x k hk, rarcs_eq y k hk, Option.bind_some, Option.bind_some]
  by_cases c : (arcsR (L x)).2 = 0
  · rw [if_pos c]
    by_cases d : (arcsR (L y)).2 = 0
    · rw [if_pos d, begins_eq _ _ (by omega) (by omega) k (by omega), Option.bind_some, decide_eq_true ⟨c, d⟩, Bool.true_and]
    · rw [if_neg d, decide_eq_false (fun h => d h.2), Bool.false_and]
  · rw [if_neg c, decide_eq_false (fun h => c h.1), Bool.false_and]
/-! Which stands ahead. -/
theorem rless_loop (x y : List Int) (hx : x.length ≤ 1000) (hy : y.length ≤ 1000) : ∀ (d i k : Nat), i + d = x.length → i ≤ y.length → 2 * d + 2 < k → gongref06_Less.l0 k x y (i : Int) = some (decide (cmpL (x.drop i) (y.drop i) < 0)) := by
  intro d
  induction d with
  | zero =>
    intro i k hi hy2 hk
    obtain ⟨k, rfl⟩ : ∃ m, k = m + 2 := ⟨k - 2, by omega⟩
    simp only [gongref06_Less.l0]
    rw [if_neg (by omega)]
    simp only [gongref06_Less.j2]
    rw [if_neg (by decide), List.drop_eq_nil_of_le (by omega)]
    cases h : y.drop i with
    | nil =>
      have := congrArg List.length h
      rw [List.length_drop, List.length_nil] at this
      rw [decide_eq_false (by omega)]
      rfl
    | cons b r =>
      have := congrArg List.length h
      rw [List.length_drop, List.length_cons] at this
      rw [decide_eq_true (by omega)]
      rfl
  | succ d ih =>
    intro i k hi hy2 hk
    obtain ⟨k, rfl⟩ : ∃ m, k = m + 2 := ⟨k - 2, by omega⟩
    have h1 : i < x.length := by omega
    simp only [gongref06_Less.l0]
    rw [if_pos (by omega)]
    simp only [gongref06_Less.j2]
    by_cases c : (i : Int) < (y.length : Int)
    · have h2 : i < y.length := by omega
      rw [decide_eq_true c, if_pos rfl, if_pos (by omega), if_pos (by omega), if_pos (by omega), rd_get x i h1, rd_get y i h2, List.drop_eq_getElem_cons h1, List.drop_eq_getElem_cons h2, cmpL]
      by_cases e : x[i] = y[i]
      · rw [if_pos e, wrap_succ i (by omega), ih (i + 1) k (by omega) (by omega) (by omega), if_neg (by omega), if_neg (by omega)]
      · rw [if_neg e]
        congr 1
        by_cases f : x[i] < y[i]
        · rw [decide_eq_true f, if_pos f]; rfl
        · rw [decide_eq_false f, if_neg f, if_pos (by omega)]; rfl
    · rw [decide_eq_false c, if_neg (by decide), List.drop_eq_getElem_cons h1, List.drop_eq_nil_of_le (show y.length ≤ i by omega), decide_eq_false (by omega)]
      rfl
theorem less_same (x y : ByteArray) (hx : x.size ≤ 100000) (hy : y.size ≤ 100000) (k : Nat) (hk : 9000 ≤ k) : ∃ t, oid_Less.f k x y = some t ∧ gongref06_Less.f k x y = some t := by
  have l1 := arcsR_len (L x)
  have l2 := arcsR_len (L y)
  obtain ⟨k, rfl⟩ : ∃ j, k = j + 1 := ⟨k - 1, by omega⟩
  unfold oid_Less.f gongref06_Less.f
  rw [both_eq x y hx hy (k + 1) (by omega), rarcs_eq x (k + 1) hk, rarcs_eq y (k + 1) hk, Option.bind_some, Option.bind_some, Option.bind_some]
  have bad : ∀ a b, gongref06_Less.j0 (k + 1) a b true = some false := by
    intro a b
    simp only [gongref06_Less.j0, if_true]
  simp only
  by_cases c : (arcsR (L x)).2 = 0
  · rw [if_pos c]
    by_cases d : (arcsR (L y)).2 = 0
    · rw [decide_eq_true ⟨c, d⟩, if_pos rfl, compare_eq _ _ (by omega) (by omega) (k + 1) (by omega), Option.bind_some, show ((arcsR (L y)).2 != 0) = false from by rw [d]; rfl]
      simp only [gongref06_Less.j0]
      rw [if_neg (by decide)]
      have := rless_loop (arcsR (L x)).1 (arcsR (L y)).1 (by omega) (by omega) (arcsR (L x)).1.length 0 k (by omega) (by omega) (by omega)
      rw [Int.natCast_zero, List.drop_zero, List.drop_zero] at this
      exact ⟨_, rfl, this⟩
    · rw [decide_eq_false (fun h => d h.2), if_neg (by decide), show ((arcsR (L y)).2 != 0) = true from bne_iff_ne.mpr d, bad]
      exact ⟨_, rfl, rfl⟩
  · rw [if_neg c, decide_eq_false (fun h => c h.1), if_neg (by decide), bad]
    exact ⟨_, rfl, rfl⟩
/-! What is left. -/
theorem L_take (s : ByteArray) (j : Nat) : L (s.extract 0 j) = (L s).take j := by
  simp [L]
theorem L_drop (s : ByteArray) (i : Nat) : L (s.extract i s.size) = (L s).drop i := by
  simp only [L, ByteArray.data_extract, Array.toList_extract, List.extract_eq_take_drop]
  exact List.take_of_length_le (by simp)
theorem cut_yes (a p : ByteArray) (z : List UInt8) (h : L a = L p ++ z) : strings_TrimPrefix.f a p = some (Bs z) := by
  have ha := L_len a
  have hp := L_len p
  have hl : p.size ≤ a.size := by rw [← ha, ← hp, h, List.length_append]; omega
  have e1 : L (a.extract 0 ((p.size : Int) : Int).toNat) = L p := by rw [Int.toNat_natCast, L_take, h, ← hp, List.take_left]
  have e2 : L (a.extract ((p.size : Int) : Int).toNat a.size) = z := by rw [Int.toNat_natCast, L_drop, h, ← hp, List.drop_left]
  unfold strings_TrimPrefix.f stringslite_TrimPrefix.f stringslite_HasPrefix.f
  rw [if_pos (show (a.size : Int) ≥ (p.size : Int) by omega), if_pos (by omega), if_pos (by omega), Option.bind_some, toList_L, toList_L, e1, if_pos (show (L p == L p) = true by simp), if_pos (by omega), if_pos (by omega), Option.bind_some]
  congr 1
  exact L_inj (by rw [e2, L_Bs])
theorem cut_empty (p : ByteArray) (h : 0 < p.size) : strings_TrimPrefix.f (Bs []) p = some (Bs []) := by
  unfold strings_TrimPrefix.f stringslite_TrimPrefix.f stringslite_HasPrefix.f
  rw [if_neg (show ¬ (((Bs []).size : Int) ≥ (p.size : Int)) by rw [Bs_size, List.length_nil]; omega), Option.bind_some, if_neg (by decide), Option.bind_some]
theorem joinL_app : ∀ (a b : List (List UInt8)), a ≠ [] → b ≠ [] → joinL 46 (a ++ b) = joinL 46 a ++ 46 :: joinL 46 b
  | [], b, h, _ => absurd rfl h
  | [w], b, _, hb => by
    cases b with
    | nil => exact absurd rfl hb
    | cons v r => rfl
  | w :: v :: a, b, _, hb => by
    show w ++ 46 :: joinL 46 ((v :: a) ++ b) = (w ++ 46 :: joinL 46 (v :: a)) ++ 46 :: joinL 46 b
    rw [joinL_app (v :: a) b (by simp) hb]
    simp
theorem rest_same (x y : ByteArray) (hx : x.size ≤ 100000) (hy : y.size ≤ 100000) (k : Nat) (hk : 9000 ≤ k) : ∃ t, oid_Rest.f k x y = some t ∧ gongref06_Rest.f k x y = some t := by
  unfold oid_Rest.f gongref06_Rest.f
  rw [within_eq x y hx hy k (by omega), rwithin_eq x y k hk, Option.bind_some, Option.bind_some]
  by_cases c : inR (arcsR (L x)) (arcsR (L y)) = true
  · rw [if_pos c, if_pos c, rarcs_eq x k hk, rarcs_eq y k hk, Option.bind_some, Option.bind_some]
    unfold inR inL at c
    rw [Bool.and_eq_true, decide_eq_true_eq, decide_eq_true_eq] at c
    obtain ⟨⟨c1, c2⟩, c3, c4⟩ := c
    rcases arcsR_or (L x) with ⟨l, _, h, hl, hp⟩ | ⟨_, h⟩
    · rcases arcsR_or (L y) with ⟨m, _, h', hm, hq⟩ | ⟨_, h'⟩
      · rw [h, h'] at c3 c4
        simp only at c3 c4
        obtain ⟨l2, _, lr, _⟩ := isS_parts hl
        obtain ⟨_, m2, mr, _⟩ := isS_parts hm
        obtain ⟨r, hr⟩ : ∃ r, m = l ++ r := ⟨m.drop l.length, by
          have h9 := (List.take_append_drop l.length m).symm
          rw [← c4] at h9
          exact h9⟩
        subst hr
        have hlne : l ≠ [] := fun e => by rw [e] at l2; simp at l2
        have hrr : ∀ z ∈ r, 0 ≤ z ∧ z ≤ 4294967295 := fun z hz => mr z (List.mem_append_right _ hz)
        rw [List.length_append] at m2
        have hput := rput_eq r (by omega) hrr k (by omega)
        rw [h, h']
        simp only
        rw [if_pos (by omega), if_pos (by rw [List.length_append]; omega), Int.toNat_natCast, List.drop_left, hput, Option.bind_some]
        refine ⟨_, ?_, rfl⟩
        by_cases e : r = []
        · subst e
          rw [List.append_nil] at hq
          rw [cut_yes y x [] (by rw [← hq, ← hp, List.append_nil]), Option.bind_some, cut_empty _ (by decide), Option.bind_some]
          rfl
        · have hj : putL (l ++ r) = putL l ++ 46 :: putL r := by
            unfold putL
            rw [List.map_append]
            exact joinL_app _ _ (by simpa using hlne) (by simpa using e)
          rw [cut_yes y x (46 :: putL r) (by rw [← hq, ← hp, hj]), Option.bind_some, cut_yes (Bs (46 :: putL r)) (⟨#[46]⟩ : ByteArray) (putL r) (by rw [L_Bs]; rfl), Option.bind_some]
      · rw [h'] at c2; exact absurd c2 (by decide)
    · rw [h] at c1; exact absurd c1 (by decide)
  · rw [if_neg c, if_neg c]
    exact ⟨_, rfl, rfl⟩
theorem same_loop (x : List Int) (hx : x.length ≤ 1000) : ∀ (d i k : Nat), i + d = x.length → d < k → gongbook_SameInts.l0 k x x true (i : Int) = some true := by
  intro d
  induction d with
  | zero =>
    intro i k hi hk
    obtain ⟨k, rfl⟩ : ∃ m, k = m + 1 := ⟨k - 1, by omega⟩
    simp only [gongbook_SameInts.l0, if_true]
    rw [if_neg (by omega)]
  | succ d ih =>
    intro i k hi hk
    obtain ⟨k, rfl⟩ : ∃ m, k = m + 1 := ⟨k - 1, by omega⟩
    simp only [gongbook_SameInts.l0, if_true]
    rw [if_pos (by omega), if_pos (by omega), if_pos (by omega), beq_self_eq_true, wrap_succ i (by omega)]
    exact ih (i + 1) k (by omega) (by omega)
theorem same_eq (x : List Int) (hx : x.length ≤ 1000) (k : Nat) (hk : 1001 ≤ k) : gongbook_SameInts.f k x x = some true := by
  unfold gongbook_SameInts.f
  rw [beq_self_eq_true]
  exact same_loop x hx x.length 0 k (by omega) (by omega)
end Go.Proofs.YtjcenencgnfffaaGreatDoor.OidS
namespace Go.Proofs.YtjcenencgnfffaaGreatDoor.Pure
open Go.RowKit Gong Go.Proofs.YtjcenencgnfffaaGreatDoor.OidS Go.Proofs.YtjcenencgnfffaaGreatDoor.XOiW Go.Proofs.YtjcenencgnfffaaGreatDoor.DecS Go.Proofs.YtjcenencgnfffaaGreatDoorW.PrintWords Go.Proofs.YtjcenencgnfffaaGreatDoorW.PrintLast Go.Proofs.YtjcenencgnfffaaGreatDoorW.PrintMore
set_option linter.unusedVariables false
set_option linter.unusedSimpArgs false
theorem OidWrites (l : List Int) (x y : ByteArray) (n : Int) (f0 : l.length ≤ maxLen ∧ l.length * 8 ≤ 140737488351232 ∧ ∀ z ∈ l, (Lit.int .i64 z).wf = true) (w2 : (Lit.int .i64 n).wf = true) : ∃ k, gonglaw06_OidWrites.f k l x y n = some true := by
  obtain ⟨k, hk⟩ : ∃ k : Nat, 20000 ≤ k := ⟨_, Nat.le_refl _⟩
  refine ⟨k + 1, ?_⟩
  have hw := works_at k (by omega)
  have big : gonglaw06_OidWrites.j0 (k + 1) l n x y true = some true := by
    simp only [gonglaw06_OidWrites.j0, if_true]
    rw [hw]
    rfl
  unfold gonglaw06_OidWrites.f
  by_cases c1 : (l.length : Int) > 300
  · rw [if_pos c1]; exact big
  · rw [if_neg c1]
    by_cases c2 : (x.size : Int) > 3000
    · rw [if_pos c2]; exact big
    · rw [if_neg c2]
      by_cases c3 : (y.size : Int) > 3000
      · rw [decide_eq_true c3]; exact big
      · rw [decide_eq_false c3]
        obtain ⟨ch, h1, h2⟩ := child_same x n (by omega) k (by omega)
        obtain ⟨re, h3, h4⟩ := rest_same x y (by omega) (by omega) k (by omega)
        obtain ⟨le, h5, h6⟩ := less_same x y (by omega) (by omega) k (by omega)
        have hrd : rd (l ++ [7]) (l.length : Int) = 7 := by
          rw [rd_get (l ++ [7]) l.length (by simp)]
          simp
        simp only [gonglaw06_OidWrites.j0]
        rw [if_neg (by decide), Option.bind_some, if_pos (by simp only [List.length_nil]; omega), Option.bind_some, List.nil_append, if_pos (by omega), Option.bind_some, if_pos (by omega), if_pos (by rw [List.length_append]; omega), Int.toNat_natCast, List.take_left,
          text_eq l k (by omega), rtext_eq l k (by omega), h1, h2, h3, h4, h5, h6, within_eq x y (by omega) (by omega) k (by omega), rwithin_eq x y k (by omega), same_eq l (by omega) k (by omega), hw, hrd]
        simp
        omega
end Go.Proofs.YtjcenencgnfffaaGreatDoor.Pure
