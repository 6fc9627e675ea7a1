/- Layer 6: what Arcs, Text, Less, Within, Child and Rest answer, over lists. -/
import Derived.Test.YtjcenencgnfffaaGreatDoorCutLib
import Derived.Test.YtjcenencgnfffaaGreatDoorXOiWx
namespace Go.Proofs.YtjcenencgnfffaaGreatDoor.OidS
open Go.RowKit Gong Go.Proofs.YtjcenencgnfffaaGreatDoor.XOiW Go.Proofs.YtjcenencgnfffaaGreatDoor.DecS Go.Proofs.YtjcenencgnfffaaGreatDoorW.PrintWords Go.Proofs.YtjcenencgnfffaaGreatDoorW.PrintLast Go.Proofs.YtjcenencgnfffaaGreatDoorW.PrintMore
set_option linter.unusedVariables false
set_option linter.unusedSimpArgs false
theorem leo_le {α : Type} {f : Nat → Option α} (hm : ∀ k, LeO (f k) (f (k + 1))) {a b : Nat} (h : a ≤ b) {r : α} (hr : f a = some r) : f b = some r := by
  induction h with
  | refl => exact hr
  | step _ ih => exact hm _ _ ih
theorem wrap_id {x : Int} (h1 : -9223372036854775808 ≤ x) (h2 : x ≤ 9223372036854775807) : wrap64 x = x := by unfold wrap64; omega
theorem wrap_succ (i : Nat) (h : i ≤ 4611686018427387904) : wrap64 ((i : Int) + 1) = ((i + 1 : Nat) : Int) := by unfold wrap64; omega
def L (s : ByteArray) : List UInt8 := s.data.toList
def Bs (l : List UInt8) : ByteArray := ⟨l.toArray⟩
theorem L_Bs (l : List UInt8) : L (Bs l) = l := by simp [L, Bs]
theorem Bs_L (s : ByteArray) : Bs (L s) = s := by cases s; simp [L, Bs]
theorem L_inj {a b : ByteArray} (h : L a = L b) : a = b := by rw [← Bs_L a, h, Bs_L]
theorem L_len (s : ByteArray) : (L s).length = s.size := by simp [L]
theorem toList_L (s : ByteArray) : s.toList = L s := Go.ByteArray.toList_eq s
/-- An arc; below 0: it is none. -/
def arcOf (w : List UInt8) : Int := if w ≠ [] ∧ w.length ≤ 10 ∧ ¬ (1 < w.length ∧ w.head? = some 48) ∧ w.all isD = true then (val w : Int) else -1
theorem arcOf_canon {w : List UInt8} (h : 0 ≤ arcOf w) : Canon w ∧ arcOf w = (val w : Int) ∧ w.length ≤ 10 := by
  unfold arcOf at h ⊢
  by_cases c : w ≠ [] ∧ w.length ≤ 10 ∧ ¬ (1 < w.length ∧ w.head? = some 48) ∧ w.all isD = true
  · rw [if_pos c]
    obtain ⟨c1, c2, c3, c4⟩ := c
    exact ⟨⟨c1, fun b hb => List.all_eq_true.1 c4 b hb, fun h1 e => c3 ⟨h1, e⟩⟩, rfl, c2⟩
  · rw [if_neg c] at h
    omega
theorem dd_short : ∀ (n : Nat), n < 10000000000 → (Lib.decDigits n).length ≤ 10 := by
  have key : ∀ (m n : Nat), n < 10 ^ (m + 1) → (Lib.decDigits n).length ≤ m + 1 := by
    intro m
    induction m with
    | zero => intro n h; rw [dd_one n (by omega)]; exact Nat.le_refl _
    | succ m ih =>
      intro n h
      by_cases c : n < 10
      · rw [dd_one n c]; simp
      · rw [dd_step n c, List.length_append]
        have := ih (n / 10) (by rw [Nat.pow_succ] at h; omega)
        simp only [List.length_cons, List.length_nil]
        omega
  intro n h
  exact key 9 n h
theorem arcOf_dd (n : Nat) (h : n < 10000000000) : arcOf (Lib.decDigits n) = (n : Int) := by
  have hc := dd_canon n
  unfold arcOf
  rw [if_pos ⟨hc.ne, dd_short n h, fun h1 => hc.hd h1.1 h1.2, List.all_eq_true.2 hc.dig⟩, val_dd]
theorem dd_arcOf {w : List UInt8} (h : 0 ≤ arcOf w) : Lib.decDigits (arcOf w).toNat = w := by
  obtain ⟨hc, e, _⟩ := arcOf_canon h
  rw [e, Int.toNat_natCast]
  exact dd_val hc
theorem bt_head (s : ByteArray) (h : 0 < s.size) : bt s 0 = 48 ↔ (L s).head? = some 48 := by
  have h1 : bt s 0 = ((s[0]'h).toNat : Int) := (bt_at s 0 h).symm
  have h2 : (L s).head? = some (s[0]'h) := by
    have h3 : 0 < (L s).length := by rw [L_len]; exact h
    rw [List.head?_eq_getElem?, List.getElem?_eq_getElem h3]
    rfl
  rw [h1, h2]
  constructor
  · intro e
    rw [Option.some.injEq]
    exact UInt8.toNat_inj.1 (by have e48 : (48 : UInt8).toNat = 48 := rfl; omega)
  · intro e
    rw [Option.some.injEq] at e
    rw [e]; rfl
theorem arc_eq (s : ByteArray) : oid_arc.f s = some (arcOf (L s)) := by
  have hl := L_len s
  unfold oid_arc.f arcOf
  by_cases c0 : s.size = 0
  · rw [if_pos c0, if_neg (fun h => h.1 (List.eq_nil_of_length_eq_zero (by omega)))]
  · rw [if_neg c0]
    by_cases c1 : 10 < s.size
    · rw [if_pos c1, if_neg (fun h => by have := h.2.1; omega)]
    · rw [if_neg c1]
      by_cases c2 : 1 < s.size ∧ bt s 0 = 48
      · rw [if_pos c2, if_neg (fun h => h.2.2.1 ⟨by omega, (bt_head s (by omega)).1 c2.2⟩)]
      · rw [if_neg c2]
        by_cases c3 : Lib.trimS s.data.toList [48, 49, 50, 51, 52, 53, 54, 55, 56, 57] = []
        · rw [if_pos c3]
          have hd := trim_nil.1 c3
          have hne : L s ≠ [] := fun e => by rw [e] at hl; simp at hl; omega
          have ha : Lib.atoiAll s.data.toList = .ok (val (L s) : Int) := atoi_digits hd hne (by show (L s).length ≤ 17; omega)
          rw [ha, if_pos ⟨hne, by omega, fun h => c2 ⟨by omega, (bt_head s (by omega)).2 h.2⟩, List.all_eq_true.2 hd⟩]
        · rw [if_neg c3, if_neg (fun h => c3 (trim_nil.2 (List.all_eq_true.1 h.2.2.2)))]
/-- Are arcs an identifier's? -/
def heads : List Int → Bool
  | a :: b :: _ => decide ((a < 2 ∧ b < 40) ∨ (a = 2 ∧ b ≤ 4294967215))
  | _ => false
def isS (l : List Int) : Bool := decide (2 ≤ l.length) && decide (l.length ≤ 128) && l.all (fun x => decide (0 ≤ x ∧ x ≤ 4294967295)) && heads l
theorem rd_get (l : List Int) (i : Nat) (h : i < l.length) : rd l (i : Int) = l[i]'h := by
  unfold rd
  rw [Int.toNat_natCast, List.getD_eq_getElem?_getD, List.getElem?_eq_getElem h]
  rfl
theorem is_loop (l : List Int) (h2 : 2 ≤ l.length) (h3 : l.length ≤ 128) : ∀ (d i k : Nat), i + d = l.length → d < k →
    oid_is.l0 k l l (l.length : Int) (i : Int) = some ((l.drop i).all (fun x => decide (0 ≤ x ∧ x ≤ 4294967295)) && heads l) := by
  intro d
  induction d with
  | zero =>
    intro i k hi hk
    obtain ⟨k, rfl⟩ : ∃ m, k = m + 1 := ⟨k - 1, by omega⟩
    simp only [oid_is.l0]
    have e : l.drop i = [] := List.drop_eq_nil_of_le (by omega)
    rw [if_neg (by omega), e]
    match l, h2 with
    | a :: b :: r, _ =>
      have r0 : rd (a :: b :: r) 0 = a := rfl
      have r1 : rd (a :: b :: r) 1 = b := rfl
      rw [r0, r1, if_pos (by simp only [List.length_cons]; omega)]
      simp only [List.all_nil, Bool.true_and, heads]
      by_cases c : a < 2
      · rw [if_pos c, if_pos (by simp only [List.length_cons]; omega)]
        congr 1
        rw [Bool.eq_iff_iff]
        simp only [decide_eq_true_eq]
        omega
      · rw [if_neg c]
        by_cases c2 : a = 2
        · rw [if_pos c2, if_pos (by simp only [List.length_cons]; omega)]
          congr 1
          rw [Bool.eq_iff_iff]
          simp only [decide_eq_true_eq]
          omega
        · rw [if_neg c2]
          congr 1
          rw [eq_comm, decide_eq_false_iff_not]
          omega
  | succ d ih =>
    intro i k hi hk
    obtain ⟨k, rfl⟩ : ∃ m, k = m + 1 := ⟨k - 1, by omega⟩
    have hlt : i < l.length := by omega
    simp only [oid_is.l0]
    rw [if_pos (by omega), if_pos (by omega), if_pos (by omega), rd_get l i hlt, List.drop_eq_getElem_cons hlt, List.all_cons]
    by_cases c1 : l[i] < 0
    · rw [if_pos c1, decide_eq_false (by omega)]
      rfl
    · rw [if_neg c1]
      by_cases c2 : l[i] > 4294967295
      · rw [if_pos c2, decide_eq_false (by omega)]
        rfl
      · rw [if_neg c2, wrap_succ i (by omega), decide_eq_true (by omega), Bool.true_and]
        exact ih (i + 1) k (by omega) (by omega)
theorem is_eq (l : List Int) (k : Nat) (hk : 200 ≤ k) : oid_is.f k l = some (isS l) := by
  obtain ⟨k, rfl⟩ : ∃ m, k = m + 1 := ⟨k - 1, by omega⟩
  unfold oid_is.f isS
  by_cases c1 : (l.length : Int) < 2
  · rw [if_pos c1]
    simp only [oid_is.j0, if_true]
    rw [decide_eq_false (by omega)]
    rfl
  · rw [if_neg c1, decide_eq_true (show 2 ≤ l.length by omega)]
    by_cases c2 : (l.length : Int) > 128
    · rw [decide_eq_true c2, decide_eq_false (show ¬ l.length ≤ 128 by omega)]
      simp only [oid_is.j0, if_true]
      rfl
    · rw [decide_eq_false c2, decide_eq_true (show l.length ≤ 128 by omega)]
      simp only [oid_is.j0]
      rw [if_neg (by decide)]
      have := is_loop l (by omega) (by omega) l.length 0 k (by omega) (by omega)
      rw [Int.natCast_zero] at this
      rw [this]
      rfl
end Go.Proofs.YtjcenencgnfffaaGreatDoor.OidS
