/- Layer 6: Less, Within, named, the example. -/
import Derived.Test.YtjcenencgnfffaaGreatDoorOidBase
namespace Go.Proofs.YtjcenencgnfffaaGreatDoor.OidS
open Go.RowKit Gong Go.Proofs.YtjcenencgnfffaaGreatDoor.XOiW Go.Proofs.YtjcenencgnfffaaGreatDoor.DecS Go.Proofs.YtjcenencgnfffaaGreatDoorW.PrintWords Go.Proofs.YtjcenencgnfffaaGreatDoorW.PrintLast Go.Proofs.YtjcenencgnfffaaGreatDoorW.PrintMore
set_option linter.unusedVariables false
set_option linter.unusedSimpArgs false
theorem text_yes {l : List Int} (h : isS l = true) (k : Nat) (hk : 2000 ≤ k) : oid_Text.f k l = some (Bs (putL l), 0) := by
  obtain ⟨h1, h2, h3, h4⟩ := isS_parts h
  unfold oid_Text.f
  rw [is_eq l k (by omega), h]
  simp only [Option.bind_some, if_true]
  rw [put_eq l (by omega) h3 k hk]
  rfl
theorem text_no {l : List Int} (h : isS l = false) (k : Nat) (hk : 2000 ≤ k) : oid_Text.f k l = some ((⟨#[]⟩ : ByteArray), 60) := by
  unfold oid_Text.f
  rw [is_eq l k (by omega), h]
  rfl
def cmpL : List Int → List Int → Int
  | [], [] => 0
  | [], _ :: _ => -1
  | _ :: _, [] => 1
  | a :: x, b :: y => if a < b then -1 else if b < a then 1 else cmpL x y
def lessL (x y : List Int) : Bool := decide (cmpL x y < 0)
theorem cmp_one (a b : Int) : cmp_Compare_int.f a b = some (if a < b then -1 else if b < a then 1 else 0) := by
  unfold cmp_Compare_int.f cmp_isNaN_int.f
  simp only [Option.bind_some, bne_self_eq_false]
  rw [if_neg (by decide), if_neg (by decide)]
  by_cases h : a < b
  · rw [if_pos h, if_pos h]
  · rw [if_neg h, if_neg h]
    by_cases h2 : b < a
    · rw [if_pos h2, if_pos h2]
    · rw [if_neg h2, if_neg h2]
theorem compare_loop (x y : List Int) (hx : x.length ≤ 1000) (hy : y.length ≤ 1000) : ∀ (d i k : Nat), i + d = x.length → i ≤ y.length → d < k →
    slices_Compare_int_int.l0 k x y x (x.length : Int) (i : Int) = some (cmpL (x.drop i) (y.drop i)) := by
  intro d
  induction d with
  | zero =>
    intro i k hi hy2 hk
    obtain ⟨k, rfl⟩ : ∃ m, k = m + 1 := ⟨k - 1, by omega⟩
    simp only [slices_Compare_int_int.l0]
    rw [if_neg (by omega), List.drop_eq_nil_of_le (show x.length ≤ i by omega)]
    by_cases c : (x.length : Int) < (y.length : Int)
    · rw [if_pos c, List.drop_eq_getElem_cons (show i < y.length by omega)]
      rfl
    · rw [if_neg c, List.drop_eq_nil_of_le (show y.length ≤ i by omega)]
      rfl
  | succ d ih =>
    intro i k hi hy2 hk
    obtain ⟨k, rfl⟩ : ∃ m, k = m + 1 := ⟨k - 1, by omega⟩
    have hlt : i < x.length := by omega
    simp only [slices_Compare_int_int.l0]
    rw [if_pos (by omega), if_pos (by omega), if_pos (by omega), List.drop_eq_getElem_cons hlt]
    by_cases c : (i : Int) ≥ (y.length : Int)
    · rw [if_pos c, List.drop_eq_nil_of_le (show y.length ≤ i by omega)]
      rfl
    · rw [if_neg c, if_pos (by omega), rd_get x i hlt, rd_get y i (by omega), cmp_one, List.drop_eq_getElem_cons (show i < y.length by omega)]
      simp only [Option.bind_some, cmpL]
      by_cases c1 : x[i] < y[i]'(by omega)
      · rw [if_pos c1, if_pos c1, if_neg (by decide)]
      · rw [if_neg c1, if_neg c1]
        by_cases c2 : y[i]'(by omega) < x[i]
        · rw [if_pos c2, if_pos c2, if_neg (by decide)]
        · rw [if_neg c2, if_neg c2, if_pos rfl, wrap_succ i (by omega)]
          exact ih (i + 1) k (by omega) (by omega) (by omega)
theorem compare_eq (x y : List Int) (hx : x.length ≤ 1000) (hy : y.length ≤ 1000) (k : Nat) (hk : 1001 ≤ k) : slices_Compare_int_int.f k x y = some (cmpL x y) := by
  unfold slices_Compare_int_int.f
  have := compare_loop x y hx hy x.length 0 k (by omega) (by omega) (by omega)
  rw [Int.natCast_zero] at this
  exact this
theorem equal_loop (x y : List Int) (h : x.length = y.length) (hx : x.length ≤ 1000) : ∀ (d i k : Nat), i + d = x.length → d < k →
    slices_Equal_int_int.l0 k x y (x.length : Int) (i : Int) = some (decide (x.drop i = y.drop i)) := by
  intro d
  induction d with
  | zero =>
    intro i k hi hk
    obtain ⟨k, rfl⟩ : ∃ m, k = m + 1 := ⟨k - 1, by omega⟩
    simp only [slices_Equal_int_int.l0]
    rw [if_neg (by omega), List.drop_eq_nil_of_le (show x.length ≤ i by omega), List.drop_eq_nil_of_le (show y.length ≤ i by omega), decide_eq_true rfl]
  | succ d ih =>
    intro i k hi hk
    obtain ⟨k, rfl⟩ : ∃ m, k = m + 1 := ⟨k - 1, by omega⟩
    have hlt : i < x.length := by omega
    simp only [slices_Equal_int_int.l0]
    rw [if_pos (by omega), if_pos (by omega), if_pos (by omega), if_pos (by omega), rd_get x i hlt, rd_get y i (by omega), List.drop_eq_getElem_cons hlt, List.drop_eq_getElem_cons (show i < y.length by omega)]
    by_cases c : x[i] = y[i]'(by omega)
    · rw [if_pos c, wrap_succ i (by omega), ih (i + 1) k (by omega) (by omega)]
      congr 1
      rw [decide_eq_decide]
      exact ⟨fun e => by rw [c, e], fun e => by injection e⟩
    · rw [if_neg c]
      congr 1
      rw [eq_comm, decide_eq_false_iff_not]
      intro e
      injection e with e1 e2
      exact c e1
theorem equal_eq (x y : List Int) (h : x.length = y.length) (hx : x.length ≤ 1000) (k : Nat) (hk : 1001 ≤ k) : slices_Equal_int_int.f k x y = some (decide (x = y)) := by
  unfold slices_Equal_int_int.f
  rw [if_pos (by omega)]
  have := equal_loop x y h hx x.length 0 k (by omega) (by omega)
  rw [Int.natCast_zero] at this
  exact this
theorem both_of {x y : List Int} (hx : isS x = true) (hy : isS y = true) (k : Nat) (hk : 500 ≤ k) : oid_both.f k (Bs (putL x)) (Bs (putL y)) = some (x, y, true) := by
  unfold oid_both.f
  rw [arcs_of hx k hk, arcs_of hy k hk]
  rfl
theorem less_of {x y : List Int} (hx : isS x = true) (hy : isS y = true) (k : Nat) (hk : 2000 ≤ k) : oid_Less.f k (Bs (putL x)) (Bs (putL y)) = some (lessL x y) := by
  obtain ⟨_, x2, _, _⟩ := isS_parts hx
  obtain ⟨_, y2, _, _⟩ := isS_parts hy
  unfold oid_Less.f
  rw [both_of hx hy k (by omega)]
  simp only [Option.bind_some, if_true]
  rw [compare_eq x y (by omega) (by omega) k (by omega)]
  rfl
/-- Is an identifier within another one? -/
def inL (x y : List Int) : Bool := decide (x.length ≤ y.length ∧ x = y.take x.length)
theorem within_of {x y : List Int} (hx : isS x = true) (hy : isS y = true) (k : Nat) (hk : 2000 ≤ k) : oid_Within.f k (Bs (putL x)) (Bs (putL y)) = some (inL x y) := by
  obtain ⟨_, x2, _, _⟩ := isS_parts hx
  obtain ⟨_, y2, _, _⟩ := isS_parts hy
  unfold oid_Within.f inL
  rw [both_of hx hy k (by omega)]
  simp only [Option.bind_some, if_true]
  by_cases c : x.length ≤ y.length
  · rw [if_pos c, equal_eq x _ (by rw [List.length_take]; omega) (by omega) k (by omega)]
    simp [c]
  · rw [if_neg c, decide_eq_false (fun h => c h.1)]
end Go.Proofs.YtjcenencgnfffaaGreatDoor.OidS
