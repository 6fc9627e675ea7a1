/- Layer 6: Less, Within, named, the example. -/
import Derived.Test.YtjcenencgnfffaaDoorOidArcs
namespace Go.Proofs.YtjcenencgnfffaaDoor.OidS
open Go.RowKit Gong Go.Proofs.YtjcenencgnfffaaDoor.XOiD Go.Proofs.YtjcenencgnfffaaDoor.DecS Go.Proofs.YtjcenencgnfffaaDoorW.PrintWords Go.Proofs.YtjcenencgnfffaaDoorW.PrintLast Go.Proofs.YtjcenencgnfffaaDoorW.PrintMore
set_option linter.unusedVariables false
set_option linter.unusedSimpArgs false
def cmpL : List Int → List Int → Int
  | [], [] => 0
  | [], _ :: _ => -1
  | _ :: _, [] => 1
  | a :: x, b :: y => if a < b then -1 else if b < a then 1 else cmpL x y
def lessL (x y : List Int) : Bool := decide (cmpL x y < 0)
theorem cmp_one (a b : Int) : cmp_Compare_int.f a b = some (if a < b then -1 else if b < a then 1 else 0) := by
  unfold cmp_Compare_int.f cmp_isNaN_int.f
  simp only [Option.bind_some, bne_self_eq_false]
  rw [if_neg (by decide), if_neg (by decide)]
  by_cases h : a < b
  · rw [if_pos h, if_pos h]
  · rw [if_neg h, if_neg h]
    by_cases h2 : b < a
    · rw [if_pos h2, if_pos h2]
    · rw [if_neg h2, if_neg h2]
theorem compare_loop (x y : List Int) (hx : x.length ≤ 1000) (hy : y.length ≤ 1000) : ∀ (d i k : Nat), i + d = x.length → i ≤ y.length → d < k →
    slices_Compare_int_int.l0 k x y x (x.length : Int) (i : Int) = some (cmpL (x.drop i) (y.drop i)) := by
  intro d
  induction d with
  | zero =>
    intro i k hi hy2 hk
    obtain ⟨k, rfl⟩ : ∃ m, k = m + 1 := ⟨k - 1, by omega⟩
    simp only [slices_Compare_int_int.l0]
    rw [if_neg (by omega), List.drop_eq_nil_of_le (show x.length ≤ i by omega)]
    by_cases c : (x.length : Int) < (y.length : Int)
    · rw [if_pos c, List.drop_eq_getElem_cons (show i < y.length by omega)]
      rfl
    · rw [if_neg c, List.drop_eq_nil_of_le (show y.length ≤ i by omega)]
      rfl
  | succ d ih =>
    intro i k hi hy2 hk
    obtain ⟨k, rfl⟩ : ∃ m, k = m + 1 := ⟨k - 1, by omega⟩
    have hlt : i < x.length := by omega
    simp only [slices_Compare_int_int.l0]
    rw [if_pos (by omega), if_pos (by omega), if_pos (by omega), List.drop_eq_getElem_cons hlt]
    by_cases c : (i : Int) ≥ (y.length : Int)
    · rw [if_pos c, List.drop_eq_nil_of_le (show y.length ≤ i by omega)]
      rfl
    · rw [if_neg c, if_pos (by omega), rd_get x i hlt, rd_get y i (by omega), cmp_one, List.drop_eq_getElem_cons (show i < y.length by omega)]
      simp only [Option.bind_some, cmpL]
      by_cases c1 : x[i] < y[i]'(by omega)
      · rw [if_pos c1, if_pos c1, if_neg (by decide)]
      · rw [if_neg c1, if_neg c1]
        by_cases c2 : y[i]'(by omega) < x[i]
        · rw [if_pos c2, if_pos c2, if_neg (by decide)]
        · rw [if_neg c2, if_neg c2, if_pos rfl, wrap_succ i (by omega)]
          exact ih (i + 1) k (by omega) (by omega) (by omega)
theorem compare_eq (x y : List Int) (hx : x.length ≤ 1000) (hy : y.length ≤ 1000) (k : Nat) (hk : 1001 ≤ k) : slices_Compare_int_int.f k x y = some (cmpL x y) := by
  unfold slices_Compare_int_int.f
  have := compare_loop x y hx hy x.length 0 k (by omega) (by omega) (by omega)
  rw [Int.natCast_zero] at this
  exact this
theorem equal_loop (x y : List Int) (h : x.length = y.length) (hx : x.length ≤ 1000) : ∀ (d i k : Nat), i + d = x.length → d < k →
    slices_Equal_int_int.l0 k x y (x.length : Int) (i : Int) = some (decide (x.drop i = y.drop i)) := by
  intro d
  induction d with
  | zero =>
    intro i k hi hk
    obtain ⟨k, rfl⟩ : ∃ m, k = m + 1 := ⟨k - 1, by omega⟩
    simp only [slices_Equal_int_int.l0]
    rw [if_neg (by omega), List.drop_eq_nil_of_le (show x.length ≤ i by omega), List.drop_eq_nil_of_le (show y.length ≤ i by omega), decide_eq_true rfl]
  | succ d ih =>
    intro i k hi hk
    obtain ⟨k, rfl⟩ : ∃ m, k = m + 1 := ⟨k - 1, by omega⟩
    have hlt : i < x.length := by omega
    simp only [slices_Equal_int_int.l0]
    rw [if_pos (by omega), if_pos (by omega), if_pos (by omega), if_pos (by omega), rd_get x i hlt, rd_get y i (by omega), List.drop_eq_getElem_cons hlt, List.drop_eq_getElem_cons (show i < y.length by omega)]
    by_cases c : x[i] = y[i]'(by omega)
    · rw [if_pos c, wrap_succ i (by omega), ih (i + 1) k (by omega) (by omega)]
      congr 1
      rw [decide_eq_decide]
      exact ⟨fun e => by rw [c, e], fun e => by injection e⟩
    · rw [if_neg c]
      congr 1
      rw [eq_comm, decide_eq_false_iff_not]
      intro e
      injection e with e1 e2
      exact c e1
theorem equal_eq (x y : List Int) (h : x.length = y.length) (hx : x.length ≤ 1000) (k : Nat) (hk : 1001 ≤ k) : slices_Equal_int_int.f k x y = some (decide (x = y)) := by
  unfold slices_Equal_int_int.f
  rw [if_pos (by omega)]
  have := equal_loop x y h hx x.length 0 k (by omega) (by omega)
  rw [Int.natCast_zero] at this
  exact this
theorem put_size {l : List Int} (h : isS l = true) : (Bs (putL l)).size ≤ 1000000000 := by
  obtain ⟨h1, h2, h3, h4⟩ := isS_parts h
  have := putL_len h3
  rw [← L_len, L_Bs]
  omega
theorem arcs_of {l : List Int} (h : isS l = true) (k : Nat) (hk : 500 ≤ k) : oid_Arcs.f k (Bs (putL l)) = some (l, 0) := by
  rw [arcs_eq _ (put_size h) k hk, L_Bs, arcsR_put h]
theorem both_of {x y : List Int} (hx : isS x = true) (hy : isS y = true) (k : Nat) (hk : 500 ≤ k) : oid_both.f k (Bs (putL x)) (Bs (putL y)) = some (x, y, true) := by
  unfold oid_both.f
  rw [arcs_of hx k hk, arcs_of hy k hk]
  rfl
theorem less_of {x y : List Int} (hx : isS x = true) (hy : isS y = true) (k : Nat) (hk : 2000 ≤ k) : oid_Less.f k (Bs (putL x)) (Bs (putL y)) = some (lessL x y) := by
  obtain ⟨_, x2, _, _⟩ := isS_parts hx
  obtain ⟨_, y2, _, _⟩ := isS_parts hy
  unfold oid_Less.f
  rw [both_of hx hy k (by omega)]
  simp only [Option.bind_some, if_true]
  rw [compare_eq x y (by omega) (by omega) k (by omega)]
  rfl
/-- Is an identifier within another one? -/
def inL (x y : List Int) : Bool := decide (x.length ≤ y.length ∧ x = y.take x.length)
theorem within_of {x y : List Int} (hx : isS x = true) (hy : isS y = true) (k : Nat) (hk : 2000 ≤ k) : oid_Within.f k (Bs (putL x)) (Bs (putL y)) = some (inL x y) := by
  obtain ⟨_, x2, _, _⟩ := isS_parts hx
  obtain ⟨_, y2, _, _⟩ := isS_parts hy
  unfold oid_Within.f inL
  rw [both_of hx hy k (by omega)]
  simp only [Option.bind_some, if_true]
  by_cases c : x.length ≤ y.length
  · rw [if_pos c, equal_eq x _ (by rw [List.length_take]; omega) (by omega) k (by omega)]
    simp [c]
  · rw [if_neg c, decide_eq_false (fun h => c h.1)]
/-- An identifier of numbers. -/
theorem below_at (x n : Int) (h0 : -9223372036854775808 ≤ x) (h1 : x ≤ 9223372036854775807) (hn : 0 < n) (hn2 : n ≤ 4294967296) : ∃ m : Int, gongbook_Below.f x n = some m ∧ 0 ≤ m ∧ m < n := by
  unfold gongbook_Below.f
  rw [if_neg (by omega)]
  have a1 := Int.tmod_lt_of_pos x hn
  have a2 : -n < Int.tmod x n := by
    rcases Int.le_total 0 x with hx | hx
    · rw [Int.tmod_eq_emod_of_nonneg hx]
      have := Int.emod_nonneg x (show n ≠ 0 by omega)
      omega
    · have e := Int.neg_tmod (-x) n
      rw [Int.neg_neg] at e
      rw [e, Int.tmod_eq_emod_of_nonneg (by omega)]
      have := Int.emod_lt_of_pos (-x) hn
      omega
  have e : wrap64 (Int.tmod x n + n) = Int.tmod x n + n := wrap_id (by omega) (by omega)
  rw [e, Int.tmod_eq_emod_of_nonneg (by omega)]
  exact ⟨_, rfl, Int.emod_nonneg _ (by omega), Int.emod_lt_of_pos _ hn⟩
theorem wf_i64 {x : Int} (h : (Lit.int .i64 x).wf = true) : -9223372036854775808 ≤ x ∧ x ≤ 9223372036854775807 := by
  simp [Lit.wf, IntKind.min, IntKind.max, IntKind.signed, IntKind.bits] at h
  exact h
theorem named_loop (l : List Int) (hl : l.length ≤ 1000000000000000) (hw : ∀ x ∈ l, (Lit.int .i64 x).wf = true) : ∀ (d i k : Nat) (acc : List Int), i + d = min l.length 60 → d < k → acc.length = i + 2 → (∀ x ∈ acc, 0 ≤ x ∧ x ≤ 4294967295) →
    ∃ r, gonglaw06_named.l0 k l acc (i : Int) = some (acc ++ r) ∧ r.length = d ∧ ∀ x ∈ r, 0 ≤ x ∧ x ≤ 4294967295 := by
  intro d
  induction d with
  | zero =>
    intro i k acc hi hk ha hall
    obtain ⟨k, rfl⟩ : ∃ m, k = m + 1 := ⟨k - 1, by omega⟩
    refine ⟨[], ?_, rfl, by simp⟩
    rw [List.append_nil]
    simp only [gonglaw06_named.l0]
    by_cases c : (i : Int) < (l.length : Int)
    · rw [if_pos c, if_neg (by omega)]
    · rw [if_neg c]
  | succ d ih =>
    intro i k acc hi hk ha hall
    obtain ⟨k, rfl⟩ : ∃ m, k = m + 1 := ⟨k - 1, by omega⟩
    have hlt : i < l.length := by omega
    have hx := wf_i64 (hw l[i] (List.getElem_mem hlt))
    obtain ⟨m, hm, hm0, hm1⟩ := below_at l[i] 4294967296 hx.1 hx.2 (by omega) (by omega)
    simp only [gonglaw06_named.l0]
    rw [if_pos (by omega), if_pos (by omega), if_pos (by omega), rd_get l i hlt, hm]
    simp only [Option.bind_some]
    rw [if_pos (by omega), wrap_succ i (by omega)]
    obtain ⟨r, h1, h2, h3⟩ := ih (i + 1) k (acc ++ [m]) (by omega) (by omega) (by simp; omega) (fun x hx => by
      rcases List.mem_append.1 hx with h | h
      · exact hall x h
      · rw [List.mem_singleton] at h; omega)
    refine ⟨m :: r, ?_, by simp [h2], fun x hx => ?_⟩
    · rw [h1, List.append_assoc]; rfl
    · rcases List.mem_cons.1 hx with h | h
      · omega
      · exact h3 x h
theorem named_at (l : List Int) (hl : l.length ≤ 1000000000000000) (hw : ∀ x ∈ l, (Lit.int .i64 x).wf = true) (k : Nat) (hk : 100 ≤ k) : ∃ r, gonglaw06_named.f k l = some r ∧ isS r = true ∧ r.length ≤ 62 := by
  unfold gonglaw06_named.f
  obtain ⟨r, h1, h2, h3⟩ := named_loop l hl hw (min l.length 60) 0 k [1, 3] (by omega) (by omega) rfl (by decide)
  rw [Int.natCast_zero] at h1
  refine ⟨_, h1, ?_, by simp only [List.length_append, List.length_cons, List.length_nil]; omega⟩
  unfold isS
  simp only [Bool.and_eq_true, decide_eq_true_eq, List.all_eq_true]
  refine ⟨⟨⟨by simp, by simp only [List.length_append, List.length_cons, List.length_nil]; omega⟩, fun x hx => ?_⟩, (by show decide (((1 : Int) < 2 ∧ (3 : Int) < 40) ∨ ((1 : Int) = 2 ∧ (3 : Int) ≤ 4294967215)) = true; decide)⟩
  rcases List.mem_append.1 hx with h | h
  · simp at h; omega
  · exact h3 x h
end Go.Proofs.YtjcenencgnfffaaDoor.OidS
