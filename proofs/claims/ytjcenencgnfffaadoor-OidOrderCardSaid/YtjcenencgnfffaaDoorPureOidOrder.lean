/- Of two identifiers that are unlike just one stands ahead, of like ones none; of three, two of which stand in order, so does the third; what is within one stands behind it, and ahead of all that stand behind it and are not within it. Conditions: those of the statement. -/
import Derived.Test.YtjcenencgnfffaaDoorOidMore
namespace Go.Proofs.YtjcenencgnfffaaDoor.Pure
open Go.RowKit Gong Go.Proofs.YtjcenencgnfffaaDoor.OidS Go.Proofs.YtjcenencgnfffaaDoor.XOiD Go.Proofs.YtjcenencgnfffaaDoor.DecS Go.Proofs.YtjcenencgnfffaaDoorW.PrintWords Go.Proofs.YtjcenencgnfffaaDoorW.PrintLast Go.Proofs.YtjcenencgnfffaaDoorW.PrintMore
set_option linter.unusedVariables false
set_option linter.unusedSimpArgs false
theorem cmp_refl : ∀ x : List Int, cmpL x x = 0
  | [] => rfl
  | a :: x => by
    unfold cmpL
    rw [if_neg (by omega), if_neg (by omega), cmp_refl x]
theorem cmp_zero : ∀ x y : List Int, cmpL x y = 0 → x = y
  | [], [], _ => rfl
  | [], _ :: _, h => absurd h (by show ¬ ((-1 : Int) = 0); decide)
  | _ :: _, [], h => absurd h (by show ¬ ((1 : Int) = 0); decide)
  | a :: x, b :: y, h => by
    unfold cmpL at h
    by_cases c : a < b
    · rw [if_pos c] at h; exact absurd h (by decide)
    · rw [if_neg c] at h
      by_cases c2 : b < a
      · rw [if_pos c2] at h; exact absurd h (by decide)
      · rw [if_neg c2] at h
        rw [cmp_zero x y h, show a = b from by omega]
theorem cmp_neg : ∀ x y : List Int, cmpL y x = - cmpL x y
  | [], [] => rfl
  | [], _ :: _ => rfl
  | _ :: _, [] => rfl
  | a :: x, b :: y => by
    unfold cmpL
    by_cases c : a < b
    · rw [if_pos c, if_neg (by omega), if_pos c]; rfl
    · by_cases c2 : b < a
      · simp only [if_neg c, if_pos c2]
      · simp only [if_neg c, if_neg c2]
        exact cmp_neg x y
theorem cmp_trans : ∀ x y z : List Int, cmpL x y < 0 → cmpL y z < 0 → cmpL x z < 0
  | [], [], z, h, _ => absurd h (by show ¬ ((0 : Int) < 0); decide)
  | [], _ :: _, [], _, h => absurd h (by show ¬ ((1 : Int) < 0); decide)
  | [], _ :: _, _ :: _, _, _ => by show ((-1 : Int) < 0); decide
  | _ :: _, [], _, h, _ => absurd h (by show ¬ ((1 : Int) < 0); decide)
  | _ :: _, _ :: _, [], _, h => absurd h (by show ¬ ((1 : Int) < 0); decide)
  | a :: x, b :: y, c :: z, h1, h2 => by
    unfold cmpL at h1 h2 ⊢
    by_cases p : a < b
    · by_cases q : b < c
      · rw [if_pos (by omega)]; decide
      · rw [if_neg q] at h2
        by_cases r : c < b
        · rw [if_pos r] at h2; exact absurd h2 (by decide)
        · rw [if_pos (by omega)]; decide
    · rw [if_neg p] at h1
      by_cases p2 : b < a
      · rw [if_pos p2] at h1; exact absurd h1 (by decide)
      · rw [if_neg p2] at h1
        by_cases q : b < c
        · rw [if_pos (by omega)]; decide
        · rw [if_neg q] at h2
          by_cases r : c < b
          · rw [if_pos r] at h2; exact absurd h2 (by decide)
          · rw [if_neg r] at h2
            rw [if_neg (by omega), if_neg (by omega)]
            exact cmp_trans x y z h1 h2
theorem in_less : ∀ x y : List Int, inL x y = true → x ≠ y → cmpL x y < 0
  | [], [], _, h => absurd rfl h
  | [], _ :: _, _, _ => by show ((-1 : Int) < 0); decide
  | a :: x, [], h, _ => by
    unfold inL at h
    simp at h
  | a :: x, b :: y, h, hn => by
    unfold inL at h
    simp only [List.length_cons, List.take_succ_cons, decide_eq_true_eq, List.cons.injEq] at h
    obtain ⟨h1, h2, h3⟩ := h
    unfold cmpL
    rw [if_neg (by omega), if_neg (by omega)]
    refine in_less x y ?_ (fun e => hn (by rw [h2, e]))
    unfold inL
    rw [decide_eq_true]
    exact ⟨by omega, h3⟩
/-- What is within one stands ahead of all that stand behind it and are not within it. -/
theorem in_before : ∀ x y z : List Int, inL x y = true → inL x z = false → cmpL x z < 0 → cmpL y z < 0
  | [], y, z, _, h, _ => absurd h (by unfold inL; simp)
  | a :: x, [], z, h, _, _ => by unfold inL at h; simp at h
  | a :: x, b :: y, [], _, _, h => absurd h (by show ¬ ((1 : Int) < 0); decide)
  | a :: x, b :: y, c :: z, h1, h2, h3 => by
    unfold inL at h1
    simp only [List.length_cons, List.take_succ_cons, decide_eq_true_eq, List.cons.injEq] at h1
    obtain ⟨p1, p2, p3⟩ := h1
    unfold cmpL at h3 ⊢
    by_cases q : a < c
    · rw [if_pos (by omega)]; decide
    · rw [if_neg q] at h3
      by_cases r : c < a
      · rw [if_pos r] at h3; exact absurd h3 (by decide)
      · rw [if_neg r] at h3
        rw [if_neg (by omega), if_neg (by omega)]
        refine in_before x y z ?_ ?_ h3
        · unfold inL
          rw [decide_eq_true]
          exact ⟨by omega, p3⟩
        · unfold inL at h2 ⊢
          rw [decide_eq_false_iff_not] at h2 ⊢
          intro e
          apply h2
          refine ⟨by simp only [List.length_cons]; omega, ?_⟩
          rw [List.length_cons, List.take_succ_cons, ← e.2, show a = c from by omega]
theorem in_refl (x : List Int) : inL x x = true := by
  unfold inL
  rw [decide_eq_true]
  exact ⟨Nat.le_refl _, by rw [List.take_length]⟩
theorem less_refl (x : List Int) : lessL x x = false := by
  unfold lessL
  rw [cmp_refl]
  rfl
theorem OidOrder (l0 l1 l2 : List Int) (hl0 : l0.length ≤ maxLen ∧ l0.length * 8 ≤ 140737488351232 ∧ ∀ x ∈ l0, (Lit.int .i64 x).wf = true) (hl1 : l1.length ≤ maxLen ∧ l1.length * 8 ≤ 140737488351232 ∧ ∀ x ∈ l1, (Lit.int .i64 x).wf = true) (hl2 : l2.length ≤ maxLen ∧ l2.length * 8 ≤ 140737488351232 ∧ ∀ x ∈ l2, (Lit.int .i64 x).wf = true) : ∃ k, gonglaw06_OidOrder.f k l0 l1 l2 = some true := by
  obtain ⟨k, hk⟩ : ∃ k : Nat, 3000 ≤ k := ⟨_, Nat.le_refl _⟩
  refine ⟨k + 4, ?_⟩
  obtain ⟨x, e0, hx, _⟩ := named_at l0 (by have := hl0.2.1; omega) hl0.2.2 (k + 4) (by omega)
  obtain ⟨y, e1, hy, _⟩ := named_at l1 (by have := hl1.2.1; omega) hl1.2.2 (k + 4) (by omega)
  obtain ⟨z, e2, hz, _⟩ := named_at l2 (by have := hl2.2.1; omega) hl2.2.2 (k + 4) (by omega)
  unfold gonglaw06_OidOrder.f
  rw [works_at (k + 4) (by omega)]
  simp only [Option.bind_some, if_true]
  rw [e0]
  simp only [Option.bind_some]
  rw [text_yes hx (k + 4) (by omega)]
  simp only [Option.bind_some]
  rw [e1]
  simp only [Option.bind_some]
  rw [text_yes hy (k + 4) (by omega)]
  simp only [Option.bind_some]
  rw [e2]
  simp only [Option.bind_some]
  rw [text_yes hz (k + 4) (by omega)]
  simp only [Option.bind_some, if_true, bne_self_eq_false]
  have heq : ((Bs (putL x)).toList == (Bs (putL y)).toList) = decide (x = y) := by
    rw [Bool.eq_iff_iff, beq_iff_eq, decide_eq_true_eq, toList_L, toList_L, L_Bs, L_Bs]
    exact ⟨fun e => putL_inj hx hy e, fun e => by rw [e]⟩
  have heq2 : ((Bs (putL x)).toList = (Bs (putL y)).toList) ↔ x = y := by
    rw [toList_L, toList_L, L_Bs, L_Bs]
    exact ⟨fun e => putL_inj hx hy e, fun e => by rw [e]⟩
  have j3 : gonglaw06_OidOrder.j3 (k + 1) (Bs (putL x)) (Bs (putL y)) (Bs (putL z)) false = some true := by
    simp only [gonglaw06_OidOrder.j3]
    rw [if_neg (by decide), within_of hx hy k (by omega)]
    simp only [Option.bind_some]
    by_cases c1 : inL x y = true
    · rw [if_pos c1, within_of hx hz k (by omega)]
      simp only [Option.bind_some]
      by_cases c2 : inL x z = true
      · rw [if_pos c2]
      · rw [if_neg c2, less_of hx hz k (by omega)]
        simp only [Option.bind_some]
        by_cases c3 : lessL x z = true
        · rw [if_pos c3, less_of hy hz k (by omega)]
          simp only [Option.bind_some]
          unfold lessL at c3 ⊢
          rw [decide_eq_true_eq] at c3
          rw [decide_eq_true (in_before x y z c1 (by simpa using c2) c3)]
        · rw [if_neg c3]
    · rw [if_neg c1]
  have j2 : gonglaw06_OidOrder.j2 (k + 2) (Bs (putL x)) (Bs (putL y)) (Bs (putL z)) (lessL x y) false = some true := by
    simp only [gonglaw06_OidOrder.j2]
    rw [if_neg (by decide), within_of hx hy (k + 1) (by omega)]
    simp only [Option.bind_some]
    by_cases c1 : inL x y = true
    · rw [if_pos c1]
      by_cases c2 : x = y
      · rw [if_pos (heq2.2 c2)]
        exact j3
      · rw [if_neg (fun h => c2 (heq2.1 h))]
        have : lessL x y = true := by
          unfold lessL
          exact decide_eq_true (in_less x y c1 c2)
        rw [this]
        exact j3
    · rw [if_neg c1]
      exact j3
  have j1 : gonglaw06_OidOrder.j1 (k + 3) (Bs (putL x)) (Bs (putL y)) (Bs (putL z)) (lessL x y) false = some true := by
    simp only [gonglaw06_OidOrder.j1]
    rw [if_neg (by decide)]
    by_cases c1 : lessL x y = true
    · rw [if_pos c1, less_of hy hz (k + 2) (by omega)]
      simp only [Option.bind_some]
      by_cases c2 : lessL y z = true
      · rw [if_pos c2, less_of hx hz (k + 2) (by omega)]
        simp only [Option.bind_some]
        have : lessL x z = true := by
          unfold lessL at c1 c2 ⊢
          rw [decide_eq_true_eq] at c1 c2
          exact decide_eq_true (cmp_trans x y z c1 c2)
        rw [this]
        exact j2
      · rw [if_neg c2]
        exact j2
    · rw [if_neg c1]
      exact j2
  simp only [gonglaw06_OidOrder.j0]
  rw [if_neg (by decide), less_of hx hy (k + 3) (by omega)]
  simp only [Option.bind_some]
  rw [less_of hy hx (k + 3) (by omega)]
  simp only [Option.bind_some]
  rw [heq, less_of hx hx (k + 3) (by omega), less_refl]
  simp only [Option.bind_some]
  rw [within_of hx hx (k + 3) (by omega), in_refl]
  simp only [Option.bind_some, Bool.not_true]
  have hneg := cmp_neg x y
  by_cases c1 : lessL x y = true
  · have d1 : cmpL x y < 0 := by unfold lessL at c1; simpa using c1
    have d2 : lessL y x = false := by unfold lessL; rw [decide_eq_false]; omega
    have d3 : decide (x = y) = false := by
      rw [decide_eq_false]
      rintro rfl
      rw [cmp_refl] at d1
      omega
    rw [if_pos c1, d2, d3, if_neg (by decide), if_neg (by decide), if_neg (by decide)]
    rw [c1] at j1 ⊢
    exact j1
  · rw [if_neg c1]
    have d1 : ¬ cmpL x y < 0 := by unfold lessL at c1; simpa using c1
    have d4 : (decide (x = y) == lessL y x) = false := by
      rw [beq_eq_false_iff_ne]
      intro e
      by_cases q : x = y
      · subst q
        rw [decide_eq_true rfl, less_refl] at e
        cases e
      · rw [decide_eq_false q] at e
        have : cmpL y x < 0 := by
          have hz0 : cmpL x y ≠ 0 := fun h => q (cmp_zero x y h)
          omega
        unfold lessL at e
        rw [decide_eq_true this] at e
        cases e
    rw [d4, if_neg (by decide), if_neg (by decide)]
    exact j1
end Go.Proofs.YtjcenencgnfffaaDoor.Pure
