/- Texts cut at a byte, and put together again: plain lists. -/
import Derived.Test.YtjcenencgnfffaaGreatDoorDecLib
namespace Go.Proofs.YtjcenencgnfffaaGreatDoor.DecS
open Go
set_option linter.unusedVariables false
set_option linter.unusedSimpArgs false
def splitL (c : UInt8) : List UInt8 → List (List UInt8)
  | [] => [[]]
  | b :: l => if b = c then [] :: splitL c l else (match splitL c l with
    | [] => [[b]]
    | w :: ws => (b :: w) :: ws)
def joinL (c : UInt8) : List (List UInt8) → List UInt8
  | [] => []
  | [w] => w
  | w :: v :: ws => w ++ c :: joinL c (v :: ws)
theorem splitL_cons (c : UInt8) (l : List UInt8) : ∃ w ws, splitL c l = w :: ws := by
  cases l with
  | nil => exact ⟨[], [], rfl⟩
  | cons b l =>
    unfold splitL
    split
    · exact ⟨_, _, rfl⟩
    · split <;> exact ⟨_, _, rfl⟩
theorem splitL_sep (c : UInt8) (l : List UInt8) : splitL c (c :: l) = [] :: splitL c l := by
  rw [splitL, if_pos rfl]
theorem splitL_other {c b : UInt8} (h : b ≠ c) {l : List UInt8} {w : List UInt8} {ws : List (List UInt8)} (hl : splitL c l = w :: ws) : splitL c (b :: l) = (b :: w) :: ws := by
  rw [splitL, if_neg h, hl]
theorem join_split (c : UInt8) : ∀ l : List UInt8, joinL c (splitL c l) = l
  | [] => rfl
  | b :: l => by
    obtain ⟨w, ws, hw⟩ := splitL_cons c l
    have ih := join_split c l
    rw [hw] at ih
    by_cases h : b = c
    · subst h
      rw [splitL_sep, hw]
      show [] ++ b :: joinL b (w :: ws) = _
      rw [ih]; rfl
    · rw [splitL_other h hw]
      cases ws with
      | nil => show b :: w = b :: l; rw [show joinL c [w] = w from rfl] at ih; rw [ih]
      | cons v ws =>
        show (b :: w) ++ c :: joinL c (v :: ws) = b :: l
        rw [show joinL c (w :: v :: ws) = w ++ c :: joinL c (v :: ws) from rfl] at ih
        rw [List.cons_append, ih]
theorem split_free (c : UInt8) : ∀ (l : List UInt8), ∀ w ∈ splitL c l, c ∉ w
  | [], w, hw => by
    rw [splitL, List.mem_singleton] at hw
    rw [hw]; simp
  | b :: l, w, hw => by
    obtain ⟨v, vs, hv⟩ := splitL_cons c l
    have ih := split_free c l
    by_cases h : b = c
    · subst h
      rw [splitL_sep, List.mem_cons] at hw
      rcases hw with rfl | hw
      · simp
      · exact ih w hw
    · rw [splitL_other h hv, List.mem_cons] at hw
      rcases hw with rfl | hw
      · have := ih v (by rw [hv]; simp)
        simp only [List.mem_cons, not_or]
        exact ⟨fun e => h e.symm, this⟩
      · exact ih w (by rw [hv]; simp [hw])
theorem split_app (c : UInt8) : ∀ (w l : List UInt8), c ∉ w → splitL c (w ++ c :: l) = w :: splitL c l
  | [], l, _ => splitL_sep c l
  | b :: w, l, h => by
    simp only [List.mem_cons, not_or] at h
    exact splitL_other (fun e => h.1 e.symm) (split_app c w l h.2)
theorem split_none (c : UInt8) : ∀ (w : List UInt8), c ∉ w → splitL c w = [w]
  | [], _ => rfl
  | b :: w, h => by
    simp only [List.mem_cons, not_or] at h
    exact splitL_other (fun e => h.1 e.symm) (split_none c w h.2)
theorem split_join (c : UInt8) : ∀ (ws : List (List UInt8)), ws ≠ [] → (∀ w ∈ ws, c ∉ w) → splitL c (joinL c ws) = ws
  | [], h, _ => absurd rfl h
  | [w], _, h => split_none c w (h w (by simp))
  | w :: v :: ws, _, h => by
    show splitL c (w ++ c :: joinL c (v :: ws)) = _
    rw [split_app c w _ (h w (by simp)), split_join c (v :: ws) (by simp) (fun x hx => h x (by simp only [List.mem_cons] at hx ⊢; exact .inr hx))]
theorem split_len (c : UInt8) : ∀ l : List UInt8, (splitL c l).length = l.count c + 1
  | [] => rfl
  | b :: l => by
    obtain ⟨v, vs, hv⟩ := splitL_cons c l
    have ih := split_len c l
    by_cases h : b = c
    · subst h
      rw [splitL_sep, List.length_cons, ih, List.count_cons_self]
    · rw [splitL_other h hv, List.length_cons, List.count_cons_of_ne h, ← ih, hv, List.length_cons]
theorem lib_join (c : UInt8) : ∀ ws : List (List UInt8), Lib.join ws [c] = joinL c ws
  | [] => rfl
  | [w] => Lib.join_one w [c]
  | w :: v :: ws => by
    have ih := lib_join c (v :: ws)
    show _ = w ++ c :: joinL c (v :: ws)
    rw [← ih, Lib.join_cons, Lib.join_cons]
    simp [Lib.joinTail]
theorem splitK_one (c : UInt8) : ∀ (l : List UInt8), Lib.splitK [c] 0 (l.count c) l = splitL c l
  | [] => rfl
  | b :: l => by
    have ih := splitK_one c l
    obtain ⟨v, vs, hv⟩ := splitL_cons c l
    by_cases h : b = c
    · subst h
      rw [List.count_cons_self, splitL_sep]
      have hx : Lib.index (b :: l) [b] = 0 := by rw [Lib.index_one, Lib.indexByte, if_pos (by simp)]
      unfold Lib.splitK
      rw [hx, if_neg (by decide)]
      show [] :: Lib.splitK [b] 0 (l.count b) l = _
      rw [ih]
    · rw [List.count_cons_of_ne h, splitL_other h hv]
      have hx : Lib.index (b :: l) [c] = if Lib.index l [c] == -1 then -1 else Lib.index l [c] + 1 := by
        rw [Lib.index_one, Lib.index_one, Lib.indexByte, if_neg (by simpa using h)]
      cases hk : l.count c with
      | zero =>
        rw [hk] at ih
        have e : [l] = splitL c l := ih
        rw [hv] at e
        injection e with e1 e2
        show [b :: l] = _
        rw [e1, ← e2]
      | succ k =>
        rw [hk] at ih
        unfold Lib.splitK at ih ⊢
        by_cases hm : Lib.index l [c] = -1
        · have hx2 : Lib.index (b :: l) [c] = -1 := by rw [hx, hm]; rfl
          rw [hx2, if_pos (by decide)]
          rw [hm, if_pos (by decide), hv] at ih
          injection ih with e1 e2
          rw [e1, ← e2]
        · have hge := Lib.index_ge l [c]
          obtain ⟨j, hj⟩ : ∃ j : Nat, Lib.index l [c] = j := ⟨(Lib.index l [c]).toNat, by omega⟩
          have n1 : ((j : Int) == -1) = false := beq_eq_false_iff_ne.mpr (by omega)
          have n2 : ((j : Int) + 1 == -1) = false := beq_eq_false_iff_ne.mpr (by omega)
          have hx2 : Lib.index (b :: l) [c] = (j : Int) + 1 := by rw [hx, hj, n1]; rfl
          rw [hj, n1, if_neg (by decide), hv] at ih
          rw [hx2, n2, if_neg (by decide)]
          injection ih with e1 e2
          have t1 : ((j : Int) + 1).toNat = j + 1 := by omega
          rw [t1]
          simp only [Int.toNat_natCast, Nat.add_zero, List.length_cons, List.length_nil, Nat.zero_add] at e1 e2 ⊢
          rw [show j + 1 + 1 = (j + 1) + 1 from rfl, List.take_succ_cons, List.drop_succ_cons, e1, e2]
end Go.Proofs.YtjcenencgnfffaaGreatDoor.DecS
