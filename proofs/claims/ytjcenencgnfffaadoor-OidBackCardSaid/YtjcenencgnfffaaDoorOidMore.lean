/- Layer 6: the example, and an arc more. -/
import Derived.Test.YtjcenencgnfffaaDoorOidOps
namespace Go.Proofs.YtjcenencgnfffaaDoor.OidS
open Go.RowKit Gong Go.Proofs.YtjcenencgnfffaaDoor.XOiD Go.Proofs.YtjcenencgnfffaaDoor.DecS Go.Proofs.YtjcenencgnfffaaDoorW.PrintWords Go.Proofs.YtjcenencgnfffaaDoorW.PrintLast Go.Proofs.YtjcenencgnfffaaDoorW.PrintMore
set_option linter.unusedVariables false
set_option linter.unusedSimpArgs false
theorem works_at (k : Nat) (hk : 500 ≤ k) : gonglaw06_works.f k = some true := by
  have a1 : oid_Arcs.f k (⟨#[49, 46, 51, 46, 54, 46, 49]⟩ : ByteArray) = some ([1, 3, 6, 1], 0) := by
    rw [arcs_eq _ (by decide) k hk]
    decide +kernel
  have a2 : oid_Arcs.f k (⟨#[50, 46, 57, 57, 57, 46, 51]⟩ : ByteArray) = some ([2, 999, 3], 0) := by
    rw [arcs_eq _ (by decide) k hk]
    decide +kernel
  have e1 : oid_Encode.f k (⟨#[49, 46, 51, 46, 54, 46, 49]⟩ : ByteArray) = some (⟨#[43, 6, 1]⟩, 0) := by
    unfold oid_Encode.f
    rw [a1]
    decide +kernel
  have e2 : oid_Encode.f k (⟨#[50, 46, 57, 57, 57, 46, 51]⟩ : ByteArray) = some (⟨#[136, 55, 3]⟩, 0) := by
    unfold oid_Encode.f
    rw [a2]
    decide +kernel
  unfold gonglaw06_works.f
  rw [e1, e2]
  simp only [Option.bind_some]
  rw [toList_L, if_pos (show L (⟨#[43, 6, 1]⟩ : ByteArray) = [43, 6, 1] from rfl), if_pos trivial, toList_L, if_pos (show L (⟨#[136, 55, 3]⟩ : ByteArray) = [136, 55, 3] from rfl)]
  rfl
theorem joinL_snoc (w : List UInt8) : ∀ ws : List (List UInt8), ws ≠ [] → joinL 46 (ws ++ [w]) = joinL 46 ws ++ 46 :: w
  | [], h => absurd rfl h
  | [v], _ => rfl
  | v :: u :: ws, _ => by
    show v ++ 46 :: joinL 46 ((u :: ws) ++ [w]) = (v ++ 46 :: joinL 46 (u :: ws)) ++ 46 :: w
    rw [joinL_snoc w (u :: ws) (by simp)]
    simp
theorem putL_snoc (r : List Int) (n : Int) (h : r ≠ []) : putL (r ++ [n]) = putL r ++ 46 :: Lib.decDigits n.toNat := by
  unfold putL
  rw [List.map_append]
  exact joinL_snoc _ _ (by simpa using h)
theorem cmpL_snoc (a b : Int) : ∀ r : List Int, cmpL (r ++ [a]) (r ++ [b]) = if a < b then -1 else if b < a then 1 else 0
  | [] => rfl
  | x :: r => by
    show (if x < x then -1 else if x < x then 1 else cmpL (r ++ [a]) (r ++ [b])) = _
    rw [if_neg (by omega), if_neg (by omega), cmpL_snoc a b r]
theorem isS_snoc {r : List Int} (h : isS r = true) (hl : r.length < 128) (n : Int) (h0 : 0 ≤ n) (h1 : n ≤ 4294967295) : isS (r ++ [n]) = true := by
  obtain ⟨p1, p2, p3, p4⟩ := isS_parts h
  unfold isS
  simp only [Bool.and_eq_true, decide_eq_true_eq, List.all_eq_true]
  refine ⟨⟨⟨by rw [List.length_append]; omega, by rw [List.length_append]; simp only [List.length_cons, List.length_nil]; omega⟩, fun x hx => ?_⟩, ?_⟩
  · rcases List.mem_append.1 hx with h | h
    · exact p3 x h
    · rw [List.mem_singleton] at h; omega
  · match r, p1, p4 with
    | a :: b :: _, _, p4 => exact p4
end Go.Proofs.YtjcenencgnfffaaDoor.OidS
