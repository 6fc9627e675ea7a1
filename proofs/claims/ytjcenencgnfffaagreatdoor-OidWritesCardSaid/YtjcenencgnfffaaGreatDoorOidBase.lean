/- Layer 6: the example; the arcs of a text that was put together; one arc more. -/
import Derived.Test.YtjcenencgnfffaaGreatDoorOidArcs
namespace Go.Proofs.YtjcenencgnfffaaGreatDoor.OidS
open Go.RowKit Gong Go.Proofs.YtjcenencgnfffaaGreatDoor.XOiW Go.Proofs.YtjcenencgnfffaaGreatDoor.DecS Go.Proofs.YtjcenencgnfffaaGreatDoorW.PrintWords Go.Proofs.YtjcenencgnfffaaGreatDoorW.PrintLast Go.Proofs.YtjcenencgnfffaaGreatDoorW.PrintMore
set_option linter.unusedVariables false
set_option linter.unusedSimpArgs false
theorem put_size {l : List Int} (h : isS l = true) : (Bs (putL l)).size ≤ 1000000000 := by
  obtain ⟨h1, h2, h3, h4⟩ := isS_parts h
  have := putL_len h3
  rw [← L_len, L_Bs]
  omega
theorem arcs_of {l : List Int} (h : isS l = true) (k : Nat) (hk : 500 ≤ k) : oid_Arcs.f k (Bs (putL l)) = some (l, 0) := by
  rw [arcs_eq _ (put_size h) k hk, L_Bs, arcsR_put h]
theorem works_at (k : Nat) (hk : 500 ≤ k) : gonglaw06_works.f k = some true := by
  have a1 : oid_Arcs.f k (⟨#[49, 46, 51, 46, 54, 46, 49]⟩ : ByteArray) = some ([1, 3, 6, 1], 0) := by
    rw [arcs_eq _ (by decide) k hk]
    decide +kernel
  have a2 : oid_Arcs.f k (⟨#[50, 46, 57, 57, 57, 46, 51]⟩ : ByteArray) = some ([2, 999, 3], 0) := by
    rw [arcs_eq _ (by decide) k hk]
    decide +kernel
  have e1 : oid_Encode.f k (⟨#[49, 46, 51, 46, 54, 46, 49]⟩ : ByteArray) = some (⟨#[43, 6, 1]⟩, 0) := by
    unfold oid_Encode.f
    rw [a1]
    decide +kernel
  have e2 : oid_Encode.f k (⟨#[50, 46, 57, 57, 57, 46, 51]⟩ : ByteArray) = some (⟨#[136, 55, 3]⟩, 0) := by
    unfold oid_Encode.f
    rw [a2]
    decide +kernel
  unfold gonglaw06_works.f
  rw [e1, e2]
  simp only [Option.bind_some]
  rw [toList_L, if_pos (show L (⟨#[43, 6, 1]⟩ : ByteArray) = [43, 6, 1] from rfl), if_pos trivial, toList_L, if_pos (show L (⟨#[136, 55, 3]⟩ : ByteArray) = [136, 55, 3] from rfl)]
  rfl
theorem joinL_snoc (w : List UInt8) : ∀ ws : List (List UInt8), ws ≠ [] → joinL 46 (ws ++ [w]) = joinL 46 ws ++ 46 :: w
  | [], h => absurd rfl h
  | [v], _ => rfl
  | v :: u :: ws, _ => by
    show v ++ 46 :: joinL 46 ((u :: ws) ++ [w]) = (v ++ 46 :: joinL 46 (u :: ws)) ++ 46 :: w
    rw [joinL_snoc w (u :: ws) (by simp)]
    simp
theorem putL_snoc (r : List Int) (n : Int) (h : r ≠ []) : putL (r ++ [n]) = putL r ++ 46 :: Lib.decDigits n.toNat := by
  unfold putL
  rw [List.map_append]
  exact joinL_snoc _ _ (by simpa using h)
end Go.Proofs.YtjcenencgnfffaaGreatDoor.OidS
