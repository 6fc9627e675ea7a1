/- Layer 6: Arcs and Text, there and back. -/
import Derived.Test.YtjcenencgnfffaaGreatDoorOidSpec
namespace Go.Proofs.YtjcenencgnfffaaGreatDoor.OidS
open Go.RowKit Gong Go.Proofs.YtjcenencgnfffaaGreatDoor.XOiW Go.Proofs.YtjcenencgnfffaaGreatDoor.DecS Go.Proofs.YtjcenencgnfffaaGreatDoorW.PrintWords Go.Proofs.YtjcenencgnfffaaGreatDoorW.PrintLast Go.Proofs.YtjcenencgnfffaaGreatDoorW.PrintMore
set_option linter.unusedVariables false
set_option linter.unusedSimpArgs false
/-- The arcs of a text. -/
def arcsS (s : List UInt8) : Option (List Int) := if s.count 46 < 128 ∧ isS ((splitL 46 s).map arcOf) = true then some ((splitL 46 s).map arcOf) else none
def arcsR (s : List UInt8) : List Int × Int := match arcsS s with
  | some l => (l, 0)
  | none => ([], 60)
theorem rdOf_get (l : List ByteArray) (i : Nat) (h : i < l.length) : rdOf ByteArray.empty l (i : Int) = l[i]'h := by
  unfold rdOf
  rw [Int.toNat_natCast, List.getD_eq_getElem?_getD, List.getElem?_eq_getElem h]
  rfl
theorem arcs_loop (W : List ByteArray) (hW : W.length ≤ 128) : ∀ (d i k : Nat), i + d = W.length → d + 300 ≤ k →
    oid_Arcs.l0 k ((W.take i).map fun w => arcOf (L w)) W (W.length : Int) (i : Int) = some (if isS (W.map fun w => arcOf (L w)) = true then (W.map fun w => arcOf (L w), 0) else ([], 60)) := by
  intro d
  induction d with
  | zero =>
    intro i k hi hk
    obtain ⟨k, rfl⟩ : ∃ m, k = m + 1 := ⟨k - 1, by omega⟩
    simp only [oid_Arcs.l0]
    rw [if_neg (by omega), List.take_of_length_le (by omega), is_eq _ k (by omega)]
    simp only [Option.bind_some]
    split <;> rfl
  | succ d ih =>
    intro i k hi hk
    obtain ⟨k, rfl⟩ : ∃ m, k = m + 1 := ⟨k - 1, by omega⟩
    have hlt : i < W.length := by omega
    simp only [oid_Arcs.l0]
    rw [if_pos (by omega), if_pos (by omega), if_pos (by omega), rdOf_get W i hlt, arc_eq]
    simp only [Option.bind_some]
    have hl : ((W.take i).map fun w => arcOf (L w)).length = i := by rw [List.length_map, List.length_take]; omega
    rw [if_pos (by omega), wrap_succ i (by omega)]
    have e : ((W.take i).map fun w => arcOf (L w)) ++ [arcOf (L W[i])] = (W.take (i + 1)).map fun w => arcOf (L w) := by
      rw [List.take_succ_eq_append_getElem hlt, List.map_append]
      rfl
    rw [e]
    exact ih (i + 1) k (by omega) (by omega)
theorem count_eq (a : ByteArray) : strings_Count.f a (⟨#[46]⟩ : ByteArray) = some (((L a).count 46 : Nat) : Int) := rfl
theorem split_eq (a : ByteArray) (h : a.size ≤ 1000000000) : ∃ W : List ByteArray, strings_Split.f a (⟨#[46]⟩ : ByteArray) = some W ∧ W.map L = splitL 46 (L a) := by
  unfold strings_Split.f
  rw [if_pos ⟨by omega, by decide⟩]
  refine ⟨_, rfl, ?_⟩
  have h1 := Lib.splitB_data (⟨#[46]⟩ : ByteArray) 0 (Lib.countB a (⟨#[46]⟩ : ByteArray)) a
  have h2 : Lib.countB a (⟨#[46]⟩ : ByteArray) = (L a).count 46 := Lib.count_one 46 (L a)
  rw [h2] at h1 ⊢
  exact h1.trans (splitK_one 46 (L a))
theorem arcs_eq (a : ByteArray) (h : a.size ≤ 1000000000) (k : Nat) (hk : 500 ≤ k) : oid_Arcs.f k a = some (arcsR (L a)) := by
  unfold oid_Arcs.f
  rw [count_eq]
  simp only [Option.bind_some]
  by_cases c : (L a).count 46 < 128
  · rw [if_neg (by omega)]
    obtain ⟨W, hW, hm⟩ := split_eq a h
    rw [hW]
    simp only [Option.bind_some]
    have hl : W.length = (L a).count 46 + 1 := by rw [← split_len, ← hm, List.length_map]
    have := arcs_loop W (by omega) W.length 0 k (by omega) (by omega)
    rw [Int.natCast_zero] at this
    have e0 : ((W.take 0).map fun w => arcOf (L w)) = [] := rfl
    rw [e0] at this
    rw [this]
    have e1 : (W.map fun w => arcOf (L w)) = (splitL 46 (L a)).map arcOf := by rw [← hm, List.map_map]; rfl
    rw [e1]
    unfold arcsR arcsS
    by_cases c2 : isS ((splitL 46 (L a)).map arcOf) = true
    · rw [if_pos c2, if_pos ⟨c, c2⟩]
    · rw [if_neg c2, if_neg (fun h => c2 h.2)]
  · rw [if_pos (by omega)]
    unfold arcsR arcsS
    rw [if_neg (fun h => c h.1)]
/-- The text of arcs. -/
def putL (l : List Int) : List UInt8 := joinL 46 (l.map fun x => Lib.decDigits x.toNat)
theorem isS_parts {l : List Int} (h : isS l = true) : 2 ≤ l.length ∧ l.length ≤ 128 ∧ (∀ x ∈ l, 0 ≤ x ∧ x ≤ 4294967295) ∧ heads l = true := by
  unfold isS at h
  simp only [Bool.and_eq_true, decide_eq_true_eq, List.all_eq_true] at h
  exact ⟨h.1.1.1, h.1.1.2, h.1.2, h.2⟩
theorem dot_free (n : Nat) : (46 : UInt8) ∉ Lib.decDigits n := fun h => by
  have := dd_dig n 46 h
  exact absurd this (by decide)
theorem arcs_put {l : List Int} (h : isS l = true) : arcsS (putL l) = some l := by
  obtain ⟨h1, h2, h3, h4⟩ := isS_parts h
  have hs : splitL 46 (putL l) = l.map fun x => Lib.decDigits x.toNat := split_join 46 _ (by intro e; rw [List.map_eq_nil_iff] at e; rw [e] at h1; simp at h1) (fun w hw => by
    obtain ⟨x, _, rfl⟩ := List.mem_map.1 hw
    exact dot_free _)
  have hm : (splitL 46 (putL l)).map arcOf = l := by
    rw [hs, List.map_map]
    conv => rhs; rw [← List.map_id l]
    apply List.map_congr_left
    intro x hx
    have := h3 x hx
    show arcOf (Lib.decDigits x.toNat) = x
    rw [arcOf_dd _ (by omega)]
    omega
  have hc : (putL l).count 46 < 128 := by
    have := split_len 46 (putL l)
    rw [hs, List.length_map] at this
    omega
  unfold arcsS
  rw [hm, if_pos ⟨hc, h⟩]
theorem arcs_some {s : List UInt8} {l : List Int} (h : arcsS s = some l) : isS l = true ∧ putL l = s := by
  unfold arcsS at h
  by_cases c : s.count 46 < 128 ∧ isS ((splitL 46 s).map arcOf) = true
  · rw [if_pos c] at h
    injection h with h
    subst h
    refine ⟨c.2, ?_⟩
    obtain ⟨_, _, h3, _⟩ := isS_parts c.2
    unfold putL
    rw [List.map_map]
    have : (splitL 46 s).map ((fun x : Int => Lib.decDigits x.toNat) ∘ arcOf) = splitL 46 s := by
      conv => rhs; rw [← List.map_id (splitL 46 s)]
      apply List.map_congr_left
      intro w hw
      exact dd_arcOf (h3 _ (List.mem_map.2 ⟨w, hw, rfl⟩)).1
    rw [this, join_split]
  · rw [if_neg c] at h
    cases h
theorem arcsR_put {l : List Int} (h : isS l = true) : arcsR (putL l) = (l, 0) := by
  unfold arcsR
  rw [arcs_put h]
theorem putL_inj {l m : List Int} (hl : isS l = true) (hm : isS m = true) (h : putL l = putL m) : l = m := by
  have h1 := arcs_put hl
  rw [h, arcs_put hm] at h1
  injection h1 with h1
  exact h1.symm
theorem itoa_nat (n : Nat) (h : n ≤ 9223372036854775807) : strconv_Itoa.f (n : Int) = some (Bs (Lib.decDigits n)) := by
  unfold strconv_Itoa.f
  rw [if_pos (by omega)]
  unfold Lib.itoa
  rw [if_neg (by omega)]
  rfl
theorem joinL_len : ∀ ws : List (List UInt8), (∀ w ∈ ws, w.length ≤ 10) → (joinL 46 ws).length ≤ 11 * ws.length
  | [], _ => by simp [joinL]
  | [w], h => by have := h w (by simp); simp only [joinL, List.length_cons, List.length_nil]; omega
  | w :: v :: ws, h => by
    have h1 := h w (by simp)
    have h2 := joinL_len (v :: ws) (fun x hx => h x (by simp only [List.mem_cons] at hx ⊢; exact .inr hx))
    show (w ++ 46 :: joinL 46 (v :: ws)).length ≤ _
    simp only [List.length_append, List.length_cons] at h2 ⊢
    omega
theorem putL_len {l : List Int} (h : ∀ x ∈ l, 0 ≤ x ∧ x ≤ 4294967295) : (putL l).length ≤ 11 * l.length := by
  have := joinL_len (l.map fun x => Lib.decDigits x.toNat) (fun w hw => by
    obtain ⟨x, hx, rfl⟩ := List.mem_map.1 hw
    have := h x hx
    exact dd_short _ (by omega))
  rw [List.length_map] at this
  exact this
theorem put_loop (l : List Int) (hl : l.length ≤ 1000) (h : ∀ x ∈ l, 0 ≤ x ∧ x ≤ 4294967295) : ∀ (d i k : Nat), i + d = l.length → d < k →
    oid_put.l0 k ((l.take i).map fun x => Bs (Lib.decDigits x.toNat)) l (l.length : Int) (i : Int) = some (Bs (putL l)) := by
  intro d
  induction d with
  | zero =>
    intro i k hi hk
    obtain ⟨k, rfl⟩ : ∃ m, k = m + 1 := ⟨k - 1, by omega⟩
    simp only [oid_put.l0]
    rw [if_neg (by omega), List.take_of_length_le (by omega)]
    have e : ((l.map fun x => Bs (Lib.decDigits x.toNat)).map (·.data.toList)) = l.map fun x => Lib.decDigits x.toNat := by
      rw [List.map_map]
      apply List.map_congr_left
      intro x _
      exact L_Bs _
    have hp := putL_len h
    unfold strings_Join.f
    rw [e]
    have e2 : Lib.join (l.map fun x => Lib.decDigits x.toNat) (⟨#[46]⟩ : ByteArray).data.toList = putL l := lib_join 46 _
    rw [e2, if_pos ⟨by rw [List.length_map]; omega, by omega⟩]
    rfl
  | succ d ih =>
    intro i k hi hk
    obtain ⟨k, rfl⟩ : ∃ m, k = m + 1 := ⟨k - 1, by omega⟩
    have hlt : i < l.length := by omega
    have hx := h l[i] (List.getElem_mem hlt)
    simp only [oid_put.l0]
    rw [if_pos (by omega), if_pos (by omega), if_pos (by omega), rd_get l i hlt]
    have e0 : l[i] = ((l[i].toNat : Nat) : Int) := by omega
    have e1 : strconv_Itoa.f l[i] = some (Bs (Lib.decDigits l[i].toNat)) := by
      conv => lhs; rw [e0]
      exact itoa_nat _ (by omega)
    rw [e1]
    simp only [Option.bind_some]
    have hl2 : ((l.take i).map fun x => Bs (Lib.decDigits x.toNat)).length = i := by rw [List.length_map, List.length_take]; omega
    rw [if_pos (by omega), wrap_succ i (by omega)]
    have e : ((l.take i).map fun x => Bs (Lib.decDigits x.toNat)) ++ [Bs (Lib.decDigits l[i].toNat)] = (l.take (i + 1)).map fun x => Bs (Lib.decDigits x.toNat) := by
      rw [List.take_succ_eq_append_getElem hlt, List.map_append]
      rfl
    rw [e]
    exact ih (i + 1) k (by omega) (by omega)
theorem put_eq (l : List Int) (hl : l.length ≤ 1000) (h : ∀ x ∈ l, 0 ≤ x ∧ x ≤ 4294967295) (k : Nat) (hk : 2000 ≤ k) : oid_put.f k l = some (Bs (putL l)) := by
  unfold oid_put.f
  have := put_loop l hl h l.length 0 k (by omega) (by omega)
  rw [Int.natCast_zero] at this
  exact this
end Go.Proofs.YtjcenencgnfffaaGreatDoor.OidS
