/- A child is within its parent, what is left of it is its arc; children stand in the order of their arcs, and are unlike. Conditions: those of the statement. -/
import Derived.Test.YtjcenencgnfffaaDoorOidMore
namespace Go.Proofs.YtjcenencgnfffaaDoor.Pure
open Go.RowKit Gong Go.Proofs.YtjcenencgnfffaaDoor.OidS Go.Proofs.YtjcenencgnfffaaDoor.XOiC Go.Proofs.YtjcenencgnfffaaDoor.DecS Go.Proofs.YtjcenencgnfffaaDoorW.PrintWords Go.Proofs.YtjcenencgnfffaaDoorW.PrintLast Go.Proofs.YtjcenencgnfffaaDoorW.PrintMore
set_option linter.unusedVariables false
set_option linter.unusedSimpArgs false
theorem child_yes {r : List Int} (hr : isS r = true) (hl : r.length < 128) (n : Int) (h0 : 0 ≤ n) (h1 : n ≤ 4294967295) (k : Nat) (hk : 2000 ≤ k) : oid_Child.f k (Bs (putL r)) n = some (Bs (putL (r ++ [n])), 0) := by
  unfold oid_Child.f
  rw [arcs_of hr k (by omega)]
  simp only [Option.bind_some, if_true]
  rw [if_neg (by omega), if_neg (by omega), if_pos (by omega), text_yes (isS_snoc hr hl n h0 h1) k hk]
  rfl
theorem child_no {r : List Int} (hr : isS r = true) (n : Int) (h1 : 4294967295 < n) (k : Nat) (hk : 2000 ≤ k) : oid_Child.f k (Bs (putL r)) n = some ((⟨#[]⟩ : ByteArray), 1) := by
  unfold oid_Child.f
  rw [arcs_of hr k (by omega)]
  simp only [Option.bind_some, if_true]
  rw [if_neg (by omega), if_pos (by omega)]
theorem in_snoc (r : List Int) (n : Int) : inL r (r ++ [n]) = true ∧ inL (r ++ [n]) r = false := by
  unfold inL
  constructor
  · rw [decide_eq_true]
    refine ⟨by simp, ?_⟩
    rw [List.take_left]
  · rw [decide_eq_false]
    rintro ⟨h, _⟩
    simp at h
    omega
theorem rest_yes {r : List Int} (hr : isS r = true) (hl : r.length < 128) (n : Int) (h0 : 0 ≤ n) (h1 : n ≤ 4294967295) (k : Nat) (hk : 2000 ≤ k) : oid_Rest.f k (Bs (putL r)) (Bs (putL (r ++ [n]))) = some (Bs (Lib.decDigits n.toNat), 0) := by
  have hs := isS_snoc hr hl n h0 h1
  obtain ⟨p1, p2, p3, p4⟩ := isS_parts hr
  obtain ⟨q1, q2, q3, q4⟩ := isS_parts hs
  have hne : r ≠ [] := by rintro rfl; simp at p1
  have hlen := putL_len q3
  unfold oid_Rest.f
  rw [within_of hr hs k hk, (in_snoc r n).1]
  simp only [Option.bind_some, if_true]
  rw [putL_snoc r n hne] at hlen ⊢
  rw [trim_prefix _ _ (by omega)]
  simp only [Option.bind_some]
  have e : Bs (46 :: Lib.decDigits n.toNat) = Bs ([46] ++ Lib.decDigits n.toNat) := rfl
  have e2 : (⟨#[46]⟩ : ByteArray) = Bs [46] := rfl
  rw [e, e2, trim_prefix _ _ (by have := dd_short n.toNat (by omega); simp only [List.length_append, List.length_cons, List.length_nil]; omega)]
  rfl
theorem rest_no {r : List Int} (hr : isS r = true) (hl : r.length < 128) (n : Int) (h0 : 0 ≤ n) (h1 : n ≤ 4294967295) (k : Nat) (hk : 2000 ≤ k) : oid_Rest.f k (Bs (putL (r ++ [n]))) (Bs (putL r)) = some ((⟨#[]⟩ : ByteArray), 60) := by
  have hs := isS_snoc hr hl n h0 h1
  unfold oid_Rest.f
  rw [within_of hs hr k hk, (in_snoc r n).2]
  rfl
theorem last_part {r : List Int} (hr : isS r = true) (hl : r.length ≤ 62) (m n : Int) (hm0 : 0 ≤ m) (hm1 : m ≤ 4294967295) (hn0 : 0 ≤ n) (hn1 : n ≤ 4294967295) (k : Nat) (hk : 2001 ≤ k) :
    gonglaw06_OidChild.j0 k m n (Bs (putL r)) (Bs (putL (r ++ [m]))) (Bs (putL (r ++ [n]))) (Bs (Lib.decDigits m.toNat)) (r ++ [m]) false = some true := by
  obtain ⟨k, rfl⟩ : ∃ q, k = q + 1 := ⟨k - 1, by omega⟩
  have hM := isS_snoc hr (by omega) m hm0 hm1
  have hN := isS_snoc hr (by omega) n hn0 hn1
  obtain ⟨p1, p2, p3, p4⟩ := isS_parts hr
  obtain ⟨q1, q2, q3, q4⟩ := isS_parts hM
  have hne : r ≠ [] := by rintro rfl; simp at p1
  have hlen := putL_len q3
  have hlr : (r ++ [m]).length = r.length + 1 := by simp
  have hps := putL_snoc r m hne
  simp only [gonglaw06_OidChild.j0]
  rw [if_neg (by decide), child_no hr 4294967296 (by omega) k (by omega)]
  simp only [Option.bind_some]
  rw [rest_no hr (by omega) m hm0 hm1 k (by omega)]
  simp only [Option.bind_some]
  rw [within_of hr hM k (by omega), (in_snoc r m).1]
  simp only [Option.bind_some, if_true]
  rw [within_of hM hr k (by omega), (in_snoc r m).2]
  simp only [Option.bind_some]
  rw [if_neg (by decide), less_of hM hN k (by omega)]
  simp only [Option.bind_some]
  have hlt : (lessL (r ++ [m]) (r ++ [n]) == decide (m < n)) = true := by
    rw [beq_iff_eq]
    unfold lessL
    rw [cmpL_snoc]
    by_cases c : m < n
    · rw [if_pos c, decide_eq_true c]; rfl
    · rw [if_neg c, decide_eq_false c]
      by_cases c2 : n < m
      · rw [if_pos c2]; rfl
      · rw [if_neg c2]; rfl
  rw [hlt, if_pos rfl]
  have heq : (((Bs (putL (r ++ [m]))).toList == (Bs (putL (r ++ [n]))).toList) == (m == n)) = true := by
    rw [beq_iff_eq, Bool.eq_iff_iff, beq_iff_eq, beq_iff_eq, toList_L, toList_L, L_Bs, L_Bs]
    constructor
    · intro e
      have := putL_inj hM hN e
      have h2 := List.append_cancel_left this
      injection h2
    · intro e
      rw [e]
  rw [heq, if_pos rfl]
  have hw : wrap64 (((r ++ [m]).length : Int) - 1) = ((r.length : Nat) : Int) := by rw [hlr]; unfold wrap64; omega
  rw [hw, if_pos (by omega), if_pos (by omega)]
  have hrd : rd (r ++ [m]) ((r.length : Nat) : Int) = m := by
    rw [rd_get _ _ (by omega)]
    simp
  rw [hrd, if_pos rfl]
  have s1 : (Bs (putL r)).size = (putL r).length := by rw [← L_len, L_Bs]
  have s2 : (Bs (Lib.decDigits m.toNat)).size = (Lib.decDigits m.toNat).length := by rw [← L_len, L_Bs]
  have hcat : (Bs (putL r) ++ (⟨#[46]⟩ : ByteArray)) ++ Bs (Lib.decDigits m.toNat) = Bs (putL (r ++ [m])) := by
    apply L_inj
    rw [L_Bs, hps]
    simp [L, Bs]
  have s3 : (Bs (putL r) ++ (⟨#[46]⟩ : ByteArray)).size = (putL r).length + 1 := by
    rw [← L_len]
    simp [L, Bs]
  have hd := dd_short m.toNat (by omega)
  rw [hps, List.length_append, List.length_cons] at hlen
  rw [if_pos (by omega), if_pos (by omega), hcat, if_pos rfl, toList_L, if_pos (show L (⟨#[]⟩ : ByteArray) = [] from rfl)]
  rw [if_pos (show L (⟨#[]⟩ : ByteArray) = [] from rfl)]
  rfl
theorem OidChild (l0 : List Int) (a1 a2 : Int) (hl : l0.length ≤ maxLen ∧ l0.length * 8 ≤ 140737488351232 ∧ ∀ x ∈ l0, (Lit.int .i64 x).wf = true) (h1 : (Lit.int .i64 a1).wf = true) (h2 : (Lit.int .i64 a2).wf = true) : ∃ k, gonglaw06_OidChild.f k l0 a1 a2 = some true := by
  obtain ⟨k, hk⟩ : ∃ k : Nat, 3000 ≤ k := ⟨_, Nat.le_refl _⟩
  refine ⟨k, ?_⟩
  obtain ⟨r, e1, hr, hrl⟩ := named_at l0 (by have := hl.2.1; omega) hl.2.2 k (by omega)
  obtain ⟨m, em, hm0, hm1⟩ := below_at a1 4294967296 (wf_i64 h1).1 (wf_i64 h1).2 (by omega) (by omega)
  obtain ⟨n, en, hn0, hn1⟩ := below_at a2 4294967296 (wf_i64 h2).1 (wf_i64 h2).2 (by omega) (by omega)
  have hm2 : m ≤ 4294967295 := by omega
  have hn2 : n ≤ 4294967295 := by omega
  unfold gonglaw06_OidChild.f
  rw [works_at k (by omega)]
  simp only [Option.bind_some, if_true]
  rw [e1]
  simp only [Option.bind_some]
  rw [text_yes hr k (by omega)]
  simp only [Option.bind_some]
  rw [em]
  simp only [Option.bind_some]
  rw [en]
  simp only [Option.bind_some]
  rw [child_yes hr (by omega) m hm0 hm2 k (by omega)]
  simp only [Option.bind_some]
  rw [child_yes hr (by omega) n hn0 hn2 k (by omega)]
  simp only [Option.bind_some]
  rw [rest_yes hr (by omega) m hm0 hm2 k (by omega)]
  simp only [Option.bind_some]
  rw [arcs_of (isS_snoc hr (by omega) m hm0 hm2) k (by omega)]
  simp only [Option.bind_some, if_true]
  have hz : (((r ++ [m]).length : Int) == 0) = false := by
    rw [beq_eq_false_iff_ne]
    simp
    omega
  rw [hz]
  exact last_part hr hrl m n hm0 hm2 hn0 hn2 k (by omega)
end Go.Proofs.YtjcenencgnfffaaDoor.Pure
