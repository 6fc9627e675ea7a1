/- 'gonglaw05.BerBack': what the printed function answers is true. -/
import Derived.Test.YteidlffajcogcaaBerBasic
import Derived.Test.YteidlffajcogcaaBerNum
namespace Go.Proofs.Yteidlffajcogcaa.Pure
open Go.RowKit Gong Go.Proofs.Yteidlffajcogcaa.XBer Go.Proofs.Yteidlffajcogcaa.BerS Go.Proofs.YteidlffajcogcaaW.PrintWords Go.Proofs.YteidlffajcogcaaW.PrintLast Go.Proofs.YteidlffajcogcaaW.PrintMore
set_option linter.unusedVariables false
set_option linter.unusedSimpArgs false
/-- The elements one after the other, and as they are told. -/
def row (b : List UInt8) : List Nat → List UInt8
  | [] => []
  | t :: ts => enc t b ++ row b ts
def told (b : List UInt8) (ts : List Nat) : List S67 := ts.map fun t : Nat => (⟨(t : Int), Bs b⟩ : S67)
theorem row_snoc (b : List UInt8) (t : Nat) : ∀ ts, row b (ts ++ [t]) = row b ts ++ enc t b
  | [] => by simp [row]
  | x :: ts => by simp [row, row_snoc b t ts]
theorem told_snoc (b : List UInt8) (t : Nat) (ts : List Nat) : told b (ts ++ [t]) = told b ts ++ [⟨(t : Int), Bs b⟩] := by simp [told]
def Tag (t : Nat) : Prop := t < 256 ∧ t % 32 ≠ 31
theorem Bs_app (a b : List UInt8) : Bs a ++ Bs b = Bs (a ++ b) := by apply L_inj; rw [L_append, L_Bs, L_Bs, L_Bs]
theorem enc_small (t : Nat) (b : List UInt8) (h : b.length ≤ 100000) : (enc t b).length ≤ b.length + 6 := by
  have h1 := enc_len t b
  have h2 := lenEnc_len b.length
  have h3 := (nby_le b.length (by omega)).2.1
  split at h2 <;> omega
theorem row_len (b : List UInt8) (hb : b.length ≤ 300) : ∀ ts : List Nat, (row b ts).length ≤ 306 * ts.length
  | [] => by simp [row]
  | t :: ts => by
    have := row_len b hb ts
    have := enc_small t b (by omega)
    simp only [row, List.length_append, List.length_cons]
    omega
theorem parts_eq (b : List UInt8) (hb : b.length ≤ 300) : ∀ (ts : List Nat) (acc : List S67) (k : Nat), (∀ t ∈ ts, Tag t) → acc.length + ts.length ≤ 40 → ts.length + 2 ≤ k → ber_Parts.l0 k (Bs (row b ts)) acc = some (acc ++ told b ts, 0)
  | [], acc, k, ht, hl, hk => by
    obtain ⟨k, rfl⟩ : ∃ m, k = m + 1 := ⟨k - 1, by omega⟩
    simp only [ber_Parts.l0]
    rw [toList_L, L_Bs, if_pos (show row b [] = [] from rfl)]
    simp [told]
  | t :: ts, acc, k, ht, hl, hk => by
    simp only [List.length_cons] at hl hk
    obtain ⟨k, rfl⟩ : ∃ m, k = m + 1 := ⟨k - 1, by omega⟩
    have hr := row_len b hb (t :: ts)
    simp only [List.length_cons] at hr
    have h1 := ht t (by simp)
    simp only [ber_Parts.l0]
    rw [toList_L, L_Bs, if_neg (show ¬ row b (t :: ts) = [] from by simp [row, enc]), next_eq k (by omega) _ (by rw [size_Bs]; omega), L_Bs]
    have hn : nextS (row b (t :: ts)) = some (t, b, row b ts) := next_enc t b (row b ts) h1.1 h1.2 (by omega)
    rw [hn]
    simp only [Option.bind_some, if_true]
    rw [if_neg (by omega), if_pos (by omega), parts_eq b hb ts _ k (fun t h => ht t (by simp [h])) (by simp; omega) (by omega)]
    simp [told]
theorem same (b : List UInt8) (a2 : Int) (ts : List Nat) (h0 : -9223372036854775808 ≤ a2) (h1 : a2 ≤ 9223372036854775807) (hts : ts.length ≤ 40) : ∀ (r i k : Nat), r + i = ts.length → r + 20 ≤ k →
    gonglaw05_BerBack.l1 k a2 (told b ts) (told b ts) ((told b ts).length : Int) (i : Int) = some true := by
  have hlen : (told b ts).length = ts.length := by simp [told]
  intro r
  induction r with
  | zero =>
    intro i k hi hk
    obtain ⟨k, rfl⟩ : ∃ m, k = m + 1 := ⟨k - 1, by omega⟩
    simp only [gonglaw05_BerBack.l1]
    have e : IntKind.u64.wrap a2 = a2 % 18446744073709551616 := by
      simp [IntKind.wrap, IntKind.bits, IntKind.signed]
    rw [if_neg (by rw [hlen]; omega), putN a2 k (by omega)]
    simp only [Option.bind_some]
    rw [number_back a2 h0 h1]
    simp only [Option.bind_some]
    rw [e, putU _ k (by omega)]
    simp only [Option.bind_some]
    rw [unsigned_back _ (by omega) (by omega)]
    simp
  | succ r ih =>
    intro i k hi hk
    obtain ⟨k, rfl⟩ : ∃ m, k = m + 1 := ⟨k - 1, by omega⟩
    simp only [gonglaw05_BerBack.l1]
    rw [if_pos (by rw [hlen]; omega), if_pos (by omega), if_pos (by rw [hlen]; omega), if_pos (by rw [hlen]; omega), if_neg (by simp), wrap_id (by omega) (by omega), show (i : Int) + 1 = ((i + 1 : Nat) : Int) from by omega]
    exact ih (i + 1) k (by omega) (by omega)
theorem rd_wf (x0 : List Int) (hx : ∀ x ∈ x0, (Lit.int .i64 x).wf = true) (i : Nat) (h : i < x0.length) : (Lit.int .i64 (rd x0 (i : Int))).wf = true := by
  have e : rd x0 (i : Int) = x0[i] := by
    unfold rd
    rw [Int.toNat_natCast]
    simp [h]
  rw [e]
  exact hx _ (List.getElem_mem h)
theorem loop (x0 : List Int) (hx : ∀ x ∈ x0, (Lit.int .i64 x).wf = true) (hx30 : x0.length ≤ 30) (b : List UInt8) (hb : b.length ≤ 300) (a2 : Int) (h0 : -9223372036854775808 ≤ a2) (h1 : a2 ≤ 9223372036854775807) :
    ∀ (r i k : Nat) (ts : List Nat), r + i = x0.length → ts.length = i → (∀ t ∈ ts, Tag t) → 2 * r + 80 ≤ k → gonglaw05_BerBack.l0 k (Bs b) a2 (Bs (row b ts)) (told b ts) x0 (x0.length : Int) (i : Int) = some true := by
  intro r
  induction r with
  | zero =>
    intro i k ts hi hl ht hk
    obtain ⟨k, rfl⟩ : ∃ m, k = m + 2 := ⟨k - 2, by omega⟩
    have hr := row_len b hb ts
    simp only [gonglaw05_BerBack.l0]
    unfold ber_Parts.f
    rw [if_neg (by omega), parts_eq b hb ts [] (k + 1) ht (by simp; omega) (by omega)]
    simp only [Option.bind_some, if_true, List.nil_append]
    have e : (((told b ts).length : Int) != ((told b ts).length : Int)) = false := by simp
    rw [e]
    simp only [gonglaw05_BerBack.j3]
    rw [if_neg (by decide)]
    exact same b a2 ts h0 h1 (by omega) ts.length 0 k (by omega) (by omega)
  | succ r ih =>
    intro i k ts hi hl ht hk
    obtain ⟨k, rfl⟩ : ∃ m, k = m + 2 := ⟨k - 2, by omega⟩
    have hr := row_len b hb ts
    have hlen : (told b ts).length = ts.length := by simp [told]
    have hwf := wf_i64 (rd_wf x0 hx i (by omega))
    obtain ⟨m, hm, hm5⟩ := below_at (rd x0 (i : Int)) 256 hwf.1 hwf.2 (by omega) (by omega)
    rw [show ((256 : Nat) : Int) = 256 from rfl] at hm
    have body : ∀ t : Nat, Tag t → gonglaw05_BerBack.j2 (k + 1) (Bs b) a2 (Bs (row b ts)) (told b ts) (t : Int) x0 (x0.length : Int) (i : Int) = some true := by
      intro t htg
      have he := enc_small t b (by omega)
      simp only [gonglaw05_BerBack.j2]
      rw [wrap_at t b htg.1 htg.2 (by omega) k (by omega)]
      simp only [Option.bind_some]
      rw [if_pos (by rw [size_Bs, size_Bs]; omega), Bs_app, next_eq k (by omega) _ (by rw [size_Bs, List.length_append]; omega), L_Bs, next_enc t b b htg.1 htg.2 (by omega)]
      simp only [Option.bind_some, if_true]
      rw [if_pos (by rw [size_Bs, size_Bs]; omega), if_pos (by rw [hlen]; omega), Bs_app, ← row_snoc, ← told_snoc, wrap_id (by omega) (by omega), show (i : Int) + 1 = ((i + 1 : Nat) : Int) from by omega]
      refine ih (i + 1) k (ts ++ [t]) (by omega) (by simp; omega) ?_ (by omega)
      intro x hx
      rcases List.mem_append.mp hx with h | h
      · exact ht x h
      · rw [List.mem_singleton.mp h]; exact htg
    simp only [gonglaw05_BerBack.l0]
    rw [if_pos (by omega), if_pos (by omega), if_pos (by omega), hm]
    simp only [Option.bind_some]
    by_cases h31 : m % 32 = 31
    · rw [if_pos (by rw [Int.tmod_eq_emod_of_nonneg (by omega)]; omega), wrap_id (by omega) (by omega), show (m : Int) - 1 = ((m - 1 : Nat) : Int) from by omega]
      exact body (m - 1) ⟨by omega, by omega⟩
    · rw [if_neg (by rw [Int.tmod_eq_emod_of_nonneg (by omega)]; omega)]
      exact body m ⟨by omega, h31⟩
theorem BerBack : gonglaw05_BerBack.Pure := by
  intro l0 a1 a2 hl hl8 hx ha1 ha2
  obtain ⟨K1, hw⟩ := works_at
  have hwf := wf_i64 ha2
  refine ⟨K1 + 300, ?_⟩
  unfold gonglaw05_BerBack.f
  rw [hw _ (by omega)]
  simp only [Option.bind_some]
  rw [if_pos trivial]
  obtain ⟨k, hk⟩ : ∃ k, K1 + 300 = k + 1 := ⟨K1 + 299, rfl⟩
  rw [hk]
  by_cases hb : (a1.size : Int) > 300
  · rw [if_pos hb]
    simp only [gonglaw05_BerBack.j0]
    rw [if_pos trivial]
  · rw [if_neg hb]
    by_cases h30 : (l0.length : Int) > 30
    · rw [decide_eq_true h30]
      simp only [gonglaw05_BerBack.j0]
      rw [if_pos trivial]
    · rw [decide_eq_false h30]
      simp only [gonglaw05_BerBack.j0]
      rw [if_neg (by decide)]
      have := loop l0 hx (by omega) (L a1) (by rw [← size_L]; omega) a2 hwf.1 hwf.2 l0.length 0 k [] (by omega) rfl (by simp) (by omega)
      rw [Bs_L] at this
      exact this
end Go.Proofs.Yteidlffajcogcaa.Pure
