/- 'gonglaw05.BerCanon': what the printed function answers is true. -/
import Derived.Test.YteidlffajcogcaaBerBasic
import Derived.Test.YteidlffajcogcaaBerFix
namespace Go.Proofs.Yteidlffajcogcaa.Pure
open Go.RowKit Gong Go.Proofs.Yteidlffajcogcaa.XBer Go.Proofs.Yteidlffajcogcaa.BerS Go.Proofs.YteidlffajcogcaaW.PrintWords Go.Proofs.YteidlffajcogcaaW.PrintLast Go.Proofs.YteidlffajcogcaaW.PrintMore
set_option linter.unusedVariables false
set_option linter.unusedSimpArgs false
/-- What stands open, the innermost first. -/
def stk : List (List UInt8) → List ByteArray
  | [] => []
  | y :: ys => stk ys ++ [Bs y]
theorem stk_len : ∀ ys, (stk ys).length = ys.length
  | [] => rfl
  | y :: ys => by simp [stk, stk_len ys]
theorem stk_rd (y : List UInt8) (ys : List (List UInt8)) : rdOf ByteArray.empty (stk (y :: ys)) (ys.length : Int) = Bs y := by
  unfold rdOf
  rw [Int.toNat_natCast, ← stk_len ys]
  show (stk ys ++ [Bs y]).getD _ _ = _
  simp
theorem stk_set (y z : List UInt8) (ys : List (List UInt8)) : (stk (y :: ys)).set ys.length (Bs z) = stk (z :: ys) := by
  rw [← stk_len ys]
  show (stk ys ++ [Bs y]).set _ _ = stk ys ++ [Bs z]
  simp
theorem stk_take (y : List UInt8) (ys : List (List UInt8)) : (stk (y :: ys)).take ys.length = stk ys := by
  rw [← stk_len ys]
  show (stk ys ++ [Bs y]).take _ = _
  simp
inductive St : List (List UInt8) → Nat → Prop
  | nil : St [] 0
  | cons (n : Nat) (y : List UInt8) (ys : List (List UInt8)) (T : Nat) : C n y → n + ys.length ≤ 12 → St ys T → St (y :: ys) (T + y.length)
theorem Bs_app (a b : List UInt8) : Bs a ++ Bs b = Bs (a ++ b) := by apply L_inj; rw [L_append, L_Bs, L_Bs, L_Bs]
theorem enc_small (t : Nat) (b : List UInt8) (h : b.length ≤ 100000) : (enc t b).length ≤ b.length + 6 := by
  have h1 := enc_len t b
  have h2 := lenEnc_len b.length
  have h3 := (nby_le b.length (by omega)).2.1
  split at h2 <;> omega
theorem box48 {n : Nat} {y : List UInt8} (h : C n y) (hl : y.length ≤ 100000) : C (n + 1) (enc 48 y) := by
  have := C.box 48 n 0 y [] (by decide) (by decide) (by decide) (by omega) h C.nil
  rw [List.append_nil, Nat.max_eq_left (by omega)] at this
  exact this
theorem leaf4 (y : List UInt8) (hl : y.length ≤ 100000) : C 1 (enc 4 y) := by
  have := C.leaf 4 0 y [] (by decide) (by decide) (by decide) (by omega) C.nil
  rw [List.append_nil, Nat.max_eq_left (by omega)] at this
  exact this
/-- The innermost is closed. -/
theorem St.pop {y z : List UInt8} {ys : List (List UInt8)} {T : Nat} (h : St (y :: z :: ys) T) (hT : T ≤ 90000) : ∃ T', St ((z ++ enc 48 y) :: ys) T' ∧ T' ≤ T + 6 := by
  cases h with
  | cons n _ _ T h1 h2 h3 =>
    cases h3 with
    | cons m _ _ T h4 h5 h6 =>
      simp only [List.length_cons] at h2
      have he := enc_small 48 y (by omega)
      refine ⟨T + (z ++ enc 48 y).length, St.cons _ _ _ _ (C.app h4 (box48 h1 (by omega))) (by omega) h6, ?_⟩
      rw [List.length_append]
      omega
theorem St.add {y b : List UInt8} {ys : List (List UInt8)} {T : Nat} (h : St (y :: ys) T) (hb : b.length ≤ 200) (hy : ys.length ≤ 11) : ∃ T', St ((y ++ enc 4 b) :: ys) T' ∧ T' ≤ T + 206 := by
  cases h with
  | cons n _ _ T h1 h2 h3 =>
    have he := enc_small 4 b (by omega)
    refine ⟨T + (y ++ enc 4 b).length, St.cons _ _ _ _ (C.app h1 (leaf4 b (by omega))) (by omega) h3, ?_⟩
    rw [List.length_append]
    omega
theorem St.top {y : List UInt8} {ys : List (List UInt8)} {T : Nat} (h : St (y :: ys) T) : y.length ≤ T := by
  cases h; omega
theorem l1_eq : ∀ (ys : List (List UInt8)) (y : List UInt8) (T k : Nat), St (y :: ys) T → ys.length ≤ 11 → T + 6 * ys.length ≤ 80000 → ys.length + 6 ≤ k →
    ∃ (n : Nat) (o : List UInt8), gonglaw05_grown.l1 k (stk (y :: ys)) = some (Bs (enc 48 o)) ∧ C n o ∧ n ≤ 12 ∧ o.length ≤ 80000
  | [], y, T, k, h, hy, hT, hk => by
    obtain ⟨k, rfl⟩ : ∃ m, k = m + 1 := ⟨k - 1, by omega⟩
    simp only [List.length_nil] at hk hT
    have ht := h.top
    cases h with
    | cons n _ _ T h1 h2 h3 =>
      refine ⟨n, y, ?_, h1, by simp only [List.length_nil] at h2; omega, by omega⟩
      simp only [gonglaw05_grown.l1]
      have hr := stk_rd y []
      rw [show ((([] : List (List UInt8)).length : Nat) : Int) = 0 from rfl] at hr
      rw [if_neg (by rw [stk_len]; simp), if_pos (by rw [stk_len]; simp), hr, show (48 : Int) = ((48 : Nat) : Int) from rfl, wrap_at 48 y (by decide) (by decide) (by omega) k (by omega)]
      rfl
  | z :: ys, y, T, k, h, hy, hT, hk => by
    obtain ⟨k, rfl⟩ : ∃ m, k = m + 1 := ⟨k - 1, by omega⟩
    simp only [List.length_cons] at hk hT hy
    have ht := h.top
    obtain ⟨T', h', hT'⟩ := h.pop (by omega)
    obtain ⟨n, o, e, r⟩ := l1_eq ys (z ++ enc 48 y) T' k h' (by omega) (by omega) (by omega)
    refine ⟨n, o, ?_, r⟩
    simp only [gonglaw05_grown.l1]
    have hr := stk_rd y (z :: ys)
    have hr2 := stk_rd z ys
    have ht2 := stk_take y (z :: ys)
    have hs2 := stk_set z (z ++ enc 48 y) ys
    have hlen : ((stk (y :: z :: ys)).length : Int) = (ys.length : Int) + 2 := by rw [stk_len]; simp only [List.length_cons]; omega
    have hw1 : wrap64 ((ys.length : Int) + 2 - 1) = ((z :: ys).length : Int) := by rw [wrap_id (by omega) (by omega)]; simp only [List.length_cons]; omega
    have hw2 : wrap64 (((z :: ys).length : Int) - 1) = (ys.length : Int) := by simp only [List.length_cons]; rw [wrap_id (by omega) (by omega)]; omega
    have he := enc_small 48 y (by omega)
    rw [hlen, if_pos (by omega), hw1, if_pos (by simp only [List.length_cons]; omega), if_pos (by simp only [List.length_cons]; omega), hr, show (48 : Int) = ((48 : Nat) : Int) from rfl, wrap_at 48 y (by decide) (by decide) (by omega) k (by omega)]
    simp only [Option.bind_some]
    rw [if_pos (by simp only [List.length_cons]; omega), Int.toNat_natCast, ht2, hw2, if_pos (by omega), if_pos (by rw [stk_len]; simp only [List.length_cons]; omega), hr2, Int.toNat_natCast, Bs_app, hs2]
    have ht3 := h'.top
    rw [List.length_append] at ht3
    rw [if_pos (by rw [size_Bs, size_Bs]; omega)]
    exact e
theorem rep_eq (m : Nat) (h : m < 200) : strings_Repeat.f ⟨#[120]⟩ (m : Int) = some (Bs (Lib.repeatL [120] m)) := by
  unfold strings_Repeat.f
  have hs : (⟨#[120]⟩ : ByteArray).size = 1 := rfl
  rw [if_pos ⟨by omega, by omega, by rw [hs]; omega⟩, Int.toNat_natCast]
  rfl
theorem rd_wf (x0 : List Int) (hx : ∀ x ∈ x0, (Lit.int .i64 x).wf = true) (i : Nat) (h : i < x0.length) : (Lit.int .i64 (rd x0 (i : Int))).wf = true := by
  have e : rd x0 (i : Int) = x0[i] := by
    unfold rd
    rw [Int.toNat_natCast]
    simp [h]
  rw [e]
  exact hx _ (List.getElem_mem h)
theorem grown_eq (x0 : List Int) (hx : ∀ x ∈ x0, (Lit.int .i64 x).wf = true) : ∀ (r i : Nat) (ys : List (List UInt8)) (y : List UInt8) (T k : Nat), r + i = 60 → St (y :: ys) T → ys.length ≤ 11 → T ≤ 210 * i → 4 * r + 40 ≤ k →
    ∃ (n : Nat) (o : List UInt8), gonglaw05_grown.l0 k x0 (stk (y :: ys)) (i : Int) = some (Bs (enc 48 o)) ∧ C n o ∧ n ≤ 12 ∧ o.length ≤ 80000 := by
  have last : ∀ (i : Nat) (ys : List (List UInt8)) (y : List UInt8) (T k : Nat), i ≤ 60 → St (y :: ys) T → ys.length ≤ 11 → T ≤ 210 * i → 30 ≤ k →
      ∃ (n : Nat) (o : List UInt8), gonglaw05_grown.j1 k x0 (stk (y :: ys)) (i : Int) false = some (Bs (enc 48 o)) ∧ C n o ∧ n ≤ 12 ∧ o.length ≤ 80000 := by
    intro i ys y T k hi h hy hT hk
    obtain ⟨k, rfl⟩ : ∃ m, k = m + 1 := ⟨k - 1, by omega⟩
    simp only [gonglaw05_grown.j1]
    rw [if_neg (by decide)]
    exact l1_eq ys y T k h hy (by omega) (by omega)
  intro r
  induction r with
  | zero =>
    intro i ys y T k hi h hy hT hk
    obtain ⟨k, rfl⟩ : ∃ m, k = m + 1 := ⟨k - 1, by omega⟩
    simp only [gonglaw05_grown.l0]
    have hd : decide ((i : Int) < 60) = false := decide_eq_false (by omega)
    rw [hd]
    have := last i ys y T k (by omega) h hy hT (by omega)
    split <;> exact this
  | succ r ih =>
    intro i ys y T k hi h hy hT hk
    obtain ⟨k, rfl⟩ : ∃ m, k = m + 4 := ⟨k - 4, by omega⟩
    have hw : wrap64 ((i : Int) + 1) = ((i + 1 : Nat) : Int) := by rw [wrap_id (by omega) (by omega)]; omega
    have hlen : ((stk (y :: ys)).length : Int) = (ys.length : Int) + 1 := by rw [stk_len]; simp only [List.length_cons]; omega
    have hlenN : (stk (y :: ys)).length = ys.length + 1 := by rw [stk_len]; rfl
    have hw1 : wrap64 (((stk (y :: ys)).length : Int) - 1) = (ys.length : Int) := by rw [hlen, wrap_id (by omega) (by omega)]; omega
    simp only [gonglaw05_grown.l0]
    by_cases hi0 : (i : Int) < (x0.length : Int)
    · have hd : decide ((i : Int) < 60) = true := decide_eq_true (by omega)
      have hwf := wf_i64 (rd_wf x0 hx i (by omega))
      obtain ⟨m, hm, hm5⟩ := below_at (rd x0 (i : Int)) 5 hwf.1 hwf.2 (by omega) (by omega)
      obtain ⟨m2, hm2, hm200⟩ := below_at (rd x0 (i : Int)) 200 hwf.1 hwf.2 (by omega) (by omega)
      rw [show ((5 : Nat) : Int) = 5 from rfl] at hm
      rw [show ((200 : Nat) : Int) = 200 from rfl] at hm2
      have hx3 : (rdOf ByteArray.empty (stk (y :: ys)) (ys.length : Int)) = Bs y := stk_rd y ys
      have ht := h.top
      -- a leaf is added
      have leaf : ∃ (n : Nat) (o : List UInt8), gonglaw05_grown.j3 (k + 1) x0 (stk (y :: ys)) (i : Int) (ys.length : Int) false = some (Bs (enc 48 o)) ∧ C n o ∧ n ≤ 12 ∧ o.length ≤ 80000 := by
        have hrl : (Lib.repeatL [120] m2).length = m2 := by rw [Lib.repeatL_length]; simp
        obtain ⟨T', h', hT'⟩ := h.add (b := Lib.repeatL [120] m2) (by omega) hy
        obtain ⟨n, o, e, rest⟩ := ih (i + 1) ys (y ++ enc 4 (Lib.repeatL [120] m2)) T' k (by omega) h' hy (by omega) (by omega)
        refine ⟨n, o, ?_, rest⟩
        have he := enc_small 4 (Lib.repeatL [120] m2) (by omega)
        simp only [gonglaw05_grown.j3]
        rw [if_neg (by decide), if_pos (by omega), if_pos hi0, hm2]
        simp only [Option.bind_some]
        rw [rep_eq m2 hm200]
        simp only [Option.bind_some]
        rw [show (4 : Int) = ((4 : Nat) : Int) from rfl, wrap_at 4 _ (by decide) (by decide) (by omega) k (by omega)]
        simp only [Option.bind_some]
        rw [if_pos (by omega), if_pos (by rw [hlen]; omega), hx3, if_pos (by rw [size_Bs, size_Bs]; omega), hw, Int.toNat_natCast, Bs_app, stk_set]
        exact e
      have body : ∀ q : Int, ∀ p : Bool, (p = true → ys.length + 1 < 12) → ∃ (n : Nat) (o : List UInt8), gonglaw05_grown.j2 (k + 2) x0 (stk (y :: ys)) (i : Int) (ys.length : Int) q p = some (Bs (enc 48 o)) ∧ C n o ∧ n ≤ 12 ∧ o.length ≤ 80000 := by
        intro q p hp
        simp only [gonglaw05_grown.j2]
        cases p with
        | true =>
          have hp := hp rfl
          obtain ⟨n, o, e, rest⟩ := ih (i + 1) (y :: ys) [] T (k + 1) (by omega) (St.cons 0 [] (y :: ys) T C.nil (by simp only [List.length_cons]; omega) h) (by simp only [List.length_cons]; omega) (by omega) (by omega)
          refine ⟨n, o, ?_, rest⟩
          rw [if_pos rfl, if_pos (by omega), hw]
          exact e
        | false =>
          rw [if_neg (by decide)]
          by_cases hq : q = 1
          · rw [if_pos hq]
            by_cases hz : (ys.length : Int) > 0
            · rw [decide_eq_true hz]
              cases ys with
              | nil => simp at hz
              | cons z ys =>
                obtain ⟨T', h', hT'⟩ := h.pop (by omega)
                simp only [List.length_cons] at hy hlen hlenN hz
                obtain ⟨n, o, e, rest⟩ := ih (i + 1) ys (z ++ enc 48 y) T' k (by omega) h' (by omega) (by omega) (by omega)
                refine ⟨n, o, ?_, rest⟩
                have hr2 := stk_rd z ys
                have ht2 := stk_take y (z :: ys)
                have hs2 := stk_set z (z ++ enc 48 y) ys
                have hw2 : wrap64 (((z :: ys).length : Int) - 1) = (ys.length : Int) := by simp only [List.length_cons]; rw [wrap_id (by omega) (by omega)]; omega
                have he := enc_small 48 y (by omega)
                have ht3 := h'.top
                rw [List.length_append] at ht3
                simp only [gonglaw05_grown.j3]
                rw [if_pos trivial, if_pos (by omega), if_pos (by rw [hlen]; simp only [List.length_cons]; omega), hx3, show (48 : Int) = ((48 : Nat) : Int) from rfl, wrap_at 48 y (by decide) (by decide) (by omega) k (by omega)]
                simp only [Option.bind_some]
                rw [if_pos (by rw [hlen]; simp only [List.length_cons]; omega), Int.toNat_natCast, ht2, hw2, if_pos (by omega), if_pos (by rw [stk_len]; simp only [List.length_cons]; omega), hr2, Int.toNat_natCast, Bs_app, hs2, hw]
                rw [if_pos (by rw [size_Bs, size_Bs]; omega)]
                exact e
            · rw [decide_eq_false hz]
              exact leaf
          · rw [if_neg hq]
            exact leaf
      rw [if_pos hi0, hd]
      simp only [gonglaw05_grown.j1]
      rw [if_pos trivial, if_pos (by omega), if_pos hi0, hm]
      simp only [Option.bind_some]
      rw [hw1]
      by_cases h0 : (m : Int) = 0
      · rw [if_pos h0]
        exact body _ _ (fun hp => by have := of_decide_eq_true hp; omega)
      · rw [if_neg h0]
        exact body _ _ (fun hp => by simp at hp)
    · rw [if_neg hi0]
      exact last i ys y T (k + 3) (by omega) h hy hT (by omega)
theorem main (a0 : ByteArray) : ∃ K, ∀ k, K ≤ k → gonglaw05_BerCanon.j0 (k + 1) a0 false = some true := by
  by_cases hb : (a0.size : Int) > 3000
  · refine ⟨0, fun k _ => ?_⟩
    simp only [gonglaw05_BerCanon.j0]
    rw [if_neg (by decide), if_pos hb]
  · obtain ⟨K1, h1⟩ := walk_at a0 (by omega)
    rcases walkS_or (L a0) with ⟨e, he, hne⟩ | ⟨o, n, ho, hoo, hl, hn1, hn2⟩
    · refine ⟨K1, fun k hk => ?_⟩
      simp only [gonglaw05_BerCanon.j0]
      rw [if_neg (by decide), if_neg hb]
      unfold ber_Canon.f ber_Deep.f
      rw [h1 k hk, he]
      simp only [Option.bind_some]
      rw [if_neg hne, if_pos trivial, if_pos (by rw [toList_L, L_Bs])]
      rfl
    · rw [← size_L] at hl
      obtain ⟨K2, h2⟩ := walk_at (Bs o) (by rw [size_Bs]; omega)
      refine ⟨K1 + K2, fun k hk => ?_⟩
      simp only [gonglaw05_BerCanon.j0]
      rw [if_neg (by decide), if_neg hb]
      unfold ber_Canon.f ber_Deep.f
      rw [h1 k (by omega), ho]
      simp only [Option.bind_some]
      rw [h2 k (by omega), L_Bs, hoo]
      simp only [Option.bind_some, if_true]
      rw [if_pos (by rw [size_Bs]; omega)]
      simp
theorem BerCanon : gonglaw05_BerCanon.Pure := by
  intro a0 l1 ha hl1 hl2 hx
  obtain ⟨K1, hw⟩ := works_at
  obtain ⟨K2, hm⟩ := main a0
  obtain ⟨n, o, hg, hC, hn, ho⟩ := grown_eq l1 hx 60 0 [] [] 0 280 (by omega) (St.cons 0 [] [] 0 C.nil (by simp) St.nil) (by simp) (by omega) (by omega)
  have hg' : ∀ k, 280 ≤ k → gonglaw05_grown.f k l1 = some (Bs (enc 48 o)) := by
    intro k hk
    exact leo_le (fun k => gonglaw05_grown.mono l1 k) hk hg
  have he := enc_small 48 o (by omega)
  obtain ⟨K3, h3⟩ := walk_at (Bs (enc 48 o)) (by rw [size_Bs]; omega)
  have hne : nextS (enc 48 o) = some (48, o, []) := by
    have := next_enc 48 o [] (by decide) (by decide) (by omega)
    rw [List.append_nil] at this
    exact this
  have hws := walkS_C (box48 hC (by omega)) (by omega) hne
  refine ⟨K1 + K2 + K3 + 280 + 1, ?_⟩
  unfold gonglaw05_BerCanon.f
  rw [hw _ (by omega)]
  simp only [Option.bind_some]
  rw [if_pos trivial, hg' _ (by omega)]
  simp only [Option.bind_some]
  unfold ber_Canon.f ber_Deep.f
  rw [h3 _ (by omega), L_Bs, hws]
  simp only [Option.bind_some, if_true]
  rw [if_neg (by omega), decide_eq_false (by omega)]
  exact hm _ (by omega)
end Go.Proofs.Yteidlffajcogcaa.Pure
