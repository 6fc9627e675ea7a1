/- Layer 5: the walk through an element's parts, by recursion; the walk with a stack answers the same. -/
import Derived.Test.YteidlffajcogcaaBerPut
import Derived.Test.YteidlffajcogcaaXBerx9
namespace Go.Proofs.Yteidlffajcogcaa.BerS
open Go.RowKit Gong Go.Proofs.Yteidlffajcogcaa.XBer Go.Proofs.YteidlffajcogcaaW.PrintWords Go.Proofs.YteidlffajcogcaaW.PrintLast Go.Proofs.YteidlffajcogcaaW.PrintMore
set_option linter.unusedVariables false
set_option linter.unusedSimpArgs false
/-- Is an element made of parts? -/
def made (t : Nat) : Bool := t / 32 % 2 == 1
theorem made_all : ∀ t : Fin 256, ((Go.bits .and .i64 ((t.val : Nat) : Int) 32) != 0) = made t.val := by decide +kernel
theorem made_eq (t : Nat) (h : t < 256) (b : ByteArray) : ber_Part_made.f (t : Int) b = some (made t) := by
  unfold ber_Part_made.f
  exact congrArg some (made_all ⟨t, h⟩)
/-- The walk: shortest forms, how deep; d: how many are open. -/
def walkR : Nat → Nat → List UInt8 → Except Int (List UInt8 × Nat)
  | 0, _, _ => .error 0
  | f + 1, d, l =>
    if l = [] then .ok ([], 0) else
    match nextS l with
    | none => .error 50
    | some (t, b, r) =>
      if 32 < d then .error 51 else
      match (if made t = true then (match walkR f (d + 1) b with | .error e => .error e | .ok (o, n) => .ok (enc t o, n + 1)) else .ok (enc t b, 1) : Except Int (List UInt8 × Nat)) with
      | .error e => .error e
      | .ok (o1, n1) =>
        match walkR f d r with
        | .error e => .error e
        | .ok (o2, n2) => .ok (o1 ++ o2, max n1 n2)
theorem lenEnc_mono {m n : Nat} (h : m ≤ n) (hn : n < 4294967296) : (lenEnc m).length ≤ (lenEnc n).length := by
  rw [lenEnc_len, lenEnc_len]
  unfold nby
  repeat' split
  all_goals omega
theorem lenS_min {l : List UInt8} {n g : Nat} (h : lenS l = some (n, g)) : n < 4294967296 ∧ (lenEnc n).length ≤ g := by
  cases l with
  | nil => exact absurd h (by simp [lenS])
  | cons b l =>
    simp only [lenS] at h
    have hb := b.toNat_lt
    by_cases h1 : b.toNat < 128
    · rw [if_pos h1] at h
      simp only [Option.some.injEq, Prod.mk.injEq] at h
      obtain ⟨rfl, rfl⟩ := h
      rw [lenEnc_len, if_pos h1]; omega
    · rw [if_neg h1] at h
      by_cases h2 : b.toNat = 128 ∨ 132 < b.toNat
      · rw [if_pos h2] at h; simp at h
      · rw [if_neg h2] at h
        by_cases h3 : l.length < b.toNat - 128
        · rw [if_pos h3] at h; simp at h
        · rw [if_neg h3] at h
          simp only [Option.some.injEq, Prod.mk.injEq] at h
          obtain ⟨rfl, rfl⟩ := h
          have hlt := beN_lt (l.take (b.toNat - 128))
          have hk : (l.take (b.toNat - 128)).length = b.toNat - 128 := by rw [List.length_take]; omega
          rw [hk] at hlt
          obtain ⟨j, hj⟩ : ∃ j, b.toNat - 128 = j := ⟨_, rfl⟩
          rw [hj] at hlt ⊢
          have hj' : j = 1 ∨ j = 2 ∨ j = 3 ∨ j = 4 := by omega
          have p1 : 256 ^ 1 = 256 := rfl
          have p2 : 256 ^ 2 = 65536 := rfl
          have p3 : 256 ^ 3 = 16777216 := rfl
          have p4 : 256 ^ 4 = 4294967296 := rfl
          rw [lenEnc_len]
          unfold nby
          rcases hj' with rfl | rfl | rfl | rfl
          · rw [p1] at hlt; refine ⟨by omega, ?_⟩; repeat' split
            all_goals omega
          · rw [p2] at hlt; refine ⟨by omega, ?_⟩; repeat' split
            all_goals omega
          · rw [p3] at hlt; refine ⟨by omega, ?_⟩; repeat' split
            all_goals omega
          · rw [p4] at hlt; refine ⟨by omega, ?_⟩; repeat' split
            all_goals omega
theorem next_len {l : List UInt8} {t : Nat} {b r : List UInt8} (h : nextS l = some (t, b, r)) : t < 256 ∧ t % 32 ≠ 31 ∧ b.length < 4294967296 ∧ (enc t b).length + r.length ≤ l.length ∧ b.length + r.length + 2 ≤ l.length := by
  cases l with
  | nil => exact absurd h (by simp [nextS])
  | cons x l =>
    simp only [nextS] at h
    have hx := x.toNat_lt
    by_cases h1 : x.toNat % 32 = 31
    · rw [if_pos h1] at h; simp at h
    · rw [if_neg h1] at h
      cases hl : lenS l with
      | none => rw [hl] at h; simp at h
      | some q =>
        obtain ⟨n, g⟩ := q
        rw [hl] at h
        simp only at h
        have hg := lenS_le hl
        have hm := lenS_min hl
        by_cases h2 : (l.drop g).length < n
        · rw [if_pos h2] at h; simp at h
        · rw [if_neg h2] at h
          simp only [Option.some.injEq, Prod.mk.injEq] at h
          obtain ⟨rfl, rfl, rfl⟩ := h
          have hbl : ((l.drop g).take n).length = n := by rw [List.length_take]; omega
          rw [enc_len, hbl, List.length_drop, List.length_drop]
          rw [List.length_drop] at h2
          simp only [List.length_cons]
          omega
theorem walk_le : ∀ (f d : Nat) (l o : List UInt8) (n : Nat), walkR f d l = .ok (o, n) → o.length ≤ l.length ∧ (n = 0 ∨ n + d ≤ 33) ∧ (l ≠ [] → 1 ≤ n)
  | 0, d, l, o, n, h => by simp [walkR] at h
  | f + 1, d, l, o, n, h => by
    simp only [walkR] at h
    by_cases h0 : l = []
    · rw [if_pos h0] at h
      simp only [Except.ok.injEq, Prod.mk.injEq] at h
      obtain ⟨rfl, rfl⟩ := h
      exact ⟨by simp, .inl rfl, fun hh => absurd h0 hh⟩
    · rw [if_neg h0] at h
      cases hn : nextS l with
      | none => rw [hn] at h; simp at h
      | some q =>
        obtain ⟨t, b, r⟩ := q
        obtain ⟨ht, ht2, hb, hlen, _⟩ := next_len hn
        rw [hn] at h
        simp only at h
        by_cases h32 : 32 < d
        · rw [if_pos h32] at h; simp at h
        · rw [if_neg h32] at h
          cases hm : made t with
          | true =>
            rw [hm, if_pos rfl] at h
            cases hw : walkR f (d + 1) b with
            | error e => rw [hw] at h; simp at h
            | ok q =>
              obtain ⟨o1, n1⟩ := q
              rw [hw] at h
              simp only at h
              cases hr : walkR f d r with
              | error e => rw [hr] at h; simp at h
              | ok q =>
                obtain ⟨o2, n2⟩ := q
                rw [hr] at h
                simp only [Except.ok.injEq, Prod.mk.injEq] at h
                obtain ⟨rfl, rfl⟩ := h
                have i1 := walk_le f (d + 1) b o1 n1 hw
                have i2 := walk_le f d r o2 n2 hr
                have hmn := lenEnc_mono i1.1 hb
                rw [enc_len] at hlen
                rw [List.length_append, enc_len]
                omega
          | false =>
            rw [hm, if_neg (by decide)] at h
            simp only at h
            cases hr : walkR f d r with
            | error e => rw [hr] at h; simp at h
            | ok q =>
              obtain ⟨o2, n2⟩ := q
              rw [hr] at h
              simp only [Except.ok.injEq, Prod.mk.injEq] at h
              obtain ⟨rfl, rfl⟩ := h
              have i2 := walk_le f d r o2 n2 hr
              rw [List.length_append]
              omega
/-- The walk with a stack comes to an answer. -/
def E (fs : List Fr) (r : ByteArray × Int × Int) : Prop := ∃ k, ber_walk.l0 k fs = some r
theorem leo_le {α : Type} {g : Nat → Option α} (hm : ∀ k, LeO (g k) (g (k + 1))) {j k : Nat} {r : α} (h : j ≤ k) (hg : g j = some r) : g k = some r := by
  induction k with
  | zero => have : j = 0 := by omega
            subst this; exact hg
  | succ k ih =>
    by_cases e : j = k + 1
    · subst e; exact hg
    · exact hm k r (ih (by omega))
theorem E.at {fs : List Fr} {r : ByteArray × Int × Int} (h : E fs r) : ∃ k, 6 ≤ k ∧ ber_walk.l0 k fs = some r := by
  obtain ⟨j, hj⟩ := h
  exact ⟨max j 6, by omega, leo_le (fun k => ber_walk.mono_l k fs) (by omega) hj⟩
theorem Bs_size0 (l : List UInt8) : (Bs l).size = 0 ↔ l = [] := by rw [size_Bs]; exact List.length_eq_zero_iff
theorem mx_nat (a b : Nat) : mx (a : Int) (b : Int) = ((max a b : Nat) : Int) := by unfold mx; split <;> omega
theorem E_done (tag : Int) (out : List UInt8) (deep : Int) : E [⟨tag, Bs [], out, deep⟩] (Bs out, deep, 0) := ⟨1, rfl⟩
theorem E_pop {tag deep : Nat} {out : List UInt8} {b : Fr} {bs : List Fr} {res : ByteArray × Int × Int} (ht : tag < 256) (ho : out.length < 4294967296) (hd : deep < 1000) (hb : b.out.length + (enc tag out).length ≤ 140737488355328)
    (h : E (⟨b.tag, b.rest, b.out ++ enc tag out, mx b.deep ((deep : Int) + 1)⟩ :: bs) res) : E (⟨(tag : Int), Bs [], out, (deep : Int)⟩ :: b :: bs) res := by
  obtain ⟨k, hk, h⟩ := h.at
  refine ⟨k + 1, ?_⟩
  simp only [ber_walk.l0]
  rw [if_pos (show (Bs []).size = 0 from rfl), show (⟨out.toArray⟩ : ByteArray) = Bs out from rfl, put_eq k tag out ht ho (by omega)]
  simp only [Option.bind_some, size_Bs, data_Bs]
  rw [if_pos ⟨hb, by omega, by omega⟩]
  exact h
theorem E_bad {tag deep : Int} {l out : List UInt8} {below : List Fr} (h0 : l ≠ []) (hl : l.length ≤ 140737488355328) (h : nextS l = none) : E (⟨tag, Bs l, out, deep⟩ :: below) (Bs [], 0, 50) := by
  refine ⟨2, ?_⟩
  simp only [ber_walk.l0]
  rw [if_neg (by rw [Bs_size0]; exact h0), next_eq 1 (by omega) _ (by rw [size_Bs]; exact hl), L_Bs, h]
  rfl
theorem E_deep {tag deep : Int} {l out : List UInt8} {below : List Fr} {q : Nat × List UInt8 × List UInt8} (h0 : l ≠ []) (hl : l.length ≤ 140737488355328) (h : nextS l = some q) (hd : 32 < below.length + 1) : E (⟨tag, Bs l, out, deep⟩ :: below) (Bs [], 0, 51) := by
  obtain ⟨t, b, r⟩ := q
  refine ⟨2, ?_⟩
  simp only [ber_walk.l0]
  rw [if_neg (by rw [Bs_size0]; exact h0), next_eq 1 (by omega) _ (by rw [size_Bs]; exact hl), L_Bs, h]
  simp only [Option.bind_some]
  rw [if_neg (by simp), if_pos hd]
  rfl
theorem E_push {tag deep : Int} {l out b r : List UInt8} {t : Nat} {below : List Fr} {res : ByteArray × Int × Int} (h0 : l ≠ []) (hl : l.length ≤ 140737488355328) (h : nextS l = some (t, b, r)) (hd : ¬ 32 < below.length + 1) (hm : made t = true)
    (hE : E (⟨(t : Int), Bs b, [], 0⟩ :: ⟨tag, Bs r, out, deep⟩ :: below) res) : E (⟨tag, Bs l, out, deep⟩ :: below) res := by
  obtain ⟨k, hk, hE⟩ := hE.at
  refine ⟨k + 1, ?_⟩
  simp only [ber_walk.l0]
  rw [if_neg (by rw [Bs_size0]; exact h0), next_eq k (by omega) _ (by rw [size_Bs]; exact hl), L_Bs, h]
  simp only [Option.bind_some]
  rw [if_neg (by simp), if_neg hd, made_eq t (next_len h).1, hm]
  exact hE
theorem E_prim {tag deep : Int} {l out b r : List UInt8} {t : Nat} {below : List Fr} {res : ByteArray × Int × Int} (h0 : l ≠ []) (hl : l.length ≤ 140737488355328) (h : nextS l = some (t, b, r)) (hd : ¬ 32 < below.length + 1) (hm : made t = false)
    (ho : out.length + (enc t b).length ≤ 140737488355328) (hE : E (⟨tag, Bs r, out ++ enc t b, mx deep 1⟩ :: below) res) : E (⟨tag, Bs l, out, deep⟩ :: below) res := by
  obtain ⟨k, hk, hE⟩ := hE.at
  obtain ⟨ht, _, hb, _⟩ := next_len h
  refine ⟨k + 1, ?_⟩
  simp only [ber_walk.l0]
  rw [if_neg (by rw [Bs_size0]; exact h0), next_eq k (by omega) _ (by rw [size_Bs]; exact hl), L_Bs, h]
  simp only [Option.bind_some]
  rw [if_neg (by simp), if_neg hd, made_eq t ht, hm]
  simp only [Option.bind_some]
  rw [if_neg (by decide), put_eq k t b ht hb (by omega)]
  simp only [Option.bind_some, size_Bs, data_Bs]
  rw [if_pos ho]
  exact hE
theorem sim : ∀ (f : Nat) (l : List UInt8) (tag : Int) (out : List UInt8) (deep : Nat) (below : List Fr) (res : ByteArray × Int × Int), l.length < f → out.length + l.length ≤ 4000000000 → deep ≤ 33 →
    match walkR f (below.length + 1) l with
    | .error e => E (⟨tag, Bs l, out, (deep : Int)⟩ :: below) (Bs [], 0, e)
    | .ok (o, n) => E (⟨tag, Bs [], out ++ o, ((max deep n : Nat) : Int)⟩ :: below) res → E (⟨tag, Bs l, out, (deep : Int)⟩ :: below) res
  | 0, l, tag, out, deep, below, res, hf, _, _ => by omega
  | f + 1, l, tag, out, deep, below, res, hf, ho, hdp => by
    simp only [walkR]
    by_cases h0 : l = []
    · rw [if_pos h0]
      subst h0
      intro h
      rw [List.append_nil, Nat.max_eq_left (by omega)] at h
      exact h
    · rw [if_neg h0]
      cases hn : nextS l with
      | none => exact E_bad h0 (by omega) hn
      | some q =>
        obtain ⟨t, b, r⟩ := q
        obtain ⟨ht, ht2, hb, hlen, hlen2⟩ := next_len hn
        simp only
        by_cases h32 : 32 < below.length + 1
        · rw [if_pos h32]
          exact E_deep h0 (by omega) hn h32
        · rw [if_neg h32]
          cases hm : made t with
          | true =>
            rw [if_pos rfl]
            have ih1 := fun res1 => sim f b (t : Int) [] 0 (⟨tag, Bs r, out, (deep : Int)⟩ :: below) res1 (by omega) (by simp; omega) (by omega)
            cases hw : walkR f (below.length + 1 + 1) b with
            | error e =>
              simp only
              have h1 := ih1 (Bs [], 0, e)
              rw [show (⟨tag, Bs r, out, (deep : Int)⟩ :: below).length + 1 = below.length + 1 + 1 from rfl, hw] at h1
              exact E_push h0 (by omega) hn h32 hm h1
            | ok q =>
              obtain ⟨o1, n1⟩ := q
              simp only
              have wl := walk_le _ _ _ _ _ hw
              have hmn := lenEnc_mono wl.1 hb
              have hel : (enc t o1).length ≤ (enc t b).length := by rw [enc_len, enc_len]; omega
              have ih2 := fun res2 => sim f r tag (out ++ enc t o1) (max deep (n1 + 1)) below res2 (by omega) (by rw [List.length_append]; omega) (by omega)
              have up : ∀ res1, E (⟨tag, Bs r, out ++ enc t o1, ((max deep (n1 + 1) : Nat) : Int)⟩ :: below) res1 → E (⟨tag, Bs l, out, (deep : Int)⟩ :: below) res1 := by
                intro res1 hres
                refine E_push h0 (by omega) hn h32 hm ?_
                have h1 := ih1 res1
                rw [show (⟨tag, Bs r, out, (deep : Int)⟩ :: below).length + 1 = below.length + 1 + 1 from rfl, hw] at h1
                refine h1 ?_
                simp only [List.nil_append]
                rw [Nat.max_eq_right (Nat.zero_le n1)]
                refine E_pop ht (by omega) (by omega) (by simp only; omega) ?_
                simp only
                rw [show ((n1 : Int) + 1) = ((n1 + 1 : Nat) : Int) from by omega, mx_nat]
                exact hres
              cases hr : walkR f (below.length + 1) r with
              | error e =>
                simp only
                have h2 := ih2 (Bs [], 0, e)
                rw [hr] at h2
                exact up _ h2
              | ok q =>
                obtain ⟨o2, n2⟩ := q
                simp only
                intro hres
                have h2 := ih2 res
                rw [hr] at h2
                refine up _ (h2 ?_)
                rw [List.append_assoc, Nat.max_assoc]
                exact hres
          | false =>
            rw [if_neg (by decide)]
            simp only
            have ih2 := fun res2 => sim f r tag (out ++ enc t b) (max deep 1) below res2 (by omega) (by rw [List.length_append]; omega) (by omega)
            have up : ∀ res1, E (⟨tag, Bs r, out ++ enc t b, ((max deep 1 : Nat) : Int)⟩ :: below) res1 → E (⟨tag, Bs l, out, (deep : Int)⟩ :: below) res1 := by
              intro res1 hres
              refine E_prim h0 (by omega) hn h32 hm (by omega) ?_
              rw [show (1 : Int) = ((1 : Nat) : Int) from rfl, mx_nat]
              exact hres
            cases hr : walkR f (below.length + 1) r with
            | error e =>
              simp only
              have h2 := ih2 (Bs [], 0, e)
              rw [hr] at h2
              exact up _ h2
            | ok q =>
              obtain ⟨o2, n2⟩ := q
              simp only
              intro hres
              have h2 := ih2 res
              rw [hr] at h2
              refine up _ (h2 ?_)
              rw [List.append_assoc, Nat.max_assoc]
              exact hres
/-- What the walk answers of a text. -/
def walkS (l : List UInt8) : ByteArray × Int × Int :=
  match nextS l with
  | some (_, _, []) => (match walkR (l.length + 1) 1 l with | .error e => (Bs [], 0, e) | .ok (o, n) => (Bs o, (n : Int), 0))
  | _ => (Bs [], 0, 50)
theorem walk_eq (s : ByteArray) (hs : s.size ≤ 4000000000) : ∃ k, ber_walk.f k s = some (walkS (L s)) := by
  have hl : (L s).length ≤ 4000000000 := by rw [← size_L]; exact hs
  unfold walkS
  have hnx := fun k (hk : 1 ≤ k) => next_eq k hk s (by omega)
  cases hn : nextS (L s) with
  | none =>
    refine ⟨1, ?_⟩
    unfold ber_walk.f
    rw [hnx 1 (by omega), hn]
    rfl
  | some q =>
    obtain ⟨t, b, r⟩ := q
    cases r with
    | cons x r =>
      refine ⟨1, ?_⟩
      unfold ber_walk.f
      rw [hnx 1 (by omega), hn]
      simp only [Option.bind_some]
      rw [if_neg (by rw [Bs_size0]; simp)]
      rfl
    | nil =>
      simp only
      have h0 := fun res => sim ((L s).length + 1) (L s) 0 [] 0 [] res (by omega) (by simp; omega) (by omega)
      have fin : ∀ res, E [⟨0, s, [], 0⟩] res → ∃ k, ber_walk.f k s = some res := by
        intro res hE
        obtain ⟨k, hk, h⟩ := hE.at
        refine ⟨k, ?_⟩
        unfold ber_walk.f
        rw [hnx k (by omega), hn]
        simp only [Option.bind_some]
        rw [if_pos ⟨trivial, rfl⟩]
        exact h
      rw [show ([] : List Fr).length + 1 = 1 from rfl, Bs_L] at h0
      cases hw : walkR ((L s).length + 1) 1 (L s) with
      | error e =>
        have h1 := h0 (Bs [], 0, e)
        rw [hw] at h1
        exact fin _ h1
      | ok q =>
        obtain ⟨o, n⟩ := q
        have h1 := h0 (Bs o, (n : Int), 0)
        rw [hw] at h1
        refine fin _ (h1 ?_)
        rw [List.nil_append, Nat.max_eq_right (Nat.zero_le n)]
        exact E_done _ _ _
end Go.Proofs.Yteidlffajcogcaa.BerS
