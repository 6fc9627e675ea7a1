/- Layer 5: a shortest form walks to itself. -/
import Derived.Test.YteidlffajcogcaaBerWalk
namespace Go.Proofs.Yteidlffajcogcaa.BerS
open Go.RowKit Gong Go.Proofs.Yteidlffajcogcaa.XBer Go.Proofs.YteidlffajcogcaaW.PrintWords Go.Proofs.YteidlffajcogcaaW.PrintLast Go.Proofs.YteidlffajcogcaaW.PrintMore
set_option linter.unusedVariables false
set_option linter.unusedSimpArgs false
/-- Shortest forms, so deep. -/
inductive C : Nat → List UInt8 → Prop
  | nil : C 0 []
  | box (t n m : Nat) (b r : List UInt8) : t < 256 → t % 32 ≠ 31 → made t = true → b.length < 4294967296 → C n b → C m r → C (max (n + 1) m) (enc t b ++ r)
  | leaf (t m : Nat) (b r : List UInt8) : t < 256 → t % 32 ≠ 31 → made t = false → b.length < 4294967296 → C m r → C (max 1 m) (enc t b ++ r)
theorem C.app {n m : Nat} {a b : List UInt8} (h : C n a) (hb : C m b) : C (max n m) (a ++ b) := by
  induction h with
  | nil => rw [Nat.max_eq_right (Nat.zero_le m)]; exact hb
  | box t n m' b' r h1 h2 h3 h4 _ _ ih1 ih2 =>
    rw [List.append_assoc, Nat.max_assoc]
    exact C.box t n _ b' _ h1 h2 h3 h4 (by assumption) ih2
  | leaf t m' b' r h1 h2 h3 h4 _ ih2 =>
    rw [List.append_assoc, Nat.max_assoc]
    exact C.leaf t _ b' _ h1 h2 h3 h4 ih2
theorem enc_ne (t : Nat) (b : List UInt8) (r : List UInt8) : enc t b ++ r ≠ [] := by simp [enc]
theorem C.walk {n : Nat} {l : List UInt8} (h : C n l) : ∀ (f d : Nat), l.length < f → n + d ≤ 33 → walkR f d l = .ok (l, n) := by
  induction h with
  | nil =>
    intro f d hf hd
    obtain ⟨f, rfl⟩ : ∃ m, f = m + 1 := ⟨f - 1, by simp only [List.length_nil] at hf; omega⟩
    rw [walkR, if_pos rfl]
  | box t n m b r h1 h2 h3 h4 _ _ ih1 ih2 =>
    intro f d hf hd
    obtain ⟨f, rfl⟩ : ∃ m, f = m + 1 := ⟨f - 1, by omega⟩
    have hn := next_enc t b r h1 h2 h4
    have hl := next_len hn
    rw [walkR, if_neg (enc_ne t b r), hn]
    simp only
    rw [if_neg (by omega), if_pos h3, ih1 f (d + 1) (by omega) (by omega)]
    simp only
    rw [ih2 f d (by omega) (by omega)]
  | leaf t m b r h1 h2 h3 h4 _ ih2 =>
    intro f d hf hd
    obtain ⟨f, rfl⟩ : ∃ m, f = m + 1 := ⟨f - 1, by omega⟩
    have hn := next_enc t b r h1 h2 h4
    have hl := next_len hn
    rw [walkR, if_neg (enc_ne t b r), hn]
    simp only
    rw [if_neg (by omega), if_neg (by rw [h3]; decide)]
    simp only
    rw [ih2 f d (by omega) (by omega)]
theorem walk_C : ∀ (f d : Nat) (l o : List UInt8) (n : Nat), walkR f d l = .ok (o, n) → C n o
  | 0, d, l, o, n, h => by simp [walkR] at h
  | f + 1, d, l, o, n, h => by
    rw [walkR] at h
    by_cases h0 : l = []
    · rw [if_pos h0] at h
      simp only [Except.ok.injEq, Prod.mk.injEq] at h
      obtain ⟨rfl, rfl⟩ := h
      exact C.nil
    · rw [if_neg h0] at h
      cases hn : nextS l with
      | none => rw [hn] at h; simp at h
      | some q =>
        obtain ⟨t, b, r⟩ := q
        obtain ⟨ht, ht2, hb, hlen, _⟩ := next_len hn
        rw [hn] at h
        simp only at h
        by_cases h32 : 32 < d
        · rw [if_pos h32] at h; simp at h
        · rw [if_neg h32] at h
          cases hm : made t with
          | true =>
            rw [hm, if_pos rfl] at h
            cases hw : walkR f (d + 1) b with
            | error e => rw [hw] at h; simp at h
            | ok q =>
              obtain ⟨o1, n1⟩ := q
              rw [hw] at h
              simp only at h
              cases hr : walkR f d r with
              | error e => rw [hr] at h; simp at h
              | ok q =>
                obtain ⟨o2, n2⟩ := q
                rw [hr] at h
                simp only [Except.ok.injEq, Prod.mk.injEq] at h
                obtain ⟨rfl, rfl⟩ := h
                have i1 := walk_le f (d + 1) b o1 n1 hw
                exact C.box t n1 n2 o1 o2 ht ht2 hm (by omega) (walk_C f (d + 1) b o1 n1 hw) (walk_C f d r o2 n2 hr)
          | false =>
            rw [hm, if_neg (by decide)] at h
            simp only at h
            cases hr : walkR f d r with
            | error e => rw [hr] at h; simp at h
            | ok q =>
              obtain ⟨o2, n2⟩ := q
              rw [hr] at h
              simp only [Except.ok.injEq, Prod.mk.injEq] at h
              obtain ⟨rfl, rfl⟩ := h
              exact C.leaf t n2 b o2 ht ht2 hm hb (walk_C f d r o2 n2 hr)
theorem walk_err : ∀ (f d : Nat) (l : List UInt8) (e : Int), l.length < f → walkR f d l = .error e → e = 50 ∨ e = 51
  | 0, d, l, e, hf, h => by omega
  | f + 1, d, l, e, hf, h => by
    rw [walkR] at h
    by_cases h0 : l = []
    · rw [if_pos h0] at h
      simp at h
    · rw [if_neg h0] at h
      cases hn : nextS l with
      | none => rw [hn] at h; simp at h; exact .inl h.symm
      | some q =>
        obtain ⟨t, b, r⟩ := q
        obtain ⟨ht, ht2, hb, hlen, _⟩ := next_len hn
        rw [hn] at h
        simp only at h
        by_cases h32 : 32 < d
        · rw [if_pos h32] at h; simp at h; exact .inr h.symm
        · rw [if_neg h32] at h
          have ir := fun e he => walk_err f d r e (by omega) he
          cases hm : made t with
          | true =>
            rw [hm, if_pos rfl] at h
            cases hw : walkR f (d + 1) b with
            | error e2 =>
              rw [hw] at h; simp at h
              subst h
              exact walk_err f (d + 1) b e2 (by omega) hw
            | ok q =>
              rw [hw] at h
              simp only at h
              cases hr : walkR f d r with
              | error e2 => rw [hr] at h; simp at h; subst h; exact ir _ hr
              | ok q => rw [hr] at h; simp at h
          | false =>
            rw [hm, if_neg (by decide)] at h
            simp only at h
            cases hr : walkR f d r with
            | error e2 => rw [hr] at h; simp at h; subst h; exact ir _ hr
            | ok q => rw [hr] at h; simp at h
/-- An element in its shortest form: the walk answers it itself. -/
theorem walkS_C {n : Nat} {l : List UInt8} {t : Nat} {b : List UInt8} (h : C n l) (hd : n ≤ 32) (hn : nextS l = some (t, b, [])) : walkS l = (Bs l, (n : Int), 0) := by
  unfold walkS
  rw [hn]
  simp only
  rw [h.walk (l.length + 1) 1 (by omega) (by omega)]
/-- What the walk answers: a fault, or a shortest form that walks to itself. -/
theorem walkS_or (l : List UInt8) : (∃ e, walkS l = (Bs [], 0, e) ∧ e ≠ 0) ∨ ∃ (o : List UInt8) (n : Nat), walkS l = (Bs o, (n : Int), 0) ∧ walkS o = (Bs o, (n : Int), 0) ∧ o.length ≤ l.length ∧ 1 ≤ n ∧ n ≤ 32 := by
  unfold walkS
  cases hn : nextS l with
  | none => exact .inl ⟨50, rfl, by decide⟩
  | some q =>
    obtain ⟨t, b, r⟩ := q
    cases r with
    | cons x r => exact .inl ⟨50, rfl, by decide⟩
    | nil =>
      simp only
      cases hw : walkR (l.length + 1) 1 l with
      | error e => exact .inl ⟨e, rfl, by have := walk_err _ _ _ _ (by omega) hw; omega⟩
      | ok q =>
        obtain ⟨o, n⟩ := q
        refine .inr ⟨o, n, rfl, ?_, ?_⟩
        · have hC := walk_C _ _ _ _ _ hw
          have hl := walk_le _ _ _ _ _ hw
          have h0 : l ≠ [] := by intro h; rw [h] at hn; simp [nextS] at hn
          have hno : ∃ t c, nextS o = some (t, c, []) := by
            rw [walkR, if_neg h0, hn] at hw
            simp only at hw
            obtain ⟨ht, ht2, hb, _, hl2⟩ := next_len hn
            obtain ⟨f, hf⟩ : ∃ f, l.length = f + 1 := ⟨l.length - 1, by omega⟩
            rw [if_neg (by decide)] at hw
            have hnil : walkR l.length 1 [] = .ok ([], 0) := by rw [hf, walkR, if_pos rfl]
            cases hm : made t with
            | true =>
              rw [hm, if_pos rfl] at hw
              cases hw1 : walkR l.length (1 + 1) b with
              | error e => rw [hw1] at hw; simp at hw
              | ok q =>
                obtain ⟨o1, n1⟩ := q
                rw [hw1] at hw
                simp only at hw
                rw [hnil] at hw
                simp only [Except.ok.injEq, Prod.mk.injEq] at hw
                obtain ⟨rfl, _⟩ := hw
                have i1 := walk_le _ _ _ _ _ hw1
                exact ⟨t, o1, next_enc t o1 [] ht ht2 (by omega)⟩
            | false =>
              rw [hm, if_neg (by decide)] at hw
              simp only at hw
              rw [hnil] at hw
              simp only [Except.ok.injEq, Prod.mk.injEq] at hw
              obtain ⟨rfl, _⟩ := hw
              exact ⟨t, b, next_enc t b [] ht ht2 hb⟩
          obtain ⟨t', c, hno⟩ := hno
          exact walkS_C hC (by omega) hno
        · have hl := walk_le _ _ _ _ _ hw
          have h0 : l ≠ [] := by intro h; rw [h] at hn; simp [nextS] at hn
          have := hl.2.2 h0
          omega
end Go.Proofs.Yteidlffajcogcaa.BerS
