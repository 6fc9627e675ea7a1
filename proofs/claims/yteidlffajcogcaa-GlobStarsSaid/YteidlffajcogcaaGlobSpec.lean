/- Layer 13: patterns, what matches them, in plain lists. -/
import Derived.Test.YteidlffajcogcaaGPre
namespace Go.Proofs.Yteidlffajcogcaa.GlobS
/-- A piece: none: any bytes; else which bytes it stands for. -/
abbrev Pc := Option (UInt8 → Bool)
/-- Does a text match? -/
def mt : List Pc → List UInt8 → Bool
  | [], [] => true
  | [], _ :: _ => false
  | none :: ps, [] => mt ps []
  | none :: ps, b :: s => mt ps (b :: s) || mt (none :: ps) s
  | some _ :: _, [] => false
  | some f :: ps, b :: s => f b && mt ps s
termination_by ps s => (ps.length + s.length, ps.length)
theorem mt_nil (ps : List Pc) : mt ps [] = ps.all (fun p => p.isNone) := by
  induction ps with
  | nil => simp [mt]
  | cons p ps ih =>
    cases p with
    | none => rw [mt, ih]; simp
    | some f => rw [mt]; simp
theorem mt_star (ps : List Pc) : ∀ s : List UInt8, mt (none :: ps) s = true ↔ ∃ i, i ≤ s.length ∧ mt ps (s.drop i) = true
  | [] => by
    rw [mt]
    exact ⟨fun h => ⟨0, Nat.le_refl _, h⟩, fun ⟨i, hi, h⟩ => by simpa using h⟩
  | b :: s => by
    rw [mt, Bool.or_eq_true, mt_star ps s]
    constructor
    · rintro (h | ⟨i, hi, h⟩)
      · exact ⟨0, Nat.zero_le _, h⟩
      · exact ⟨i + 1, by simp; omega, by simpa using h⟩
    · rintro ⟨i, hi, h⟩
      cases i with
      | zero => exact .inl h
      | succ i => exact .inr ⟨i, by simpa using hi, by simpa using h⟩
/-- One behind the other. -/
theorem mt_app : ∀ (p q : List Pc) (s : List UInt8), mt (p ++ q) s = true ↔ ∃ i, i ≤ s.length ∧ mt p (s.take i) = true ∧ mt q (s.drop i) = true
  | [], q, s => by
    constructor
    · intro h
      exact ⟨0, Nat.zero_le _, by simp [mt], h⟩
    · rintro ⟨i, hi, h1, h2⟩
      cases i with
      | zero => exact h2
      | succ i =>
        cases s with
        | nil => simp at hi
        | cons b s => simp [mt] at h1
  | none :: p, q, s => by
    rw [List.cons_append, mt_star]
    constructor
    · rintro ⟨i, hi, h⟩
      obtain ⟨j, hj, h1, h2⟩ := (mt_app p q (s.drop i)).1 h
      rw [List.length_drop] at hj
      refine ⟨i + j, by omega, ?_, by rwa [List.drop_drop] at h2⟩
      rw [mt_star]
      refine ⟨i, by rw [List.length_take]; omega, ?_⟩
      rw [List.drop_take, show i + j - i = j by omega]
      exact h1
    · rintro ⟨i, hi, h1, h2⟩
      rw [mt_star] at h1
      obtain ⟨j, hj, h1⟩ := h1
      rw [List.length_take] at hj
      refine ⟨j, by omega, ?_⟩
      rw [mt_app]
      refine ⟨i - j, by rw [List.length_drop]; omega, by rwa [List.drop_take] at h1, ?_⟩
      rw [List.drop_drop, show j + (i - j) = i by omega]
      exact h2
  | some f :: p, q, [] => by
    rw [List.cons_append, mt]
    constructor
    · intro h; simp at h
    · rintro ⟨i, hi, h1, _⟩
      simp [mt] at h1
  | some f :: p, q, b :: s => by
    rw [List.cons_append, mt, Bool.and_eq_true, mt_app p q s]
    constructor
    · rintro ⟨hf, i, hi, h1, h2⟩
      exact ⟨i + 1, by simp; omega, by rw [List.take_succ_cons, mt, Bool.and_eq_true]; exact ⟨hf, h1⟩, by simpa using h2⟩
    · rintro ⟨i, hi, h1, h2⟩
      cases i with
      | zero => simp [mt] at h1
      | succ i =>
        rw [List.take_succ_cons, mt, Bool.and_eq_true] at h1
        exact ⟨h1.1, i, by simpa using hi, h1.2, by simpa using h2⟩
/-- Without any bytes: each piece a byte. -/
def plain (ps : List Pc) : Bool := ps.all (fun p => p.isSome)
theorem mt_plain_len : ∀ (p : List Pc) (s : List UInt8), plain p = true → mt p s = true → s.length = p.length
  | [], [], _, _ => rfl
  | [], b :: s, _, h => by simp [mt] at h
  | none :: p, s, h, _ => by simp [plain] at h
  | some f :: p, [], _, h => by simp [mt] at h
  | some f :: p, b :: s, h, hm => by
    rw [mt, Bool.and_eq_true] at hm
    rw [List.length_cons, List.length_cons, mt_plain_len p s (by simpa [plain] using h) hm.2]
/-- What is matched by pieces of which the first ones are each a byte, and then any bytes: behind those bytes the rest is matched by what begins with any bytes, whatever was taken off ahead. -/
theorem mt_later (p q : List Pc) (hp : plain p = true) (s : List UInt8) (j : Nat) (h : mt (p ++ none :: q) (s.drop j) = true) (hl : p.length ≤ s.length) (hj : j ≤ s.length) : mt (none :: q) (s.drop p.length) = true := by
  obtain ⟨i, hi, h1, h2⟩ := (mt_app p (none :: q) (s.drop j)).1 h
  have hlen := mt_plain_len p _ hp h1
  rw [List.length_take] at hlen
  rw [List.length_drop] at hi hlen
  rw [List.drop_drop, mt_star] at h2
  obtain ⟨k, hk, h3⟩ := h2
  rw [List.length_drop] at hk
  rw [List.drop_drop] at h3
  rw [mt_star]
  refine ⟨j + i + k - p.length, by rw [List.length_drop]; omega, ?_⟩
  rw [List.drop_drop, show p.length + (j + i + k - p.length) = j + i + k by omega]
  exact h3
/-- What stands behind the last star may be gone back to: the text from a byte more on. -/
structure Bk where
  q : List Pc
  r : List UInt8
def bkOk : Option Bk → Bool
  | none => false
  | some b => (List.range b.r.length).any (fun j => mt b.q (b.r.drop (j + 1)))
/-- The walk's state: what is left of the pieces, of the text, and where it may go back to: between them stand pieces that are each a byte. -/
structure St (ps : List Pc) (s : List UInt8) (bt : Option Bk) : Prop where
  mid : ∀ b, bt = some b → ∃ p, plain p = true ∧ b.q = p ++ ps ∧ p.length ≤ b.r.length ∧ s = b.r.drop p.length
/-- A star is met: what was gone back to ahead is no longer needed. -/
theorem step_star (ps : List Pc) (s : List UInt8) (bt : Option Bk) (h : St (none :: ps) s bt) : (mt (none :: ps) s || bkOk bt) = mt (none :: ps) s := by
  cases bt with
  | none => simp [bkOk]
  | some b =>
    obtain ⟨p, hp, hq, hl, hs⟩ := h.mid b rfl
    rw [Bool.eq_iff_iff, Bool.or_eq_true]
    refine ⟨fun h => ?_, .inl⟩
    rcases h with h | h
    · exact h
    · simp only [bkOk, List.any_eq_true, List.mem_range] at h
      obtain ⟨j, hj, h⟩ := h
      rw [hq] at h
      rw [hs]
      exact mt_later p ps hp b.r (j + 1) h hl (by omega)
theorem any_range_cons (f : Nat → Bool) (n : Nat) : (List.range (n + 1)).any f = (f 0 || (List.range n).any (fun j => f (j + 1))) := by
  rw [List.range_succ_eq_map, List.any_cons, List.any_map]
  rfl
/-- A star, gone by: it stands for no byte, or for more. -/
theorem star_bk (ps : List Pc) (s : List UInt8) : mt (none :: ps) s = (mt ps s || bkOk (some ⟨ps, s⟩)) := by
  rw [Bool.eq_iff_iff, Bool.or_eq_true, mt_star]
  simp only [bkOk, List.any_eq_true, List.mem_range]
  constructor
  · rintro ⟨i, hi, h⟩
    cases i with
    | zero => exact .inl h
    | succ i => exact .inr ⟨i, by omega, h⟩
  · rintro (h | ⟨j, hj, h⟩)
    · exact ⟨0, Nat.zero_le _, h⟩
    · exact ⟨j + 1, by omega, h⟩
/-- Going back: the text from a byte more on. -/
theorem back_bk (q : List Pc) (b : UInt8) (r : List UInt8) : bkOk (some ⟨q, b :: r⟩) = (mt q r || bkOk (some ⟨q, r⟩)) := by
  simp only [bkOk, List.length_cons]
  rw [any_range_cons]
  rfl
theorem St.star {ps : List Pc} {s : List UInt8} : St ps s (some ⟨ps, s⟩) := ⟨fun b hb => by
  rw [Option.some.injEq] at hb
  subst hb
  exact ⟨[], rfl, rfl, Nat.zero_le _, rfl⟩⟩
theorem St.byte {f : UInt8 → Bool} {ps : List Pc} {c : UInt8} {s : List UInt8} {bt : Option Bk} (h : St (some f :: ps) (c :: s) bt) : St ps s bt := ⟨fun b hb => by
  obtain ⟨p, hp, hq, hl, hs⟩ := h.mid b hb
  have h1 : p.length < b.r.length := by
    have := congrArg List.length hs
    rw [List.length_cons, List.length_drop] at this
    omega
  refine ⟨p ++ [some f], by simp [plain] at hp ⊢; exact hp, by rw [hq]; simp, by rw [List.length_append]; simp; omega, ?_⟩
  rw [List.length_append, List.length_singleton, ← List.drop_drop, ← hs]
  rfl⟩
theorem St.back {q : List Pc} {r : List UInt8} : St q r (some ⟨q, r⟩) := St.star
/-- At the text's end nothing is gone back to. -/
theorem end_bk {ps : List Pc} {bt : Option Bk} (h : St ps [] bt) : bkOk bt = false := by
  cases bt with
  | none => rfl
  | some b =>
    obtain ⟨p, hp, hq, hl, hs⟩ := h.mid b rfl
    have hle : b.r.length = p.length := by
      have := congrArg List.length hs
      rw [List.length_nil, List.length_drop] at this
      omega
    simp only [bkOk]
    rw [List.any_eq_false]
    intro j hj hm
    rw [List.mem_range] at hj
    rw [hq] at hm
    obtain ⟨i, hi, h1, _⟩ := (mt_app p ps _).1 hm
    have := mt_plain_len p _ hp h1
    rw [List.length_take] at this
    rw [List.length_drop] at hi this
    omega
/-! By beginnings: which of a text are matched by which of the pieces. -/
theorem mt_one_star (s : List UInt8) : mt [none] s = true := by
  rw [mt_star]
  exact ⟨s.length, Nat.le_refl _, by simp [mt]⟩
theorem mt_snoc_star (p : List Pc) (s : List UInt8) : mt (p ++ [none]) s = true ↔ ∃ i, i ≤ s.length ∧ mt p (s.take i) = true := by
  rw [mt_app]
  exact ⟨fun ⟨i, hi, h, _⟩ => ⟨i, hi, h⟩, fun ⟨i, hi, h⟩ => ⟨i, hi, h, mt_one_star _⟩⟩
theorem mt_snoc_byte (p : List Pc) (f : UInt8 → Bool) (s : List UInt8) (b : UInt8) : mt (p ++ [some f]) (s ++ [b]) = (mt p s && f b) := by
  rw [Bool.eq_iff_iff, Bool.and_eq_true, mt_app]
  constructor
  · rintro ⟨i, hi, h1, h2⟩
    have hl := mt_plain_len [some f] _ (by simp [plain]) h2
    rw [List.length_drop, List.length_append, List.length_singleton, List.length_singleton] at hl
    have : i = s.length := by omega
    subst this
    rw [List.take_left] at h1
    rw [List.drop_left, mt, Bool.and_eq_true] at h2
    exact ⟨h1, h2.1⟩
  · rintro ⟨h1, h2⟩
    exact ⟨s.length, by simp, by rw [List.take_left]; exact h1, by rw [List.drop_left, mt, h2]; simp [mt]⟩
theorem mt_snoc_nil (p : List Pc) (f : UInt8 → Bool) : mt (p ++ [some f]) [] = false := by
  cases h : mt (p ++ [some f]) [] with
  | false => rfl
  | true =>
    obtain ⟨i, hi, _, h2⟩ := (mt_app p [some f] []).1 h
    simp [mt] at h2
/-- A star more: a text is matched if it was, or without its last byte is. -/
theorem mt_star_snoc (p : List Pc) (s : List UInt8) (b : UInt8) : mt (p ++ [none]) (s ++ [b]) = (mt p (s ++ [b]) || mt (p ++ [none]) s) := by
  rw [Bool.eq_iff_iff, Bool.or_eq_true, mt_snoc_star, mt_snoc_star]
  constructor
  · rintro ⟨i, hi, h⟩
    rw [List.length_append, List.length_singleton] at hi
    by_cases c : i = s.length + 1
    · left
      rw [List.take_of_length_le (by simp; omega)] at h
      exact h
    · right
      exact ⟨i, by omega, by rwa [List.take_append_of_le_length (by omega)] at h⟩
  · rintro (h | ⟨i, hi, h⟩)
    · exact ⟨s.length + 1, by simp, by rw [List.take_of_length_le (by simp)]; exact h⟩
    · exact ⟨i, by simp; omega, by rw [List.take_append_of_le_length hi]; exact h⟩
theorem mt_star_nil (p : List Pc) : mt (p ++ [none]) [] = mt p [] := by
  rw [mt_nil, mt_nil]
  simp
/-! Patterns. -/
/-- A byte of a range, and what stands behind it. -/
def member : List UInt8 → Option (UInt8 × List UInt8)
  | [] => none
  | b :: s => if b = 93 ∨ b = 45 then none else if b = 92 then (match s with
    | [] => none
    | c :: r => some (c, r)) else some (b, s)
theorem member_len {s : List UInt8} {b : UInt8} {r : List UInt8} (h : member s = some (b, r)) : r.length < s.length := by
  cases s with
  | nil => simp [member] at h
  | cons a s =>
    unfold member at h
    simp only at h
    by_cases c : a = 93 ∨ a = 45
    · rw [if_pos c] at h; simp at h
    · rw [if_neg c] at h
      by_cases d : a = 92
      · rw [if_pos d] at h
        cases s with
        | nil => simp at h
        | cons x s =>
          simp only [Option.some.injEq, Prod.mk.injEq] at h
          rw [← h.2]
          simp
          omega
      · rw [if_neg d, Option.some.injEq, Prod.mk.injEq] at h
        rw [← h.2]
        simp
theorem member_app {s : List UInt8} {b : UInt8} {r : List UInt8} (h : member s = some (b, r)) (q : List UInt8) : member (s ++ q) = some (b, r ++ q) := by
  cases s with
  | nil => simp [member] at h
  | cons a s =>
    rw [List.cons_append]
    unfold member at h ⊢
    simp only at h ⊢
    by_cases c : a = 93 ∨ a = 45
    · rw [if_pos c] at h; simp at h
    · rw [if_neg c] at h ⊢
      by_cases d : a = 92
      · rw [if_pos d] at h ⊢
        cases s with
        | nil => simp at h
        | cons x s =>
          simp only [Option.some.injEq, Prod.mk.injEq] at h
          rw [← h.1, ← h.2]
          rfl
      · rw [if_neg d, Option.some.injEq, Prod.mk.injEq] at h
        rw [if_neg d, ← h.1, ← h.2]
/-- A range: from, to, and what stands behind. -/
def range1 (s : List UInt8) : Option (UInt8 × UInt8 × List UInt8) :=
  match member s with
  | none => none
  | some (a, r) => match r with
    | [] => some (a, a, [])
    | c :: r' => if c = 45 then (match member r' with
        | none => none
        | some (b, r2) => some (a, b, r2)) else some (a, a, c :: r')
theorem range1_len {s : List UInt8} {a b : UInt8} {r : List UInt8} (h : range1 s = some (a, b, r)) : r.length < s.length := by
  unfold range1 at h
  cases hm : member s with
  | none => rw [hm] at h; simp at h
  | some x =>
    obtain ⟨x, y⟩ := x
    have hl := member_len hm
    rw [hm] at h
    simp only at h
    cases y with
    | nil =>
      simp only [Option.some.injEq, Prod.mk.injEq] at h
      rw [← h.2.2]; exact hl
    | cons c r' =>
      simp only at h
      by_cases d : c = 45
      · rw [if_pos d] at h
        cases hm2 : member r' with
        | none => rw [hm2] at h; simp at h
        | some z =>
          obtain ⟨z, r2⟩ := z
          have hl2 := member_len hm2
          rw [hm2] at h
          simp only [Option.some.injEq, Prod.mk.injEq] at h
          rw [← h.2.2]
          rw [List.length_cons] at hl
          omega
      · rw [if_neg d, Option.some.injEq, Prod.mk.injEq, Prod.mk.injEq] at h
        rw [← h.2.2]; exact hl
/-- Ranges, up to their end: which bytes are in them, and how many ranges they are; at least so many bytes are looked at. -/
def ranges : Nat → (UInt8 → Bool) → Bool → List UInt8 → Option ((UInt8 → Bool) × Bool × List UInt8)
  | 0, _, _, _ => none
  | n + 1, f, some_, s => match s with
    | [] => none
    | c :: s' => if c = 93 then some (f, some_, s') else match range1 (c :: s') with
      | none => none
      | some (a, b, r) => if b < a then none else ranges n (fun x => f x || (decide (a ≤ x) && decide (x ≤ b))) true r
/-- A set: behind its opening; what stands behind its end. -/
def setL (s : List UInt8) : Option ((UInt8 → Bool) × List UInt8) :=
  let not_ := decide (s.head? = some 33)
  match ranges (s.length + 1) (fun _ => false) false (if not_ then s.tail else s) with
  | none => none
  | some (f, any_, r) => if any_ then some (fun x => f x != not_, r) else none
theorem range1_app {s : List UInt8} {a b : UInt8} {r : List UInt8} (h : range1 s = some (a, b, r)) (hr : r ≠ []) (q : List UInt8) : range1 (s ++ q) = some (a, b, r ++ q) := by
  unfold range1 at h ⊢
  cases hm : member s with
  | none => rw [hm] at h; simp at h
  | some x =>
    obtain ⟨x, y⟩ := x
    rw [hm] at h
    rw [member_app hm q]
    simp only at h ⊢
    cases y with
    | nil =>
      simp only [Option.some.injEq, Prod.mk.injEq] at h
      exact absurd h.2.2.symm hr
    | cons c r' =>
      simp only [List.cons_append] at h ⊢
      by_cases d : c = 45
      · rw [if_pos d] at h ⊢
        cases hm2 : member r' with
        | none => rw [hm2] at h; simp at h
        | some z =>
          obtain ⟨z, r2⟩ := z
          rw [hm2] at h
          rw [member_app hm2 q]
          simp only [Option.some.injEq, Prod.mk.injEq] at h ⊢
          exact ⟨h.1, h.2.1, by rw [h.2.2]⟩
      · rw [if_neg d, Option.some.injEq, Prod.mk.injEq, Prod.mk.injEq] at h
        rw [if_neg d, ← h.2.2, ← h.1, ← h.2.1]
        rfl
theorem ranges_app : ∀ (n : Nat) (f : UInt8 → Bool) (t : Bool) (s : List UInt8) (g : UInt8 → Bool) (u : Bool) (r q : List UInt8) (m : Nat), ranges n f t s = some (g, u, r) → n ≤ m → ranges m f t (s ++ q) = some (g, u, r ++ q) := by
  intro n
  induction n with
  | zero => intro f t s g u r q m h; simp [ranges] at h
  | succ n ih =>
    intro f t s g u r q m h hm
    obtain ⟨m, rfl⟩ : ∃ k, m = k + 1 := ⟨m - 1, by omega⟩
    cases s with
    | nil => simp [ranges] at h
    | cons c s =>
      rw [List.cons_append]
      unfold ranges at h ⊢
      simp only at h ⊢
      by_cases d : c = 93
      · rw [if_pos d] at h ⊢
        simp only [Option.some.injEq, Prod.mk.injEq] at h ⊢
        exact ⟨h.1, h.2.1, by rw [h.2.2]⟩
      · rw [if_neg d] at h ⊢
        cases h1 : range1 (c :: s) with
        | none => rw [h1] at h; simp at h
        | some x =>
          obtain ⟨a, b, r'⟩ := x
          rw [h1] at h
          simp only at h
          have hne : r' ≠ [] := by
            rintro rfl
            by_cases e : b < a
            · rw [if_pos e] at h; simp at h
            · rw [if_neg e] at h
              cases n <;> simp [ranges] at h
          have h2 := range1_app h1 hne q
          rw [List.cons_append] at h2
          rw [h2]
          simp only
          by_cases e : b < a
          · rw [if_pos e] at h; simp at h
          · rw [if_neg e] at h ⊢
            exact ih _ _ _ _ _ _ q m h (by omega)
theorem ranges_len : ∀ (n : Nat) (f : UInt8 → Bool) (t : Bool) (s : List UInt8) (g : UInt8 → Bool) (u : Bool) (r : List UInt8), ranges n f t s = some (g, u, r) → r.length < s.length := by
  intro n
  induction n with
  | zero => intro f t s g u r h; simp [ranges] at h
  | succ n ih =>
    intro f t s g u r h
    cases s with
    | nil => simp [ranges] at h
    | cons c s =>
      unfold ranges at h
      simp only at h
      by_cases d : c = 93
      · rw [if_pos d] at h
        simp only [Option.some.injEq, Prod.mk.injEq] at h
        rw [← h.2.2]
        simp
      · rw [if_neg d] at h
        cases h1 : range1 (c :: s) with
        | none => rw [h1] at h; simp at h
        | some x =>
          obtain ⟨a, b, r'⟩ := x
          have hl := range1_len h1
          rw [h1] at h
          simp only at h
          by_cases e : b < a
          · rw [if_pos e] at h; simp at h
          · rw [if_neg e] at h
            have := ih _ _ _ _ _ _ h
            omega
theorem setL_app {s : List UInt8} {f : UInt8 → Bool} {r : List UInt8} (h : setL s = some (f, r)) (q : List UInt8) : setL (s ++ q) = some (f, r ++ q) := by
  unfold setL at h ⊢
  cases s with
  | nil => simp [ranges] at h
  | cons c s =>
    simp only [List.cons_append, List.head?_cons, List.tail_cons, Option.some.injEq] at h ⊢
    cases hr : ranges ((c :: s).length + 1) (fun _ => false) false (if decide (c = 33) = true then s else c :: s) with
    | none => rw [hr] at h; simp at h
    | some x =>
      obtain ⟨g, u, r'⟩ := x
      rw [hr] at h
      have h2 := ranges_app _ _ _ _ _ _ _ q ((c :: (s ++ q)).length + 1) hr (by simp)
      have e : (if decide (c = 33) = true then s else c :: s) ++ q = if decide (c = 33) = true then s ++ q else c :: (s ++ q) := by
        by_cases d : c = 33
        · simp [d]
        · simp [d]
      rw [e] at h2
      rw [h2]
      simp only at h ⊢
      by_cases d : u = true
      · rw [if_pos d, Option.some.injEq, Prod.mk.injEq] at h
        rw [if_pos d, h.1, h.2]
      · rw [if_neg d] at h; simp at h
theorem setL_len {s : List UInt8} {f : UInt8 → Bool} {r : List UInt8} (h : setL s = some (f, r)) : r.length < s.length := by
  unfold setL at h
  simp only at h
  cases hr : ranges (s.length + 1) (fun _ => false) false (if decide (s.head? = some 33) = true then s.tail else s) with
  | none => rw [hr] at h; simp at h
  | some x =>
    obtain ⟨g, u, r'⟩ := x
    have hl := ranges_len _ _ _ _ _ _ _ hr
    rw [hr] at h
    simp only at h
    by_cases d : u = true
    · rw [if_pos d, Option.some.injEq, Prod.mk.injEq] at h
      rw [← h.2]
      split at hl
      · rw [List.length_tail] at hl; omega
      · exact hl
    · rw [if_neg d] at h; simp at h
/-- A piece: which bytes, and the byte that stands for itself. -/
structure Pi where
  pc : Pc
  own : Option UInt8
def lit (b : UInt8) : Pi := ⟨some (fun x => x == b), some b⟩
/-- A pattern's first piece. -/
def pieceL : List UInt8 → Option (Pi × List UInt8)
  | [] => none
  | b :: s => if b = 42 then some (⟨none, none⟩, s) else if b = 63 then some (⟨some (fun _ => true), none⟩, s) else if b = 91 then (match setL s with
      | none => none
      | some (f, r) => some (⟨some f, none⟩, r))
    else if b = 92 then (match s with
      | [] => none
      | c :: r => some (lit c, r))
    else some (lit b, s)
theorem pieceL_len {s : List UInt8} {p : Pi} {r : List UInt8} (h : pieceL s = some (p, r)) : r.length < s.length := by
  cases s with
  | nil => simp [pieceL] at h
  | cons b s =>
    unfold pieceL at h
    simp only at h
    split at h
    · simp only [Option.some.injEq, Prod.mk.injEq] at h; rw [← h.2]; simp
    · split at h
      · simp only [Option.some.injEq, Prod.mk.injEq] at h; rw [← h.2]; simp
      · split at h
        · cases hs : setL s with
          | none => rw [hs] at h; simp at h
          | some x =>
            obtain ⟨f, r'⟩ := x
            have := setL_len hs
            rw [hs] at h
            simp only [Option.some.injEq, Prod.mk.injEq] at h
            rw [← h.2, List.length_cons]
            omega
        · split at h
          · cases s with
            | nil => simp at h
            | cons c s => simp only [Option.some.injEq, Prod.mk.injEq] at h; rw [← h.2]; simp; omega
          · simp only [Option.some.injEq, Prod.mk.injEq] at h; rw [← h.2]; simp
theorem pieceL_app {s : List UInt8} {p : Pi} {r : List UInt8} (h : pieceL s = some (p, r)) (q : List UInt8) : pieceL (s ++ q) = some (p, r ++ q) := by
  cases s with
  | nil => simp [pieceL] at h
  | cons b s =>
    rw [List.cons_append]
    unfold pieceL at h ⊢
    simp only at h ⊢
    by_cases c1 : b = 42
    · rw [if_pos c1] at h ⊢
      simp only [Option.some.injEq, Prod.mk.injEq] at h ⊢
      exact ⟨h.1, by rw [h.2]⟩
    · rw [if_neg c1] at h ⊢
      by_cases c2 : b = 63
      · rw [if_pos c2] at h ⊢
        simp only [Option.some.injEq, Prod.mk.injEq] at h ⊢
        exact ⟨h.1, by rw [h.2]⟩
      · rw [if_neg c2] at h ⊢
        by_cases c3 : b = 91
        · rw [if_pos c3] at h ⊢
          cases hs : setL s with
          | none => rw [hs] at h; simp at h
          | some x =>
            obtain ⟨f, r'⟩ := x
            rw [hs] at h
            rw [setL_app hs q]
            simp only [Option.some.injEq, Prod.mk.injEq] at h ⊢
            exact ⟨h.1, by rw [h.2]⟩
        · rw [if_neg c3] at h ⊢
          by_cases c4 : b = 92
          · rw [if_pos c4] at h ⊢
            cases s with
            | nil => simp at h
            | cons c s =>
              simp only [List.cons_append, Option.some.injEq, Prod.mk.injEq] at h ⊢
              exact ⟨h.1, by rw [h.2]⟩
          · rw [if_neg c4] at h ⊢
            simp only [Option.some.injEq, Prod.mk.injEq] at h ⊢
            exact ⟨h.1, by rw [h.2]⟩
/-- A pattern's pieces; at least so many bytes are looked at. -/
def parseN : Nat → List UInt8 → Option (List Pi)
  | _, [] => some []
  | 0, _ :: _ => none
  | n + 1, b :: s => match pieceL (b :: s) with
    | none => none
    | some (p, r) => (parseN n r).map (p :: ·)
def parseL (s : List UInt8) : Option (List Pi) := parseN s.length s
theorem parseN_more : ∀ (n m : Nat) (s : List UInt8), s.length ≤ n → n ≤ m → parseN m s = parseN n s := by
  intro n
  induction n with
  | zero =>
    intro m s hs hm
    have : s = [] := List.eq_nil_of_length_eq_zero (by omega)
    subst this
    cases m <;> rfl
  | succ n ih =>
    intro m s hs hm
    obtain ⟨m, rfl⟩ : ∃ k, m = k + 1 := ⟨m - 1, by omega⟩
    cases s with
    | nil => rfl
    | cons b s =>
      unfold parseN
      cases hp : pieceL (b :: s) with
      | none => rfl
      | some x =>
        obtain ⟨p, r⟩ := x
        have := pieceL_len hp
        rw [List.length_cons] at this hs
        simp only
        rw [ih m r (by omega) (by omega)]
theorem parseL_cons {s : List UInt8} {p : Pi} {r : List UInt8} (h : pieceL s = some (p, r)) : parseL s = (parseL r).map (p :: ·) := by
  have hl := pieceL_len h
  cases s with
  | nil => simp [pieceL] at h
  | cons b s =>
    unfold parseL
    rw [List.length_cons] at hl ⊢
    conv => lhs; unfold parseN
    rw [h]
    simp only
    rw [parseN_more r.length s.length r (Nat.le_refl _) (by omega)]
theorem parseL_none {s : List UInt8} (hs : s ≠ []) (h : pieceL s = none) : parseL s = none := by
  cases s with
  | nil => exact absurd rfl hs
  | cons b s =>
    unfold parseL
    rw [List.length_cons]
    unfold parseN
    rw [h]
/-- Patterns, one behind the other. -/
theorem parseL_app : ∀ (n : Nat) (p q : List UInt8) (a b : List Pi), p.length ≤ n → parseL p = some a → parseL q = some b → parseL (p ++ q) = some (a ++ b) := by
  intro n
  induction n with
  | zero =>
    intro p q a b hp ha hb
    have : p = [] := List.eq_nil_of_length_eq_zero (by omega)
    subst this
    simp only [parseL, parseN, Option.some.injEq, List.length_nil] at ha
    subst ha
    exact hb
  | succ n ih =>
    intro p q a b hp ha hb
    cases hpc : pieceL p with
    | none =>
      by_cases e : p = []
      · subst e
        simp only [parseL, parseN, Option.some.injEq, List.length_nil] at ha
        subst ha
        exact hb
      · rw [parseL_none e hpc] at ha; simp at ha
    | some x =>
      obtain ⟨x, r⟩ := x
      have hl := pieceL_len hpc
      rw [parseL_cons hpc] at ha
      cases hr : parseL r with
      | none => rw [hr] at ha; simp at ha
      | some c =>
        rw [hr, Option.map_some, Option.some.injEq] at ha
        subst ha
        rw [parseL_cons (pieceL_app hpc q), ih r q c b (by omega) hr hb]
        rfl
/-! Escaped texts. -/
def special (b : UInt8) : Bool := b == 42 || b == 63 || b == 91 || b == 92
def escL : List UInt8 → List UInt8
  | [] => []
  | b :: s => if special b = true then 92 :: b :: escL s else b :: escL s
theorem escL_piece (b : UInt8) (s : List UInt8) : pieceL (escL (b :: s)) = some (lit b, escL s) := by
  rw [show escL (b :: s) = if special b = true then 92 :: b :: escL s else b :: escL s from rfl]
  by_cases c : special b = true
  · rw [if_pos c]
    unfold pieceL
    simp
  · rw [if_neg c]
    unfold pieceL
    unfold special at c
    simp only [Bool.or_eq_true, beq_iff_eq, not_or] at c
    simp [c]
theorem parse_esc : ∀ s : List UInt8, parseL (escL s) = some (s.map lit)
  | [] => rfl
  | b :: s => by rw [parseL_cons (escL_piece b s), parse_esc s]; rfl
theorem mt_lits : ∀ s t : List UInt8, mt ((s.map lit).map (·.pc)) t = (s == t)
  | [], [] => by simp [mt]
  | [], b :: t => by simp [mt]
  | a :: s, [] => by simp [mt, lit]
  | a :: s, b :: t => by
    rw [List.map_cons, List.map_cons]
    show mt (some (fun x => x == a) :: _) (b :: t) = _
    rw [mt, mt_lits s t, List.cons_beq_cons]
    congr 1
    rw [Bool.eq_iff_iff, beq_iff_eq, beq_iff_eq]
    exact ⟨fun h => h.symm, fun h => h.symm⟩
/-! Stars and question marks. -/
theorem parse_stars : ∀ n, parseL (List.replicate n 42) = some (List.replicate n ⟨none, none⟩)
  | 0 => rfl
  | n + 1 => by
    rw [List.replicate_succ, parseL_cons (p := ⟨none, none⟩) (r := List.replicate n 42) (by simp [pieceL]), parse_stars n]
    rfl
theorem mt_stars : ∀ (n : Nat) (s : List UInt8), mt ((List.replicate (n + 1) (⟨none, none⟩ : Pi)).map (·.pc)) s = true
  | 0, s => mt_one_star s
  | n + 1, s => by
    rw [List.replicate_succ, List.map_cons]
    rw [mt_star]
    exact ⟨0, Nat.zero_le _, mt_stars n _⟩
theorem parse_marks : ∀ n, parseL (List.replicate n 63) = some (List.replicate n ⟨some (fun _ => true), none⟩)
  | 0 => rfl
  | n + 1 => by
    rw [List.replicate_succ, parseL_cons (p := ⟨some (fun _ => true), none⟩) (r := List.replicate n 63) (by simp [pieceL]), parse_marks n]
    rfl
theorem mt_marks : ∀ (n : Nat) (s : List UInt8), mt ((List.replicate n (⟨some (fun _ => true), none⟩ : Pi)).map (·.pc)) s = decide (s.length = n)
  | 0, [] => by simp [mt]
  | 0, b :: s => by simp [mt]
  | n + 1, [] => by simp [mt, List.replicate_succ]
  | n + 1, b :: s => by
    rw [List.replicate_succ, List.map_cons]
    show mt (some (fun _ => true) :: _) (b :: s) = _
    rw [mt, mt_marks n s]
    simp
/-- A star ahead and behind: the text between is held somewhere. -/
theorem mt_held (w s : List UInt8) : mt (none :: ((w.map lit).map (·.pc) ++ [none])) s = true ↔ ∃ a b, s = a ++ (w ++ b) := by
  rw [mt_star]
  constructor
  · rintro ⟨i, hi, h⟩
    obtain ⟨j, hj, h1, _⟩ := (mt_app _ _ _).1 h
    rw [mt_lits, beq_iff_eq] at h1
    refine ⟨s.take i, (s.drop i).drop j, ?_⟩
    rw [h1, List.take_append_drop, List.take_append_drop]
  · rintro ⟨a, b, rfl⟩
    refine ⟨a.length, by simp, ?_⟩
    rw [List.drop_left, mt_app]
    exact ⟨w.length, by simp, by rw [List.take_left, mt_lits]; simp, mt_one_star _⟩
end Go.Proofs.Yteidlffajcogcaa.GlobS
