/- Layer 12: a framer, byte by byte; what Feed tells is what its bytes tell one by one. -/
import Derived.Test.YthacblokhhhlmaaDoorXFfx
namespace Go.Proofs.YthacblokhhhlmaaDoor.FrmS
open Go.RowKit Gong Go.Proofs.YthacblokhhhlmaaDoor.XFf Go.Proofs.YthacblokhhhlmaaDoorW.PrintWords Go.Proofs.YthacblokhhhlmaaDoorW.PrintLast Go.Proofs.YthacblokhhhlmaaDoorW.PrintMore
set_option linter.unusedVariables false
set_option linter.unusedSimpArgs false
theorem leo_le {α : Type} {f : Nat → Option α} (hm : ∀ k, LeO (f k) (f (k + 1))) {a b : Nat} (h : a ≤ b) {r : α} (hr : f a = some r) : f b = some r := by
  induction h with
  | refl => exact hr
  | step _ ih => exact hm _ _ ih
theorem wrap_id {x : Int} (h1 : -9223372036854775808 ≤ x) (h2 : x ≤ 9223372036854775807) : wrap64 x = x := by unfold wrap64; omega
/-- A text's bytes. -/
def L (s : ByteArray) : List UInt8 := s.data.toList
def Bs (l : List UInt8) : ByteArray := ⟨l.toArray⟩
theorem L_Bs (l : List UInt8) : L (Bs l) = l := by simp [L, Bs]
theorem Bs_L (s : ByteArray) : Bs (L s) = s := by cases s; simp [L, Bs]
theorem L_len (s : ByteArray) : (L s).length = s.size := by simp [L]
theorem L_extract (s : ByteArray) (a b : Nat) : L (s.extract a b) = ((L s).take b).drop a := by
  simp [L, ByteArray.data_extract, List.drop_take]
theorem bt_L (s : ByteArray) (i : Nat) (h : i < (L s).length) : bt s (i : Int) = (((L s)[i]'h).toNat : Int) := by
  have h2 : i < s.size := by rw [← L_len]; exact h
  unfold bt
  rw [dif_pos (by simpa using h2)]
  rfl
/-- A byte that is fed: the framer behind it, and a message that is whole; none: it is dead. -/
def bstep (F : Fm) (b : UInt8) : Option (Fm × Option ByteArray) :=
  if F.state = 2 then
    (if ((F.body.length : Int) + 1) = F.number then some (F.emptied 0, some (Bs (F.body ++ [b]))) else some (⟨F.most, F.state, F.number, F.digits, F.body ++ [b], F.dropped⟩, none))
  else if (F.head (b.toNat : Int)).1 = true then some ((F.head (b.toNat : Int)).2, none) else none
def brun : Fm → List UInt8 → List ByteArray → List ByteArray × Fm
  | F, [], out => (out, F)
  | F, b :: l, out => match bstep F b with
    | none => (out, F.emptied 3)
    | some (F', none) => brun F' l out
    | some (F', some m) => brun F' l (out ++ [m])
/-- A framer that may be. -/
structure Inv (F : Fm) : Prop where
  m1 : 1 ≤ F.most
  m2 : F.most ≤ 65535
  st : (F.state = 0 ∧ F.number = 0 ∧ F.digits = 0 ∧ F.body = []) ∨ (F.state = 1 ∧ 1 ≤ F.number ∧ F.number ≤ F.most ∧ 1 ≤ F.digits ∧ F.digits ≤ F.number ∧ F.body = []) ∨
    (F.state = 2 ∧ 1 ≤ F.number ∧ F.number ≤ F.most ∧ 1 ≤ F.digits ∧ F.digits ≤ F.number ∧ (F.body.length : Int) < F.number) ∨ (F.state = 3 ∧ F.number = 0 ∧ F.digits = 0 ∧ F.body = [])
theorem Inv.emptied {F : Fm} (h : Inv F) (s : Int) (hs : s = 0 ∨ s = 3) : Inv (F.emptied s) := by
  refine ⟨h.m1, h.m2, ?_⟩
  rcases hs with rfl | rfl
  · exact .inl ⟨rfl, rfl, rfl, rfl⟩
  · exact .inr (.inr (.inr ⟨rfl, rfl, rfl, rfl⟩))
theorem head_inv {F : Fm} (h : Inv F) (hs : F.state = 0 ∨ F.state = 1) (b : UInt8) (hb : (F.head (b.toNat : Int)).1 = true) : Inv (F.head (b.toNat : Int)).2 ∧ (F.head (b.toNat : Int)).2.state ≠ 3 := by
  have hb1 : (b.toNat : Int) ≤ 255 := by have := b.toNat_lt; omega
  have m1 := h.m1
  have m2 := h.m2
  have hst : (F.state = 0 ∧ F.number = 0 ∧ F.digits = 0 ∧ F.body = []) ∨ (F.state = 1 ∧ 1 ≤ F.number ∧ F.number ≤ F.most ∧ 1 ≤ F.digits ∧ F.digits ≤ F.number ∧ F.body = []) := by
    rcases h.st with h | h | h | h
    · exact .inl h
    · exact .inr h
    · omega
    · omega
  unfold Fm.head at hb ⊢
  by_cases c1 : F.state = 1 ∧ (b.toNat : Int) = 32
  · rw [if_pos c1]
    refine ⟨⟨m1, m2, .inr (.inr (.inl ?_))⟩, (show (2 : Int) ≠ 3 by decide)⟩
    rcases hst with ⟨h1, _⟩ | ⟨_, h1, h2, h3, h4, h5⟩
    · omega
    · exact ⟨rfl, h1, h2, h3, h4, by show (F.body.length : Int) < F.number; rw [h5]; simp; omega⟩
  · rw [if_neg c1] at hb ⊢
    by_cases c2 : F.state = 0 ∧ (b.toNat : Int) = 48
    · rw [if_pos c2] at hb
      exact absurd hb (by simp)
    · rw [if_neg c2] at hb ⊢
      by_cases c3 : (b.toNat : Int) < 48 ∨ 57 < (b.toNat : Int)
      · rw [if_pos c3] at hb
        exact absurd hb (by simp)
      · rw [if_neg c3] at hb ⊢
        have hw : wrap64 (wrap64 (F.number * 10) + ((b.toNat : Int) - 48)) = F.number * 10 + ((b.toNat : Int) - 48) := by
          rcases hst with ⟨_, h1, _⟩ | ⟨_, h1, h2, _⟩
          · rw [h1]; unfold wrap64; omega
          · unfold wrap64; omega
        have hd : wrap64 (F.digits + 1) = F.digits + 1 := by
          rcases hst with ⟨_, _, h1, _⟩ | ⟨_, h1, h2, h3, h4, _⟩ <;> (unfold wrap64; omega)
        simp only [hw, decide_eq_true_eq] at hb
        refine ⟨⟨m1, m2, .inr (.inl ⟨rfl, ?_, ?_, ?_, ?_, ?_⟩)⟩, (show (1 : Int) ≠ 3 by decide)⟩
        · show 1 ≤ wrap64 _
          rw [hw]
          rcases hst with ⟨h0, h1, _⟩ | ⟨_, h1, _⟩ <;> omega
        · show wrap64 _ ≤ F.most
          rw [hw]; exact hb
        · show 1 ≤ wrap64 (F.digits + 1)
          rw [hd]
          rcases hst with ⟨_, _, h1, _⟩ | ⟨_, _, _, h1, _⟩ <;> omega
        · show wrap64 (F.digits + 1) ≤ wrap64 _
          rw [hd, hw]
          rcases hst with ⟨h0, h1, h2, _⟩ | ⟨_, h1, h2, h3, h4, _⟩ <;> omega
        · show F.body = []
          rcases hst with ⟨_, _, _, h1⟩ | ⟨_, _, _, _, _, h1⟩ <;> exact h1
theorem head_most (F : Fm) (b : Int) : (F.head b).2.most = F.most ∧ (F.head b).2.dropped = F.dropped ∧ (F.head b).2.body = F.body := by
  unfold Fm.head
  split
  · exact ⟨rfl, rfl, rfl⟩
  · split
    · exact ⟨rfl, rfl, rfl⟩
    · split <;> exact ⟨rfl, rfl, rfl⟩
theorem bstep_inv {F F' : Fm} {m : Option ByteArray} {b : UInt8} (h : Inv F) (hs : F.state ≠ 3) (hb : bstep F b = some (F', m)) : Inv F' ∧ F'.state ≠ 3 ∧ F'.most = F.most ∧ F'.dropped = F.dropped := by
  unfold bstep at hb
  by_cases c : F.state = 2
  · rw [if_pos c] at hb
    by_cases c2 : ((F.body.length : Int) + 1) = F.number
    · rw [if_pos c2] at hb
      simp only [Option.some.injEq, Prod.mk.injEq] at hb
      obtain ⟨rfl, _⟩ := hb
      exact ⟨h.emptied 0 (.inl rfl), by simp [Fm.emptied], rfl, rfl⟩
    · rw [if_neg c2] at hb
      simp only [Option.some.injEq, Prod.mk.injEq] at hb
      obtain ⟨rfl, _⟩ := hb
      refine ⟨⟨h.m1, h.m2, .inr (.inr (.inl ?_))⟩, by simp [c], rfl, rfl⟩
      rcases h.st with h | h | h | h
      · omega
      · omega
      · obtain ⟨h1, h2, h3, h4, h5, h6⟩ := h
        refine ⟨h1, h2, h3, h4, h5, ?_⟩
        show ((F.body ++ [b]).length : Int) < F.number
        rw [List.length_append]
        simp only [List.length_cons, List.length_nil]
        omega
      · omega
  · rw [if_neg c] at hb
    split at hb
    · rename_i hh
      simp only [Option.some.injEq, Prod.mk.injEq] at hb
      obtain ⟨rfl, _⟩ := hb
      have hs2 : F.state = 0 ∨ F.state = 1 := by
        rcases h.st with h | h | h | h <;> omega
      have := head_inv h hs2 b hh
      have h2 := head_most F (b.toNat : Int)
      exact ⟨this.1, this.2, h2.1, h2.2.1⟩
    · cases hb
theorem brun_inv {F : Fm} (h : Inv F) (hs : F.state ≠ 3) : ∀ (l : List UInt8) (out : List ByteArray), Inv (brun F l out).2 ∧ (brun F l out).2.most = F.most ∧ (brun F l out).2.dropped = F.dropped ∧ (brun F l out).1.length ≤ out.length + l.length := by
  intro l
  induction l generalizing F with
  | nil => intro out; exact ⟨h, rfl, rfl, by simp [brun]⟩
  | cons b l ih =>
    intro out
    unfold brun
    cases hb : bstep F b with
    | none => exact ⟨h.emptied 3 (.inr rfl), rfl, rfl, by simp⟩
    | some p =>
      obtain ⟨F', m⟩ := p
      obtain ⟨h1, h2, h3, h4⟩ := bstep_inv h hs hb
      cases m with
      | none =>
        obtain ⟨i1, i2, i3, i4⟩ := ih h1 h2 out
        exact ⟨i1, i2.trans h3, i3.trans h4, by simp only [List.length_cons]; omega⟩
      | some m =>
        obtain ⟨i1, i2, i3, i4⟩ := ih h1 h2 (out ++ [m])
        exact ⟨i1, i2.trans h3, i3.trans h4, by simp only [List.length_cons, List.length_append, List.length_nil] at i4 ⊢; omega⟩
theorem brun_none {F : Fm} {x : UInt8} (hb : bstep F x = none) (l : List UInt8) (out : List ByteArray) : brun F (x :: l) out = (out, F.emptied 3) := by
  rw [brun, hb]
theorem brun_some {F F' : Fm} {x : UInt8} (hb : bstep F x = some (F', none)) (l : List UInt8) (out : List ByteArray) : brun F (x :: l) out = brun F' l out := by
  rw [brun, hb]
theorem brun_tell {F F' : Fm} {x : UInt8} {m : ByteArray} (hb : bstep F x = some (F', some m)) (l : List UInt8) (out : List ByteArray) : brun F (x :: l) out = brun F' l (out ++ [m]) := by
  rw [brun, hb]
/-- Chunks: one behind the other. -/
theorem brun_append {F : Fm} (h : Inv F) (hs : F.state ≠ 3) : ∀ (a b : List UInt8) (out : List ByteArray), brun F (a ++ b) out = if (brun F a out).2.state = 3 then brun F a out else brun (brun F a out).2 b (brun F a out).1 := by
  intro a
  induction a generalizing F with
  | nil => intro b out; simp [brun, hs]
  | cons x a ih =>
    intro b out
    rw [List.cons_append]
    cases hb : bstep F x with
    | none => rw [brun_none hb, brun_none hb]; simp [Fm.emptied]
    | some p =>
      obtain ⟨F', m⟩ := p
      obtain ⟨h1, h2, h3, h4⟩ := bstep_inv h hs hb
      cases m with
      | none => rw [brun_some hb, brun_some hb]; exact ih h1 h2 b out
      | some m => rw [brun_tell hb, brun_tell hb]; exact ih h1 h2 b (out ++ [m])
theorem brun_out {F : Fm} : ∀ (l : List UInt8) (out : List ByteArray), brun F l out = (out ++ (brun F l []).1, (brun F l []).2) := by
  intro l
  induction l generalizing F with
  | nil => intro out; simp [brun]
  | cons x a ih =>
    intro out
    unfold brun
    cases hb : bstep F x with
    | none => simp
    | some p =>
      obtain ⟨F', m⟩ := p
      cases m with
      | none => exact ih out
      | some m =>
        simp only
        rw [ih (out ++ [m]), ih ([] ++ [m])]
        simp
/-- Bytes of a body that do not fill it. -/
theorem brun_body : ∀ (a : List UInt8) {F : Fm} (hs : F.state = 2) (b : List UInt8) (out : List ByteArray), (F.body.length + a.length : Int) < F.number →
    brun F (a ++ b) out = brun ⟨F.most, F.state, F.number, F.digits, F.body ++ a, F.dropped⟩ b out := by
  intro a
  induction a with
  | nil => intro F hs b out h; simp
  | cons x a ih =>
    intro F hs b out h
    simp only [List.length_cons] at h
    rw [List.cons_append]
    have e : bstep F x = some (⟨F.most, F.state, F.number, F.digits, F.body ++ [x], F.dropped⟩, none) := by
      unfold bstep
      rw [if_pos hs, if_neg (by omega)]
    rw [brun, e]
    simp only
    rw [ih (F := ⟨F.most, F.state, F.number, F.digits, F.body ++ [x], F.dropped⟩) hs b out (by simp only [List.length_append, List.length_cons, List.length_nil]; omega)]
    simp
/-- Bytes that fill it. -/
theorem brun_full (a : List UInt8) {F : Fm} (hs : F.state = 2) (b : List UInt8) (out : List ByteArray) (hb : (F.body.length : Int) < F.number) (h : (F.body.length + a.length : Int) = F.number) :
    brun F (a ++ b) out = brun (F.emptied 0) b (out ++ [Bs (F.body ++ a)]) := by
  have hne : a ≠ [] := by
    rintro rfl
    simp at h
    omega
  obtain ⟨a', x, rfl⟩ : ∃ a' x, a = a' ++ [x] := ⟨a.dropLast, a.getLast hne, (List.dropLast_concat_getLast hne).symm⟩
  simp only [List.length_append, List.length_cons, List.length_nil] at h
  rw [List.append_assoc, brun_body a' hs _ out (by omega)]
  rw [List.singleton_append, brun]
  have e : bstep ⟨F.most, F.state, F.number, F.digits, F.body ++ a', F.dropped⟩ x = some (F.emptied 0, some (Bs (F.body ++ a' ++ [x]))) := by
    unfold bstep
    rw [if_pos hs, if_pos (by simp only [List.length_append]; omega)]
    rfl
  rw [e]
  simp only [List.append_assoc]
/-- What Feed tells of a chunk. -/
theorem feedL_eq : ∀ (n : Nat) (F : Fm) (c : ByteArray) (m : List ByteArray), (L c).length ≤ n → Inv F → F.state ≠ 3 → m.length + c.size ≤ 1000000 →
    Fm.feedL (n + 1) F c m = some ((brun F (L c) m).1, if (brun F (L c) m).2.state = 3 then 120 else 0, (brun F (L c) m).2) := by
  intro n
  induction n with
  | zero =>
    intro F c m hn hI hs hm
    have h0 : c.size = 0 := by rw [← L_len]; omega
    have hl : L c = [] := List.eq_nil_of_length_eq_zero (by omega)
    unfold Fm.feedL
    rw [if_pos h0, hl]
    simp [brun, hs]
  | succ n ih =>
    intro F c m hn hI hs hm
    by_cases h0 : c.size = 0
    · have hl : L c = [] := List.eq_nil_of_length_eq_zero (by rw [L_len]; omega)
      unfold Fm.feedL
      rw [if_pos h0, hl]
      simp [brun, hs]
    · have hlen := L_len c
      unfold Fm.feedL
      rw [if_neg h0]
      by_cases c1 : F.state = 0 ∨ F.state = 1
      · rw [if_pos c1]
        obtain ⟨x, l, hx⟩ : ∃ x l, L c = x :: l := by
          cases hc : L c with
          | nil => rw [hc] at hlen; simp at hlen; omega
          | cons x l => exact ⟨x, l, rfl⟩
        have hb : bt c 0 = (x.toNat : Int) := by
          have h1 := bt_L c 0 (by rw [hlen]; omega)
          simp only [hx, List.getElem_cons_zero] at h1
          exact h1
        have he : L (c.extract 1 c.size) = l := by
          rw [L_extract, ← hlen, List.take_length, hx]
          rfl
        rw [hb]
        have hst : F.state ≠ 2 := by omega
        have e : bstep F x = if (F.head (x.toNat : Int)).1 = true then some ((F.head (x.toNat : Int)).2, none) else none := by
          unfold bstep
          rw [if_neg hst]
        by_cases c2 : (F.head (x.toNat : Int)).1 = true
        · rw [if_pos c2]
          rw [if_pos c2] at e
          obtain ⟨i1, i2⟩ := head_inv hI c1 x c2
          rw [hx] at hlen hn
          simp only [List.length_cons] at hlen hn
          have hsz : (c.extract 1 c.size).size = l.length := by rw [← L_len, he]
          rw [ih _ _ m (by rw [he]; omega) i1 i2 (by rw [hsz]; omega), he, hx, brun, e]
        · rw [if_neg c2]
          rw [if_neg c2] at e
          have h2 := head_most F (x.toNat : Int)
          rw [hx, brun, e]
          have e2 : (F.head (x.toNat : Int)).2.emptied 3 = F.emptied 3 := by unfold Fm.emptied; rw [h2.1, h2.2.1]
          rw [e2]
          simp [Fm.emptied]
      · rw [if_neg c1]
        have hst : F.state = 2 ∧ 1 ≤ F.number ∧ F.number ≤ F.most ∧ 1 ≤ F.digits ∧ F.digits ≤ F.number ∧ (F.body.length : Int) < F.number := by
          rcases hI.st with h | h | h | h
          · exact absurd (Or.inl h.1) c1
          · exact absurd (Or.inr h.1) c1
          · exact h
          · exact absurd h.1 hs
        obtain ⟨s2, s3, s4, s5, s6, s7⟩ := hst
        have m2 := hI.m2
        have hw : wrap64 (F.number - (F.body.length : Int)) = F.number - (F.body.length : Int) := by unfold wrap64; omega
        obtain ⟨q, hq⟩ : ∃ q : Nat, Go.Proofs.YthacblokhhhlmaaDoor.XFf.mn (wrap64 (F.number - (F.body.length : Int))) (c.size : Int) = (q : Int) ∧ q ≤ c.size ∧ (F.body.length + q : Int) ≤ F.number ∧ 1 ≤ q ∧ (q < c.size → (F.body.length + q : Int) = F.number) := by
          rw [hw]
          unfold Go.Proofs.YthacblokhhhlmaaDoor.XFf.mn
          by_cases hc : F.number - (F.body.length : Int) ≤ (c.size : Int)
          · rw [if_pos hc]
            exact ⟨(F.number - (F.body.length : Int)).toNat, by omega, by omega, by omega, by omega, fun _ => by omega⟩
          · rw [if_neg hc]
            exact ⟨c.size, rfl, by omega, by omega, by omega, fun h => absurd h (Nat.lt_irrefl _)⟩
        obtain ⟨q1, q2, q3, q4, q5⟩ := hq
        rw [q1]
        rw [if_pos ⟨s2, by omega, by omega, by omega⟩]
        simp only [Int.toNat_natCast]
        have e1 : (c.extract 0 q).data.toList = (L c).take q := by
          exact (L_extract c 0 q).trans (by rw [List.drop_zero])
        have e2 : L (c.extract q c.size) = (L c).drop q := by
          rw [L_extract, ← hlen, List.take_length]
        have e3 : (c.extract q c.size).size = c.size - q := by rw [← L_len, e2, List.length_drop, hlen]
        have e4 : ((L c).take q).length = q := by rw [List.length_take]; omega
        rw [e1]
        conv =>
          rhs
          rw [← List.take_append_drop q (L c)]
        by_cases c3 : (F.body.length : Int) + (q : Int) = F.number
        · rw [if_pos c3]
          rw [ih _ _ _ (by rw [e2, List.length_drop]; omega) (hI.emptied 0 (.inl rfl)) (by simp [Fm.emptied]) (by rw [e3]; simp only [List.length_append, List.length_cons, List.length_nil]; omega), e2]
          rw [brun_full ((L c).take q) s2 _ m s7 (by rw [e4]; exact c3)]
          rfl
        · rw [if_neg c3]
          have hI2 : Inv ⟨F.most, F.state, F.number, F.digits, F.body ++ (L c).take q, F.dropped⟩ := by
            refine ⟨hI.m1, hI.m2, .inr (.inr (.inl ⟨s2, s3, s4, s5, s6, ?_⟩))⟩
            show (((F.body ++ (L c).take q).length : Nat) : Int) < F.number
            rw [List.length_append, e4]
            omega
          rw [ih _ _ _ (by rw [e2, List.length_drop]; omega) hI2 hs (by rw [e3]; omega), e2]
          rw [brun_body ((L c).take q) s2 _ m (by rw [e4]; omega)]
/-- What Feed tells of a chunk, with enough rounds. -/
theorem feed_eq (k : Nat) (F : Fm) (c : ByteArray) (hk : c.size < k) (hI : Inv F) (hs : F.state ≠ 3) (hm : c.size ≤ 1000000) :
    Fm.feed k F c = some ((brun F (L c) []).1, if (brun F (L c) []).2.state = 3 then 120 else 0, (brun F (L c) []).2) := by
  refine leo_le (fun k => Fm.feed_mono F c k) (a := c.size + 1) hk ?_
  unfold Fm.feed
  rw [if_neg hs]
  exact feedL_eq c.size F c [] (by rw [L_len]; exact Nat.le_refl _) hI hs (by simpa using hm)
theorem feed_dead (k : Nat) (F : Fm) (c : ByteArray) (hs : F.state = 3) : Fm.feed k F c = some ([], 120, ⟨F.most, F.state, F.number, F.digits, F.body, wrap64 (F.dropped + 1)⟩) := by
  unfold Fm.feed
  rw [if_pos hs]
theorem inv_new (a : Int) (h0 : 1 ≤ a) (h1 : a ≤ 65535) : Inv ⟨a, 0, 0, 0, [], 0⟩ := ⟨h0, h1, .inl ⟨rfl, rfl, rfl, rfl⟩⟩
theorem held_nn {F : Fm} (h : Inv F) : 0 ≤ F.held ∧ F.held ≤ 200000 := by
  have m2 := h.m2
  unfold Fm.held
  rcases h.st with h | h | h | h
  · rw [if_neg (by omega), if_neg (by omega)]; omega
  · rw [if_pos (by omega)]; omega
  · rw [if_neg (by omega), if_pos (by omega)]
    have h1 : wrap64 (F.digits + 1) = F.digits + 1 := by unfold wrap64; omega
    have h2 : wrap64 (F.digits + 1 + (F.body.length : Int)) = F.digits + 1 + (F.body.length : Int) := by unfold wrap64; omega
    rw [h1, h2]
    omega
  · rw [if_neg (by omega), if_neg (by omega)]; omega
/-- SameTexts. -/
theorem same_refl (l : List ByteArray) (hl : l.length ≤ 1000000) (k : Nat) (hk : l.length < k) : gongbook_SameTexts.f k l l = some true := by
  have hloop : ∀ (d i k : Nat), d + i = l.length → d < k → gongbook_SameTexts.l0 k l l true (i : Int) = some true := by
    intro d
    induction d with
    | zero =>
      intro i k hd hk
      obtain ⟨k, rfl⟩ : ∃ m, k = m + 1 := ⟨k - 1, by omega⟩
      simp only [gongbook_SameTexts.l0, if_true]
      rw [if_neg (by omega)]
    | succ d ih =>
      intro i k hd hk
      obtain ⟨k, rfl⟩ : ∃ m, k = m + 1 := ⟨k - 1, by omega⟩
      simp only [gongbook_SameTexts.l0, if_true]
      rw [if_pos (by omega), if_pos (by omega)]
      rw [if_pos (show (i : Int) < (l.length : Int) by omega)]
      have e : wrap64 ((i : Int) + 1) = ((i + 1 : Nat) : Int) := by unfold wrap64; omega
      rw [e, beq_self_eq_true]
      exact ih (i + 1) k (by omega) (by omega)
  unfold gongbook_SameTexts.f
  rw [beq_self_eq_true]
  exact hloop l.length 0 k (by omega) hk
theorem wf_i64 {x : Int} (h : (Lit.int .i64 x).wf = true) : -9223372036854775808 ≤ x ∧ x ≤ 9223372036854775807 := by
  simp [Lit.wf, IntKind.min, IntKind.max, IntKind.signed, IntKind.bits] at h
  exact h
end Go.Proofs.YthacblokhhhlmaaDoor.FrmS
