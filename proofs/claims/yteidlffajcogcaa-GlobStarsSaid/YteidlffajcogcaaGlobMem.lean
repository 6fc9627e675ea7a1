/- Layer 13: where sets and pieces lie. -/
import Derived.Test.YteidlffajcogcaaGMem
import Derived.Test.YteidlffajcogcaaGlobSpec
import Derived.Test.YteidlffajcogcaaWWords
import Derived.Laws.Strings
import Derived.Great.BuildSlice
import Derived.KernelRfl
namespace Gong
open Go Go.RowKit Go.Proofs.Yteidlffajcogcaa.GlobS Go.Proofs.YteidlffajcogcaaW.PrintWords
set_option linter.unusedVariables false
set_option linter.unusedSimpArgs false
/-- The cells of a set. -/
def setC (f : Nat → Bool) : Array Value := ((List.range 256).map fun i => Value.bool (f i)).toArray
theorem setC_size (f : Nat → Bool) : (setC f).size = 256 := by simp [setC]
theorem setC_get (f : Nat → Bool) (i : Nat) (h : i < 256) : (setC f)[i]? = some (.bool (f i)) := by simp [setC, h]
theorem setC_out (f : Nat → Bool) (i : Nat) (h : ¬ i < 256) : (setC f)[i]? = none := by simp [setC]; omega
theorem setC_put (f : Nat → Bool) (i : Nat) (b : Bool) : (setC f).setIfInBounds i (.bool b) = setC (fun j => if j = i then b else f j) := by
  apply Array.ext_getElem?
  intro j
  by_cases hj : j < 256
  · rw [setC_get _ j hj]
    by_cases e : i = j
    · subst e
      rw [Array.getElem?_setIfInBounds_self, if_pos (by rw [setC_size]; exact hj), if_pos rfl]
    · rw [Array.getElem?_setIfInBounds_ne e, setC_get _ j hj, if_neg (fun h => e h.symm)]
  · rw [setC_out _ j hj]
    apply Array.getElem?_eq_none
    rw [Array.size_setIfInBounds, setC_size]
    omega
theorem setC_congr {f g : Nat → Bool} (h : ∀ i, i < 256 → f i = g i) : setC f = setC g := by
  apply Array.ext_getElem?
  intro j
  by_cases hj : j < 256
  · rw [setC_get _ j hj, setC_get _ j hj, h j hj]
  · rw [setC_out _ j hj, setC_out _ j hj]
/-- A set lies in block b. -/
def SetAt (t : TypeId) (w : World) (b : Nat) (f : Nat → Bool) : Prop := w.heap[b]? = some (.cells (setC f) t (0, 0))
theorem SetAt.congr {t : TypeId} {w : World} {b : Nat} {f g : Nat → Bool} (h : SetAt t w b f) (e : ∀ i, i < 256 → f i = g i) : SetAt t w b g := by
  unfold SetAt
  rw [← setC_congr e]
  exact h
theorem SetAt.mv {t : TypeId} {w w' : World} {b : Nat} {f : Nat → Bool} {S : Nat → Prop} (h : SetAt t w b f) (hm : Mv S w w') (hS : ¬ S b) : SetAt t w' b f := hm.heap h hS
theorem SetAt.lt {t : TypeId} {w : World} {b : Nat} {f : Nat → Bool} (h : SetAt t w b f) : b < w.heap.size := (Array.getElem?_eq_some_iff.1 h).1
theorem SetAt.cell {t : TypeId} {w : World} {b : Nat} {f : Nat → Bool} (h : SetAt t w b f) (i : Nat) (hi : i < 256) : w.cell? ⟨b, i, none⟩ = some (.bool (f i)) := by
  rw [blk_cell h i]
  exact setC_get f i hi
theorem SetAt.free {t : TypeId} {w : World} {b : Nat} {f : Nat → Bool} (h : SetAt t w b f) (i : Nat) : w.frozen? ⟨b, i, none⟩ = false := by
  exact blk_frozen h i
theorem SetAt.put {t : TypeId} {w : World} {b : Nat} {f : Nat → Bool} (h : SetAt t w b f) (i : Nat) (x : Bool) : SetAt t (w.setCell ⟨b, i, none⟩ (.bool x)) b (fun j => if j = i then x else f j) := by
  unfold SetAt
  rw [← setC_put]
  exact blk_set h i _
/-- A text of these bytes. -/
def Bz (l : List UInt8) : ByteArray := ⟨l.toArray⟩
theorem Bz_list (l : List UInt8) : (Bz l).toList = l := by
  exact Go.ByteArray.toList_mk l
theorem Bz_size (l : List UInt8) : (Bz l).size = l.length := by simp [Bz, ByteArray.size]
theorem Bz_eq (s : ByteArray) : Bz s.data.toList = s := by cases s; simp [Bz]
theorem Bz_nil : ((Bz []).toList == ([] : List UInt8)) = true := by rw [Bz_list]; rfl
theorem Bz_cons (b : UInt8) (l : List UInt8) : ((Bz (b :: l)).toList == ([] : List UInt8)) = false := by rw [Bz_list]; rfl
theorem Bz_nil' : ((Bz []).toList != ([] : List UInt8)) = false := by rw [Bz_list]; rfl
theorem Bz_cons' (b : UInt8) (l : List UInt8) : ((Bz (b :: l)).toList != ([] : List UInt8)) = true := by rw [Bz_list]; rfl
theorem Bz_nilT : ((Bz []).toList = ([] : List UInt8)) = True := eq_true (Bz_list [])
theorem Bz_consF (b : UInt8) (l : List UInt8) : ((Bz (b :: l)).toList = ([] : List UInt8)) = False := eq_false (by rw [Bz_list]; simp)
theorem Bz_first (b : UInt8) (l : List UInt8) (h : 0 < (Bz (b :: l)).size) : (((Bz (b :: l))[0]'h).toNat : Int) = b.toNat := rfl
theorem Bz_rest (b : UInt8) (l : List UInt8) : (Bz (b :: l)).extract 1 (Bz (b :: l)).size = Bz l := by
  apply ByteArray.ext
  simp [Bz, ByteArray.data_extract, ByteArray.size]
/-- A reader lies in block g: what is left of its text, and is it bad? -/
def RdAt (t : TypeId) (w : World) (g : Nat) (l : List UInt8) (bad : Bool) : Prop := w.heap[g]? = some (.cells #[.string (Bz l), .bool bad] t (0, 0))
theorem RdAt.mv {t : TypeId} {w w' : World} {b : Nat} {l : List UInt8} {bad : Bool} {S : Nat → Prop} (h : RdAt t w b l bad) (hm : Mv S w w') (hS : ¬ S b) : RdAt t w' b l bad := hm.heap h hS
theorem RdAt.lt {t : TypeId} {w : World} {b : Nat} {l : List UInt8} {bad : Bool} (h : RdAt t w b l bad) : b < w.heap.size := (Array.getElem?_eq_some_iff.1 h).1
theorem RdAt.c0 {t : TypeId} {w : World} {b : Nat} {l : List UInt8} {bad : Bool} (h : RdAt t w b l bad) : w.cell? ⟨b, 0, none⟩ = some (.string (Bz l)) := (blk_cell h 0).trans rfl
theorem RdAt.c1 {t : TypeId} {w : World} {b : Nat} {l : List UInt8} {bad : Bool} (h : RdAt t w b l bad) : w.cell? ⟨b, 1, none⟩ = some (.bool bad) := (blk_cell h 1).trans rfl
theorem RdAt.free {t : TypeId} {w : World} {b : Nat} {l : List UInt8} {bad : Bool} (h : RdAt t w b l bad) (i : Nat) : w.frozen? ⟨b, i, none⟩ = false := by
  unfold RdAt at h
  exact blk_frozen h i
theorem RdAt.put0 {t : TypeId} {w : World} {b : Nat} {l : List UInt8} {bad : Bool} (h : RdAt t w b l bad) (m : List UInt8) : RdAt t (w.setCell ⟨b, 0, none⟩ (.string (Bz m))) b m bad := blk_put h 0 _ rfl
theorem RdAt.put1 {t : TypeId} {w : World} {b : Nat} {l : List UInt8} {bad : Bool} (h : RdAt t w b l bad) (c : Bool) : RdAt t (w.setCell ⟨b, 1, none⟩ (.bool c)) b l c := blk_put h 1 _ rfl
/-- Does a byte stand there? -/
def rAt (l : List UInt8) (bad : Bool) (c : Int) : Bool := match l with
  | [] => false
  | b :: _ => !bad && ((b.toNat : Int) == c)
/-- A byte is taken. -/
def rByte (l : List UInt8) (bad : Bool) : Int × List UInt8 × Bool := match l with
  | [] => (0, [], true)
  | b :: r => (b.toNat, r, bad)
/-- A byte of a range is taken. -/
def rMem (l : List UInt8) (bad : Bool) : Int × List UInt8 × Bool :=
  if rAt l bad 93 = true ∨ rAt l bad 45 = true then (0, l, true) else
  if (rByte l bad).1 = 92 then rByte (rByte l bad).2.1 (rByte l bad).2.2 else rByte l bad
theorem rMem_spec (l : List UInt8) : (member l = none ∧ (rMem l false).2.2 = true) ∨ ∃ b r, member l = some (b, r) ∧ rMem l false = ((b.toNat : Int), r, false) := by
  cases l with
  | nil => exact .inl ⟨rfl, rfl⟩
  | cons b s =>
    unfold member rMem
    dsimp only
    by_cases h1 : b = 93 ∨ b = 45
    · rw [if_pos h1]
      refine .inl ⟨rfl, ?_⟩
      rw [if_pos]
      rcases h1 with rfl | rfl
      · exact .inl rfl
      · exact .inr rfl
    · rw [if_neg h1]
      rw [if_neg (show ¬ (rAt (b :: s) false 93 = true ∨ rAt (b :: s) false 45 = true) from fun h => h1 (by
        rcases h with h | h
        · exact .inl (UInt8.toNat_inj.1 (by simp [rAt] at h; simp; omega))
        · exact .inr (UInt8.toNat_inj.1 (by simp [rAt] at h; simp; omega))))]
      by_cases h2 : b = 92
      · subst h2
        rw [if_pos rfl, if_pos (show (rByte (92 :: s) false).1 = 92 from rfl)]
        cases s with
        | nil => exact .inl ⟨rfl, rfl⟩
        | cons c r => exact .inr ⟨c, r, rfl, rfl⟩
      · rw [if_neg h2, if_neg (show ¬ (rByte (b :: s) false).1 = 92 from fun h => h2 (UInt8.toNat_inj.1 (by simp [rByte] at h; simp; omega)))]
        exact .inr ⟨b, s, rfl, rfl⟩
theorem rAt_true {l : List UInt8} {bad : Bool} {c : UInt8} (h : rAt l bad (c.toNat : Int) = true) : bad = false ∧ ∃ r, l = c :: r := by
  cases l with
  | nil => simp [rAt] at h
  | cons b r =>
    simp only [rAt, Bool.and_eq_true, Bool.not_eq_true', beq_iff_eq] at h
    exact ⟨h.1, r, by rw [UInt8.toNat_inj.1 (Int.ofNat_inj.1 h.2)]⟩
theorem rAt_false {b : UInt8} {r : List UInt8} {c : UInt8} (h : rAt (b :: r) false (c.toNat : Int) = false) : b ≠ c := by
  rintro rfl
  simp [rAt] at h
/-- A range is taken. -/
def rRange (l : List UInt8) : Int × Int × List UInt8 × Bool :=
  if rAt (rMem l false).2.1 (rMem l false).2.2 45 = true then
    ((rMem l false).1, (rMem (rByte (rMem l false).2.1 (rMem l false).2.2).2.1 (rByte (rMem l false).2.1 (rMem l false).2.2).2.2).1, (rMem (rByte (rMem l false).2.1 (rMem l false).2.2).2.1 (rByte (rMem l false).2.1 (rMem l false).2.2).2.2).2.1,
      (rMem (rByte (rMem l false).2.1 (rMem l false).2.2).2.1 (rByte (rMem l false).2.1 (rMem l false).2.2).2.2).2.2 || decide ((rMem l false).1 > (rMem (rByte (rMem l false).2.1 (rMem l false).2.2).2.1 (rByte (rMem l false).2.1 (rMem l false).2.2).2.2).1))
  else ((rMem l false).1, (rMem l false).1, (rMem l false).2.1, (rMem l false).2.2 || decide ((rMem l false).1 > (rMem l false).1))
theorem rRange_of (l : List UInt8) : ((rRange l).2.2.2 = true ∧ (range1 l = none ∨ ∃ A B r, range1 l = some (A, B, r) ∧ B < A)) ∨ ∃ A B r, rRange l = ((A.toNat : Int), (B.toNat : Int), r, false) ∧ range1 l = some (A, B, r) ∧ ¬ B < A := by
  rcases rMem_spec l with ⟨h1, h2⟩ | ⟨b, r, h1, h2⟩
  · refine .inl ⟨?_, .inl (by unfold range1; rw [h1])⟩
    have h3 : rAt (rMem l false).2.1 (rMem l false).2.2 45 = false := by
      rw [h2]
      cases (rMem l false).2.1 <;> rfl
    unfold rRange
    rw [if_neg (by rw [h3]; simp)]
    simp [h2]
  · unfold rRange range1
    rw [h1, h2]
    simp only
    cases r with
    | nil =>
      rw [if_neg (by simp [rAt])]
      exact .inr ⟨b, b, [], by simp, rfl, by simp⟩
    | cons c r =>
      by_cases h3 : c = 45
      · subst h3
        rw [if_pos (show rAt (45 :: r) false 45 = true from rfl)]
        simp only [rByte, if_true]
        rcases rMem_spec r with ⟨h4, h5⟩ | ⟨d, r2, h4, h5⟩
        · rw [h4]
          refine .inl ⟨by simp [h5], .inl rfl⟩
        · rw [h4]
          simp only [h5]
          by_cases h6 : d < b
          · refine .inl ⟨?_, .inr ⟨b, d, r2, rfl, h6⟩⟩
            have := UInt8.lt_iff_toNat_lt.1 h6
            simp; omega
          · refine .inr ⟨b, d, r2, ?_, rfl, h6⟩
            have : ¬ d.toNat < b.toNat := fun h => h6 (UInt8.lt_iff_toNat_lt.2 h)
            simp; omega
      · rw [if_neg (show ¬ rAt (c :: r) false 45 = true from fun h => h3 (UInt8.toNat_inj.1 (by simp [rAt] at h; simp; omega)))]
        dsimp only
        rw [if_neg h3]
        exact .inr ⟨b, b, c :: r, by simp, rfl, by simp⟩
theorem rRange_spec (l : List UInt8) (h : rAt l false 93 = false) : ((rRange l).2.2.2 = true ∧ ∀ n f t, ranges n f t l = none) ∨
    ∃ A B r, rRange l = ((A.toNat : Int), (B.toNat : Int), r, false) ∧ r.length < l.length ∧ ∀ n f t, ranges (n + 1) f t l = ranges n (fun x => f x || (decide (A ≤ x) && decide (x ≤ B))) true r := by
  cases l with
  | nil => exact .inl ⟨rfl, fun n f t => by cases n <;> rfl⟩
  | cons c s =>
    have hc : c ≠ 93 := rAt_false (c := 93) h
    rcases rRange_of (c :: s) with ⟨h1, h2⟩ | ⟨A, B, r, h1, h2, h3⟩
    · refine .inl ⟨h1, fun n f t => ?_⟩
      cases n with
      | zero => rfl
      | succ n =>
        rw [ranges]
        rw [if_neg hc]
        rcases h2 with h2 | ⟨A, B, r, h2, h3⟩
        · rw [h2]
        · rw [h2]
          simp only
          rw [if_pos h3]
    · refine .inr ⟨A, B, r, h1, range1_len h2, fun n f t => ?_⟩
      rw [ranges]
      rw [if_neg hc, h2]
      simp only
      rw [if_neg h3]
theorem setL_eq (l : List UInt8) : setL l = match ranges (l.length + 1) (fun _ => false) false (if rAt l false 33 = true then l.tail else l) with
    | none => none
    | some (f, any_, r) => if any_ = true then some (fun x => f x != rAt l false 33, r) else none := by
  have e : decide (l.head? = some 33) = rAt l false 33 := by
    cases l with
    | nil => rfl
    | cons b r =>
      rw [Bool.eq_iff_iff, decide_eq_true_iff]
      simp only [List.head?_cons, Option.some.injEq, rAt, Bool.not_false, Bool.true_and, beq_iff_eq]
      exact ⟨fun h => by rw [h]; rfl, fun h => UInt8.toNat_inj.1 (by simp; omega)⟩
  unfold setL
  rw [e]
  rfl
theorem set_add_congr {f : UInt8 → Bool} {A B : UInt8} (i : Nat) (h : i < 256) : (f (UInt8.ofNat i) || (decide ((A.toNat : Int) ≤ (i : Int)) && decide ((i : Int) ≤ (B.toNat : Int)))) = (f (UInt8.ofNat i) || (decide (A ≤ UInt8.ofNat i) && decide (UInt8.ofNat i ≤ B))) := by
  have e : (UInt8.ofNat i).toNat = i := by simp; omega
  rw [show decide ((A.toNat : Int) ≤ (i : Int)) = decide (A ≤ UInt8.ofNat i) from decide_eq_decide.2 (by rw [UInt8.le_iff_toNat_le, e]; omega),
    show decide ((i : Int) ≤ (B.toNat : Int)) = decide (UInt8.ofNat i ≤ B) from decide_eq_decide.2 (by rw [UInt8.le_iff_toNat_le, e]; omega)]
/-- A piece's cells. -/
structure PcR where
  ptr : Option Nat
  any : Bool
  plain : Bool
  own : Int
def PcR.ptrV (r : PcR) : Value := match r.ptr with
  | none => .pointer none
  | some b => .pointer (some ⟨b, 0, none⟩)
def PcR.cells (r : PcR) : List Value := [r.ptrV, .bool r.any, .bool r.plain, .int .u8 r.own]
/-- What a piece is; its set lies behind B. -/
def PcAt (t : TypeId) (w : World) (B : Nat) (r : PcR) (p : Pi) : Prop :=
  match p.pc with
  | none => r = ⟨none, true, false, 0⟩ ∧ p.own = none
  | some F => ∃ b, B ≤ b ∧ r = ⟨some b, false, p.own.isSome, ((p.own.getD 0).toNat : Int)⟩ ∧ SetAt t w b (fun i => F (UInt8.ofNat i))
theorem PcAt.any {t : TypeId} {w : World} {B : Nat} : PcAt t w B ⟨none, true, false, 0⟩ ⟨none, none⟩ := ⟨rfl, rfl⟩
theorem PcAt.set {t : TypeId} {w : World} {B b : Nat} {F : UInt8 → Bool} (hb : B ≤ b) (h : SetAt t w b (fun i => F (UInt8.ofNat i))) : PcAt t w B ⟨some b, false, false, 0⟩ ⟨some F, none⟩ := ⟨b, hb, rfl, h⟩
theorem PcAt.lit {t : TypeId} {w : World} {B b : Nat} {c : UInt8} (hb : B ≤ b) (h : SetAt t w b (fun i => false || (decide ((c.toNat : Int) ≤ (i : Int)) && decide ((i : Int) ≤ (c.toNat : Int))))) : PcAt t w B ⟨some b, false, true, (c.toNat : Int)⟩ (Go.Proofs.Yteidlffajcogcaa.GlobS.lit c) := by
  refine ⟨b, hb, rfl, h.congr (fun i hi => ?_)⟩
  have e : (UInt8.ofNat i).toNat = i := by simp; omega
  rw [Bool.eq_iff_iff]
  simp only [Bool.false_or, Bool.and_eq_true, decide_eq_true_eq, beq_iff_eq]
  exact ⟨fun h => UInt8.toNat_inj.1 (by rw [e]; omega), fun h => by rw [← h, e]; omega⟩
theorem PcAt.mv {t : TypeId} {w w' : World} {B : Nat} {r : PcR} {p : Pi} {S : Nat → Prop} (h : PcAt t w B r p) (hm : Mv S w w') (hS : ∀ k, B ≤ k → ¬ S k) : PcAt t w' B r p := by
  unfold PcAt at h ⊢
  cases hp : p.pc with
  | none => rw [hp] at h; exact h
  | some F =>
    rw [hp] at h
    obtain ⟨b, hb, hr, hs⟩ := h
    exact ⟨b, hb, hr, hs.mv hm (hS b hb)⟩
theorem PcAt.mono {t : TypeId} {w : World} {B B' : Nat} {r : PcR} {p : Pi} (h : PcAt t w B r p) (hB : B' ≤ B) : PcAt t w B' r p := by
  unfold PcAt at h ⊢
  cases hp : p.pc with
  | none => rw [hp] at h; exact h
  | some F =>
    rw [hp] at h
    obtain ⟨b, hb, hr, hs⟩ := h
    exact ⟨b, Nat.le_trans hB hb, hr, hs⟩
theorem piece_star (s : List UInt8) : pieceL (42 :: s) = some (⟨none, none⟩, s) := rfl
theorem piece_any (s : List UInt8) : pieceL (63 :: s) = some (⟨some (fun _ => true), none⟩, s) := rfl
theorem piece_none {s : List UInt8} (h : setL s = none) : pieceL (91 :: s) = none := by
  have e : pieceL (91 :: s) = (match setL s with | none => none | some (f, r) => some ((⟨some f, none⟩ : Pi), r)) := rfl
  rw [e, h]
theorem piece_set {s r : List UInt8} {f : UInt8 → Bool} (h : setL s = some (f, r)) : pieceL (91 :: s) = some (⟨some f, none⟩, r) := by
  have e : pieceL (91 :: s) = (match setL s with | none => none | some (f, r) => some ((⟨some f, none⟩ : Pi), r)) := rfl
  rw [e, h]
theorem piece_end : pieceL [92] = none := rfl
theorem piece_esc (c : UInt8) (r : List UInt8) : pieceL (92 :: c :: r) = some (Go.Proofs.Yteidlffajcogcaa.GlobS.lit c, r) := rfl
theorem piece_lit {b : UInt8} (s : List UInt8) (h1 : b ≠ 42) (h2 : b ≠ 63) (h3 : b ≠ 91) (h4 : b ≠ 92) : pieceL (b :: s) = some (Go.Proofs.Yteidlffajcogcaa.GlobS.lit b, s) := by
  unfold pieceL
  dsimp only
  rw [if_neg h1, if_neg h2, if_neg h3, if_neg h4]
theorem byte_ne {b c : UInt8} (h : b ≠ c) : ((b.toNat : Int) == (c.toNat : Int)) = false := beq_eq_false_iff_ne.mpr (fun e => h (UInt8.toNat_inj.1 (Int.ofNat_inj.1 e)))
theorem PcAt.mvT {t : TypeId} {w w' : World} {B : Nat} {r : PcR} {p : Pi} {S : Nat → Prop} (h : PcAt t w B r p) (hm : Mv S w w') (hS : ∀ b f, SetAt t w b f → ¬ S b) : PcAt t w' B r p := by
  unfold PcAt at h ⊢
  cases hp : p.pc with
  | none => rw [hp] at h; exact h
  | some F =>
    rw [hp] at h
    obtain ⟨b, hb, hr, hs⟩ := h
    exact ⟨b, hb, hr, hs.mv hm (hS b _ hs)⟩
theorem PcAt.plain {t : TypeId} {w : World} {B : Nat} {r : PcR} {p : Pi} (h : PcAt t w B r p) : r.plain = p.own.isSome := by
  unfold PcAt at h
  cases hp : p.pc with
  | none => rw [hp] at h; rw [h.1, h.2]; rfl
  | some F =>
    rw [hp] at h
    obtain ⟨b, _, hr, _⟩ := h
    rw [hr]
theorem PcAt.own_ {t : TypeId} {w : World} {B : Nat} {r : PcR} {p : Pi} (h : PcAt t w B r p) : r.own = ((p.own.getD 0).toNat : Int) := by
  unfold PcAt at h
  cases hp : p.pc with
  | none => rw [hp] at h; rw [h.1, h.2]; rfl
  | some F =>
    rw [hp] at h
    obtain ⟨b, _, hr, _⟩ := h
    rw [hr]
/-- What pieces are. -/
def PcsAt (t : TypeId) (w : World) (B : Nat) : List PcR → List Pi → Prop
  | [], [] => True
  | r :: rs, p :: ps => PcAt t w B r p ∧ PcsAt t w B rs ps
  | _, _ => False
theorem PcsAt.mvT {t : TypeId} {w w' : World} {B : Nat} {S : Nat → Prop} (hm : Mv S w w') (hS : ∀ b f, SetAt t w b f → ¬ S b) : ∀ {rs : List PcR} {ps : List Pi}, PcsAt t w B rs ps → PcsAt t w' B rs ps
  | [], [], _ => trivial
  | r :: rs, p :: ps, h => ⟨h.1.mvT hm hS, PcsAt.mvT hm hS h.2⟩
  | [], _ :: _, h => h.elim
  | _ :: _, [], h => h.elim
theorem PcsAt.snoc {t : TypeId} {w : World} {B : Nat} {r : PcR} {p : Pi} (h1 : PcAt t w B r p) : ∀ {rs : List PcR} {ps : List Pi}, PcsAt t w B rs ps → PcsAt t w B (rs ++ [r]) (ps ++ [p])
  | [], [], _ => ⟨h1, trivial⟩
  | _ :: _, _ :: _, h => ⟨h.1, PcsAt.snoc h1 h.2⟩
  | [], _ :: _, h => h.elim
  | _ :: _, [], h => h.elim
theorem PcsAt.len {t : TypeId} {w : World} {B : Nat} : ∀ {rs : List PcR} {ps : List Pi}, PcsAt t w B rs ps → rs.length = ps.length
  | [], [], _ => rfl
  | _ :: _, _ :: _, h => by rw [List.length_cons, List.length_cons, PcsAt.len h.2]
  | [], _ :: _, h => h.elim
  | _ :: _, [], h => h.elim
theorem PcsAt.at_ {t : TypeId} {w : World} {B : Nat} : ∀ {rs : List PcR} {ps : List Pi} (i : Nat), PcsAt t w B rs ps → i < rs.length → ∃ r p, rs[i]? = some r ∧ ps[i]? = some p ∧ PcAt t w B r p
  | r :: _, p :: _, 0, h, _ => ⟨r, p, rfl, rfl, h.1⟩
  | _ :: rs, _ :: ps, i + 1, h, hi => PcsAt.at_ (rs := rs) (ps := ps) i h.2 (by simpa using hi)
  | [], _, _, _, hi => by simp at hi
  | _ :: _, [], _, h, _ => h.elim
theorem flat_len (rs : List PcR) : (rs.flatMap PcR.cells).length = rs.length * 4 := by
  induction rs with
  | nil => rfl
  | cons r rs ih => rw [List.flatMap_cons, List.length_append, ih, List.length_cons]; simp [PcR.cells]; omega
theorem flat_at : ∀ (rs : List PcR) (i j : Nat) (r : PcR), rs[i]? = some r → j < 4 → (rs.flatMap PcR.cells)[i * 4 + j]? = r.cells[j]?
  | [], _, _, _, h, _ => by simp at h
  | a :: rs, 0, j, r, h, hj => by
    simp at h
    subst h
    rw [List.flatMap_cons, List.getElem?_append_left (by simp [PcR.cells]; omega), Nat.zero_mul, Nat.zero_add]
  | a :: rs, i + 1, j, r, h, hj => by
    rw [List.flatMap_cons, List.getElem?_append_right (by simp [PcR.cells]; omega), ← flat_at rs i j r (by simpa using h) hj]
    congr 1
    simp [PcR.cells]
    omega
theorem cells_one (r : PcR) : ∀ u ∈ r.cells, u.oneCell' = true := by
  intro u hu
  simp only [PcR.cells, List.mem_cons, List.not_mem_nil, or_false] at hu
  rcases hu with rfl | rfl | rfl | rfl
  · unfold PcR.ptrV; split <;> rfl
  · rfl
  · rfl
  · rfl
/-- A pattern lies in block g. -/
structure PatAt (tP tE tS : TypeId) (w : World) (B g : Nat) (s : ByteArray) (v : Value) (rs : List PcR) (ps : List Pi) : Prop where
  blk : w.heap[g]? = some (.cells #[.string s, v] tP (0, 0))
  row : w.ownsRow B tE 4 v rs.length (rs.flatMap PcR.cells)
  pcs : PcsAt tS w B rs ps
  ge : B ≤ g
theorem PatAt.below {tP tE tS : TypeId} {w w' : World} {B g : Nat} {s : ByteArray} {v : Value} {rs : List PcR} {ps : List Pi} (h : PatAt tP tE tS w B g s v rs ps) (hm : Mv (fun _ => False) w w') : PatAt tP tE tS w' B g s v rs ps :=
  ⟨hm.heap h.blk id, hm.own h.row (fun _ _ => id), PcsAt.mvT hm (fun _ _ _ => id) h.pcs, h.ge⟩
theorem blk_types {w : World} {a b : Nat} {ca cb : Array Value} {ta tb : TypeId} {fa fb : Nat × Nat} (ha : w.heap[a]? = some (.cells ca ta fa)) (hb : w.heap[b]? = some (.cells cb tb fb)) (h : ta ≠ tb) : a ≠ b := by
  rintro rfl
  rw [ha] at hb
  injection hb with hb
  injection hb with _ h2 _
  exact h h2
theorem row_types {w : World} {B b n size : Nat} {v : Value} {xs : List Value} {e t : TypeId} {cs : Array Value} {fr : Nat × Nat} (ho : w.ownsRow B e size v n xs) (hb : w.heap[b]? = some (.cells cs t fr)) (ht : e ≠ t) : v.ownBlock ≠ some b := owns_ne ho hb ht
/-- An element of four cells behind a row of the call's own. -/
theorem step_append4 {P : Program} {ops : Array Oper} {o : Oper} {a : Act} {Q : Exit → Act → World → Prop} {Kc : Act → World → Prop} (w : World) (hw : Region.wanted o (yielded ops a.tmps) = true) (sl x : Operand) (t : TypeId)
    (ho : o.op = .call { callee := .builtin .append, args := #[sl, x], argTypes := #[t, t] })
    (base : Nat) (e : TypeId) (i : TypeInfo) (z : Value) (ht : P.underlying t = some (.slice e)) (hi : P.info? e = some i) (hz : i.zero = some z) (hsize : i.size = 4) (hby : i.bytes = 16) (hzs : z.cells.size = 4)
    (v : Value) (n : Nat) (xs : List Value) (hs : a.eval sl = v) (hown : w.ownsRow base e 4 v n xs) (b c : Nat) (ys : List Value) (hx : a.eval x = .slice (some ⟨b, 0, none⟩) 1 c) (hys : ys.length = 4)
    (tb : TypeId) (hb : w.heap[b]? = some (.cells ys.toArray tb (0, 0))) (h1 : ∀ u ∈ ys, u.oneCell' = true) (hn : n ≤ 100000) (hbase : base ≤ w.heap.size)
    (h : ∀ v' w', w'.ownsRow base e 4 v' (n + 1) (xs ++ ys) → w.grownBy w' v.ownBlock → Kc (a.put o.dst v') w') :
    if Region.wanted o (yielded ops a.tmps) = true then Oper.wp P o a w Kc Q else Kc (a.put o.dst undef) w := by
  rw [if_pos hw]
  obtain ⟨v', w', hr, h2, h3, _, _⟩ := run_append_own_at (P := P) w base t o.type e i z 4 16 ht hi hz hsize hby hzs (by decide) v n xs hown ⟨b, 0, none⟩ 1 c ys hys
    (fun j u hj => by
      have e0 : (⟨b, 0, none⟩ : Addr).add j = ⟨b, j, none⟩ := by unfold Addr.add; split <;> simp_all
      rw [e0, cell_of_row w b j _ tb (0, 0) hb]
      simpa using hj) h1 (by unfold maxLen; omega) (by omega) hbase
  unfold Oper.wp execOp
  simp only [ho, resolve, invoke, builtin, Sem.run_bind, Sem.run_pure, Result.andThen_ok, List.map_toArray, List.map_cons, List.map_nil, hs, hx, hr]
  exact h v' w' h2 h3
theorem piece_fill (r : PcR) (ps : List (Nat × Value)) (h : ps = [(0, .agg r.cells.toArray)]) : Instr.fill (fun i => some (i * 4, 4)) ((Array.range (1 * 4)).map ((Value.agg #[.pointer none, .bool false, .bool false, .int .u8 0]).cells[· % (Value.agg #[.pointer none, .bool false, .bool false, .int .u8 0]).cells.size]!)) ps = some r.cells.toArray := by
  subst h
  obtain ⟨ptr, a, b, c⟩ := r
  cases ptr <;> kernel_rfl
/-- The cells of piece k. -/
theorem PatAt.piece {tP tE tS : TypeId} {w : World} {B g n c : Nat} {A : Option Addr} {s : ByteArray} {rs : List PcR} {ps : List Pi} (h : PatAt tP tE tS w B g s (.slice A n c) rs ps) (k : Nat) (hk : k < rs.length) :
    ∃ gr r p, A = some ⟨gr, 0, none⟩ ∧ rs[k]? = some r ∧ ps[k]? = some p ∧ PcAt tS w B r p ∧ w.cell? ⟨gr, k * 4, none⟩ = some r.ptrV ∧ w.cell? ⟨gr, k * 4 + 1, none⟩ = some (.bool r.any) ∧ w.cell? ⟨gr, k * 4 + 2, none⟩ = some (.bool r.plain) ∧ w.cell? ⟨gr, k * 4 + 3, none⟩ = some (.int .u8 r.own) ∧
      w.heap[gr]? ≠ none := by
  obtain ⟨r, p, hr, hp, hpc⟩ := h.pcs.at_ k hk
  rcases h.row.2 with ⟨hv, h0⟩ | ⟨gr, cap, cur, hv, hb, hg, _⟩
  · omega
  · injection hv with h1 h2 h3
    subst h1 h2 h3
    have hcell := World.ownsRow.cells h.row (g := gr) rfl
    have e : ∀ j, (⟨gr, 0, none⟩ : Addr).add j = ⟨gr, j, none⟩ := fun j => by unfold Addr.add; split <;> simp_all
    have hx : ∀ j u, j < 4 → r.cells[j]? = some u → w.cell? ⟨gr, k * 4 + j, none⟩ = some u := fun j u hj hu => by
      rw [← e (k * 4 + j)]
      exact hcell _ _ ((flat_at rs k j r hr hj).trans hu)
    exact ⟨gr, r, p, rfl, hr, hp, hpc, hx 0 _ (by decide) rfl, hx 1 _ (by decide) rfl, hx 2 _ (by decide) rfl, hx 3 _ (by decide) rfl, by rw [hg]; simp⟩
theorem at_byte {t : ByteArray} {a : Nat} (h : a < t.size) : ∃ c, t.data.toList[a]? = some c ∧ ∀ h : a < t.size, t[a]'h = c := by
  have h' : a < t.data.toList.length := by simpa using h
  exact ⟨t.data.toList[a], List.getElem?_eq_getElem h', fun h => by simp [ByteArray.getElem_eq_getElem_data]⟩
end Gong
