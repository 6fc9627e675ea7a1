/- Layer 13: Match's walk over pieces and bytes: its states, steps, and what gets less. -/
import Derived.Test.YteidlffajcogcaaGlobSpec
import Derived.Lib.Bytealg
import Derived.Lib.IndexMore
import Derived.Lib.Repeat
namespace Go.Proofs.Yteidlffajcogcaa.GlobS
/-- What may be gone back to: behind which star, and from where. -/
def bkOf (pcs : List Pc) (l : List UInt8) : Option (Nat × Nat) → Option Bk
  | none => none
  | some x => some ⟨pcs.drop (x.1 + 1), l.drop x.2⟩
/-- Match's state. -/
structure Mw (pcs : List Pc) (l : List UInt8) (at_ k : Nat) (bt : Option (Nat × Nat)) : Prop where
  ha : at_ ≤ l.length
  hk : k ≤ pcs.length
  hb : ∀ x, bt = some x → x.1 < k ∧ x.2 ≤ at_
  st : St (pcs.drop k) (l.drop at_) (bkOf pcs l bt)
  eq : mt pcs l = (mt (pcs.drop k) (l.drop at_) || bkOk (bkOf pcs l bt))
theorem Mw.start (pcs : List Pc) (l : List UInt8) : Mw pcs l 0 0 none :=
  ⟨Nat.zero_le _, Nat.zero_le _, fun x h => by simp at h, ⟨fun b h => by simp [bkOf] at h⟩, by simp [bkOf, bkOk]⟩
theorem drop_get {α : Type} {l : List α} {i : Nat} {x : α} (h : l[i]? = some x) : l.drop i = x :: l.drop (i + 1) := by
  obtain ⟨hi, rfl⟩ := List.getElem?_eq_some_iff.1 h
  exact List.drop_eq_getElem_cons hi
theorem Mw.star {pcs : List Pc} {l : List UInt8} {a k : Nat} {bt : Option (Nat × Nat)} (h : Mw pcs l a k bt) (hk : pcs[k]? = some none) : Mw pcs l a (k + 1) (some (k, a)) := by
  have hd := drop_get hk
  have hlt := (List.getElem?_eq_some_iff.1 hk).1
  refine ⟨h.ha, hlt, fun x hx => ?_, St.star, ?_⟩
  · injection hx with hx
    subst hx
    exact ⟨Nat.lt_succ_self k, Nat.le_refl _⟩
  · have h1 := h.eq
    have h2 := h.st
    rw [hd] at h1 h2
    rw [h1, step_star _ _ _ h2, star_bk]
    rfl
theorem Mw.byte {pcs : List Pc} {l : List UInt8} {a k : Nat} {bt : Option (Nat × Nat)} {f : UInt8 → Bool} {c : UInt8} (h : Mw pcs l a k bt) (hk : pcs[k]? = some (some f)) (hc : l[a]? = some c) (hf : f c = true) : Mw pcs l (a + 1) (k + 1) bt := by
  have hd := drop_get hk
  have hdl := drop_get hc
  have h1 := h.eq
  have h2 := h.st
  rw [hd, hdl] at h1 h2
  refine ⟨(List.getElem?_eq_some_iff.1 hc).1, (List.getElem?_eq_some_iff.1 hk).1, fun x hx => ?_, h2.byte, ?_⟩
  · have := h.hb x hx
    omega
  · rw [h1, mt, hf, Bool.true_and]
/-- It goes on no further: the pieces are at their end, or the next one is no such byte. -/
def Stuck (pcs : List Pc) (k : Nat) (c : UInt8) : Prop := pcs[k]? = none ∨ ∃ f, pcs[k]? = some (some f) ∧ f c = false
theorem Stuck.no {pcs : List Pc} {k : Nat} {c : UInt8} (h : Stuck pcs k c) (s : List UInt8) : mt (pcs.drop k) (c :: s) = false := by
  rcases h with h | ⟨f, h, hf⟩
  · have hk := List.getElem?_eq_none_iff.1 h
    rw [List.drop_eq_nil_of_le hk, mt]
  · rw [drop_get h, mt, hf, Bool.false_and]
theorem Mw.fail {pcs : List Pc} {l : List UInt8} {a k : Nat} {c : UInt8} (h : Mw pcs l a k none) (hc : l[a]? = some c) (hs : Stuck pcs k c) : mt pcs l = false := by
  rw [h.eq, drop_get hc, hs.no]
  rfl
theorem Mw.back {pcs : List Pc} {l : List UInt8} {a k : Nat} {x : Nat × Nat} {c : UInt8} (h : Mw pcs l a k (some x)) (hc : l[a]? = some c) (hs : Stuck pcs k c) : Mw pcs l (x.2 + 1) (x.1 + 1) (some (x.1, x.2 + 1)) := by
  have hb := h.hb x rfl
  have hal := (List.getElem?_eq_some_iff.1 hc).1
  have hx : x.2 < l.length := by omega
  have hl : l.drop x.2 = l[x.2] :: l.drop (x.2 + 1) := List.drop_eq_getElem_cons hx
  have hk := h.hk
  refine ⟨by omega, by omega, fun y hy => ?_, St.back, ?_⟩
  · injection hy with hy
    subst hy
    exact ⟨Nat.lt_succ_self _, Nat.le_refl _⟩
  · have h1 := h.eq
    rw [drop_get hc, hs.no, Bool.false_or] at h1
    simp only [bkOf] at h1 ⊢
    rw [h1, hl, back_bk]
theorem Mw.end_ {pcs : List Pc} {l : List UInt8} {k : Nat} {bt : Option (Nat × Nat)} (h : Mw pcs l l.length k bt) : mt pcs l = (pcs.drop k).all (fun p => p.isNone) := by
  have h1 := h.eq
  have h2 := h.st
  rw [List.drop_length] at h1 h2
  rw [h1, end_bk h2, Bool.or_false, mt_nil]
theorem tail_star {pcs : List Pc} {k : Nat} (h : pcs[k]? = some none) : (pcs.drop k).all (fun p => p.isNone) = (pcs.drop (k + 1)).all (fun p => p.isNone) := by
  rw [drop_get h]
  rfl
theorem tail_end {pcs : List Pc} : (pcs.drop pcs.length).all (fun p => p.isNone) = true := by simp
theorem tail_no {pcs : List Pc} {k : Nat} {f : UInt8 → Bool} (h : pcs[k]? = some (some f)) : (pcs.drop k).all (fun p => p.isNone) = false := by
  rw [drop_get h]
  rfl
/-- What gets less. -/
def ms (n len at_ k : Nat) (bt : Option (Nat × Nat)) : Nat := (len + 1 - (match bt with | none => 0 | some x => x.2 + 1)) * (n + len + 1) + (n - k) + (len - at_)
theorem ms_star {n len a k : Nat} {bt : Option (Nat × Nat)} (hk : k < n) (ha : a ≤ len) (hb : ∀ x, bt = some x → x.2 ≤ a) : ms n len a (k + 1) (some (k, a)) < ms n len a k bt := by
  cases bt with
  | none =>
    have h2 := Nat.mul_le_mul_right (n + len + 1) (show len + 1 - (a + 1) ≤ len + 1 - 0 by omega)
    simp only [ms]
    omega
  | some x =>
    have h2 := Nat.mul_le_mul_right (n + len + 1) (show len + 1 - (a + 1) ≤ len + 1 - (x.2 + 1) by have := hb x rfl; omega)
    simp only [ms]
    omega
theorem ms_byte {n len a k : Nat} {bt : Option (Nat × Nat)} (hk : k < n) (ha : a < len) : ms n len (a + 1) (k + 1) bt < ms n len a k bt := by
  unfold ms
  omega
theorem ms_back {n len a k : Nat} {x : Nat × Nat} (hx : x.2 < len) : ms n len (x.2 + 1) (x.1 + 1) (some (x.1, x.2 + 1)) < ms n len a k (some x) := by
  unfold ms
  simp only
  have h1 : len + 1 - (x.2 + 1) = (len + 1 - (x.2 + 1 + 1)) + 1 := by omega
  rw [h1, Nat.succ_mul]
  omega
/-- What Match answers: of a pattern and a text. -/
def mr (p t : ByteArray) : Bool × Int :=
  if 256 < p.size then (false, 2) else
  match parseL p.data.toList with
  | none => (false, 130)
  | some ps => (mt (ps.map (·.pc)) t.data.toList, 0)
theorem mr_long {p t : ByteArray} (h : 256 < p.size) : mr p t = (false, 2) := by unfold mr; rw [if_pos h]
theorem mr_bad {p t : ByteArray} (h : p.size ≤ 256) (hp : parseL p.data.toList = none) : mr p t = (false, 130) := by unfold mr; rw [if_neg (by omega), hp]
theorem mr_ok {p t : ByteArray} {ps : List Pi} (h : p.size ≤ 256) (hp : parseL p.data.toList = some ps) : mr p t = (mt (ps.map (·.pc)) t.data.toList, 0) := by unfold mr; rw [if_neg (by omega), hp]
theorem works1 : mr ⟨#[99, 111, 114, 101, 45, 42, 91, 48, 45, 51, 93]⟩ ⟨#[99, 111, 114, 101, 45, 114, 116, 114, 50]⟩ = (true, 0) := by
  have h : parseL [99, 111, 114, 101, 45, 42, 91, 48, 45, 51, 93] = some [lit 99, lit 111, lit 114, lit 101, lit 45, ⟨none, none⟩, ⟨some (fun x => (false || (decide ((48 : UInt8) ≤ x) && decide (x ≤ (51 : UInt8)))) != false), none⟩] := rfl
  rw [mr_ok (by decide) h]
  simp [mt, lit]
theorem works2 : mr ⟨#[99, 111, 114, 101, 45, 42, 91, 48, 45, 51, 93]⟩ ⟨#[99, 111, 114, 101, 45, 114, 116, 114, 57]⟩ = (false, 0) := by
  have h : parseL [99, 111, 114, 101, 45, 42, 91, 48, 45, 51, 93] = some [lit 99, lit 111, lit 114, lit 101, lit 45, ⟨none, none⟩, ⟨some (fun x => (false || (decide ((48 : UInt8) ≤ x) && decide (x ≤ (51 : UInt8)))) != false), none⟩] := rfl
  rw [mr_ok (by decide) h]
  simp [mt, lit]
/-- The one text that matches, and is there one? -/
def plainR (ps : List Pi) : ByteArray × Bool := if ps.all (fun p => p.own.isSome) = true then (⟨(ps.map (fun p => p.own.getD 0)).toArray⟩, true) else (⟨#[]⟩, false)
theorem plainR_yes {ps : List Pi} (h : ∀ p ∈ ps, p.own.isSome = true) : plainR ps = (⟨(ps.map (fun p => p.own.getD 0)).toArray⟩, true) := by unfold plainR; rw [if_pos (List.all_eq_true.2 h)]
theorem plainR_no {ps : List Pi} {k : Nat} {p : Pi} (h : ps[k]? = some p) (hp : p.own = none) : plainR ps = (⟨#[]⟩, false) := by
  unfold plainR
  rw [if_neg]
  intro hh
  have := List.all_eq_true.1 hh p (List.mem_of_getElem? h)
  rw [hp] at this
  simp at this
theorem take_snoc' {α : Type} {l : List α} {k : Nat} {x : α} (h : l[k]? = some x) : l.take (k + 1) = l.take k ++ [x] := by
  obtain ⟨hk, rfl⟩ := List.getElem?_eq_some_iff.1 h
  exact List.take_succ_eq_append_getElem hk
theorem plain_lits (s : List UInt8) : plainR (s.map lit) = (⟨s.toArray⟩, true) := by
  rw [plainR_yes (by intro p hp; obtain ⟨b, _, rfl⟩ := List.mem_map.1 hp; rfl), List.map_map]
  congr 2
  have : ((fun p : Pi => p.own.getD 0) ∘ lit) = id := by funext b; rfl
  rw [this, List.map_id]
/-- Escaped, byte by byte. -/
def escB (c : UInt8) : List UInt8 := if special c = true then [92, c] else [c]
theorem escL_eq : ∀ l : List UInt8, escL l = l.flatMap escB
  | [] => rfl
  | c :: l => by
    rw [List.flatMap_cons, ← escL_eq l, escB]
    show (if special c = true then 92 :: c :: escL l else c :: escL l) = _
    by_cases h : special c = true
    · rw [if_pos h, if_pos h]; rfl
    · rw [if_neg h, if_neg h]; rfl
theorem esc_take {l : List UInt8} {k : Nat} {c : UInt8} (h : l[k]? = some c) : escL (l.take (k + 1)) = escL (l.take k) ++ escB c := by
  rw [escL_eq, escL_eq, take_snoc' h, List.flatMap_append]
  simp
theorem esc_len (l : List UInt8) : (escL l).length ≤ 2 * l.length := by
  rw [escL_eq]
  induction l with
  | nil => simp
  | cons c l ih =>
    rw [List.flatMap_cons, List.length_append, List.length_cons]
    have : (escB c).length ≤ 2 := by unfold escB; split <;> simp
    omega
theorem spec_ix (c : UInt8) : decide (0 ≤ Lib.indexByte [42, 63, 91, 92] c) = special c := by
  have : ∀ i : Fin 256, decide (0 ≤ Lib.indexByte [42, 63, 91, 92] (UInt8.ofNat i.val)) = special (UInt8.ofNat i.val) := by decide +kernel
  have h := this ⟨c.toNat, c.toNat_lt⟩
  simpa using h
/-- A text that holds another one: a star ahead of it and behind. -/
theorem contains_mt (w s : List UInt8) : mt (none :: ((w.map lit).map (·.pc) ++ [none])) s = Lib.contains s w := by
  rw [Bool.eq_iff_iff, mt_held]
  unfold Lib.contains
  rw [decide_eq_true_iff]
  rcases Lib.index_spec s w with ⟨h1, h2⟩ | ⟨i, h1, h2, h3, _⟩
  · rw [h1]
    constructor
    · rintro ⟨a, b, rfl⟩
      have := h2 a.length (by simp)
      unfold Lib.occAt at this
      rw [List.drop_left, ← Bool.not_eq_true, List.isPrefixOf_iff_prefix] at this
      exact absurd (List.prefix_append _ _) this
    · intro h; omega
  · rw [h1]
    refine ⟨fun _ => by omega, fun _ => ?_⟩
    unfold Lib.occAt at h3
    rw [List.isPrefixOf_iff_prefix] at h3
    obtain ⟨b, hb⟩ := h3
    exact ⟨s.take i, b, by rw [hb, List.take_append_drop]⟩
theorem parse_held (w : List UInt8) : parseL ([42] ++ escL w ++ [42]) = some ((⟨none, none⟩ : Pi) :: (w.map lit ++ [⟨none, none⟩])) := by
  have h1 : parseL [42] = some [(⟨none, none⟩ : Pi)] := parse_stars 1
  have h2 := parseL_app _ _ _ _ _ (Nat.le_refl _) h1 (parse_esc w)
  have h3 := parseL_app _ _ _ _ _ (Nat.le_refl _) h2 h1
  rw [h3]
  simp
theorem repeat_one (c : UInt8) : ∀ n, Lib.repeatL [c] n = List.replicate n c
  | 0 => rfl
  | n + 1 => by
    rw [List.replicate_succ, ← repeat_one c n]
    rfl
theorem mr_stars (n : Nat) (t : ByteArray) (h : n ≤ 255) : mr ⟨(Lib.repeatL [42] (n + 1)).toArray⟩ t = (true, 0) := by
  rw [repeat_one, mr_ok (ps := List.replicate (n + 1) ⟨none, none⟩) (by simp [ByteArray.size]; omega) (parse_stars _), mt_stars]
theorem mr_marks (n : Nat) (t : ByteArray) (h : n ≤ 256) : mr ⟨(Lib.repeatL [63] n).toArray⟩ t = (decide (t.size = n), 0) := by
  rw [repeat_one, mr_ok (ps := List.replicate n ⟨some (fun _ => true), none⟩) (by simp [ByteArray.size]; omega) (parse_marks _), mt_marks]
  simp
theorem mr_held (w : List UInt8) (p t : ByteArray) (hp : p.data.toList = [42] ++ escL w ++ [42]) (h : w.length ≤ 100) : mr p t = (Lib.contains t.data.toList w, 0) := by
  have hs : p.size = p.data.toList.length := by simp
  rw [mr_ok (by rw [hs, hp]; have := esc_len w; simp; omega) (by rw [hp]; exact parse_held w)]
  rw [← contains_mt]
  simp
/-- A text cut in two, each part matched: at the first n places. -/
def cutAny (a b : List Pc) (l : List UInt8) (n : Nat) : Bool := (List.range n).any (fun j => mt a (l.take j) && mt b (l.drop j))
theorem cut_more (a b : List Pc) (l : List UInt8) (n : Nat) : cutAny a b l (n + 1) = (cutAny a b l n || (mt a (l.take n) && mt b (l.drop n))) := by
  unfold cutAny
  rw [List.range_succ, List.any_append]
  simp
theorem cut_all (a b : List Pc) (l : List UInt8) : cutAny a b l (l.length + 1) = mt (a ++ b) l := by
  rw [Bool.eq_iff_iff, mt_app]
  simp only [cutAny, List.any_eq_true, List.mem_range, Bool.and_eq_true]
  exact ⟨fun ⟨i, hi, h⟩ => ⟨i, by omega, h⟩, fun ⟨i, hi, h⟩ => ⟨i, by omega, h⟩⟩
theorem take_ext (s : ByteArray) (i : Nat) : (s.extract 0 i).data.toList = s.data.toList.take i := by simp [ByteArray.data_extract]
theorem drop_ext (s : ByteArray) (i : Nat) : (s.extract i s.size).data.toList = s.data.toList.drop i := by
  simp only [ByteArray.data_extract, Array.toList_extract, List.extract_eq_take_drop]
  apply List.take_of_length_le
  simp
theorem app_list (p q : ByteArray) : (p ++ q).data.toList = p.data.toList ++ q.data.toList := by simp
end Go.Proofs.Yteidlffajcogcaa.GlobS
