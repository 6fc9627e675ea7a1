/- Layer 3: the program's Parse is what the document has. -/
import Derived.Test.YtjcenencgnfffaaDoorRStpParse
namespace Go.Proofs.YtjcenencgnfffaaDoor.StpS
open Go.RowKit Gong Go.Proofs.YtjcenencgnfffaaDoor.XStR Go.Proofs.YtjcenencgnfffaaDoor.DecS Go.Proofs.YtjcenencgnfffaaDoorW.PrintWords Go.Proofs.YtjcenencgnfffaaDoorW.PrintLast Go.Proofs.YtjcenencgnfffaaDoorW.PrintMore
set_option linter.unusedVariables false
set_option linter.unusedSimpArgs false
theorem fits6 {c : UInt8} (hc : ¬ c = 100) {l : List UInt8} (h : fitsL l [c, 100, 100, 58, 100, 100] = true) : ∃ h0 h1 i0 i1, l = [c, h0, h1, 58, i0, i1] ∧ isD h0 = true ∧ isD h1 = true ∧ isD i0 = true ∧ isD i1 = true := by
  have hl := fitsL_len h
  match l, hl, h with
  | [a0, a1, a2, a3, a4, a5], _, h =>
    simp only [fitsL, if_neg hc, if_true, Bool.and_true, Bool.and_eq_true, if_neg (show ¬ (58 : UInt8) = 100 by decide), beq_iff_eq] at h
    obtain ⟨rfl, h1, h2, rfl, h4, h5⟩ := h
    exact ⟨a1, a2, a4, a5, rfl, h1, h2, h4, h5⟩
theorem digs_two {a b : UInt8} (ha : isD a = true) (hb : isD b = true) : (∀ x ∈ [a, b], isD x = true) ∧ (0 : Int) ≤ (val [a, b] : Nat) ∧ ((val [a, b] : Nat) : Int) ≤ 99 := by
  have hd : ∀ x ∈ [a, b], isD x = true := by
    intro x hx
    simp only [List.mem_cons, List.not_mem_nil, or_false] at hx
    rcases hx with rfl | rfl
    · exact ha
    · exact hb
  have := val_lt hd
  rw [show (10 : Nat) ^ [a, b].length = 100 from rfl] at this
  exact ⟨hd, by omega, by omega⟩
theorem number_two (s : ByteArray) {a b : UInt8} (h : L s = [a, b]) (ha : isD a = true) (hb : isD b = true) : stamp_number.f s = some (val [a, b] : Int) := by
  have := number_eq s (by rw [h]; exact (digs_two ha hb).1) (by rw [h]; simp) (by rw [h]; show 2 ≤ 17; decide)
  rw [this, h]
theorem zone_part (s : ByteArray) {c h0 h1 i0 i1 : UInt8} (hL : L s = [c, h0, h1, 58, i0, i1]) (q0 : isD h0 = true) (q1 : isD h1 = true) (q2 : isD i0 = true) (q3 : isD i1 = true) (g : Int → Int → Int) :
    (if (1 : Nat) ≤ 3 then (if 3 ≤ (s.size : Int) then ((stamp_number.f (s.extract 1 3)).bind fun t => (if 4 ≤ (s.size : Int) then ((stamp_number.f (s.extract 4 s.size)).bind fun u => (if t < 24 then (some (g t u, decide (u < 60))) else (some (g t u, false)))) else (none))) else (none)) else (none))
      = some (g (val [h0, h1] : Nat) (val [i0, i1] : Nat), decide (val [h0, h1] < 24 ∧ val [i0, i1] < 60)) := by
  have hl := L_len s
  rw [hL] at hl
  have hl' : s.size = 6 := by rw [← hl]; rfl
  have e1 : L (s.extract 1 3) = [h0, h1] := by rw [L_extract, hL]; rfl
  have e2 : L (s.extract 4 s.size) = [i0, i1] := by rw [L_drop, hL]; rfl
  rw [if_pos (by decide), if_pos (by omega), number_two _ e1 q0 q1, Option.bind_some, if_pos (by omega), number_two _ e2 q2 q3, Option.bind_some]
  by_cases c1 : val [h0, h1] < 24
  · rw [if_pos (show ((val [h0, h1] : Nat) : Int) < 24 by omega)]
    congr 2
    rw [decide_eq_decide]
    omega
  · rw [if_neg (show ¬ ((val [h0, h1] : Nat) : Int) < 24 by omega)]
    congr 2
    rw [eq_comm, decide_eq_false_iff_not]
    omega
theorem zone_eq (s : ByteArray) (k : Nat) (hk : 110 ≤ k) :
    (∃ z, zoneL (L s) = some z ∧ -1440 < z ∧ z < 1440 ∧ stamp_zone.f k s = some (z, true)) ∨ (zoneL (L s) = none ∧ ∃ z, -10000 ≤ z ∧ z ≤ 10000 ∧ stamp_zone.f k s = some (z, false)) := by
  have lm : L (⟨#[45, 100, 100, 58, 100, 100]⟩ : ByteArray) = [45, 100, 100, 58, 100, 100] := rfl
  have lp : L (⟨#[43, 100, 100, 58, 100, 100]⟩ : ByteArray) = [43, 100, 100, 58, 100, 100] := rfl
  unfold stamp_zone.f
  rw [toList_L]
  by_cases c0 : L s = [90]
  · rw [if_pos c0, c0]
    exact .inl ⟨0, rfl, by decide, by decide, rfl⟩
  · rw [if_neg c0, fits_eq s _ (by rw [lm]; decide) k hk, fits_eq s _ (by rw [lp]; decide) k hk, lm, lp, Option.bind_some]
    cases hm : fitsL (L s) [45, 100, 100, 58, 100, 100] with
    | true =>
      obtain ⟨h0, h1, i0, i1, hL, q0, q1, q2, q3⟩ := fits6 (by decide) hm
      rw [if_pos rfl, zone_part s hL q0 q1 q2 q3 (fun t u => wrap64 ((-1) * (wrap64 ((wrap64 (t * 60)) + u)))), hL, zoneL_six]
      obtain ⟨_, a1, a2⟩ := digs_two q0 q1
      obtain ⟨_, b1, b2⟩ := digs_two q2 q3
      generalize val [h0, h1] = H at a1 a2 ⊢
      generalize val [i0, i1] = I at b1 b2 ⊢
      rw [wrap_id (x := (H : Int) * 60) (by omega) (by omega), wrap_id (x := (H : Int) * 60 + (I : Int)) (by omega) (by omega), wrap_id (x := -1 * ((H : Int) * 60 + (I : Int))) (by omega) (by omega)]
      by_cases c1 : H < 24 ∧ I < 60
      · rw [if_pos ⟨.inr rfl, q0, q1, rfl, q2, q3, c1.1, c1.2⟩, if_pos rfl, decide_eq_true c1]
        exact .inl ⟨_, rfl, by omega, by omega, by congr 2; omega⟩
      · rw [if_neg (fun h => c1 ⟨h.2.2.2.2.2.2.1, h.2.2.2.2.2.2.2⟩), decide_eq_false c1]
        exact .inr ⟨rfl, _, by omega, by omega, rfl⟩
    | false =>
      rw [if_neg (by decide), Option.bind_some]
      cases hp : fitsL (L s) [43, 100, 100, 58, 100, 100] with
      | true =>
        obtain ⟨h0, h1, i0, i1, hL, q0, q1, q2, q3⟩ := fits6 (by decide) hp
        rw [if_pos rfl, zone_part s hL q0 q1 q2 q3 (fun t u => wrap64 (1 * (wrap64 ((wrap64 (t * 60)) + u)))), hL, zoneL_six]
        obtain ⟨_, a1, a2⟩ := digs_two q0 q1
        obtain ⟨_, b1, b2⟩ := digs_two q2 q3
        generalize val [h0, h1] = H at a1 a2 ⊢
        generalize val [i0, i1] = I at b1 b2 ⊢
        rw [wrap_id (x := (H : Int) * 60) (by omega) (by omega), wrap_id (x := (H : Int) * 60 + (I : Int)) (by omega) (by omega), wrap_id (x := 1 * ((H : Int) * 60 + (I : Int))) (by omega) (by omega)]
        by_cases c1 : H < 24 ∧ I < 60
        · rw [if_pos ⟨.inl rfl, q0, q1, rfl, q2, q3, c1.1, c1.2⟩, if_neg (by decide), decide_eq_true c1]
          exact .inl ⟨_, rfl, by omega, by omega, by congr 2; omega⟩
        · rw [if_neg (fun h => c1 ⟨h.2.2.2.2.2.2.1, h.2.2.2.2.2.2.2⟩), decide_eq_false c1]
          exact .inr ⟨rfl, _, by omega, by omega, rfl⟩
      | false =>
        rw [if_neg (by decide)]
        refine .inr ⟨?_, 0, by decide, by decide, rfl⟩
        generalize L s = l at c0 hm hp
        unfold zoneL
        split
        · exact absurd rfl c0
        · rename_i s0 h0 h1 p i0 i1
          rw [if_neg]
          rintro ⟨hs, q0, q1, rfl, q2, q3, _, _⟩
          rcases hs with rfl | rfl
          · simp [fitsL, q0, q1, q2, q3] at hp
          · simp [fitsL, q0, q1, q2, q3] at hm
        · rfl
/-- The beginning's shape. -/
def shape19 : List UInt8 := [100, 100, 100, 100, 45, 100, 100, 45, 100, 100, 84, 100, 100, 58, 100, 100, 58, 100, 100]
theorem unc {l : List UInt8} {n : Nat} (h : n + 1 ≤ l.length) : ∃ a r, l = a :: r ∧ n ≤ r.length := by
  cases l with
  | nil => simp at h
  | cons a r => exact ⟨a, r, rfl, by rw [List.length_cons] at h; omega⟩
theorem take19 {l : List UInt8} (h : 19 ≤ l.length) : ∃ y0 y1 y2 y3 p1 m0 m1 p2 k0 k1 p3 h0 h1 p4 i0 i1 p5 c0 c1 r, l = y0 :: y1 :: y2 :: y3 :: p1 :: m0 :: m1 :: p2 :: k0 :: k1 :: p3 :: h0 :: h1 :: p4 :: i0 :: i1 :: p5 :: c0 :: c1 :: r := by
  obtain ⟨y0, l0, rfl, g0⟩ := unc h
  obtain ⟨y1, l1, rfl, g1⟩ := unc g0
  obtain ⟨y2, l2, rfl, g2⟩ := unc g1
  obtain ⟨y3, l3, rfl, g3⟩ := unc g2
  obtain ⟨p1, l4, rfl, g4⟩ := unc g3
  obtain ⟨m0, l5, rfl, g5⟩ := unc g4
  obtain ⟨m1, l6, rfl, g6⟩ := unc g5
  obtain ⟨p2, l7, rfl, g7⟩ := unc g6
  obtain ⟨k0, l8, rfl, g8⟩ := unc g7
  obtain ⟨k1, l9, rfl, g9⟩ := unc g8
  obtain ⟨p3, l10, rfl, g10⟩ := unc g9
  obtain ⟨h0, l11, rfl, g11⟩ := unc g10
  obtain ⟨h1, l12, rfl, g12⟩ := unc g11
  obtain ⟨p4, l13, rfl, g13⟩ := unc g12
  obtain ⟨i0, l14, rfl, g14⟩ := unc g13
  obtain ⟨i1, l15, rfl, g15⟩ := unc g14
  obtain ⟨p5, l16, rfl, g16⟩ := unc g15
  obtain ⟨c0, l17, rfl, g17⟩ := unc g16
  obtain ⟨c1, l18, rfl, g18⟩ := unc g17
  exact ⟨y0, y1, y2, y3, p1, m0, m1, p2, k0, k1, p3, h0, h1, p4, i0, i1, p5, c0, c1, l18, rfl⟩
theorem fits19 (y0 y1 y2 y3 p1 m0 m1 p2 k0 k1 p3 h0 h1 p4 i0 i1 p5 c0 c1 : UInt8) :
    fitsL [y0, y1, y2, y3, p1, m0, m1, p2, k0, k1, p3, h0, h1, p4, i0, i1, p5, c0, c1] shape19 = decide ([y0, y1, y2, y3, m0, m1, k0, k1, h0, h1, i0, i1, c0, c1].all isD = true ∧ p1 = 45 ∧ p2 = 45 ∧ p3 = 84 ∧ p4 = 58 ∧ p5 = 58) := by
  rw [Bool.eq_iff_iff, decide_eq_true_eq]
  simp only [fitsL, shape19, if_true, List.all_cons, List.all_nil, Bool.and_true, Bool.and_eq_true, if_neg (show ¬ (45 : UInt8) = 100 by decide), if_neg (show ¬ (84 : UInt8) = 100 by decide), if_neg (show ¬ (58 : UInt8) = 100 by decide), beq_iff_eq]
  constructor
  · rintro ⟨a1, a2, a3, a4, b1, a5, a6, b2, a7, a8, b3, a9, aa, b4, ab, ac, b5, ad, ae⟩
    exact ⟨⟨a1, a2, a3, a4, a5, a6, a7, a8, a9, aa, ab, ac, ad, ae⟩, b1, b2, b3, b4, b5⟩
  · rintro ⟨⟨a1, a2, a3, a4, a5, a6, a7, a8, a9, aa, ab, ac, ad, ae⟩, b1, b2, b3, b4, b5⟩
    exact ⟨a1, a2, a3, a4, b1, a5, a6, b2, a7, a8, b3, a9, aa, b4, ab, ac, b5, ad, ae⟩
/-- What read answers of the numbers. -/
theorem read_eq (s : ByteArray) {y0 y1 y2 y3 p1 m0 m1 p2 k0 k1 p3 h0 h1 p4 i0 i1 p5 c0 c1 : UInt8} {r : List UInt8} (hL : L s = y0 :: y1 :: y2 :: y3 :: p1 :: m0 :: m1 :: p2 :: k0 :: k1 :: p3 :: h0 :: h1 :: p4 :: i0 :: i1 :: p5 :: c0 :: c1 :: r)
    (hd : [y0, y1, y2, y3, m0, m1, k0, k1, h0, h1, i0, i1, c0, c1].all isD = true) (k : Nat) (hk : 10 ≤ k) :
    stamp_read.f k s = some (((val [y0, y1, y2, y3] : Nat) : Int), ((val [m0, m1] : Nat) : Int), ((val [k0, k1] : Nat) : Int), ((val [h0, h1] : Nat) : Int), ((val [i0, i1] : Nat) : Int), ((val [c0, c1] : Nat) : Int),
      decide (((val [y0, y1, y2, y3] : Nat) : Int) ≤ 2100 ∧ 1 ≤ ((val [m0, m1] : Nat) : Int) ∧ ((val [m0, m1] : Nat) : Int) ≤ 12 ∧ 1 ≤ ((val [k0, k1] : Nat) : Int) ∧ ((val [k0, k1] : Nat) : Int) ≤ daysI (val [y0, y1, y2, y3] : Nat) (val [m0, m1] : Nat) ∧ ((val [h0, h1] : Nat) : Int) < 24 ∧ ((val [i0, i1] : Nat) : Int) < 60 ∧ ((val [c0, c1] : Nat) : Int) < 60)) := by
  simp only [List.all_cons, List.all_nil, Bool.and_true, Bool.and_eq_true] at hd
  obtain ⟨a1, a2, a3, a4, a5, a6, a7, a8, a9, aa, ab, ac, ad, ae⟩ := hd
  have hl := L_len s
  rw [hL] at hl
  have hl' : 19 ≤ s.size := by rw [← hl]; simp
  have d4 : ∀ b ∈ [y0, y1, y2, y3], isD b = true := by
    intro b hb
    simp only [List.mem_cons, List.not_mem_nil, or_false] at hb
    rcases hb with rfl | rfl | rfl | rfl <;> assumption
  have v4 : val [y0, y1, y2, y3] < 10000 := by simpa using val_lt d4
  have e1 : L (s.extract 0 4) = [y0, y1, y2, y3] := by rw [L_extract, hL]; rfl
  have n1 : stamp_number.f (s.extract 0 4) = some ((val [y0, y1, y2, y3] : Nat) : Int) := by
    have := number_eq (s.extract 0 4) (by rw [e1]; exact d4) (by rw [e1]; simp) (by rw [e1]; show 4 ≤ 17; decide)
    rw [this, e1]
  have n2 := number_two (s.extract 5 7) (a := m0) (b := m1) (by rw [L_extract, hL]; rfl) a5 a6
  have n3 := number_two (s.extract 8 10) (a := k0) (b := k1) (by rw [L_extract, hL]; rfl) a7 a8
  have n4 := number_two (s.extract 11 13) (a := h0) (b := h1) (by rw [L_extract, hL]; rfl) a9 aa
  have n5 := number_two (s.extract 14 16) (a := i0) (b := i1) (by rw [L_extract, hL]; rfl) ab ac
  have n6 := number_two (s.extract 17 19) (a := c0) (b := c1) (by rw [L_extract, hL]; rfl) ad ae
  unfold stamp_read.f
  rw [n1, n2, n3, n4, n5, n6]
  obtain ⟨_, b1, b2⟩ := digs_two a5 a6
  clear n1 n2 n3 n4 n5 n6 e1 hl d4 hL
  generalize val [y0, y1, y2, y3] = Y at v4 ⊢
  generalize val [m0, m1] = M at b1 b2 ⊢
  generalize val [k0, k1] = K
  generalize val [h0, h1] = H
  generalize val [i0, i1] = I
  generalize val [c0, c1] = C
  simp only [Option.bind_some]
  rw [if_pos (by decide), if_pos (by omega), if_pos (by decide), if_pos (by omega), if_pos (by decide), if_pos (by omega), if_pos (by decide), if_pos (by omega), if_pos (by decide), if_pos (by omega), if_pos (by decide), if_pos (by omega)]
  obtain ⟨k, rfl⟩ : ∃ j, k = j + 1 := ⟨k - 1, by omega⟩
  by_cases c1 : (Y : Int) > 2100
  · rw [if_pos c1]
    simp only [stamp_read.j0, if_true]
    rw [decide_eq_false (by omega)]
  · rw [if_neg c1]
    by_cases c2 : (M : Int) < 1
    · rw [if_pos c2]
      simp only [stamp_read.j0, if_true]
      rw [decide_eq_false (by omega)]
    · rw [if_neg c2]
      by_cases c3 : (M : Int) > 12
      · rw [decide_eq_true c3]
        simp only [stamp_read.j0, if_true]
        rw [decide_eq_false (by omega)]
      · rw [decide_eq_false c3]
        simp only [stamp_read.j0]
        have hs := before_succ (Y : Int) (M : Int) (by omega) (by omega)
        have hdp := days_pos (Y : Int) (M : Int)
        rw [if_neg (by decide), wrap_id (x := (M : Int) + 1) (by omega) (by omega), before_eq _ _ (by omega) (by omega) (by omega), before_eq _ _ (by omega) (by omega) (by omega), Option.bind_some, Option.bind_some, hs, wrap_id (by omega) (by omega), show beforeI (Y : Int) (M : Int) + daysI Y M - beforeI Y M = daysI Y M from by omega]
        generalize daysI (Y : Int) (M : Int) = D at hdp ⊢
        clear hs
        by_cases c4 : (K : Int) ≥ 1
        · rw [if_pos c4]
          by_cases c5 : (K : Int) ≤ D
          · rw [if_pos c5]
            by_cases c6 : (H : Int) < 24
            · rw [if_pos c6]
              by_cases c7 : (I : Int) < 60
              · rw [if_pos c7]
                congr 7
                rw [decide_eq_decide]
                omega
              · rw [if_neg c7, decide_eq_false (by omega)]
            · rw [if_neg c6, decide_eq_false (by omega)]
          · rw [if_neg c5, decide_eq_false (by omega)]
        · rw [if_neg c4, decide_eq_false (by omega)]
/-- Days from 1970 to a year, as the program counts them. -/
def sinceP (y : Int) : Int := if y = 0 then -719527 else sinceI y
theorem since_eq0 (y : Int) (h0 : 0 ≤ y) (h1 : y ≤ 10000) : stamp_since.f y = some (sinceP y) := by
  unfold sinceP
  by_cases c : y = 0
  · subst c; decide +kernel
  · rw [if_neg c]
    exact since_eq y (by omega) h1
theorem sinceP_range (y : Int) (h0 : 0 ≤ y) (h1 : y ≤ 10000) : -720000 ≤ sinceP y ∧ sinceP y ≤ 3000000 := by
  have := since_range y h0 h1
  unfold sinceP
  split <;> omega
theorem seconds_eq (y m d h i c : Int) (y0 : 0 ≤ y) (y1 : y ≤ 2100) (m0 : 1 ≤ m) (m1 : m ≤ 12) (d0 : 1 ≤ d) (d1 : d ≤ 31) (h0 : 0 ≤ h) (h1 : h < 24) (i0 : 0 ≤ i) (i1 : i < 60) (c0 : 0 ≤ c) (c1 : c < 60) :
    stamp_moment_seconds.f y m d h i c = some ((sinceP y + beforeI y m + d - 1) * 86400 + h * 3600 + i * 60 + c) := by
  have hr := sinceP_range y y0 (by omega)
  have hb := before_range y m
  unfold stamp_moment_seconds.f
  rw [since_eq0 y y0 (by omega), before_eq y m y0 m0 (by omega), Option.bind_some, Option.bind_some]
  generalize sinceP y = S at hr ⊢
  generalize beforeI y m = B at hb ⊢
  rw [wrap_id (x := S + B) (by omega) (by omega), wrap_id (x := S + B + d) (by omega) (by omega), wrap_id (x := S + B + d - 1) (by omega) (by omega), wrap_id (x := (S + B + d - 1) * 86400) (by omega) (by omega), wrap_id (x := h * 3600) (by omega) (by omega), wrap_id (x := i * 60) (by omega) (by omega),
    wrap_id (x := (S + B + d - 1) * 86400 + h * 3600) (by omega) (by omega), wrap_id (x := (S + B + d - 1) * 86400 + h * 3600 + i * 60) (by omega) (by omega), wrap_id (by omega) (by omega)]
/-- A stamp's time, with its number. -/
def stampR (l : List UInt8) : Int × Int := match stampL l with | some t => (t, 0) | none => (0, 30)
theorem parse_eq (s : ByteArray) (hs : s.size ≤ 1000) (k : Nat) (hk : 200 ≤ k) : stamp_Parse.f k s = some (stampR (L s)) := by
  have hl := L_len s
  obtain ⟨k, rfl⟩ : ∃ j, k = j + 1 := ⟨k - 1, by omega⟩
  unfold stamp_Parse.f stampR
  by_cases c0 : (s.size : Int) < 19
  · rw [if_pos c0]
    simp only [stamp_Parse.j0, if_true]
    have : stampL (L s) = none := by
      unfold stampL
      split
      · rename_i e
        have := congrArg List.length e
        simp only [List.length_cons] at this
        omega
      · rfl
    rw [this]
  · rw [if_neg c0, if_pos (by decide), if_pos (by omega)]
    obtain ⟨y0, y1, y2, y3, p1, m0, m1, p2, k0, k1, p3, h0, h1, p4, i0, i1, p5, c0', c1', r, hL⟩ := take19 (show 19 ≤ (L s).length by omega)
    have e1 : L (s.extract 0 19) = [y0, y1, y2, y3, p1, m0, m1, p2, k0, k1, p3, h0, h1, p4, i0, i1, p5, c0', c1'] := by rw [L_take, hL]; rfl
    have e2 : L (⟨#[100, 100, 100, 100, 45, 100, 100, 45, 100, 100, 84, 100, 100, 58, 100, 100, 58, 100, 100]⟩ : ByteArray) = shape19 := rfl
    have e3 : L (s.extract 19 s.size) = r := by rw [L_drop, hL]; rfl
    rw [fits_eq _ _ (by rw [e2]; decide) (k + 1) (by omega), e1, e2, fits19, Option.bind_some, hL, stampL]
    by_cases c1 : [y0, y1, y2, y3, m0, m1, k0, k1, h0, h1, i0, i1, c0', c1'].all isD = true ∧ p1 = 45 ∧ p2 = 45 ∧ p3 = 84 ∧ p4 = 58 ∧ p5 = 58
    · rw [decide_eq_true c1, if_pos c1]
      simp only [Bool.not_true, stamp_Parse.j0]
      rw [if_neg (by decide), read_eq s hL c1.1 k (by omega), Option.bind_some, if_pos (by omega)]
      have hrl : r.length ≤ 1000 := by rw [← e3, L_len]; rw [hL] at hl; simp only [List.length_cons] at hl; rw [← L_len, e3]; omega
      have hsz : (s.extract 19 s.size).size ≤ 1000 := by rw [← L_len, e3]; exact hrl
      simp only [List.all_cons, List.all_nil, Bool.and_true, Bool.and_eq_true] at c1
      obtain ⟨⟨a1, a2, a3, a4, a5, a6, a7, a8, a9, aa, ab, ac, ad, ae⟩, _⟩ := c1
      obtain ⟨_, v1, v2⟩ := digs_two a5 a6
      obtain ⟨_, v3, v4⟩ := digs_two a7 a8
      obtain ⟨_, v5, v6⟩ := digs_two a9 aa
      obtain ⟨_, v7, v8⟩ := digs_two ab ac
      obtain ⟨_, v9, va⟩ := digs_two ad ae
      have hp := part_eq (s.extract 19 s.size) hsz k (by omega)
      rw [e3] at hp
      clear hL e1 e3 hl hrl a1 a2 a3 a4 a5 a6 a7 a8 a9 aa ab ac ad ae
      have vY : (0 : Int) ≤ ((val [y0, y1, y2, y3] : Nat) : Int) := by omega
      generalize ((val [y0, y1, y2, y3] : Nat) : Int) = Y at vY ⊢
      generalize ((val [m0, m1] : Nat) : Int) = M at v1 v2 ⊢
      generalize ((val [k0, k1] : Nat) : Int) = D at v3 v4 ⊢
      generalize ((val [h0, h1] : Nat) : Int) = H at v5 v6 ⊢
      generalize ((val [i0, i1] : Nat) : Int) = I at v7 v8 ⊢
      generalize ((val [c0', c1'] : Nat) : Int) = C at v9 va ⊢
      unfold timeOf
      by_cases ok : Y ≤ 2100 ∧ 1 ≤ M ∧ M ≤ 12 ∧ 1 ≤ D ∧ D ≤ daysI Y M ∧ H < 24 ∧ I < 60 ∧ C < 60
      · rw [if_pos ok]
        obtain ⟨o1, o2, o3, o4, o5, o6, o7, o8⟩ := id ok
        have hdp := days_pos Y M
        have hsec := seconds_eq Y M D H I C vY o1 o2 o3 o4 (by omega) v5 o6 v7 o7 v9 o8
        have hr := sinceP_range Y vY (by omega)
        have hb := before_range Y M
        have hsp : sinceP Y = sinceI Y ∨ (Y = 0 ∧ sinceP Y = -719527 ∧ sinceI Y = -719528) := by
          unfold sinceP
          by_cases c : Y = 0
          · right; subst c; exact ⟨rfl, by decide, by decide⟩
          · left; rw [if_neg c]
        rcases hp with ⟨n, r2, hp1, hn0, hn1, hr2, hp2⟩ | ⟨hp1, n, r2, hn0, hn1, hr2, hp2⟩
        · rw [hp1, hp2, Option.bind_some]
          simp only
          have hz := zone_eq (Bs r2) k (by omega)
          rw [L_Bs] at hz
          rcases hz with ⟨z, hz1, hz2, hz3, hz4⟩ | ⟨hz1, z, hz2, hz3, hz4⟩
          · rw [hz1, hz4, Option.bind_some]
            simp only
            unfold stamp_moment_secondsIf.f
            rw [decide_eq_true ok, if_pos rfl, hsec, Option.bind_some, Option.bind_some]
            simp only [if_true]
            generalize sinceP Y = SP at hr hsp ⊢
            generalize sinceI Y = SI at hsp ⊢
            generalize beforeI Y M = B at hb ⊢
            clear hp1 hp2 hz1 hz4 hsec ok
            rw [wrap_id (x := z * 60) (by omega) (by omega), wrap_id (x := (SP + B + D - 1) * 86400 + H * 3600 + I * 60 + C - z * 60) (by omega) (by omega), wrap_id (x := 2305843009213693952 - n) (by omega) (by omega)]
            rcases hsp with rfl | ⟨_, rfl, rfl⟩
            · generalize hT : (SP + B + D - 1) * 86400 + H * 3600 + I * 60 + C - z * 60 = T
              by_cases d1 : T < 0
              · rw [if_pos d1, if_neg (by omega)]
              · rw [if_neg d1]
                by_cases d2 : T > 2305843009
                · rw [if_pos d2, if_neg (by omega)]
                · rw [if_neg d2, wrap_id (x := T * 1000000000) (by omega) (by omega)]
                  by_cases d3 : T * 1000000000 > 2305843009213693952 - n
                  · rw [if_pos d3, if_neg (by omega)]
                  · rw [if_neg d3, wrap_id (by omega) (by omega), if_pos (by omega)]
            · rw [if_pos (by omega), if_neg (by omega)]
          · rw [hz1, hz4, Option.bind_some]
            simp only
            unfold stamp_moment_secondsIf.f
            rw [decide_eq_true ok, if_pos rfl, hsec, Option.bind_some, Option.bind_some]
            simp only [if_true, Bool.false_eq_true, if_false]
        · rw [hp1, hp2, Option.bind_some]
          simp only
          have hz := zone_eq r2 k (by omega)
          obtain ⟨z, b, hz4⟩ : ∃ z b, stamp_zone.f k r2 = some (z, b) := by
            rcases hz with ⟨z, _, _, _, h⟩ | ⟨_, z, _, _, h⟩
            · exact ⟨z, _, h⟩
            · exact ⟨z, _, h⟩
          rw [hz4, Option.bind_some]
          unfold stamp_moment_secondsIf.f
          rw [decide_eq_true ok, if_pos rfl, hsec, Option.bind_some, Option.bind_some]
          simp only [if_true, Bool.false_eq_true, if_false]
      · rw [if_neg ok, decide_eq_false ok]
        obtain ⟨n, r2, b, hp2⟩ : ∃ n r2 b, stamp_part.f k (s.extract 19 s.size) = some (n, r2, b) := by
          rcases hp with ⟨n, r2, _, _, _, _, h⟩ | ⟨_, n, r2, _, _, _, h⟩
          · exact ⟨n, _, _, h⟩
          · exact ⟨n, _, _, h⟩
        rw [hp2, Option.bind_some]
        obtain ⟨z, b2, hz4⟩ : ∃ z b, stamp_zone.f k r2 = some (z, b) := by
          rcases zone_eq r2 k (by omega) with ⟨z, _, _, _, h⟩ | ⟨_, z, _, _, h⟩
          · exact ⟨z, _, h⟩
          · exact ⟨z, _, h⟩
        simp only
        rw [hz4, Option.bind_some]
        unfold stamp_moment_secondsIf.f
        rw [if_neg (by decide), Option.bind_some, if_neg (by decide)]
    · rw [decide_eq_false c1, if_neg c1]
      simp only [Bool.not_false, stamp_Parse.j0, if_true]
/-- The example. -/
theorem works_at (k : Nat) (hk : 200 ≤ k) : gonglaw03_works.f k = some true := by
  unfold gonglaw03_works.f
  rw [parse_eq _ (by decide) k hk, parse_eq _ (by decide) k hk]
  decide +kernel
end Go.Proofs.YtjcenencgnfffaaDoor.StpS
