/- The time of any stamp, and the nanoseconds of any span, or why there are none, are as the document has it. -/
import Derived.Test.YtjcenencgnfffaaDoorRStpRefB
import Derived.Test.YtjcenencgnfffaaDoorRStpSpan
namespace Go.Proofs.YtjcenencgnfffaaDoor.StpS
open Go.RowKit Gong Go.Proofs.YtjcenencgnfffaaDoor.XStR Go.Proofs.YtjcenencgnfffaaDoor.DecS Go.Proofs.YtjcenencgnfffaaDoorW.PrintWords Go.Proofs.YtjcenencgnfffaaDoorW.PrintLast Go.Proofs.YtjcenencgnfffaaDoorW.PrintMore
set_option linter.unusedVariables false
set_option linter.unusedSimpArgs false
theorem byte_eq (s : ByteArray) (i : Nat) (b c : UInt8) (h : (L s)[i]? = some b) : (bt s (i : Int) = (c.toNat : Int)) ↔ b = c := by
  obtain ⟨h1, h2⟩ := List.getElem?_eq_some_iff.1 h
  rw [bt_get s i h1, h2]
  exact ⟨fun e => UInt8.toNat_inj.1 (by omega), fun e => by rw [e]⟩
theorem numL_four (a b c d : UInt8) : numL [a, b, c, d] = if isD a = true ∧ isD b = true ∧ isD c = true ∧ isD d = true then ((val [a, b, c, d] : Nat) : Int) else -1 := by
  unfold numL
  simp
/-- The rest of the reference's Parse, from the sum of days on. -/
theorem rmonths (y m h i c n z : Int) (y0 : 1969 ≤ y) (y1 : y ≤ 2100) (m1 : m ≤ 12) (h0 : 0 ≤ h) (h1 : h < 24) (i0 : 0 ≤ i) (i1 : i < 60) (c0 : 0 ≤ c) (c1 : c < 60) (n0 : 0 ≤ n) (n1 : n < 1000000000) (z0 : -1440 < z) (z1 : z < 1440) :
    ∀ (d : Nat) (q t : Int) (k : Nat), q + d = m → 1 ≤ q → -1000 ≤ t - beforeI y q → t - beforeI y q ≤ 100000 → d + 10 < k →
    gongref03_Parse.l0 k y m h i c n z t q = some (if 0 ≤ (t + beforeI y m - beforeI y q) * 86400 + h * 3600 + i * 60 + c - z * 60 ∧ ((t + beforeI y m - beforeI y q) * 86400 + h * 3600 + i * 60 + c - z * 60) * 1000000000 + n ≤ 2305843009213693952 then (((t + beforeI y m - beforeI y q) * 86400 + h * 3600 + i * 60 + c - z * 60) * 1000000000 + n, 0) else (0, 30)) := by
  intro d
  induction d with
  | zero =>
    intro q t k hq q1 t0 t1 hk
    obtain ⟨k, rfl⟩ : ∃ j, k = j + 2 := ⟨k - 2, by omega⟩
    have : q = m := by omega
    subst this
    have hb := before_range y q
    rw [show t + beforeI y q - beforeI y q = t from by omega]
    simp only [gongref03_Parse.l0]
    rw [if_neg (by omega), wrap_id (x := t * 86400) (by omega) (by omega), wrap_id (x := h * 60) (by omega) (by omega), wrap_id (x := h * 60 + i) (by omega) (by omega), wrap_id (x := h * 60 + i - z) (by omega) (by omega), wrap_id (x := (h * 60 + i - z) * 60) (by omega) (by omega), wrap_id (x := t * 86400 + (h * 60 + i - z) * 60) (by omega) (by omega), wrap_id (x := t * 86400 + (h * 60 + i - z) * 60 + c) (by omega) (by omega)]
    rw [show t * 86400 + (h * 60 + i - z) * 60 + c = t * 86400 + h * 3600 + i * 60 + c - z * 60 from by omega]
    generalize hT : t * 86400 + h * 3600 + i * 60 + c - z * 60 = T
    have hT0 : -200000000 ≤ T := by omega
    have hT1 : T ≤ 10000000000 := by omega
    clear hT
    by_cases d1 : T < 0
    · rw [if_pos d1]
      simp only [gongref03_Parse.j5, if_true]
      rw [if_neg (by omega)]
    · rw [if_neg d1]
      by_cases d2 : T > 2305843009
      · rw [decide_eq_true d2]
        simp only [gongref03_Parse.j5, if_true]
        rw [if_neg (by omega)]
      · rw [decide_eq_false d2]
        simp only [gongref03_Parse.j5]
        rw [if_neg (show ¬ (false = true) by decide), wrap_id (x := T * 1000000000) (by omega) (by omega), wrap_id (x := T * 1000000000 + n) (by omega) (by omega)]
        by_cases d3 : T * 1000000000 + n > 2305843009213693952
        · rw [if_pos d3, if_neg (by omega)]
        · rw [if_neg d3, if_pos (by omega)]
  | succ d ih =>
    intro q t k hq q1 t0 t1 hk
    obtain ⟨k, rfl⟩ : ∃ j, k = j + 1 := ⟨k - 1, by omega⟩
    have hs := before_succ y q q1 (by omega)
    have hb := before_range y q
    have hdp := days_pos y q
    simp only [gongref03_Parse.l0]
    rw [if_pos (by omega), rdays_eq y q (by omega) k (by omega), Option.bind_some, wrap_id (x := t + daysI y q) (by omega) (by omega), wrap_id (x := q + 1) (by omega) (by omega), ih (q + 1) (t + daysI y q) k (by omega) (by omega) (by omega) (by omega) (by omega), show t + daysI y q + beforeI y m - beforeI y (q + 1) = t + beforeI y m - beforeI y q from by omega]
/-- Ahead of 1969 a stamp tells no time. -/
theorem early (y m k h i c n z : Int) (y0 : y < 1969) (m1 : 1 ≤ m) (m12 : m ≤ 12) (k1 : k ≤ daysI y m) (hh : h < 24) (hi : i < 60) (hc : c < 60) (hz : -1440 < z) : (sinceI y + beforeI y m + k - 1) * 86400 + h * 3600 + i * 60 + c - z * 60 < 0 := by
  have hs := before_succ y m m1 m12
  have h13 : beforeI y (m + 1) ≤ beforeI y 13 := by
    by_cases e : m = 12
    · rw [e]; exact Int.le_refl _
    · have := before_le y (m := m + 1) (n := 13) (by omega) (by omega) (by omega)
      omega
  have e13 := before_13 y
  have hl := leap_01 y
  have hy : sinceI y ≤ -731 := by
    have e : sinceI 1968 = -731 := by decide
    by_cases c : y = 1968
    · rw [c, e]; exact Int.le_refl _
    · have := since_lt (y := y) (z := 1968) (by omega)
      omega
  omega
theorem rparse_eq (s : ByteArray) (hs : s.size ≤ 1000) (k : Nat) (hk : 400 ≤ k) : gongref03_Parse.f k s = some (stampR (L s)) := by
  have hl := L_len s
  obtain ⟨k, rfl⟩ : ∃ j, k = j + 3 := ⟨k - 3, by omega⟩
  have bad : gongref03_Parse.j0 (k + 3) s true = some (0, 30) := by simp only [gongref03_Parse.j0, if_true]
  unfold gongref03_Parse.f
  by_cases c0 : (s.size : Int) < 20
  · rw [if_pos c0, bad]
    unfold stampR
    have : stampL (L s) = none := by
      unfold stampL
      split
      · rename_i e
        have hle := congrArg List.length e
        simp only [List.length_cons] at hle
        rename_i r
        have hr : r = [] := List.eq_nil_of_length_eq_zero (by omega)
        split
        · unfold timeOf
          rw [hr]
          split
          · rfl
          · rfl
        · rfl
      · rfl
    rw [this]
  · rw [if_neg c0]
    obtain ⟨y0, y1, y2, y3, p1, m0, m1, p2, k0, k1, p3, h0, h1, p4, i0, i1, p5, c0', c1', r, hL⟩ := take19 (show 19 ≤ (L s).length by omega)
    have b4 := byte_eq s 4 p1 45 (by rw [hL]; rfl)
    have b7 := byte_eq s 7 p2 45 (by rw [hL]; rfl)
    have b10 := byte_eq s 10 p3 84 (by rw [hL]; rfl)
    have b13 := byte_eq s 13 p4 58 (by rw [hL]; rfl)
    have b16 := byte_eq s 16 p5 58 (by rw [hL]; rfl)
    rw [show ((4 : Nat) : Int) = 4 from rfl, show (((45 : UInt8).toNat : Nat) : Int) = 45 from rfl] at b4
    rw [show ((7 : Nat) : Int) = 7 from rfl, show (((45 : UInt8).toNat : Nat) : Int) = 45 from rfl] at b7
    rw [show ((10 : Nat) : Int) = 10 from rfl, show (((84 : UInt8).toNat : Nat) : Int) = 84 from rfl] at b10
    rw [show ((13 : Nat) : Int) = 13 from rfl, show (((58 : UInt8).toNat : Nat) : Int) = 58 from rfl] at b13
    rw [show ((16 : Nat) : Int) = 16 from rfl, show (((58 : UInt8).toNat : Nat) : Int) = 58 from rfl] at b16
    unfold stampR
    rw [hL, stampL, if_pos (by omega)]
    by_cases q1 : p1 = 45
    · rw [if_pos (b4.2 q1), if_pos (by omega)]
      by_cases q2 : p2 = 45
      · rw [if_pos (b7.2 q2), if_pos (by omega)]
        by_cases q3 : p3 = 84
        · rw [if_pos (b10.2 q3), if_pos (by omega)]
          by_cases q4 : p4 = 58
          · rw [if_pos (b13.2 q4), if_pos (by omega)]
            by_cases q5 : p5 = 58
            · rw [show (bt s 16 != 58) = false from by rw [bne_eq_false_iff_eq]; exact b16.2 q5]
              have e1 : L (s.extract 0 4) = [y0, y1, y2, y3] := by rw [L_extract, hL]; rfl
              have e2 : L (s.extract 5 7) = [m0, m1] := by rw [L_extract, hL]; rfl
              have e3 : L (s.extract 8 10) = [k0, k1] := by rw [L_extract, hL]; rfl
              have e4 : L (s.extract 11 13) = [h0, h1] := by rw [L_extract, hL]; rfl
              have e5 : L (s.extract 14 16) = [i0, i1] := by rw [L_extract, hL]; rfl
              have e6 : L (s.extract 17 19) = [c0', c1'] := by rw [L_extract, hL]; rfl
              have e7 : L (s.extract 19 s.size) = r := by rw [L_drop, hL]; rfl
              have n1 := rnum_eq (s.extract 0 4) (by rw [e1]; show 4 ≤ 17; decide) (k + 2) (by omega)
              have n2 := rnum_eq (s.extract 5 7) (by rw [e2]; show 2 ≤ 17; decide) (k + 2) (by omega)
              have n3 := rnum_eq (s.extract 8 10) (by rw [e3]; show 2 ≤ 17; decide) (k + 2) (by omega)
              have n4 := rnum_eq (s.extract 11 13) (by rw [e4]; show 2 ≤ 17; decide) (k + 2) (by omega)
              have n5 := rnum_eq (s.extract 14 16) (by rw [e5]; show 2 ≤ 17; decide) (k + 2) (by omega)
              have n6 := rnum_eq (s.extract 17 19) (by rw [e6]; show 2 ≤ 17; decide) (k + 2) (by omega)
              rw [e1, numL_four] at n1
              rw [e2, numL_two] at n2
              rw [e3, numL_two] at n3
              rw [e4, numL_two] at n4
              rw [e5, numL_two] at n5
              rw [e6, numL_two] at n6
              have hsz : (s.extract 19 s.size).size ≤ 1000 := by rw [← L_len, L_drop, List.length_drop]; omega
              have hp := rpart_eq (s.extract 19 s.size) hsz (k + 1) (by omega)
              rw [e7] at hp
              have badj : ∀ a b c d e f, gongref03_Parse.j1 (k + 2) s a b c d e f true = some (0, 30) := by
                intro a b c d e f
                simp only [gongref03_Parse.j1, if_true]
              simp only [gongref03_Parse.j0]
              rw [if_neg (show ¬ (false = true) by decide), if_pos (show (0 : Nat) ≤ 4 by decide), if_pos (show 4 ≤ (s.size : Int) by omega), n1, Option.bind_some, if_pos (show (5 : Nat) ≤ 7 by decide), if_pos (show 7 ≤ (s.size : Int) by omega), n2, Option.bind_some, if_pos (show (8 : Nat) ≤ 10 by decide), if_pos (show 10 ≤ (s.size : Int) by omega), n3, Option.bind_some,
                if_pos (show (11 : Nat) ≤ 13 by decide), if_pos (show 13 ≤ (s.size : Int) by omega), n4, Option.bind_some, if_pos (show (14 : Nat) ≤ 16 by decide), if_pos (show 16 ≤ (s.size : Int) by omega), n5, Option.bind_some, if_pos (show (17 : Nat) ≤ 19 by decide), if_pos (show 19 ≤ (s.size : Int) by omega), n6, Option.bind_some]
              simp only [badj]
              clear n1 n2 n3 n4 n5 n6 e1 e2 e3 e4 e5 e6 b4 b7 b10 b13 b16 badj bad
              have hall : ([y0, y1, y2, y3, m0, m1, k0, k1, h0, h1, i0, i1, c0', c1'].all isD = true ∧ p1 = 45 ∧ p2 = 45 ∧ p3 = 84 ∧ p4 = 58 ∧ p5 = 58) ↔ ((isD y0 = true ∧ isD y1 = true ∧ isD y2 = true ∧ isD y3 = true) ∧ (isD m0 = true ∧ isD m1 = true) ∧ (isD k0 = true ∧ isD k1 = true) ∧ (isD h0 = true ∧ isD h1 = true) ∧ (isD i0 = true ∧ isD i1 = true) ∧ (isD c0' = true ∧ isD c1' = true)) := by
                simp only [List.all_cons, List.all_nil, Bool.and_true, Bool.and_eq_true]
                constructor
                · rintro ⟨⟨a1, a2, a3, a4, a5, a6, a7, a8, a9, aa, ab, ac, ad, ae⟩, _⟩
                  exact ⟨⟨a1, a2, a3, a4⟩, ⟨a5, a6⟩, ⟨a7, a8⟩, ⟨a9, aa⟩, ⟨ab, ac⟩, ad, ae⟩
                · rintro ⟨⟨a1, a2, a3, a4⟩, ⟨a5, a6⟩, ⟨a7, a8⟩, ⟨a9, aa⟩, ⟨ab, ac⟩, ad, ae⟩
                  exact ⟨⟨a1, a2, a3, a4, a5, a6, a7, a8, a9, aa, ab, ac, ad, ae⟩, q1, q2, q3, q4, q5⟩
              by_cases r1 : isD y0 = true ∧ isD y1 = true ∧ isD y2 = true ∧ isD y3 = true
              · rw [if_pos r1]
                by_cases r2 : isD m0 = true ∧ isD m1 = true
                · rw [if_pos r2]
                  by_cases r3 : isD k0 = true ∧ isD k1 = true
                  · rw [if_pos r3]
                    by_cases r4 : isD h0 = true ∧ isD h1 = true
                    · rw [if_pos r4]
                      by_cases r5 : isD i0 = true ∧ isD i1 = true
                      · rw [if_pos r5]
                        by_cases r6 : isD c0' = true ∧ isD c1' = true
                        · rw [if_pos r6, if_pos (hall.2 ⟨r1, r2, r3, r4, r5, r6⟩)]
                          obtain ⟨_, v1, v2⟩ := digs_two r2.1 r2.2
                          obtain ⟨_, v3, v4⟩ := digs_two r3.1 r3.2
                          obtain ⟨_, v5, v6⟩ := digs_two r4.1 r4.2
                          obtain ⟨_, v7, v8⟩ := digs_two r5.1 r5.2
                          obtain ⟨_, v9, va⟩ := digs_two r6.1 r6.2
                          have vY : (0 : Int) ≤ ((val [y0, y1, y2, y3] : Nat) : Int) := by omega
                          have hz0 : ∀ x, rzone_eq x (k + 1) (by omega) = rzone_eq x (k + 1) (by omega) := fun _ => rfl
                          clear hL hall r1 r2 r3 r4 r5 r6 e7 hl hz0
                          generalize ((val [y0, y1, y2, y3] : Nat) : Int) = Y at vY ⊢
                          generalize ((val [m0, m1] : Nat) : Int) = M at v1 v2 ⊢
                          generalize ((val [k0, k1] : Nat) : Int) = D at v3 v4 ⊢
                          generalize ((val [h0, h1] : Nat) : Int) = H at v5 v6 ⊢
                          generalize ((val [i0, i1] : Nat) : Int) = I at v7 v8 ⊢
                          generalize ((val [c0', c1'] : Nat) : Int) = C at v9 va ⊢
                          unfold timeOf
                          rw [if_neg (show ¬ Y < 0 by omega)]
                          by_cases o2 : M < 1
                          · rw [if_pos o2, if_neg (fun h => by have := h.2.1; omega)]
                          · rw [if_neg o2]
                            by_cases o3 : M > 12
                            · rw [if_pos o3, if_neg (fun h => by have := h.2.2.1; omega)]
                            · rw [if_neg o3]
                              by_cases o4 : D < 1
                              · rw [if_pos o4, if_neg (fun h => by have := h.2.2.2.1; omega)]
                              · rw [if_neg o4, rdays_eq Y M vY (k + 2) (by omega), Option.bind_some]
                                by_cases o5 : D > daysI Y M
                                · rw [if_pos o5, if_neg (fun h => by have := h.2.2.2.2.1; omega)]
                                · rw [if_neg o5, if_neg (show ¬ H < 0 by omega)]
                                  by_cases o6 : H > 23
                                  · rw [if_pos o6, if_neg (fun h => by have := h.2.2.2.2.2.1; omega)]
                                  · rw [if_neg o6, if_neg (show ¬ I < 0 by omega)]
                                    by_cases o7 : I > 59
                                    · rw [if_pos o7, if_neg (fun h => by have := h.2.2.2.2.2.2.1; omega)]
                                    · rw [if_neg o7, if_neg (show ¬ C < 0 by omega)]
                                      by_cases o8 : C > 59
                                      · rw [decide_eq_true o8, if_neg (fun h => by have := h.2.2.2.2.2.2.2; omega)]
                                        simp only [gongref03_Parse.j1, if_true]
                                      · rw [decide_eq_false o8]
                                        simp only [gongref03_Parse.j1]
                                        rw [if_neg (show ¬ (false = true) by decide), if_pos (show 19 ≤ (s.size : Int) by omega)]
                                        have hdp := days_pos Y M
                                        have j2bad : ∀ n z, gongref03_Parse.j2 (k + 1) Y M D H I C n z true = some (0, 30) := by
                                          intro n z
                                          simp only [gongref03_Parse.j2, if_true]
                                        rcases hp with ⟨n, r2, hp1, hn0, hn1, hp2⟩ | ⟨hp1, n, r2, hn0, hn1, hp2⟩
                                        · rw [hp1, hp2, Option.bind_some]
                                          simp only [if_true]
                                          have hz := rzone_eq (Bs r2) (k + 1) (by omega)
                                          have hzb := zone_eq (Bs r2) (k + 200) (by omega)
                                          rw [L_Bs] at hz hzb
                                          rcases hz with ⟨z, hz1, hz4⟩ | ⟨hz1, z, hz4⟩
                                          · rw [hz1, hz4, Option.bind_some]
                                            have hzr : -1440 < z ∧ z < 1440 := by
                                              rcases hzb with ⟨z', a, b, c, _⟩ | ⟨a, _⟩
                                              · rw [hz1, Option.some.injEq] at a
                                                omega
                                              · rw [hz1] at a; simp at a
                                            simp only [if_true]
                                            by_cases o9 : Y < 1969
                                            · rw [if_pos o9, j2bad]
                                              have := early Y M D H I C n z o9 (by omega) (by omega) (by omega) (by omega) (by omega) (by omega) hzr.1
                                              by_cases oA : Y ≤ 2100 ∧ 1 ≤ M ∧ M ≤ 12 ∧ 1 ≤ D ∧ D ≤ daysI Y M ∧ H < 24 ∧ I < 60 ∧ C < 60
                                              · rw [if_pos oA, if_neg (by omega)]
                                              · rw [if_neg oA]
                                            · rw [if_neg o9]
                                              by_cases oB : Y > 2100
                                              · rw [decide_eq_true oB, j2bad, if_neg (fun h => by have := h.1; omega)]
                                              · rw [decide_eq_false oB, if_pos (⟨by omega, by omega, by omega, by omega, by omega, by omega, by omega, by omega⟩ : Y ≤ 2100 ∧ 1 ≤ M ∧ M ≤ 12 ∧ 1 ≤ D ∧ D ≤ daysI Y M ∧ H < 24 ∧ I < 60 ∧ C < 60)]
                                                simp only [gongref03_Parse.j2]
                                                have hr := since_range Y vY (by omega)
                                                have hr2 : -366 ≤ sinceI Y ∧ sinceI Y ≤ 50000 := by unfold sinceI; omega
                                                have hb1 := before_one Y
                                                obtain ⟨X, hX, hXe⟩ : ∃ X, (if Y = 1969 then gongref03_Parse.j3 k Y M H I C n z (wrap64 (wrap64 (D - 1) - 365)) else gongref03_Parse.j3 k Y M H I C n z (wrap64 (wrap64 (sinceI Y + D) - 1))) = gongref03_Parse.j3 k Y M H I C n z X ∧ X = sinceI Y + D - 1 := by
                                                  by_cases e : Y = 1969
                                                  · rw [if_pos e, wrap_id (x := D - 1) (by omega) (by omega), wrap_id (by omega) (by omega)]
                                                    refine ⟨_, rfl, ?_⟩
                                                    rw [e, show sinceI 1969 = -365 from by decide]
                                                    omega
                                                  · rw [if_neg e, wrap_id (x := sinceI Y + D) (by omega) (by omega), wrap_id (by omega) (by omega)]
                                                    exact ⟨_, rfl, rfl⟩
                                                have hpast : (gongref03_past.f k Y).bind (fun t160 => (if Y = 1969 then (gongref03_Parse.j3 k Y M H I C n z (wrap64 ((wrap64 (D - 1)) - 365))) else (gongref03_Parse.j3 k Y M H I C n z (wrap64 ((wrap64 (t160 + D)) - 1))))) = gongref03_Parse.j3 k Y M H I C n z X := by
                                                  by_cases e : Y = 1969
                                                  · have h69 : gongref03_past.f k Y = some 0 := by
                                                      obtain ⟨k', rfl⟩ : ∃ j, k = j + 1 := ⟨k - 1, by omega⟩
                                                      unfold gongref03_past.f
                                                      simp only [gongref03_past.l0]
                                                      rw [if_neg (by omega)]
                                                    rw [h69, Option.bind_some, if_pos e, ← hX, if_pos e]
                                                  · rw [rpast_eq Y (by omega) (by omega) k (by omega), Option.bind_some, if_neg e, ← hX, if_neg e]
                                                rw [if_neg (show ¬ (false = true) by decide), hpast]
                                                obtain ⟨k', rfl⟩ : ∃ j, k = j + 1 := ⟨k - 1, by omega⟩
                                                simp only [gongref03_Parse.j3]
                                                rw [rmonths Y M H I C n z (by omega) (by omega) (by omega) v5 (by omega) v7 (by omega) v9 (by omega) hn0 hn1 hzr.1 hzr.2 (M - 1).toNat 1 X k' (by omega) (by omega) (by omega) (by omega) (by omega), hb1, hXe, show sinceI Y + D - 1 + beforeI Y M - 0 = sinceI Y + beforeI Y M + D - 1 from by omega]
                                                split
                                                · rfl
                                                · rfl
                                          · rw [hz1, hz4, Option.bind_some]
                                            simp only [Bool.false_eq_true, if_false, if_true, j2bad]
                                            by_cases oA : Y ≤ 2100 ∧ 1 ≤ M ∧ M ≤ 12 ∧ 1 ≤ D ∧ D ≤ daysI Y M ∧ H < 24 ∧ I < 60 ∧ C < 60
                                            · rw [if_pos oA]
                                            · rw [if_neg oA]
                                        · rw [hp1, hp2, Option.bind_some]
                                          simp only
                                          obtain ⟨z, b, hz4⟩ : ∃ z b, gongref03_zone.f (k + 1) r2 = some (z, b) := by
                                            rcases rzone_eq r2 (k + 1) (by omega) with ⟨z, _, h⟩ | ⟨_, z, h⟩
                                            · exact ⟨z, _, h⟩
                                            · exact ⟨z, _, h⟩
                                          rw [hz4, Option.bind_some]
                                          simp only [Bool.false_eq_true, if_false, j2bad]
                                          by_cases oA : Y ≤ 2100 ∧ 1 ≤ M ∧ M ≤ 12 ∧ 1 ≤ D ∧ D ≤ daysI Y M ∧ H < 24 ∧ I < 60 ∧ C < 60
                                          · rw [if_pos oA]
                                          · rw [if_neg oA]
                        · rw [if_neg r6, if_neg (fun h => r6 (hall.1 h).2.2.2.2.2), rdays_eq _ _ (by omega) (k + 2) (by omega), Option.bind_some]
                          simp
                      · rw [if_neg r5, if_neg (fun h => r5 (hall.1 h).2.2.2.2.1), rdays_eq _ _ (by omega) (k + 2) (by omega), Option.bind_some]
                        simp
                    · rw [if_neg r4, if_neg (fun h => r4 (hall.1 h).2.2.2.1), rdays_eq _ _ (by omega) (k + 2) (by omega), Option.bind_some]
                      simp
                  · rw [if_neg r3, if_neg (fun h => r3 (hall.1 h).2.2.1)]
                    simp
                · rw [if_neg r2, if_neg (fun h => r2 (hall.1 h).2.1)]
                  simp
              · rw [if_neg r1, if_neg (fun h => r1 (hall.1 h).1)]
                simp
            · rw [show (bt s 16 != 58) = true from by rw [bne_iff_ne]; exact fun h => q5 (b16.1 h), bad, if_neg (fun h => q5 h.2.2.2.2.2)]
          · rw [if_neg (fun h => q4 (b13.1 h)), bad, if_neg (fun h => q4 h.2.2.2.2.1)]
        · rw [if_neg (fun h => q3 (b10.1 h)), bad, if_neg (fun h => q3 h.2.2.2.1)]
      · rw [if_neg (fun h => q2 (b7.1 h)), bad, if_neg (fun h => q2 h.2.2.1)]
    · rw [if_neg (fun h => q1 (b4.1 h)), bad, if_neg (fun h => q1 h.2.1)]
theorem rspan_l0 (s : ByteArray) (hs : s.size ≤ 1000) (N : List ByteArray) (B : List Int) : ∀ (d i k : Nat), i + d = (L s).length → (∀ b ∈ (L s).take i, isD b = true) → d + 100 < k →
    ∃ k', 90 ≤ k' ∧ gongref03_Span.l0 k s N B (i : Int) = gongref03_Span.j1 k' s N B (((L s).takeWhile isD).length : Nat) := by
  have hl := L_len s
  have stop : ∀ i, i ≤ (L s).length → (∀ b ∈ (L s).take i, isD b = true) → (∀ b r', (L s).drop i = b :: r' → isD b = false) → ((L s).takeWhile isD).length = i := by
    intro i hi hd hst
    have e := List.take_append_drop i (L s)
    have ht : ((L s).take i).length = i := by rw [List.length_take]; omega
    have : (L s).takeWhile isD = (L s).take i := by
      conv => lhs; rw [← e]
      exact tw_app _ _ hd hst
    rw [this, ht]
  intro d
  induction d with
  | zero =>
    intro i k hi hd hk
    obtain ⟨k, rfl⟩ : ∃ m, k = m + 1 := ⟨k - 1, by omega⟩
    simp only [gongref03_Span.l0]
    rw [if_neg (by omega), stop i (by omega) hd (fun b r' h => by rw [List.drop_eq_nil_of_le (by omega)] at h; exact absurd h (by simp))]
    exact ⟨k, by omega, rfl⟩
  | succ d ih =>
    intro i k hi hd hk
    obtain ⟨k, rfl⟩ : ∃ m, k = m + 1 := ⟨k - 1, by omega⟩
    have h1 : i < (L s).length := by omega
    have hno : isD (L s)[i] = false → ((L s).takeWhile isD).length = i := fun h => stop i (by omega) hd (fun b r' hbr => by
      rw [List.drop_eq_getElem_cons h1, List.cons.injEq] at hbr
      rw [← hbr.1]
      exact h)
    simp only [gongref03_Span.l0]
    rw [if_pos (by omega), if_pos (by omega), bt_get s i h1]
    by_cases c1 : (((L s)[i]).toNat : Int) ≥ 48
    · rw [if_pos c1]
      by_cases c2 : (((L s)[i]).toNat : Int) ≤ 57
      · rw [if_pos c2, wrap_id (x := (i : Int) + 1) (by omega) (by omega)]
        have hD : isD (L s)[i] = true := by unfold isD; rw [decide_eq_true_eq]; omega
        exact ih (i + 1) k (by omega) (by
          intro b hb
          rw [List.take_succ_eq_append_getElem h1, List.mem_append, List.mem_singleton] at hb
          rcases hb with hb | hb
          · exact hd b hb
          · rw [hb]; exact hD) (by omega)
      · rw [if_neg c2, hno (by unfold isD; rw [decide_eq_false_iff_not]; omega)]
        exact ⟨k, by omega, rfl⟩
    · rw [if_neg c1, hno (by unfold isD; rw [decide_eq_false_iff_not]; omega)]
      exact ⟨k, by omega, rfl⟩
theorem rspan_l1 (s : ByteArray) (j : Nat) (hj : j = ((L s).takeWhile isD).length) (j1 : 1 ≤ j) (j9 : j ≤ 9) (hs : s.size ≤ 1000) : ∀ (d q k : Nat), q + d = 7 → 2 * d + 30 ≤ k →
    gongref03_Span.l1 k s [(⟨#[100]⟩ : ByteArray), (⟨#[104]⟩ : ByteArray), (⟨#[109]⟩ : ByteArray), (⟨#[115]⟩ : ByteArray), (⟨#[109, 115]⟩ : ByteArray), (⟨#[117, 115]⟩ : ByteArray), (⟨#[110, 115]⟩ : ByteArray)] [86400000000000, 3600000000000, 60000000000, 1000000000, 1000000, 1000, 1] (j : Int) (q : Int)
      = some (match findSpan (unitsL.drop q) ((L s).dropWhile isD) (val ((L s).takeWhile isD) : Nat) with | some t => (t, 0) | none => (0, 30)) := by
  have hl := L_len s
  have htw : (L s).takeWhile isD = (L s).take j := by rw [hj]; exact List.prefix_iff_eq_take.1 (List.takeWhile_prefix _)
  have hdw : (L s).drop j = (L s).dropWhile isD := by
    have h := List.takeWhile_append_dropWhile (p := isD) (l := L s)
    conv => lhs; rw [← h, hj]
    exact List.drop_left
  have hjl : j ≤ (L s).length := by
    rw [hj]
    exact (List.takeWhile_prefix _).length_le
  have hd : ∀ b ∈ (L s).take j, isD b = true := by rw [← htw]; exact fun b hb => tw_mem hb
  have e1 : L (s.extract 0 ((j : Int) : Int).toNat) = (L s).take j := by rw [Int.toNat_natCast, L_take]
  have e2 : L (s.extract ((j : Int) : Int).toNat s.size) = (L s).dropWhile isD := by rw [Int.toNat_natCast, L_drop, hdw]
  have hlt : ((L s).take j).length = j := by rw [List.length_take]; omega
  have hnum : ∀ k, 20 ≤ k → gongref03_Number.f k (s.extract 0 ((j : Int) : Int).toNat) = some ((val ((L s).takeWhile isD) : Nat) : Int) := by
    intro k hk
    rw [rnum_eq _ (by rw [e1, hlt]; omega) k hk, e1, htw]
    unfold numL
    rw [if_pos ⟨fun e => by rw [e] at hlt; simp at hlt; omega, List.all_eq_true.2 hd⟩]
  have hv := val_lt' hd 9 (by omega)
  rw [← htw, show ((10 ^ 9 : Nat) : Int) = 1000000000 from by decide] at hv
  intro d
  induction d with
  | zero =>
    intro q k hq hk
    obtain ⟨k, rfl⟩ : ∃ m, k = m + 2 := ⟨k - 2, by omega⟩
    have : q = 7 := by omega
    subst this
    simp only [gongref03_Span.l1]
    rw [if_neg (by decide)]
    simp only [gongref03_Span.j4]
    rw [if_neg (by decide)]
    rfl
  | succ d ih =>
    intro q k hq hk
    obtain ⟨k, rfl⟩ : ∃ m, k = m + 2 := ⟨k - 2, by omega⟩
    obtain ⟨u, hu, hr, hn, hp, hul⟩ := runit_at q (by omega)
    have hup : u.2 ≤ 86400000000000 := by
      have : ∀ x ∈ unitsL, x.2 ≤ 86400000000000 := by decide
      exact this u (List.mem_of_mem_drop (by rw [hu]; simp))
    have hih := ih (q + 1) k (by omega) (by omega)
    have hq0 : 0 ≤ (2305843009213693952 : Int) / u.2 := Int.ediv_nonneg (by omega) (by omega)
    have hq1 : (2305843009213693952 : Int) / u.2 ≤ 2305843009213693952 := Int.ediv_le_self _ (by omega)
    simp only [gongref03_Span.l1]
    rw [if_pos (by simp only [List.length_cons, List.length_nil]; omega), decide_eq_true (by simp only [List.length_cons, List.length_nil]; omega)]
    simp only [gongref03_Span.j4]
    rw [if_pos trivial, if_pos (by omega), if_pos (by simp only [List.length_cons, List.length_nil]; omega), if_pos (by omega), if_pos (by omega), hn, toList_L, toList_L, L_Bs, e2, hu, findSpan, wrap_id (x := (q : Int) + 1) (by omega) (by omega), show (q : Int) + 1 = ((q + 1 : Nat) : Int) from rfl, hih]
    by_cases c : u.1 = (L s).dropWhile isD
    · rw [if_pos c, hnum k (by omega), Option.bind_some, if_pos (by simp only [List.length_cons, List.length_nil]; omega), hr, if_neg (by omega), Option.bind_some, wrap_id (x := (2305843009213693952 : Int) / u.2) (by omega) (by omega)]
      by_cases c2 : ((val ((L s).takeWhile isD) : Nat) : Int) ≤ 2305843009213693952 / u.2
      · rw [if_pos c2, if_pos ⟨c, c2⟩]
        have h1 : ((val ((L s).takeWhile isD) : Nat) : Int) * u.2 ≤ 2305843009213693952 := Int.le_trans (Int.mul_le_mul_of_nonneg_right c2 (by omega)) (Int.ediv_mul_le _ (by omega))
        have h2 : 0 ≤ ((val ((L s).takeWhile isD) : Nat) : Int) * u.2 := Int.mul_nonneg (by omega) (by omega)
        rw [wrap_id (by omega) (by omega)]
      · rw [if_neg c2, if_neg (fun h => c2 h.2)]
    · rw [if_neg c, if_neg (fun h => c h.1)]
theorem rspan_eq (s : ByteArray) (hs : s.size ≤ 1000) (k : Nat) (hk : 1200 ≤ k) : gongref03_Span.f k s = some (spanR (L s)) := by
  have hl := L_len s
  unfold gongref03_Span.f gongref03_Units.f
  rw [Option.bind_some]
  obtain ⟨k', hk', he⟩ := rspan_l0 s hs [(⟨#[100]⟩ : ByteArray), (⟨#[104]⟩ : ByteArray), (⟨#[109]⟩ : ByteArray), (⟨#[115]⟩ : ByteArray), (⟨#[109, 115]⟩ : ByteArray), (⟨#[117, 115]⟩ : ByteArray), (⟨#[110, 115]⟩ : ByteArray)] [86400000000000, 3600000000000, 60000000000, 1000000000, 1000000, 1000, 1] (L s).length 0 k (by omega) (by simp) (by omega)
  rw [Int.natCast_zero] at he
  rw [he]
  obtain ⟨k', rfl⟩ : ∃ m, k' = m + 2 := ⟨k' - 2, by omega⟩
  unfold spanR spanL
  have bad : ∀ j, gongref03_Span.j2 (k' + 1) s [(⟨#[100]⟩ : ByteArray), (⟨#[104]⟩ : ByteArray), (⟨#[109]⟩ : ByteArray), (⟨#[115]⟩ : ByteArray), (⟨#[109, 115]⟩ : ByteArray), (⟨#[117, 115]⟩ : ByteArray), (⟨#[110, 115]⟩ : ByteArray)] [86400000000000, 3600000000000, 60000000000, 1000000000, 1000000, 1000, 1] j true = some (0, 30) := by
    intro j
    simp only [gongref03_Span.j2, if_true]
  simp only [gongref03_Span.j1]
  by_cases c1 : ((L s).takeWhile isD).length < 1
  · rw [if_pos (by omega), bad, if_pos (.inl c1)]
  · rw [if_neg (by omega)]
    by_cases c2 : 9 < ((L s).takeWhile isD).length
    · rw [if_pos (by omega), bad, if_pos (.inr (.inl c2))]
    · rw [if_neg (by omega)]
      have hne : L s ≠ [] := fun e => by rw [e] at c1; simp at c1
      have hb : (bt s 0 == 48) = decide ((L s).head? = some 48) := by
        cases hL : L s with
        | nil => exact absurd hL hne
        | cons b r =>
          have := byte_eq s 0 b 48 (by rw [hL]; rfl)
          rw [Int.natCast_zero, show (((48 : UInt8).toNat : Nat) : Int) = 48 from rfl] at this
          rw [Bool.eq_iff_iff, beq_iff_eq, this, decide_eq_true_eq]
          simp
      have go := rspan_l1 s _ rfl (by omega) (by omega) hs 7 0 k' (by omega) (by omega)
      rw [List.drop_zero, Int.natCast_zero] at go
      by_cases c3 : 1 < ((L s).takeWhile isD).length
      · rw [if_pos (by omega), if_pos (by have := List.length_pos_iff.2 hne; omega), hb]
        by_cases c4 : (L s).head? = some 48
        · rw [decide_eq_true c4, bad, if_pos (.inr (.inr ⟨c3, c4⟩))]
        · rw [decide_eq_false c4, if_neg (by rintro (h | h | ⟨_, h⟩); exact c1 h; exact c2 h; exact c4 h)]
          simp only [gongref03_Span.j2]
          rw [if_neg (by decide)]
          exact go
      · rw [if_neg (by omega), if_neg (by rintro (h | h | ⟨h, _⟩); exact c1 h; exact c2 h; exact c3 h)]
        simp only [gongref03_Span.j2]
        rw [if_neg (by decide)]
        exact go
end Go.Proofs.YtjcenencgnfffaaDoor.StpS
namespace Go.Proofs.YtjcenencgnfffaaDoor.Pure
open Go.RowKit Gong Go.Proofs.YtjcenencgnfffaaDoor.StpS Go.Proofs.YtjcenencgnfffaaDoor.XStR Go.Proofs.YtjcenencgnfffaaDoor.DecS Go.Proofs.YtjcenencgnfffaaDoorW.PrintWords Go.Proofs.YtjcenencgnfffaaDoorW.PrintLast Go.Proofs.YtjcenencgnfffaaDoorW.PrintMore
set_option linter.unusedVariables false
set_option linter.unusedSimpArgs false
theorem StampReads (a0 : ByteArray) (w0 : a0.size ≤ 140737488351232) : ∃ k, gonglaw03_StampReads.f k a0 = some true := by
  obtain ⟨k, hk⟩ : ∃ k : Nat, 2000 ≤ k := ⟨_, Nat.le_refl _⟩
  refine ⟨k, ?_⟩
  unfold gonglaw03_StampReads.f
  rw [works_at k (by omega)]
  by_cases c : (a0.size : Int) > 1000
  · rw [if_pos c]
    rfl
  · rw [if_neg c, parse_eq a0 (by omega) k (by omega), rparse_eq a0 (by omega) k (by omega), span_eq a0 (by omega), rspan_eq a0 (by omega) k (by omega)]
    simp
end Go.Proofs.YtjcenencgnfffaaDoor.Pure
