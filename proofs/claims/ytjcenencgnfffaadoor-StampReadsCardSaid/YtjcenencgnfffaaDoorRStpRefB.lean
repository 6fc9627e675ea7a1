/- Layer 3: what the reference reads out of a stamp: numbers, the part behind the point, the zone. -/
import Derived.Test.YtjcenencgnfffaaDoorRStpRefCal
import Derived.Test.YtjcenencgnfffaaDoorRStpParseB
namespace Go.Proofs.YtjcenencgnfffaaDoor.StpS
open Go.RowKit Gong Go.Proofs.YtjcenencgnfffaaDoor.XStR Go.Proofs.YtjcenencgnfffaaDoor.DecS Go.Proofs.YtjcenencgnfffaaDoorW.PrintWords Go.Proofs.YtjcenencgnfffaaDoorW.PrintLast Go.Proofs.YtjcenencgnfffaaDoorW.PrintMore
set_option linter.unusedVariables false
set_option linter.unusedSimpArgs false
/-- A text's digits; below 0: it has others, or none. -/
def numL (l : List UInt8) : Int := if l ≠ [] ∧ l.all isD = true then (val l : Int) else -1
theorem rnum_loop (s : ByteArray) (hl : (L s).length ≤ 17) : ∀ (d i k : Nat), i + d = (L s).length → (∀ b ∈ (L s).take i, isD b = true) → d < k → gongref03_Number.l0 k s ((val ((L s).take i) : Nat) : Int) (i : Int) = some (numL (L s)) := by
  have hs := L_len s
  intro d
  induction d with
  | zero =>
    intro i k hi hd hk
    obtain ⟨k, rfl⟩ : ∃ m, k = m + 1 := ⟨k - 1, by omega⟩
    rw [List.take_of_length_le (by omega)] at hd ⊢
    simp only [gongref03_Number.l0]
    rw [if_neg (by omega), toList_L]
    unfold numL
    by_cases c : L s = []
    · rw [if_pos c, if_neg (fun h => h.1 c)]
    · rw [if_neg c, if_pos ⟨c, List.all_eq_true.2 hd⟩]
  | succ d ih =>
    intro i k hi hd hk
    obtain ⟨k, rfl⟩ : ∃ m, k = m + 1 := ⟨k - 1, by omega⟩
    have h1 : i < (L s).length := by omega
    have hv := val_lt' hd 17 (by rw [List.length_take]; omega)
    have hbad : isD (L s)[i] = false → numL (L s) = -1 := by
      intro h
      unfold numL
      rw [if_neg]
      rintro ⟨_, ha⟩
      have := List.all_eq_true.1 ha _ (List.getElem_mem h1)
      rw [h] at this
      exact absurd this (by decide)
    have hu := (L s)[i].toNat_lt
    simp only [gongref03_Number.l0]
    rw [if_pos (by omega), if_pos (by omega), bt_get s i h1]
    by_cases c1 : (((L s)[i]).toNat : Int) < 48
    · rw [if_pos c1, hbad (by unfold isD; rw [decide_eq_false_iff_not]; omega)]
    · rw [if_neg c1]
      by_cases c2 : (((L s)[i]).toNat : Int) > 57
      · rw [if_pos c2, hbad (by unfold isD; rw [decide_eq_false_iff_not]; omega)]
      · rw [if_neg c2]
        have hD : isD (L s)[i] = true := by unfold isD; rw [decide_eq_true_eq]; omega
        have ht : (L s).take (i + 1) = (L s).take i ++ [(L s)[i]] := List.take_succ_eq_append_getElem h1
        have hx := ih (i + 1) k (by omega) (by
          intro b hb
          rw [ht, List.mem_append, List.mem_singleton] at hb
          rcases hb with hb | hb
          · exact hd b hb
          · rw [hb]; exact hD) (by omega)
        rw [ht, val_snoc] at hx
        rw [show (10 : Nat) ^ 17 = 100000000000000000 from rfl] at hv
        rw [← hx]
        generalize val ((L s).take i) = V at hv ⊢
        generalize (L s)[i].toNat = u at c1 c2 hu ⊢
        rw [show ((u : Int) - 48) % 256 = (u : Int) - 48 from by omega, wrap_id (x := (V : Int) * 10) (by omega) (by omega), wrap_id (x := (V : Int) * 10 + ((u : Int) - 48)) (by omega) (by omega), wrap_id (x := (i : Int) + 1) (by omega) (by omega)]
        congr 1
        omega
theorem rnum_eq (s : ByteArray) (hl : (L s).length ≤ 17) (k : Nat) (hk : 20 ≤ k) : gongref03_Number.f k s = some (numL (L s)) := by
  unfold gongref03_Number.f
  have := rnum_loop s hl (L s).length 0 k (by omega) (by simp) (by omega)
  exact this
theorem rpart_loop (s : ByteArray) (r : List UInt8) (hL : L s = 46 :: r) (hr : r.length ≤ 1000) : ∀ (d j k : Nat), j + d = 9 → j ≤ r.length → (∀ b ∈ r.take j, isD b = true) → d < k →
    ∃ q, q = ((r.takeWhile isD).take 9).length ∧ gongref03_part.l0 k s ((j + 1 : Nat) : Int) ((val (r.take j) * 10 ^ (9 - j) : Nat) : Int) ((10 ^ (9 - j) / 10 : Nat) : Int) = some (((val (r.take q) * 10 ^ (9 - q) : Nat) : Int), Bs (r.drop q), decide (0 < q)) := by
  have hs := L_len s
  rw [hL, List.length_cons] at hs
  have stop : ∀ i, i ≤ 9 → i ≤ r.length → (∀ b ∈ r.take i, isD b = true) → (i = 9 ∨ ∀ b r', r.drop i = b :: r' → isD b = false) → i = ((r.takeWhile isD).take 9).length := by
    intro i h9 hi hd hs
    have e := List.take_append_drop i r
    have ht : (r.take i).length = i := by rw [List.length_take]; omega
    rcases hs with rfl | hs
    · have h1 : (r.take 9) <+: r.takeWhile isD := by
        have : r.takeWhile isD = r.take 9 ++ (r.drop 9).takeWhile isD := by
          conv => lhs; rw [← e]
          rw [List.takeWhile_append_of_pos (fun b hb => hd b hb)]
        rw [this]
        exact List.prefix_append _ _
      have h2 := h1.length_le
      rw [ht] at h2
      rw [List.length_take]
      omega
    · have : r.takeWhile isD = r.take i := by
        conv => lhs; rw [← e]
        exact tw_app _ _ hd hs
      rw [this, List.take_of_length_le (by omega), ht]
  have fin : ∀ j, j ≤ r.length → s.extract (((j + 1 : Nat) : Int) : Int).toNat s.size = Bs (r.drop j) := by
    intro j hj
    apply L_inj
    rw [Int.toNat_natCast, L_drop, hL, L_Bs, List.drop_succ_cons]
  have hpos : ∀ j : Nat, decide (((j + 1 : Nat) : Int) > 1) = decide (0 < j) := by
    intro j
    rw [decide_eq_decide]
    omega
  intro d
  induction d with
  | zero =>
    intro j k hi hj hd hk
    obtain ⟨k, rfl⟩ : ∃ m, k = m + 1 := ⟨k - 1, by omega⟩
    have : j = 9 := by omega
    subst this
    refine ⟨9, stop 9 (by omega) hj hd (.inl rfl), ?_⟩
    simp only [gongref03_part.l0]
    by_cases c : ((9 + 1 : Nat) : Int) < (s.size : Int)
    · rw [if_pos c, if_neg (by omega), if_pos (by omega), if_pos (by omega), fin 9 hj, hpos]
    · rw [if_neg c, if_pos (by omega), if_pos (by omega), fin 9 hj, hpos]
  | succ d ih =>
    intro j k hi hj hd hk
    obtain ⟨k, rfl⟩ : ∃ m, k = m + 1 := ⟨k - 1, by omega⟩
    simp only [gongref03_part.l0]
    by_cases c : ((j + 1 : Nat) : Int) < (s.size : Int)
    · have h1 : j < r.length := by omega
      have hg : bt s ((j + 1 : Nat) : Int) = ((r[j]'h1).toNat : Int) := by
        have h2 : j + 1 < (L s).length := by rw [hL, List.length_cons]; omega
        rw [bt_get s (j + 1) h2]
        congr 1
        have : (L s)[j + 1]'h2 = r[j]'h1 := by simp [hL]
        rw [this]
      have hu := r[j].toNat_lt
      rw [if_pos c, if_pos (by omega), if_pos (by omega), hg]
      by_cases c1 : ((r[j]).toNat : Int) ≥ 48
      · rw [if_pos c1]
        by_cases c2 : ((r[j]).toNat : Int) ≤ 57
        · rw [if_pos c2]
          have hD : isD r[j] = true := by unfold isD; rw [decide_eq_true_eq]; omega
          have ht : r.take (j + 1) = r.take j ++ [r[j]] := List.take_succ_eq_append_getElem h1
          obtain ⟨q, hq, hx⟩ := ih (j + 1) k (by omega) (by omega) (by
            intro b hb
            rw [ht, List.mem_append, List.mem_singleton] at hb
            rcases hb with hb | hb
            · exact hd b hb
            · rw [hb]; exact hD) (by omega)
          refine ⟨q, hq, ?_⟩
          rw [← hx, ht, val_snoc]
          have hv := val_lt hd
          have hv2 : val (r.take j) < 10 ^ j := Nat.lt_of_lt_of_le hv (Nat.pow_le_pow_right (by decide) (by rw [List.length_take]; omega))
          have hp : 10 ^ (9 - j) = 10 ^ (9 - (j + 1)) * 10 := by rw [← Nat.pow_succ]; congr 1; omega
          have hp2 : 10 ^ j * 10 ^ (9 - j) = 1000000000 := by rw [← Nat.pow_add, show j + (9 - j) = 9 from by omega]
          have hp3 : val (r.take j) * 10 ^ (9 - j) < 1000000000 := by rw [← hp2]; exact Nat.mul_lt_mul_of_pos_right hv2 (Nat.pow_pos (by decide))
          have hp4 : 10 ^ (9 - (j + 1)) ≤ 10 ^ 8 := Nat.pow_le_pow_right (by decide) (by omega)
          rw [hp, Nat.mul_div_cancel _ (by decide : 0 < 10)]
          rw [hp] at hp3
          generalize 10 ^ (9 - (j + 1)) = P at hp3 hp4 ⊢
          generalize val (r.take j) = V at hp3 ⊢
          generalize r[j].toNat = u at c1 c2 hu ⊢
          have m1 : (V * 10 + (u - 48)) * P = V * (P * 10) + (u - 48) * P := by rw [Nat.add_mul, Nat.mul_assoc, Nat.mul_comm 10 P]
          have m2 : (u - 48) * P ≤ 9 * 100000000 := Nat.mul_le_mul (by omega) hp4
          have m3 : (((u : Int) - 48) % 256) * (P : Int) = (((u - 48) * P : Nat) : Int) := by
            rw [show ((u : Int) - 48) % 256 = ((u - 48 : Nat) : Int) from by omega]
            rfl
          rw [m3, m1]
          generalize (u - 48) * P = W at m2 ⊢
          generalize hX : V * (P * 10) = X at hp3 ⊢
          rw [wrap_id (x := (W : Int)) (by omega) (by omega), wrap_id (x := (X : Int) + (W : Int)) (by omega) (by omega), tdiv_nn (by omega), wrap_id (x := (P : Int) / 10) (by omega) (by omega), wrap_id (x := ((j + 1 : Nat) : Int) + 1) (by omega) (by omega)]
          congr 1
        · rw [if_neg c2, if_pos (by omega), fin j hj, hpos]
          refine ⟨j, stop j (by omega) hj hd (.inr (fun b r' hbr => ?_)), rfl⟩
          rw [List.drop_eq_getElem_cons h1, List.cons.injEq] at hbr
          rw [← hbr.1]
          unfold isD
          rw [decide_eq_false_iff_not]
          omega
      · rw [if_neg c1, if_pos (by omega), fin j hj, hpos]
        refine ⟨j, stop j (by omega) hj hd (.inr (fun b r' hbr => ?_)), rfl⟩
        rw [List.drop_eq_getElem_cons h1, List.cons.injEq] at hbr
        rw [← hbr.1]
        unfold isD
        rw [decide_eq_false_iff_not]
        omega
    · rw [if_neg c, if_pos (by omega), if_pos (by omega), fin j hj, hpos]
      refine ⟨j, stop j (by omega) hj hd (.inr (fun b r' hbr => ?_)), rfl⟩
      rw [List.drop_eq_nil_of_le (by omega)] at hbr
      exact absurd hbr (by simp)
theorem rpart_eq (s : ByteArray) (hs : s.size ≤ 1000) (k : Nat) (hk : 20 ≤ k) :
    (∃ n r, partL (L s) = some (n, r) ∧ 0 ≤ n ∧ n < 1000000000 ∧ gongref03_part.f k s = some (n, Bs r, true)) ∨ (partL (L s) = none ∧ ∃ n r, 0 ≤ n ∧ n < 1000000000 ∧ gongref03_part.f k s = some (n, r, false)) := by
  have hl := L_len s
  obtain ⟨k, rfl⟩ : ∃ j, k = j + 1 := ⟨k - 1, by omega⟩
  unfold gongref03_part.f
  rw [toList_L]
  cases hL : L s with
  | nil =>
    left
    refine ⟨0, [], rfl, by decide, by decide, ?_⟩
    rw [if_pos rfl]
    simp only [gongref03_part.j0, if_true]
    congr 2
    congr 1
    exact L_inj (by rw [hL, L_Bs])
  | cons b r =>
    have hrl : r.length ≤ 999 := by rw [hL, List.length_cons] at hl; omega
    have hpos : 0 < s.size := by rw [← hl, hL]; simp
    have hg : bt s 0 = (b.toNat : Int) := by
      have h2 : 0 < (L s).length := by rw [hL]; simp
      have := bt_get s 0 h2
      rw [Int.natCast_zero] at this
      rw [this]
      simp [hL]
    rw [if_neg (by simp), if_pos (by omega), hg]
    by_cases c : b = 46
    · subst c
      rw [show ((((46 : UInt8).toNat : Nat) : Int) != 46) = false from by decide]
      simp only [gongref03_part.j0]
      rw [if_neg (by decide)]
      obtain ⟨j, hj, hf⟩ := rpart_loop s r hL (by omega) 9 0 k (by omega) (by omega) (by simp) (by omega)
      rw [show (((0 + 1 : Nat) : Int)) = 1 from rfl, show ((val (r.take 0) * 10 ^ (9 - 0) : Nat) : Int) = 0 from by simp [val], show ((10 ^ (9 - 0) / 10 : Nat) : Int) = 100000000 from by decide +kernel] at hf
      rw [hf]
      have hjl : j ≤ 9 := by rw [hj, List.length_take]; omega
      have ht : (r.takeWhile isD).take 9 = r.take j := by
        have hp : ((r.takeWhile isD).take 9) <+: r := (List.take_prefix _ _).trans (List.takeWhile_prefix _)
        rw [hj]
        exact List.prefix_iff_eq_take.1 hp
      have hdig : ∀ b ∈ r.take j, isD b = true := by
        intro b hb
        rw [← ht] at hb
        exact tw_mem (List.mem_of_mem_take hb)
      have hlt : (r.take j).length = j := by rw [← ht, ← hj]
      have hv : val (r.take j) * 10 ^ (9 - j) < 1000000000 := by
        have h1 := val_lt hdig
        rw [hlt] at h1
        have h3 : 10 ^ j * 10 ^ (9 - j) = 1000000000 := by rw [← Nat.pow_add, show j + (9 - j) = 9 from by omega]
        rw [← h3]
        exact Nat.mul_lt_mul_of_pos_right h1 (Nat.pow_pos (by decide))
      rw [partL, if_pos rfl, ht]
      by_cases c2 : j = 0
      · right
        subst c2
        exact ⟨by rw [List.take_zero, if_pos rfl], _, _, by omega, by omega, rfl⟩
      · left
        rw [if_neg (fun e => by rw [e] at hlt; simp at hlt; omega), hlt]
        refine ⟨_, _, rfl, by omega, by omega, ?_⟩
        rw [decide_eq_true (by omega)]
    · left
      rw [show (((b.toNat : Nat) : Int) != 46) = true from by
        rw [bne_iff_ne]
        intro h
        exact c (UInt8.toNat_inj.1 (by have e : (46 : UInt8).toNat = 46 := rfl; omega))]
      simp only [gongref03_part.j0, if_true]
      rw [partL, if_neg c]
      refine ⟨0, b :: r, rfl, by decide, by decide, ?_⟩
      congr 2
      congr 1
      exact L_inj (by rw [hL, L_Bs])
theorem numL_two (a b : UInt8) : numL [a, b] = if isD a = true ∧ isD b = true then ((val [a, b] : Nat) : Int) else -1 := by
  unfold numL
  simp
theorem rzone_eq (s : ByteArray) (k : Nat) (hk : 30 ≤ k) :
    (∃ z, zoneL (L s) = some z ∧ gongref03_zone.f k s = some (z, true)) ∨ (zoneL (L s) = none ∧ ∃ z, gongref03_zone.f k s = some (z, false)) := by
  have hl := L_len s
  obtain ⟨k, rfl⟩ : ∃ j, k = j + 2 := ⟨k - 2, by omega⟩
  have bad : gongref03_zone.j0 (k + 2) s true = some (0, false) := by simp only [gongref03_zone.j0, if_true]
  unfold gongref03_zone.f
  rw [toList_L]
  by_cases c0 : L s = [90]
  · rw [if_pos c0, c0]
    exact .inl ⟨0, rfl, rfl⟩
  · rw [if_neg c0]
    by_cases c1 : (s.size : Int) = 6
    · rw [if_pos c1, if_pos (by omega)]
      obtain ⟨s0, h0, h1, p, i0, i1, hL⟩ : ∃ s0 h0 h1 p i0 i1, L s = [s0, h0, h1, p, i0, i1] := by
        have h6 : (L s).length = 6 := by omega
        obtain ⟨a0, l0, e0, g0⟩ := unc (l := L s) (n := 5) (by omega)
        rw [e0, List.length_cons] at h6
        obtain ⟨a1, l1, rfl, g1⟩ := unc (l := l0) (n := 4) (by omega)
        rw [List.length_cons] at h6
        obtain ⟨a2, l2, rfl, g2⟩ := unc (l := l1) (n := 3) (by omega)
        rw [List.length_cons] at h6
        obtain ⟨a3, l3, rfl, g3⟩ := unc (l := l2) (n := 2) (by omega)
        rw [List.length_cons] at h6
        obtain ⟨a4, l4, rfl, g4⟩ := unc (l := l3) (n := 1) (by omega)
        rw [List.length_cons] at h6
        obtain ⟨a5, l5, rfl, g5⟩ := unc (l := l4) (n := 0) (by omega)
        rw [List.length_cons] at h6
        have : l5 = [] := List.eq_nil_of_length_eq_zero (by omega)
        subst this
        exact ⟨_, _, _, _, _, _, e0⟩
      have b0 : bt s 0 = (s0.toNat : Int) := by
        have h2 : 0 < (L s).length := by rw [hL]; simp
        have := bt_get s 0 h2
        rw [Int.natCast_zero] at this
        rw [this]
        simp [hL]
      have b3 : bt s 3 = (p.toNat : Int) := by
        have h2 : 3 < (L s).length := by rw [hL]; simp
        have := bt_get s 3 h2
        rw [show ((3 : Nat) : Int) = 3 from rfl] at this
        rw [this]
        simp [hL]
      have e1 : L (s.extract 1 3) = [h0, h1] := by rw [L_extract, hL]; rfl
      have e2 : L (s.extract 4 6) = [i0, i1] := by rw [L_extract, hL]; rfl
      have n1 := rnum_eq (s.extract 1 3) (by rw [e1]; show 2 ≤ 17; decide) (k + 1) (by omega)
      have n2 := rnum_eq (s.extract 4 6) (by rw [e2]; show 2 ≤ 17; decide) (k + 1) (by omega)
      rw [e1, numL_two] at n1
      rw [e2, numL_two] at n2
      have o1 : (s0.toNat : Int) = 43 ↔ s0 = 43 := ⟨fun h => UInt8.toNat_inj.1 (by have e : (43 : UInt8).toNat = 43 := rfl; omega), fun h => by rw [h]; rfl⟩
      have o2 : (s0.toNat : Int) = 45 ↔ s0 = 45 := ⟨fun h => UInt8.toNat_inj.1 (by have e : (45 : UInt8).toNat = 45 := rfl; omega), fun h => by rw [h]; rfl⟩
      have o3 : (p.toNat : Int) = 58 ↔ p = 58 := ⟨fun h => UInt8.toNat_inj.1 (by have e : (58 : UInt8).toNat = 58 := rfl; omega), fun h => by rw [h]; rfl⟩
      have main : (s0 = 43 ∨ s0 = 45) → (∃ z, zoneL (L s) = some z ∧ gongref03_zone.j0 (k + 2) s ((bt s 3) != 58) = some (z, true)) ∨ (zoneL (L s) = none ∧ ∃ z, gongref03_zone.j0 (k + 2) s ((bt s 3) != 58) = some (z, false)) := by
        intro hsign
        rw [hL, zoneL_six, b3]
        by_cases cp : p = 58
        · rw [show ((p.toNat : Int) != 58) = false from by rw [bne_eq_false_iff_eq]; exact o3.2 cp]
          simp only [gongref03_zone.j0]
          rw [if_neg (show ¬ (false = true) by decide), if_pos (show (1 : Nat) ≤ 3 by decide), if_pos (show 3 ≤ (s.size : Int) by omega), n1, Option.bind_some, if_pos (show (4 : Nat) ≤ 6 by decide), if_pos (show 6 ≤ (s.size : Int) by omega), n2, Option.bind_some]
          have b1 : gongref03_zone.j1 (k + 1) s (if isD h0 = true ∧ isD h1 = true then ((val [h0, h1] : Nat) : Int) else -1) (if isD i0 = true ∧ isD i1 = true then ((val [i0, i1] : Nat) : Int) else -1) true = some (0, false) := by simp only [gongref03_zone.j1, if_true]
          rw [b1]
          by_cases q : isD h0 = true ∧ isD h1 = true
          · by_cases q2 : isD i0 = true ∧ isD i1 = true
            · rw [if_pos q, if_pos q2]
              obtain ⟨_, a1, a2⟩ := digs_two q.1 q.2
              obtain ⟨_, a3, a4⟩ := digs_two q2.1 q2.2
              generalize val [h0, h1] = H at a1 a2 ⊢
              generalize val [i0, i1] = I at a3 a4 ⊢
              rw [if_neg (show ¬ ((H : Int) < 0) by omega)]
              by_cases d1 : (H : Int) > 23
              · rw [if_pos d1, if_neg (show ¬ ((s0 = 43 ∨ s0 = 45) ∧ isD h0 = true ∧ isD h1 = true ∧ p = 58 ∧ isD i0 = true ∧ isD i1 = true ∧ H < 24 ∧ I < 60) from fun h => by have := h.2.2.2.2.2.2.1; omega)]
                exact .inr ⟨rfl, _, rfl⟩
              · rw [if_neg d1, if_neg (show ¬ ((I : Int) < 0) by omega)]
                by_cases d2 : (I : Int) > 59
                · rw [decide_eq_true d2, if_neg (show ¬ ((s0 = 43 ∨ s0 = 45) ∧ isD h0 = true ∧ isD h1 = true ∧ p = 58 ∧ isD i0 = true ∧ isD i1 = true ∧ H < 24 ∧ I < 60) from fun h => by have := h.2.2.2.2.2.2.2; omega)]
                  simp only [gongref03_zone.j1, if_true]
                  exact .inr ⟨trivial, _, rfl⟩
                · rw [decide_eq_false d2, if_pos (show ((s0 = 43 ∨ s0 = 45) ∧ isD h0 = true ∧ isD h1 = true ∧ p = 58 ∧ isD i0 = true ∧ isD i1 = true ∧ H < 24 ∧ I < 60) from ⟨hsign, q.1, q.2, cp, q2.1, q2.2, by omega, by omega⟩)]
                  simp only [gongref03_zone.j1]
                  rw [if_neg (show ¬ (false = true) by decide), if_pos (show 0 < (s.size : Int) by omega), b0]
                  left
                  by_cases d3 : s0 = 45
                  · rw [if_pos d3, if_pos (o2.2 d3), wrap_id (x := -60 * (H : Int)) (by omega) (by omega), wrap_id (by omega) (by omega)]
                    refine ⟨_, rfl, ?_⟩
                    congr 2
                    omega
                  · rw [if_neg d3, if_neg (fun h => d3 (o2.1 h)), wrap_id (x := 60 * (H : Int)) (by omega) (by omega), wrap_id (by omega) (by omega)]
                    refine ⟨_, rfl, ?_⟩
                    congr 2
                    omega
            · rw [if_pos q, if_neg q2, if_neg (show ¬ ((s0 = 43 ∨ s0 = 45) ∧ isD h0 = true ∧ isD h1 = true ∧ p = 58 ∧ isD i0 = true ∧ isD i1 = true ∧ val [h0, h1] < 24 ∧ val [i0, i1] < 60) from fun h => q2 ⟨h.2.2.2.2.1, h.2.2.2.2.2.1⟩)]
              have a1 := (digs_two q.1 q.2).2.1
              right
              refine ⟨rfl, 0, ?_⟩
              rw [if_neg (by omega)]
              split
              · rfl
              · rw [if_pos (by decide)]
          · rw [if_neg q, if_neg (show ¬ ((s0 = 43 ∨ s0 = 45) ∧ isD h0 = true ∧ isD h1 = true ∧ p = 58 ∧ isD i0 = true ∧ isD i1 = true ∧ val [h0, h1] < 24 ∧ val [i0, i1] < 60) from fun h => q ⟨h.2.1, h.2.2.1⟩), if_pos (show (-1 : Int) < 0 by decide)]
            exact .inr ⟨rfl, _, rfl⟩
        · rw [show ((p.toNat : Int) != 58) = true from by rw [bne_iff_ne]; exact fun h => cp (o3.1 h), bad, if_neg (fun h => cp h.2.2.2.1)]
          exact .inr ⟨rfl, _, rfl⟩
      rw [b0]
      by_cases d1 : s0 = 43
      · rw [if_pos (o1.2 d1), if_pos (by omega)]
        exact main (.inl d1)
      · rw [if_neg (fun h => d1 (o1.1 h))]
        by_cases d2 : s0 = 45
        · rw [if_pos (o2.2 d2), if_pos (by omega)]
          exact main (.inr d2)
        · rw [if_neg (fun h => d2 (o2.1 h)), bad, hL, zoneL_six, if_neg (fun h => h.1.elim d1 d2)]
          exact .inr ⟨rfl, _, rfl⟩
    · rw [if_neg c1, bad]
      right
      refine ⟨?_, _, rfl⟩
      unfold zoneL
      split
      · rename_i e; exact absurd e c0
      · rename_i e
        have := congrArg List.length e
        simp only [List.length_cons, List.length_nil] at this
        omega
      · rfl
end Go.Proofs.YtjcenencgnfffaaDoor.StpS
