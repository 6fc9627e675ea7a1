/- Days and dates; stamps as texts, there and back, and in the order of times: plain lists and numbers. -/
import Derived.Test.YtjcenencgnfffaaDoorDecLib
namespace Go.Proofs.YtjcenencgnfffaaDoor.DecS
open Go
set_option linter.unusedVariables false
set_option linter.unusedSimpArgs false
/-- 1 in a leap year. -/
def leapI (y : Int) : Int := if y % 4 = 0 ∧ (¬ y % 100 = 0 ∨ y % 400 = 0) then 1 else 0
/-- Days from the beginning of 1970 to that of a year. -/
def sinceI (y : Int) : Int := (y - 1) * 365 + (y - 1) / 4 - (y - 1) / 100 + (y - 1) / 400 - 719162
/-- Days of a year ahead of a month, if it is no leap year. -/
def cumI (m : Int) : Int := if m ≤ 1 then 0 else if m = 2 then 31 else if m = 3 then 59 else if m = 4 then 90 else if m = 5 then 120 else if m = 6 then 151 else if m = 7 then 181 else if m = 8 then 212 else if m = 9 then 243 else if m = 10 then 273 else if m = 11 then 304 else if m = 12 then 334 else 365
def beforeI (y m : Int) : Int := cumI m + (if 2 < m then leapI y else 0)
/-- Days of a month. -/
def daysI (y m : Int) : Int := if m = 2 then 28 + leapI y else if m = 4 ∨ m = 6 ∨ m = 9 ∨ m = 11 then 30 else 31
theorem leap_01 (y : Int) : 0 ≤ leapI y ∧ leapI y ≤ 1 := by unfold leapI; split <;> omega
theorem since_succ (y : Int) : sinceI (y + 1) = sinceI y + 365 + leapI y := by
  unfold sinceI leapI
  split <;> omega
theorem before_succ (y m : Int) (h1 : 1 ≤ m) (h2 : m ≤ 12) : beforeI y (m + 1) = beforeI y m + daysI y m := by
  have : m = 1 ∨ m = 2 ∨ m = 3 ∨ m = 4 ∨ m = 5 ∨ m = 6 ∨ m = 7 ∨ m = 8 ∨ m = 9 ∨ m = 10 ∨ m = 11 ∨ m = 12 := by omega
  rcases this with rfl | rfl | rfl | rfl | rfl | rfl | rfl | rfl | rfl | rfl | rfl | rfl <;> (simp [beforeI, cumI, daysI]; try omega)
theorem days_pos (y m : Int) : 28 ≤ daysI y m ∧ daysI y m ≤ 31 := by
  have := leap_01 y
  unfold daysI
  split
  · omega
  · split <;> omega
theorem before_one (y : Int) : beforeI y 1 = 0 := by simp [beforeI, cumI]
theorem before_13 (y : Int) : beforeI y 13 = 365 + leapI y := by simp [beforeI, cumI]
theorem before_mono (y : Int) : ∀ (d : Nat) (m : Int), 1 ≤ m → m + d ≤ 13 → beforeI y m + 28 * d ≤ beforeI y (m + d)
  | 0, m, _, _ => by simp
  | d + 1, m, h1, h2 => by
    have ih := before_mono y d m h1 (by omega)
    have e := before_succ y (m + d) (by omega) (by omega)
    have h := days_pos y (m + d)
    rw [show m + ((d + 1 : Nat) : Int) = m + d + 1 by omega, e]
    omega
theorem since_mono : ∀ (d : Nat) (y : Int), sinceI y + 365 * d ≤ sinceI (y + d) ∧ sinceI (y + d) ≤ sinceI y + 366 * d
  | 0, y => by simp
  | d + 1, y => by
    have ih := since_mono d y
    have e := since_succ (y + d)
    have h := leap_01 (y + d)
    rw [show y + ((d + 1 : Nat) : Int) = y + d + 1 by omega, e]
    omega
theorem since_lt {y z : Int} (h : y < z) : sinceI y + 365 ≤ sinceI z := by
  have h1 := since_mono (z - y).toNat y
  rw [show y + ((z - y).toNat : Int) = z by omega] at h1
  omega
theorem before_le (x : Int) {m n : Int} (h1 : 1 ≤ m) (h : m < n) (h2 : n ≤ 13) : beforeI x m + 28 ≤ beforeI x n := by
  have h3 := before_mono x (n - m).toNat m h1 (by omega)
  rw [show m + ((n - m).toNat : Int) = n by omega] at h3
  omega
/-- A date. -/
structure IsDate (d y m k : Int) : Prop where
  m1 : 1 ≤ m
  m12 : m ≤ 12
  k1 : 1 ≤ k
  k2 : k ≤ daysI y m
  e : sinceI y + beforeI y m + k - 1 = d
theorem IsDate.year {d y m k : Int} (h : IsDate d y m k) : sinceI y ≤ d ∧ d < sinceI (y + 1) := by
  obtain ⟨m1, m12, k1, k2, e⟩ := h
  have h1 := before_succ y m m1 m12
  have h2 := since_succ y
  have h3 := before_13 y
  have h4 : 0 ≤ beforeI y m := by
    by_cases c : m = 1
    · rw [c, before_one]; omega
    · have := before_le y (m := 1) (n := m) (by omega) (by omega) (by omega)
      rw [before_one] at this
      omega
  have h5 : beforeI y (m + 1) ≤ beforeI y 13 := by
    by_cases c : m = 12
    · rw [c]; exact Int.le_refl _
    · have := before_le y (m := m + 1) (n := 13) (by omega) (by omega) (by omega)
      omega
  omega
/-- One day has one date; a later day a later date. -/
theorem IsDate.lt {d y m k d' y' m' k' : Int} (h : IsDate d y m k) (h' : IsDate d' y' m' k') (hd : d < d') : y < y' ∨ (y = y' ∧ (m < m' ∨ (m = m' ∧ k < k'))) := by
  have a := h.year
  have b := h'.year
  by_cases c : y < y'
  · exact .inl c
  · right
    have c2 : ¬ y' < y := fun hh => by
      have := since_lt (y := y' + 1) (z := y + 1) (by omega)
      by_cases c3 : y' + 1 = y
      · rw [c3] at b; omega
      · have := since_lt (y := y' + 1) (z := y) (by omega)
        omega
    have c3 : y = y' := by omega
    subst c3
    refine ⟨rfl, ?_⟩
    have e1 := h.e
    have e2 := h'.e
    by_cases cm : m < m'
    · exact .inl cm
    · right
      by_cases cm2 : m' < m
      · exfalso
        have h1 := before_succ y m' h'.m1 h'.m12
        have hm1 := h.m1
        have hm2 := h'.m1
        have hm3 := h.m12
        have hk := h'.k2
        have hk1 := h.k1
        by_cases c4 : m' + 1 = m
        · rw [c4] at h1; omega
        · have := before_le y (m := m' + 1) (n := m) (by omega) (by omega) (by omega)
          omega
      · have c5 : m = m' := by omega
        subst c5
        exact ⟨rfl, by omega⟩
theorem IsDate.same {d y m k y' m' k' : Int} (h : IsDate d y m k) (h' : IsDate d y' m' k') : y = y' ∧ m = m' ∧ k = k' := by
  have h1 : IsDate (d + 1) y m (k + 1) → True := fun _ => trivial
  have a := h.year
  have b := h'.year
  have cy : y = y' := by
    by_cases c : y < y'
    · by_cases c3 : y + 1 = y'
      · rw [c3] at a; omega
      · have := since_lt (y := y + 1) (z := y') (by omega)
        omega
    · by_cases c2 : y' < y
      · by_cases c3 : y' + 1 = y
        · rw [c3] at b; omega
        · have := since_lt (y := y' + 1) (z := y) (by omega)
          omega
      · omega
  subst cy
  have e1 := h.e
  have e2 := h'.e
  have hm1 := h.m1
  have hm1' := h'.m1
  have hm3 := h.m12
  have hm3' := h'.m12
  have hk := h.k2
  have hk' := h'.k2
  have hk1 := h.k1
  have hk1' := h'.k1
  have s1 := before_succ y m hm1 hm3
  have s2 := before_succ y m' hm1' hm3'
  have cm : m = m' := by
    by_cases c : m < m'
    · by_cases c4 : m + 1 = m'
      · rw [c4] at s1; omega
      · have := before_le y (m := m + 1) (n := m') (by omega) (by omega) (by omega)
        omega
    · by_cases c2 : m' < m
      · by_cases c4 : m' + 1 = m
        · rw [c4] at s2; omega
        · have := before_le y (m := m' + 1) (n := m) (by omega) (by omega) (by omega)
          omega
      · omega
  subst cm
  exact ⟨rfl, rfl, by omega⟩
/-- There is one. -/
theorem date_ex (d y : Int) (h1 : sinceI y ≤ d) (h2 : d < sinceI (y + 1)) : ∃ m k, IsDate d y m k := by
  have hs := since_succ y
  have key : ∀ (n : Nat) (m : Int), m + n = 13 → 1 ≤ m → beforeI y m ≤ d - sinceI y → ∃ m k, IsDate d y m k := by
    intro n
    induction n with
    | zero =>
      intro m hm _ hb
      have : m = 13 := by omega
      subst this
      rw [before_13] at hb
      omega
    | succ n ih =>
      intro m hm hm1 hb
      have e := before_succ y m hm1 (by omega)
      by_cases c : beforeI y (m + 1) ≤ d - sinceI y
      · exact ih (m + 1) (by omega) (by omega) c
      · exact ⟨m, d - sinceI y - beforeI y m + 1, hm1, by omega, by omega, by omega, by omega⟩
  exact key 12 1 (by omega) (by omega) (by rw [before_one]; omega)
/-- So many digits of a number, the last ones. -/
def digsN (n : Nat) : Nat → List UInt8
  | 0 => []
  | k + 1 => digsN (n / 10) k ++ [UInt8.ofNat (48 + n % 10)]
theorem digsN_len : ∀ (k n : Nat), (digsN n k).length = k
  | 0, n => rfl
  | k + 1, n => by rw [digsN, List.length_append, digsN_len k]; rfl
theorem digsN_dig : ∀ (k n : Nat), ∀ b ∈ digsN n k, isD b = true
  | 0, n, b, h => by simp [digsN] at h
  | k + 1, n, b, h => by
    rw [digsN, List.mem_append, List.mem_singleton] at h
    rcases h with h | h
    · exact digsN_dig k _ b h
    · rw [h]; exact isD_byte _ (by omega)
theorem digsN_val : ∀ (k n : Nat), val (digsN n k) = n % 10 ^ k
  | 0, n => by simp [digsN, val, Nat.mod_one]
  | k + 1, n => by
    rw [digsN, val_snoc, digsN_val k, digit_byte _ (by omega), Nat.pow_succ, Nat.mul_comm (10 ^ k) 10, Nat.mod_mul]
    omega
theorem digsN_add : ∀ (j i n : Nat), digsN (n / 10 ^ j) i ++ digsN n j = digsN n (i + j)
  | 0, i, n => by simp [digsN]
  | j + 1, i, n => by
    have ih := digsN_add j i (n / 10)
    rw [digsN, show i + (j + 1) = (i + j) + 1 from rfl, digsN, ← ih, List.append_assoc, Nat.div_div_eq_div_mul, Nat.pow_succ, Nat.mul_comm 10]
theorem digsN_mod : ∀ (j n : Nat), digsN (n % 10 ^ j) j = digsN n j
  | 0, n => rfl
  | j + 1, n => by
    rw [digsN, digsN, ← digsN_mod j (n / 10)]
    have e1 : n % 10 ^ (j + 1) / 10 = n / 10 % 10 ^ j := by
      rw [Nat.pow_succ, Nat.mul_comm, Nat.mod_mul_right_div_self]
    have e2 : n % 10 ^ (j + 1) % 10 = n % 10 := by
      rw [Nat.pow_succ, Nat.mul_comm]
      exact Nat.mod_mul_right_mod n 10 (10 ^ j)
    rw [e1, e2]
theorem val_app0 (l : List UInt8) : ∀ j, val (l ++ List.replicate j 48) = val l * 10 ^ j
  | 0 => by simp
  | j + 1 => by
    rw [List.replicate_succ', ← List.append_assoc, val_snoc, val_app0 l j, Nat.pow_succ, Nat.mul_assoc]
    rfl
/-- Noughts at the end taken off. -/
def trimZ (l : List UInt8) : List UInt8 := (l.reverse.dropWhile (fun b => b == 48)).reverse
theorem trimZ_snoc0 (l : List UInt8) : trimZ (l ++ [48]) = trimZ l := by simp [trimZ]
theorem trimZ_snoc (l : List UInt8) (b : UInt8) (h : ¬ b = 48) : trimZ (l ++ [b]) = l ++ [b] := by simp [trimZ, h]
theorem trimZ_back (l : List UInt8) : ∃ j, l = trimZ l ++ List.replicate j 48 ∧ (trimZ l).length + j = l.length := by
  have : ∀ r : List UInt8, ∃ j, r = List.replicate j 48 ++ r.dropWhile (fun b => b == 48) := by
    intro r
    induction r with
    | nil => exact ⟨0, rfl⟩
    | cons b r ih =>
      by_cases c : b = 48
      · obtain ⟨j, hj⟩ := ih
        refine ⟨j + 1, ?_⟩
        subst c
        simp only [List.dropWhile_cons, beq_self_eq_true, if_true, List.replicate_succ, List.cons_append]
        rw [← hj]
      · exact ⟨0, by simp [c]⟩
  obtain ⟨j, hj⟩ := this l.reverse
  have h2 : l = trimZ l ++ List.replicate j 48 := by
    have := congrArg List.reverse hj
    rw [List.reverse_reverse, List.reverse_append, List.reverse_replicate] at this
    exact this
  exact ⟨j, h2, by have := congrArg List.length h2; rw [List.length_append, List.length_replicate] at this; omega⟩
theorem trimZ_dig {l : List UInt8} (h : ∀ b ∈ l, isD b = true) : ∀ b ∈ trimZ l, isD b = true := by
  obtain ⟨j, h1, _⟩ := trimZ_back l
  intro b hb
  exact h b (by rw [h1]; exact List.mem_append_left _ hb)
theorem trimZ_val (l : List UInt8) : val (trimZ l) * 10 ^ (l.length - (trimZ l).length) = val l := by
  obtain ⟨j, h1, h2⟩ := trimZ_back l
  rw [show l.length - (trimZ l).length = j from by omega, ← val_app0, ← h1]
/-- The part of a second: 0 tells none. -/
def fracL (n : Nat) : List UInt8 := if n = 0 then [] else 46 :: trimZ (digsN n 9)
/-- A stamp's first nineteen bytes. -/
def showL (y m k h i c : Nat) : List UInt8 := digsN y 4 ++ 45 :: (digsN m 2 ++ 45 :: (digsN k 2 ++ 84 :: (digsN h 2 ++ 58 :: (digsN i 2 ++ 58 :: digsN c 2))))
/-- What stands behind the point, and behind that. -/
def partL : List UInt8 → Option (Int × List UInt8)
  | [] => some (0, [])
  | b :: r => if b = 46 then (if (r.takeWhile isD).take 9 = [] then none else some (((val ((r.takeWhile isD).take 9) * 10 ^ (9 - ((r.takeWhile isD).take 9).length) : Nat) : Int), r.drop ((r.takeWhile isD).take 9).length)) else some (0, b :: r)
/-- Which minutes a clock goes ahead by. -/
def zoneL : List UInt8 → Option Int
  | [90] => some 0
  | [s, h0, h1, p, i0, i1] => if (s = 43 ∨ s = 45) ∧ isD h0 = true ∧ isD h1 = true ∧ p = 58 ∧ isD i0 = true ∧ isD i1 = true ∧ val [h0, h1] < 24 ∧ val [i0, i1] < 60 then some (if s = 45 then -((val [h0, h1] * 60 + val [i0, i1] : Nat) : Int) else ((val [h0, h1] * 60 + val [i0, i1] : Nat) : Int)) else none
  | _ => none
/-- The second of a date and a clock, and what stands behind. -/
def timeOf (y m k h i c : Int) (r : List UInt8) : Option Int :=
  if y ≤ 2100 ∧ 1 ≤ m ∧ m ≤ 12 ∧ 1 ≤ k ∧ k ≤ daysI y m ∧ h < 24 ∧ i < 60 ∧ c < 60 then
    (match partL r with
      | none => none
      | some (n, r2) => match zoneL r2 with
        | none => none
        | some z => if 0 ≤ (sinceI y + beforeI y m + k - 1) * 86400 + h * 3600 + i * 60 + c - z * 60 ∧ ((sinceI y + beforeI y m + k - 1) * 86400 + h * 3600 + i * 60 + c - z * 60) * 1000000000 + n ≤ 2305843009213693952 then some (((sinceI y + beforeI y m + k - 1) * 86400 + h * 3600 + i * 60 + c - z * 60) * 1000000000 + n) else none)
  else none
/-- The time of a stamp. -/
def stampL : List UInt8 → Option Int
  | y0 :: y1 :: y2 :: y3 :: p1 :: m0 :: m1 :: p2 :: k0 :: k1 :: p3 :: h0 :: h1 :: p4 :: i0 :: i1 :: p5 :: c0 :: c1 :: r =>
    if [y0, y1, y2, y3, m0, m1, k0, k1, h0, h1, i0, i1, c0, c1].all isD = true ∧ p1 = 45 ∧ p2 = 45 ∧ p3 = 84 ∧ p4 = 58 ∧ p5 = 58 then timeOf (val [y0, y1, y2, y3] : Nat) (val [m0, m1] : Nat) (val [k0, k1] : Nat) (val [h0, h1] : Nat) (val [i0, i1] : Nat) (val [c0, c1] : Nat) r else none
  | _ => none
theorem digs2 (n : Nat) : ∃ a b, digsN n 2 = [a, b] ∧ isD a = true ∧ isD b = true ∧ val [a, b] = n % 100 := by
  have h1 := digsN_dig 2 n
  have h2 := digsN_val 2 n
  refine ⟨UInt8.ofNat (48 + n / 10 % 10), UInt8.ofNat (48 + n % 10), rfl, h1 _ (by simp [digsN]), h1 _ (by simp [digsN]), h2⟩
theorem digs4 (n : Nat) : ∃ a b c d, digsN n 4 = [a, b, c, d] ∧ isD a = true ∧ isD b = true ∧ isD c = true ∧ isD d = true ∧ val [a, b, c, d] = n % 10000 := by
  have h1 := digsN_dig 4 n
  have h2 := digsN_val 4 n
  exact ⟨_, _, _, _, rfl, h1 _ (by simp [digsN]), h1 _ (by simp [digsN]), h1 _ (by simp [digsN]), h1 _ (by simp [digsN]), h2⟩
theorem showL_stamp (y m k h i c : Nat) (hy : y < 10000) (hm : m < 100) (hk : k < 100) (hh : h < 100) (hi : i < 100) (hc : c < 100) (r : List UInt8) : stampL (showL y m k h i c ++ r) = timeOf y m k h i c r := by
  obtain ⟨y0, y1, y2, y3, ey, q1, q2, q3, q4, vy⟩ := digs4 y
  obtain ⟨m0, m1, em, q5, q6, vm⟩ := digs2 m
  obtain ⟨k0, k1, ek, q7, q8, vk⟩ := digs2 k
  obtain ⟨h0, h1, eh, q9, qa, vh⟩ := digs2 h
  obtain ⟨i0, i1, ei, qb, qc, vi⟩ := digs2 i
  obtain ⟨c0, c1, ec, qd, qe, vc⟩ := digs2 c
  have e : showL y m k h i c ++ r = y0 :: y1 :: y2 :: y3 :: 45 :: m0 :: m1 :: 45 :: k0 :: k1 :: 84 :: h0 :: h1 :: 58 :: i0 :: i1 :: 58 :: c0 :: c1 :: r := by
    unfold showL
    rw [ey, em, ek, eh, ei, ec]
    rfl
  rw [e, stampL, if_pos ⟨by simp [*], rfl, rfl, rfl, rfl, rfl⟩, vy, vm, vk, vh, vi, vc, Nat.mod_eq_of_lt hy, Nat.mod_eq_of_lt hm, Nat.mod_eq_of_lt hk, Nat.mod_eq_of_lt hh, Nat.mod_eq_of_lt hi, Nat.mod_eq_of_lt hc]
theorem showL_len (y m k h i c : Nat) : (showL y m k h i c).length = 19 := by simp [showL, digsN_len]
/-- Digits with others behind them, that begin with none. -/
theorem tw_app : ∀ (ds z : List UInt8), (∀ b ∈ ds, isD b = true) → (∀ b r, z = b :: r → isD b = false) → (ds ++ z).takeWhile isD = ds
  | [], [], _, _ => rfl
  | [], b :: r, _, hz => by simp [hz b r rfl]
  | d :: ds, z, hd, hz => by
    rw [List.cons_append, List.takeWhile_cons, if_pos (hd d (by simp)), tw_app ds z (fun b hb => hd b (by simp [hb])) hz]
theorem fracL_len (n : Nat) : (fracL n).length ≤ 10 := by
  unfold fracL
  split
  · simp
  · obtain ⟨j, _, hj⟩ := trimZ_back (digsN n 9)
    rw [digsN_len] at hj
    rw [List.length_cons]
    omega
theorem partL_digs (ds z : List UInt8) (hd : ∀ b ∈ ds, isD b = true) (hn : ds ≠ []) (hl : ds.length ≤ 9) (hz : ∀ b r, z = b :: r → isD b = false) : partL (46 :: (ds ++ z)) = some (((val ds * 10 ^ (9 - ds.length) : Nat) : Int), z) := by
  rw [partL, if_pos rfl, tw_app ds z hd hz, List.take_of_length_le hl, if_neg hn, List.drop_left]
theorem partL_none (z : List UInt8) (hz : ∀ b r, z = b :: r → ¬ b = 46) : partL z = some (0, z) := by
  cases z with
  | nil => rfl
  | cons b r => rw [partL, if_neg (hz b r rfl)]
theorem partL_frac (n : Nat) (h : n < 1000000000) (z : List UInt8) (hz : ∀ b r, z = b :: r → isD b = false ∧ ¬ b = 46) : partL (fracL n ++ z) = some ((n : Int), z) := by
  unfold fracL
  by_cases c : n = 0
  · rw [if_pos c, c]
    exact partL_none z (fun b r e => (hz b r e).2)
  · rw [if_neg c]
    have hl : (digsN n 9).length = 9 := digsN_len 9 n
    obtain ⟨j, h1, h2⟩ := trimZ_back (digsN n 9)
    have hv := trimZ_val (digsN n 9)
    rw [digsN_val, Nat.mod_eq_of_lt h, hl] at hv
    have hne : trimZ (digsN n 9) ≠ [] := fun e => by
      rw [e] at hv
      simp [val] at hv
      omega
    rw [List.cons_append, partL_digs _ z (trimZ_dig (digsN_dig 9 n)) hne (by omega) (fun b r e => (hz b r e).1), hv]
theorem zoneL_six (s h0 h1 p i0 i1 : UInt8) : zoneL [s, h0, h1, p, i0, i1] = if (s = 43 ∨ s = 45) ∧ isD h0 = true ∧ isD h1 = true ∧ p = 58 ∧ isD i0 = true ∧ isD i1 = true ∧ val [h0, h1] < 24 ∧ val [i0, i1] < 60 then some (if s = 45 then -((val [h0, h1] * 60 + val [i0, i1] : Nat) : Int) else ((val [h0, h1] * 60 + val [i0, i1] : Nat) : Int)) else none := by
  unfold zoneL
  split
  · rename_i e; simp at e
  · rename_i e
    simp only [List.cons.injEq, and_true] at e
    obtain ⟨rfl, rfl, rfl, rfl, rfl, rfl⟩ := e
    rfl
  · rename_i h
    exact absurd rfl (h s h0 h1 p i0 i1)
/-- How a clock goes ahead, as a text. -/
def zoneT (z : Int) : List UInt8 := (if z < 0 then 45 else 43) :: (digsN (z.natAbs / 60) 2 ++ 58 :: digsN (z.natAbs % 60) 2)
theorem zoneT_head (z : Int) : ∀ b r, zoneT z = b :: r → isD b = false ∧ ¬ b = 46 := by
  intro b r e
  unfold zoneT at e
  rw [List.cons.injEq] at e
  rw [← e.1]
  split <;> decide
theorem zoneT_back (z : Int) (h : z.natAbs < 1440) : zoneL (zoneT z) = some z := by
  obtain ⟨h0, h1, eh, q1, q2, vh⟩ := digs2 (z.natAbs / 60)
  obtain ⟨i0, i1, ei, q3, q4, vi⟩ := digs2 (z.natAbs % 60)
  unfold zoneT
  rw [eh, ei]
  simp only [List.cons_append, List.nil_append]
  rw [zoneL_six]
  rw [vh, vi, Nat.mod_eq_of_lt (show z.natAbs / 60 < 100 by omega), Nat.mod_eq_of_lt (show z.natAbs % 60 < 100 by omega)]
  by_cases c : z < 0
  · rw [if_pos c, if_pos ⟨.inr rfl, q1, q2, rfl, q3, q4, by omega, by omega⟩, if_pos rfl]
    congr 1
    omega
  · rw [if_neg c, if_pos ⟨.inl rfl, q1, q2, rfl, q3, q4, by omega, by omega⟩, if_neg (by decide)]
    congr 1
    omega
theorem zoneZ_head : ∀ b r, ([90] : List UInt8) = b :: r → isD b = false ∧ ¬ b = 46 := by
  intro b r e
  rw [List.cons.injEq] at e
  rw [← e.1]
  decide
theorem IsDate.bounds {d y m k : Int} (h : IsDate d y m k) (h0 : 0 ≤ d) (h1 : d ≤ 26700) : 1970 ≤ y ∧ y ≤ 2043 ∧ 1 ≤ m ∧ m ≤ 12 ∧ 1 ≤ k ∧ k ≤ 31 := by
  have a := h.year
  have b := days_pos y m
  refine ⟨?_, ?_, h.m1, h.m12, h.k1, Int.le_trans h.k2 b.2⟩
  · by_cases c : 1970 ≤ y
    · exact c
    · exfalso
      by_cases c2 : y = 1969
      · rw [c2] at a
        have : sinceI (1969 + 1) = 0 := by decide
        omega
      · have := since_lt (y := y + 1) (z := 1970) (by omega)
        have e : sinceI 1970 = 0 := by decide
        omega
  · by_cases c : y ≤ 2043
    · exact c
    · exfalso
      have e : sinceI 2044 = 27028 := by decide
      by_cases c2 : y = 2044
      · rw [c2] at a
        omega
      · have := since_lt (y := 2044) (z := y) (by omega)
        omega
theorem timeOf_back (t z y m k : Int) (r zs : List UInt8) (h0 : 0 ≤ t) (h1 : t ≤ 2305843009213693952) (hz : -1439 ≤ z ∧ z ≤ 1439) (hS : 0 ≤ t / 1000000000 + z * 60)
    (hp : partL r = some (t % 1000000000, zs)) (hzs : zoneL zs = some z) (hd : IsDate ((t / 1000000000 + z * 60) / 86400) y m k) :
    timeOf y m k ((t / 1000000000 + z * 60) / 3600 % 24) ((t / 1000000000 + z * 60) / 60 % 60) ((t / 1000000000 + z * 60) % 60) r = some t := by
  obtain ⟨S, hSe⟩ : ∃ S, S = t / 1000000000 + z * 60 := ⟨_, rfl⟩
  rw [← hSe] at hd hS ⊢
  have hb := hd.bounds (by omega) (by omega)
  unfold timeOf
  rw [if_pos ⟨by omega, by omega, by omega, by omega, hd.k2, by omega, by omega, by omega⟩, hp]
  simp only [hzs]
  have e := hd.e
  have e2 : (sinceI y + beforeI y m + k - 1) * 86400 + S / 3600 % 24 * 3600 + S / 60 % 60 * 60 + S % 60 - z * 60 = t / 1000000000 := by
    rw [e]; omega
  rw [e2, if_pos ⟨by omega, by omega⟩]
  congr 1
  omega
theorem stamp_back (t z : Int) (y m k : Nat) (zs : List UInt8) (h0 : 0 ≤ t) (h1 : t ≤ 2305843009213693952) (hz : -1439 ≤ z ∧ z ≤ 1439) (hS : 0 ≤ t / 1000000000 + z * 60)
    (hzh : ∀ b r, zs = b :: r → isD b = false ∧ ¬ b = 46) (hzs : zoneL zs = some z) (hd : IsDate ((t / 1000000000 + z * 60) / 86400) y m k) :
    stampL (showL y m k ((t / 1000000000 + z * 60) / 3600 % 24).toNat ((t / 1000000000 + z * 60) / 60 % 60).toNat ((t / 1000000000 + z * 60) % 60).toNat ++ (fracL (t % 1000000000).toNat ++ zs)) = some t := by
  have hb := hd.bounds (by omega) (by omega)
  have hp : partL (fracL (t % 1000000000).toNat ++ zs) = some (t % 1000000000, zs) := by
    rw [partL_frac _ (by omega) zs hzh]
    congr 2
    omega
  rw [showL_stamp y m k _ _ _ (by omega) (by omega) (by omega) (by omega) (by omega) (by omega), Int.toNat_of_nonneg (by omega), Int.toNat_of_nonneg (by omega), Int.toNat_of_nonneg (by omega)]
  exact timeOf_back t z y m k _ zs h0 h1 hz hS hp hzs hd
theorem bl_self : ∀ x : List UInt8, Op.bytesLess x x = false
  | [] => rfl
  | a :: x => by
    have h : ¬ a < a := UInt8.lt_irrefl a
    rw [Op.bytesLess, bl_self x]
    simp
theorem bl_asymm : ∀ {x y : List UInt8}, Op.bytesLess x y = true → Op.bytesLess y x = false ∧ ¬ x = y
  | x, [], h => by cases x <;> simp [Op.bytesLess] at h
  | [], b :: y, h => by simp [Op.bytesLess]
  | a :: x, b :: y, h => by
    rw [Op.bytesLess, Bool.or_eq_true, Bool.and_eq_true, decide_eq_true_eq, beq_iff_eq] at h
    rcases h with h | ⟨rfl, h⟩
    · have h1 : ¬ b < a := UInt8.lt_asymm h
      have h2 : ¬ a = b := fun e => by subst e; exact UInt8.lt_irrefl _ h
      have h3 : ¬ b = a := fun e => h2 e.symm
      refine ⟨?_, fun e => h2 (by injection e)⟩
      rw [Op.bytesLess, decide_eq_false h1, beq_eq_false_iff_ne.mpr h3]
      rfl
    · obtain ⟨h1, h2⟩ := bl_asymm h
      refine ⟨?_, fun e => h2 (by injection e)⟩
      rw [Op.bytesLess, h1]
      simp
theorem bl_cons (c : UInt8) (x y : List UInt8) : Op.bytesLess (c :: x) (c :: y) = Op.bytesLess x y := by
  rw [Op.bytesLess]
  simp
theorem bl_app : ∀ (p q x y : List UInt8), p.length = q.length → Op.bytesLess (p ++ x) (q ++ y) = if p = q then Op.bytesLess x y else Op.bytesLess p q
  | [], [], x, y, _ => by simp
  | [], b :: q, x, y, h => by simp at h
  | a :: p, [], x, y, h => by simp at h
  | a :: p, b :: q, x, y, h => by
    rw [List.cons_append, List.cons_append, Op.bytesLess, bl_app p q x y (by simpa using h), Op.bytesLess]
    by_cases c : a = b
    · subst c
      by_cases c2 : p = q
      · rw [if_pos c2, if_pos (by rw [c2])]
        simp
      · rw [if_neg c2, if_neg (fun e => c2 (by injection e))]
    · rw [if_neg (show ¬ (a :: p = b :: q) from fun e => c (by injection e)), beq_eq_false_iff_ne.mpr c]
      simp
theorem digsN_inj {k a b : Nat} (ha : a < 10 ^ k) (hb : b < 10 ^ k) (h : digsN a k = digsN b k) : a = b := by
  have h1 := digsN_val k a
  have h2 := digsN_val k b
  rw [Nat.mod_eq_of_lt ha] at h1
  rw [Nat.mod_eq_of_lt hb] at h2
  rw [← h1, ← h2, h]
theorem bl_digs : ∀ (k a b : Nat), a < 10 ^ k → b < 10 ^ k → Op.bytesLess (digsN a k) (digsN b k) = decide (a < b)
  | 0, a, b, ha, hb => by
    have : ¬ a < b := by simp at ha hb; omega
    rw [decide_eq_false this]
    rfl
  | k + 1, a, b, ha, hb => by
    rw [Nat.pow_succ] at ha hb
    have ha2 : a / 10 < 10 ^ k := by omega
    have hb2 : b / 10 < 10 ^ k := by omega
    rw [digsN, digsN, bl_app _ _ _ _ (by rw [digsN_len, digsN_len])]
    by_cases c : digsN (a / 10) k = digsN (b / 10) k
    · have e := digsN_inj ha2 hb2 c
      rw [if_pos c, Op.bytesLess]
      have h1 := digit_byte (a % 10) (by omega)
      have h2 := digit_byte (b % 10) (by omega)
      have h3 : (UInt8.ofNat (48 + a % 10) < UInt8.ofNat (48 + b % 10)) ↔ a < b := by
        rw [UInt8.lt_iff_toNat_lt, h1, h2]
        omega
      rw [show Op.bytesLess [] [] = false from rfl, Bool.and_false, Bool.or_false, decide_eq_decide]
      exact h3
    · rw [if_neg c, bl_digs k _ _ ha2 hb2, decide_eq_decide]
      have : ¬ a / 10 = b / 10 := fun e => c (by rw [e])
      omega
theorem bl_field (k a b : Nat) (x y : List UInt8) (ha : a < 10 ^ k) (hb : b < 10 ^ k) : Op.bytesLess (digsN a k ++ x) (digsN b k ++ y) = (decide (a < b) || (decide (a = b) && Op.bytesLess x y)) := by
  rw [bl_app _ _ _ _ (by rw [digsN_len, digsN_len]), bl_digs k a b ha hb]
  by_cases c : a = b
  · subst c
    rw [if_pos rfl]
    simp
  · rw [if_neg (fun e => c (digsN_inj ha hb e)), decide_eq_false c]
    simp
theorem bl_show (y m k h i c y' m' k' h' i' c' : Nat) (r r' : List UInt8) (a1 : y < 10000) (a2 : m < 100) (a3 : k < 100) (a4 : h < 100) (a5 : i < 100) (a6 : c < 100) (b1 : y' < 10000) (b2 : m' < 100) (b3 : k' < 100) (b4 : h' < 100) (b5 : i' < 100) (b6 : c' < 100) :
    Op.bytesLess (showL y m k h i c ++ r) (showL y' m' k' h' i' c' ++ r') = (decide (y < y') || (decide (y = y') && (decide (m < m') || (decide (m = m') && (decide (k < k') || (decide (k = k') && (decide (h < h') || (decide (h = h') && (decide (i < i') || (decide (i = i') && (decide (c < c') || (decide (c = c') && Op.bytesLess r r'))))))))))))  := by
  unfold showL
  simp only [List.append_assoc, List.cons_append]
  rw [bl_field 4 _ _ _ _ a1 b1, bl_cons, bl_field 2 _ _ _ _ a2 b2, bl_cons, bl_field 2 _ _ _ _ a3 b3, bl_cons, bl_field 2 _ _ _ _ a4 b4, bl_cons, bl_field 2 _ _ _ _ a5 b5, bl_cons, bl_field 2 _ _ _ _ a6 b6]
/-- A second's date and clock, as a text. -/
structure Shows (S : Int) (l : List UInt8) : Prop where
  ex : ∃ y m k : Nat, IsDate (S / 86400) y m k ∧ l = showL y m k (S / 3600 % 24).toNat (S / 60 % 60).toNat (S % 60).toNat
theorem Shows.len {S : Int} {l : List UInt8} (h : Shows S l) : l.length = 19 := by
  obtain ⟨y, m, k, _, rfl⟩ := h.ex
  exact showL_len _ _ _ _ _ _
theorem Shows.same {S : Int} {l l' : List UInt8} (h : Shows S l) (h' : Shows S l') : l = l' := by
  obtain ⟨y, m, k, h1, rfl⟩ := h.ex
  obtain ⟨y', m', k', h2, rfl⟩ := h'.ex
  have := h1.same h2
  rw [show y = y' by omega, show m = m' by omega, show k = k' by omega]
theorem Shows.lt {S S' : Int} {l l' : List UInt8} (h : Shows S l) (h' : Shows S' l') (h0 : 0 ≤ S) (hlt : S < S') (h1 : S' ≤ 2306000000) (r r' : List UInt8) : Op.bytesLess (l ++ r) (l' ++ r') = true := by
  obtain ⟨y, m, k, d1, rfl⟩ := h.ex
  obtain ⟨y', m', k', d2, rfl⟩ := h'.ex
  have b1 := d1.bounds (by omega) (by omega)
  have b2 := d2.bounds (by omega) (by omega)
  rw [bl_show _ _ _ _ _ _ _ _ _ _ _ _ _ _ (by omega) (by omega) (by omega) (by omega) (by omega) (by omega) (by omega) (by omega) (by omega) (by omega) (by omega) (by omega)]
  by_cases c : S / 86400 < S' / 86400
  · rcases d1.lt d2 c with hy | ⟨hy, hm | ⟨hm, hk⟩⟩
    · rw [decide_eq_true (show y < y' by omega)]; rfl
    · rw [decide_eq_true (show y = y' by omega), decide_eq_true (show m < m' by omega)]; simp
    · rw [decide_eq_true (show y = y' by omega), decide_eq_true (show m = m' by omega), decide_eq_true (show k < k' by omega)]; simp
  · have e : S / 86400 = S' / 86400 := by omega
    rw [← e] at d2
    have hs := d1.same d2
    rw [decide_eq_true (show y = y' by omega), decide_eq_true (show m = m' by omega), decide_eq_true (show k = k' by omega)]
    clear d1 d2 b1 b2 hs
    by_cases ch : S / 3600 % 24 < S' / 3600 % 24
    · rw [decide_eq_true (show (S / 3600 % 24).toNat < (S' / 3600 % 24).toNat by omega)]; simp
    · have eh : S / 3600 % 24 = S' / 3600 % 24 := by omega
      by_cases ci : S / 60 % 60 < S' / 60 % 60
      · rw [decide_eq_true (show (S / 3600 % 24).toNat = (S' / 3600 % 24).toNat by omega), decide_eq_true (show (S / 60 % 60).toNat < (S' / 60 % 60).toNat by omega)]; simp
      · have ei : S / 60 % 60 = S' / 60 % 60 := by omega
        rw [decide_eq_true (show (S / 3600 % 24).toNat = (S' / 3600 % 24).toNat by omega), decide_eq_true (show (S / 60 % 60).toNat = (S' / 60 % 60).toNat by omega), decide_eq_true (show (S % 60).toNat < (S' % 60).toNat by omega)]; simp
theorem fracL_lt {n n' : Nat} (h : n < 1000000000) (h' : n' < 1000000000) (z : List UInt8) (hl : (fracL n).length = (fracL n').length) : Op.bytesLess (fracL n ++ z) (fracL n' ++ z) = decide (n < n') ∧ (fracL n = fracL n' → n = n') := by
  unfold fracL at hl ⊢
  have t1 := trimZ_back (digsN n 9)
  have t2 := trimZ_back (digsN n' 9)
  rw [digsN_len] at t1 t2
  obtain ⟨j, e1, l1⟩ := t1
  obtain ⟨j', e2, l2⟩ := t2
  have ne : ∀ n, n < 1000000000 → ¬ n = 0 → (trimZ (digsN n 9)) ≠ [] := fun n hn h0 e => by
    have hv := trimZ_val (digsN n 9)
    rw [e, digsN_val, Nat.mod_eq_of_lt hn] at hv
    simp [val] at hv
    omega
  by_cases c : n = 0
  · by_cases c' : n' = 0
    · rw [if_pos c, if_pos c', bl_self, decide_eq_false (by omega)]
      exact ⟨rfl, fun _ => by omega⟩
    · rw [if_pos c, if_neg c'] at hl
      simp at hl
  · by_cases c' : n' = 0
    · rw [if_neg c, if_pos c'] at hl
      simp at hl
    · rw [if_neg c, if_neg c'] at hl ⊢
      have hl2 : (trimZ (digsN n 9)).length = (trimZ (digsN n' 9)).length := by simpa using hl
      have hj : j = j' := by omega
      subst hj
      have hb := bl_digs 9 n n' h h'
      rw [e1, e2, bl_app _ _ _ _ hl2, bl_self] at hb
      rw [List.cons_append, List.cons_append, bl_cons, bl_app _ _ _ _ hl2, bl_self, hb]
      refine ⟨rfl, fun e => ?_⟩
      rw [List.cons.injEq] at e
      refine digsN_inj (k := 9) h h' ?_
      rw [e1, e2, e.2]
/-- Stamps of one length stand as their times do. -/
theorem stamps_order {t u : Int} {a b : List UInt8} (ha : Shows (t / 1000000000) a) (hb : Shows (u / 1000000000) b) (t0 : 0 ≤ t) (t1 : t ≤ 2305843009213693952) (u0 : 0 ≤ u) (u1 : u ≤ 2305843009213693952) (z : List UInt8)
    (hl : (a ++ (fracL (t % 1000000000).toNat ++ z)).length = (b ++ (fracL (u % 1000000000).toNat ++ z)).length) :
    Op.bytesLess (a ++ (fracL (t % 1000000000).toNat ++ z)) (b ++ (fracL (u % 1000000000).toNat ++ z)) = decide (t < u) ∧ (a ++ (fracL (t % 1000000000).toNat ++ z) = b ++ (fracL (u % 1000000000).toNat ++ z) ↔ t = u) := by
  have la := ha.len
  have lb := hb.len
  simp only [List.length_append] at hl
  by_cases c : t / 1000000000 < u / 1000000000
  · have h1 := ha.lt hb (by omega) c (by omega) (fracL (t % 1000000000).toNat ++ z) (fracL (u % 1000000000).toNat ++ z)
    refine ⟨by rw [h1, decide_eq_true (by omega)], ⟨fun e => absurd e (bl_asymm h1).2, fun e => by omega⟩⟩
  · by_cases c2 : u / 1000000000 < t / 1000000000
    · have h1 := hb.lt ha (by omega) c2 (by omega) (fracL (u % 1000000000).toNat ++ z) (fracL (t % 1000000000).toNat ++ z)
      refine ⟨by rw [(bl_asymm h1).1, decide_eq_false (by omega)], ⟨fun e => absurd e.symm (bl_asymm h1).2, fun e => by omega⟩⟩
    · have e : t / 1000000000 = u / 1000000000 := by omega
      rw [← e] at hb
      have e2 := ha.same hb
      subst e2
      obtain ⟨f1, f2⟩ := fracL_lt (n := (t % 1000000000).toNat) (n' := (u % 1000000000).toNat) (by omega) (by omega) z (by omega)
      rw [bl_app _ _ _ _ rfl, if_pos rfl, f1]
      refine ⟨by rw [decide_eq_decide]; omega, ⟨fun h => ?_, fun h => by rw [h]⟩⟩
      have h3 := f2 (List.append_cancel_right (List.append_cancel_left h))
      omega
/-- A stamp with any part behind its second. -/
theorem shows_time {t z : Int} {l : List UInt8} (h : Shows (t / 1000000000 + z * 60) l) (h0 : 0 ≤ t) (h1 : t ≤ 2305843009213693952) (hz : -1439 ≤ z ∧ z ≤ 1439) (hS : 0 ≤ t / 1000000000 + z * 60) (r zs : List UInt8)
    (hp : partL r = some (t % 1000000000, zs)) (hzs : zoneL zs = some z) : stampL (l ++ r) = some t := by
  obtain ⟨y, m, k, hd, rfl⟩ := h.ex
  have hb := hd.bounds (by omega) (by omega)
  rw [showL_stamp y m k _ _ _ (by omega) (by omega) (by omega) (by omega) (by omega) (by omega), Int.toNat_of_nonneg (by omega), Int.toNat_of_nonneg (by omega), Int.toNat_of_nonneg (by omega)]
  exact timeOf_back t z y m k _ zs h0 h1 hz hS hp hzs hd
theorem shows_none {S : Int} {l : List UInt8} (h : Shows S l) (h0 : 0 ≤ S) (h1 : S ≤ 2306000000) (r : List UInt8) (hp : partL r = none ∨ ∃ n zs, partL r = some (n, zs) ∧ zoneL zs = none) : stampL (l ++ r) = none := by
  obtain ⟨y, m, k, hd, rfl⟩ := h.ex
  have hb := hd.bounds (by omega) (by omega)
  rw [showL_stamp y m k _ _ _ (by omega) (by omega) (by omega) (by omega) (by omega) (by omega)]
  unfold timeOf
  split
  · rcases hp with hp | ⟨n, zs, hp, hz⟩
    · rw [hp]
    · rw [hp]; simp only [hz]
  · rfl
theorem shows_back {t z : Int} {l : List UInt8} (h : Shows (t / 1000000000 + z * 60) l) (h0 : 0 ≤ t) (h1 : t ≤ 2305843009213693952) (hz : -1439 ≤ z ∧ z ≤ 1439) (hS : 0 ≤ t / 1000000000 + z * 60) (zs : List UInt8)
    (hzh : ∀ b r, zs = b :: r → isD b = false ∧ ¬ b = 46) (hzs : zoneL zs = some z) : stampL (l ++ (fracL (t % 1000000000).toNat ++ zs)) = some t := by
  refine shows_time h h0 h1 hz hS _ zs ?_ hzs
  rw [partL_frac _ (by omega) zs hzh]
  congr 2
  omega
theorem zoneL_digit (b : UInt8) (r : List UInt8) (h : isD b = true) : zoneL (b :: r) = none := by
  have hb := isD_iff h
  have n90 : ¬ b = 90 := fun e => by rw [e] at hb; exact absurd hb (by decide)
  have n43 : ¬ b = 43 := fun e => by rw [e] at hb; exact absurd hb (by decide)
  have n45 : ¬ b = 45 := fun e => by rw [e] at hb; exact absurd hb (by decide)
  unfold zoneL
  split
  · rename_i e; rw [List.cons.injEq] at e; exact absurd e.1 n90
  · rename_i e
    rw [List.cons.injEq] at e
    rw [if_neg]
    rw [← e.1]
    rintro ⟨h1 | h1, _⟩
    · exact n43 h1
    · exact n45 h1
  · rfl
theorem point_ok {t : Int} {l : List UInt8} (h : Shows (t / 1000000000) l) (h0 : 0 ≤ t) (h1 : t ≤ 2305843009213693952) (ds : List UInt8) (hd : ∀ b ∈ ds, isD b = true) (hn : ds ≠ []) (hl : ds.length ≤ 9)
    (hv : ((val ds * 10 ^ (9 - ds.length) : Nat) : Int) = t % 1000000000) : stampL (l ++ (46 :: (ds ++ [90]))) = some t := by
  refine shows_time (z := 0) (by rw [Int.zero_mul, Int.add_zero]; exact h) h0 h1 (by omega) (by omega) _ [90] ?_ rfl
  rw [partL_digs ds [90] hd hn hl (fun b r e => (zoneZ_head b r e).1), hv]
theorem point_none {S : Int} {l : List UInt8} (h : Shows S l) (h0 : 0 ≤ S) (h1 : S ≤ 2306000000) : stampL (l ++ [46, 90]) = none := shows_none h h0 h1 _ (.inl rfl)
theorem point_many {S : Int} {l : List UInt8} (h : Shows S l) (h0 : 0 ≤ S) (h1 : S ≤ 2306000000) (ds : List UInt8) (hd : ∀ b ∈ ds, isD b = true) (hl : 9 < ds.length) : stampL (l ++ (46 :: (ds ++ [90]))) = none := by
  refine shows_none h h0 h1 _ (.inr ⟨((val (ds.take 9) * 10 ^ (9 - 9) : Nat) : Int), ds.drop 9 ++ [90], ?_, ?_⟩)
  · rw [partL, if_pos rfl, tw_app ds [90] hd (fun b r e => (zoneZ_head b r e).1)]
    have hl9 : (ds.take 9).length = 9 := by rw [List.length_take]; omega
    rw [if_neg (fun e => by rw [e] at hl9; simp at hl9), hl9, List.drop_append_of_le_length (by omega)]
  · cases hds : ds.drop 9 with
    | nil =>
      have := congrArg List.length hds
      rw [List.length_drop] at this
      simp at this
      omega
    | cons b r =>
      exact zoneL_digit b _ (hd b (List.mem_of_mem_drop (by rw [hds]; simp)))
/-- The nineteen bytes of a second, and whatever part of one: the digits, with noughts behind. -/
theorem frac_digs {n : Nat} (hn : n < 1000000000) (h0 : ¬ n = 0) : ∃ ds : List UInt8, fracL n = 46 :: ds ∧ (∀ b ∈ ds, isD b = true) ∧ ds ≠ [] ∧ ds.length ≤ 9 ∧ ∀ i, ds.length + i ≤ 9 → val (ds ++ List.replicate i 48) * 10 ^ (9 - (ds ++ List.replicate i 48).length) = n := by
  have hl : (digsN n 9).length = 9 := digsN_len 9 n
  obtain ⟨j, h1, h2⟩ := trimZ_back (digsN n 9)
  have hv := trimZ_val (digsN n 9)
  rw [digsN_val, Nat.mod_eq_of_lt hn, hl] at hv
  refine ⟨trimZ (digsN n 9), by unfold fracL; rw [if_neg h0], trimZ_dig (digsN_dig 9 n), fun e => ?_, by omega, fun i hi => ?_⟩
  · rw [e] at hv
    simp [val] at hv
    omega
  · rw [val_app0, List.length_append, List.length_replicate, Nat.mul_assoc, ← Nat.pow_add, show i + (9 - ((trimZ (digsN n 9)).length + i)) = 9 - (trimZ (digsN n 9)).length from by omega]
    exact hv
/-! Spans. -/
/-- The units, the greatest first. -/
def unitsL : List (List UInt8 × Int) := [([100], 86400000000000), ([104], 3600000000000), ([109], 60000000000), ([115], 1000000000), ([109, 115], 1000000), ([117, 115], 1000), ([110, 115], 1)]
def findSpan : List (List UInt8 × Int) → List UInt8 → Int → Option Int
  | [], _, _ => none
  | u :: us, nm, n => if u.1 = nm ∧ n ≤ 2305843009213693952 / u.2 then some (n * u.2) else findSpan us nm n
/-- The nanoseconds of a span. -/
def spanL (l : List UInt8) : Option Int :=
  if (l.takeWhile isD).length < 1 ∨ 9 < (l.takeWhile isD).length ∨ (1 < (l.takeWhile isD).length ∧ l.head? = some 48) then none
  else findSpan unitsL (l.dropWhile isD) (val (l.takeWhile isD) : Nat)
def findSpell : List (List UInt8 × Int) → Int → Option (List UInt8)
  | [], _ => none
  | u :: us, n => if n % u.2 = 0 then (if 999999999 < n / u.2 then none else some (Lib.decDigits (n / u.2).toNat ++ u.1)) else findSpell us n
/-- The span of a number. -/
def spellL (n : Int) : Option (List UInt8) := if n = 0 then some [48, 115] else findSpell unitsL n
theorem dw_app : ∀ (ds z : List UInt8), (∀ b ∈ ds, isD b = true) → (∀ b r, z = b :: r → isD b = false) → (ds ++ z).dropWhile isD = z
  | [], [], _, _ => rfl
  | [], b :: r, _, hz => by simp [hz b r rfl]
  | d :: ds, z, hd, hz => by
    rw [List.cons_append, List.dropWhile_cons, if_pos (hd d (by simp)), dw_app ds z (fun b hb => hd b (by simp [hb])) hz]
theorem findSpell_some : ∀ (us : List (List UInt8 × Int)) (n : Int) (w : List UInt8), findSpell us n = some w → ∃ u ∈ us, n % u.2 = 0 ∧ n / u.2 ≤ 999999999 ∧ w = Lib.decDigits (n / u.2).toNat ++ u.1
  | [], n, w, h => by simp [findSpell] at h
  | u :: us, n, w, h => by
    rw [findSpell] at h
    by_cases c : n % u.2 = 0
    · rw [if_pos c] at h
      by_cases c2 : 999999999 < n / u.2
      · rw [if_pos c2] at h; simp at h
      · rw [if_neg c2, Option.some.injEq] at h
        exact ⟨u, by simp, c, by omega, h.symm⟩
    · rw [if_neg c] at h
      obtain ⟨v, h1, h2⟩ := findSpell_some us n w h
      exact ⟨v, by simp [h1], h2⟩
theorem unit_facts : ∀ u ∈ unitsL, 0 < u.2 ∧ (∀ b r, u.1 = b :: r → isD b = false) := by
  intro u hu
  simp only [unitsL, List.mem_cons, List.not_mem_nil, or_false] at hu
  rcases hu with rfl | rfl | rfl | rfl | rfl | rfl | rfl <;> refine ⟨by decide, fun b r e => ?_⟩ <;> (rw [List.cons.injEq] at e; rw [← e.1]; decide)
theorem findSpan_at (u : List UInt8 × Int) (hu : u ∈ unitsL) (n : Int) (hn : n ≤ 2305843009213693952 / u.2) : findSpan unitsL u.1 n = some (n * u.2) := by
  simp only [unitsL, List.mem_cons, List.not_mem_nil, or_false] at hu
  rcases hu with rfl | rfl | rfl | rfl | rfl | rfl | rfl <;> simp only [unitsL, findSpan] <;> simp_all
/-- A span that spells a number is read as it. -/
theorem span_spell (n : Int) (h0 : 0 ≤ n) (h1 : n ≤ 2305843009213693952) (w : List UInt8) (h : spellL n = some w) : spanL w = some n := by
  unfold spellL at h
  by_cases c : n = 0
  · rw [if_pos c, Option.some.injEq] at h
    subst h; subst c
    decide
  · rw [if_neg c] at h
    obtain ⟨u, hu, e, hle, rfl⟩ := findSpell_some _ _ _ h
    obtain ⟨up, uh⟩ := unit_facts u hu
    have hm : n / u.2 * u.2 = n := by
      have := Int.emod_add_mul_ediv n u.2
      rw [e, Int.zero_add, Int.mul_comm] at this
      exact this
    have hp : 0 < n / u.2 := by
      rcases Int.lt_or_le 0 (n / u.2) with h | h
      · exact h
      · have : n / u.2 * u.2 ≤ 0 := Int.mul_nonpos_of_nonpos_of_nonneg h (by omega)
        omega
    have hd := dd_dig (n / u.2).toNat
    have hc := dd_canon (n / u.2).toNat
    have hl9 : (Lib.decDigits (n / u.2).toNat).length ≤ 9 := by
      have key : ∀ (m n : Nat), n < 10 ^ (m + 1) → (Lib.decDigits n).length ≤ m + 1 := by
        intro m
        induction m with
        | zero => intro n h; rw [dd_one n (by omega)]; exact Nat.le_refl _
        | succ m ih =>
          intro n h
          by_cases c : n < 10
          · rw [dd_one n c]; simp
          · rw [dd_step n c, List.length_append]
            have := ih (n / 10) (by rw [Nat.pow_succ] at h; omega)
            simp only [List.length_cons, List.length_nil]
            omega
      exact key 8 _ (by omega)
    unfold spanL
    rw [tw_app _ _ hd uh, dw_app _ _ hd uh, val_dd, Int.toNat_of_nonneg (by omega), if_neg, findSpan_at u hu _ (Int.ediv_le_ediv up h1), hm]
    have hne := hc.ne
    have hlp := List.length_pos_iff.2 hne
    rintro (h | h | ⟨h, h2⟩)
    · omega
    · omega
    · rw [head_app hne] at h2
      exact hc.hd h h2
/-- Few of a unit can be spelled. -/
theorem spell_few (n by_ : Int) (h0 : 0 ≤ n) (h1 : n ≤ 999999999) (hb : by_ = 1 ∨ by_ = 1000 ∨ by_ = 1000000 ∨ by_ = 1000000000) : ∃ w, spellL (n * by_) = some w := by
  unfold spellL
  by_cases c : n * by_ = 0
  · rw [if_pos c]; exact ⟨_, rfl⟩
  · rw [if_neg c]
    have step : ∀ (u : List UInt8 × Int) us N, (N % u.2 = 0 → N / u.2 ≤ 999999999) → (¬ N % u.2 = 0 → ∃ w, findSpell us N = some w) → ∃ w, findSpell (u :: us) N = some w := by
      intro u us N g1 g2
      rw [findSpell]
      by_cases c : N % u.2 = 0
      · rw [if_pos c, if_neg (by have := g1 c; omega)]
        exact ⟨_, rfl⟩
      · rw [if_neg c]; exact g2 c
    unfold unitsL
    rcases hb with rfl | rfl | rfl | rfl
    all_goals
      refine step _ _ _ (fun _ => by show _ / _ ≤ (999999999 : Int); simp only; omega) (fun c1 => ?_)
      refine step _ _ _ (fun _ => by show _ / _ ≤ (999999999 : Int); simp only; omega) (fun c2 => ?_)
      refine step _ _ _ (fun _ => by show _ / _ ≤ (999999999 : Int); simp only; omega) (fun c3 => ?_)
      refine step _ _ _ (fun _ => by show _ / _ ≤ (999999999 : Int); simp only; omega) (fun c4 => ?_)
      first
        | (exfalso; apply c4; simp only; omega)
        | skip
    all_goals
      refine step _ _ _ (fun _ => by show _ / _ ≤ (999999999 : Int); simp only; omega) (fun c5 => ?_)
      first
        | (exfalso; apply c5; simp only; omega)
        | skip
    all_goals
      refine step _ _ _ (fun _ => by show _ / _ ≤ (999999999 : Int); simp only; omega) (fun c6 => ?_)
      first
        | (exfalso; apply c6; simp only; omega)
        | skip
    all_goals
      refine step _ _ _ (fun _ => by show _ / _ ≤ (999999999 : Int); simp only; omega) (fun c7 => ?_)
      exfalso; apply c7; simp only; omega
end Go.Proofs.YtjcenencgnfffaaDoor.DecS
