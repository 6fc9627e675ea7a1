/- Layer 6: numbers by seven bits, there and back. -/
import Derived.Test.YtjcenencgnfffaaDoorQOidBase
namespace Go.Proofs.YtjcenencgnfffaaDoor.OidS
open Go.RowKit Gong Go.Proofs.YtjcenencgnfffaaDoor.XOiR Go.Proofs.YtjcenencgnfffaaDoor.DecS Go.Proofs.YtjcenencgnfffaaDoorW.PrintWords Go.Proofs.YtjcenencgnfffaaDoorW.PrintLast Go.Proofs.YtjcenencgnfffaaDoorW.PrintMore
set_option linter.unusedVariables false
set_option linter.unusedSimpArgs false
/-- The groups ahead of the last one. -/
def hiG : Nat → List UInt8
  | n => if h : n < 128 then [UInt8.ofNat (n + 128)] else hiG (n / 128) ++ [UInt8.ofNat (n % 128 + 128)]
termination_by n => n
decreasing_by omega
def grp (n : Nat) : List UInt8 := if n < 128 then [UInt8.ofNat n] else hiG (n / 128) ++ [UInt8.ofNat (n % 128)]
theorem hiG_lo {n : Nat} (h : n < 128) : hiG n = [UInt8.ofNat (n + 128)] := by rw [hiG, dif_pos h]
theorem hiG_hi {n : Nat} (h : ¬ n < 128) : hiG n = hiG (n / 128) ++ [UInt8.ofNat (n % 128 + 128)] := by rw [hiG, dif_neg h]
theorem u8_nat (n : Nat) (h : n < 256) : (UInt8.ofNat n).toNat = n := by simp [UInt8.toNat_ofNat]; omega
theorem hiG_pos (n : Nat) : 0 < (hiG n).length := by
  by_cases c : n < 128
  · rw [hiG_lo c]; simp
  · rw [hiG_hi c, List.length_append]; simp
theorem hiG_len : ∀ (m n : Nat), n < 128 ^ (m + 1) → (hiG n).length ≤ m + 1 := by
  intro m
  induction m with
  | zero => intro n h; rw [hiG_lo (by simpa using h)]; exact Nat.le_refl _
  | succ m ih =>
    intro n h
    by_cases c : n < 128
    · rw [hiG_lo c]; simp
    · rw [hiG_hi c, List.length_append]
      have := ih (n / 128) (by rw [Nat.pow_succ] at h; omega)
      simp only [List.length_cons, List.length_nil]
      omega
theorem grp_len (n : Nat) (h : n ≤ 4294967295) : (grp n).length ≤ 5 := by
  unfold grp
  by_cases c : n < 128
  · rw [if_pos c]; simp
  · rw [if_neg c, List.length_append]
    have := hiG_len 3 (n / 128) (by show n / 128 < 268435456; omega)
    simp only [List.length_cons, List.length_nil]
    omega
theorem grp_pos (n : Nat) : 0 < (grp n).length := by
  unfold grp
  by_cases c : n < 128
  · rw [if_pos c]; simp
  · rw [if_neg c, List.length_append]; simp
theorem andn (b : Nat) (h : b < 256) : wrap64 (Go.bits .andNot .u8 (b : Int) 128) = ((b % 128 : Nat) : Int) := by
  have : ∀ m : Fin 256, wrap64 (Go.bits .andNot .u8 ((m.val : Nat) : Int) 128) = ((m.val % 128 : Nat) : Int) := by decide +kernel
  exact this ⟨b, h⟩
theorem wraps_i63 (n : Int) (h0 : 0 ≤ n) (h1 : n < 2 ^ 63) : IntKind.i64.wrap n = n := by
  have : (2 : Int) ^ 63 = 9223372036854775808 := rfl
  rw [IntKind.wrap_i64]; omega
theorem or7 (a c : Nat) (ha : a ≤ 4294967295) (hc : c < 128) : Go.bits .or .i64 (wrap64 ((a : Int) * 128)) (c : Int) = ((a * 128 + c : Nat) : Int) := by
  rw [wrap_id (by omega) (by omega)]
  have := bits_join .i64 63 (by decide) wraps_i63 7 ((a : Int) * 128) (c : Int) (by omega) (by show _ % (128 : Int) = 0; omega) (by show _ < (9223372036854775808 : Int); omega) (by omega) (by show _ < (128 : Int); omega) (by show _ < (9223372036854775808 : Int); omega)
  rw [this]
  omega
theorem bt_get (s : ByteArray) (i : Nat) (h : i < (L s).length) : bt s (i : Int) = (((L s)[i]'h).toNat : Int) := by
  rw [L_len] at h
  exact (bt_at s i h).symm
/-- One byte of a reading. -/
theorem step_eq (s : ByteArray) (a i k : Nat) (ha : a ≤ 4294967295) (hi : i < 9) (hl : i < (L s).length) :
    octet_groups.l0 (k + 2) s 4294967295 (a : Int) (i : Int) =
      (let b := ((L s)[i]'hl).toNat
       if i = 0 ∧ b = 128 then some (0, 0, 3) else if 4294967295 < a * 128 + b % 128 then some (0, 0, 2) else if b < 128 then some (((a * 128 + b % 128 : Nat) : Int), ((i + 1 : Nat) : Int), 0)
       else octet_groups.l0 k s 4294967295 ((a * 128 + b % 128 : Nat) : Int) ((i + 1 : Nat) : Int)) := by
  have hs := L_len s
  have hb := bt_get s i hl
  obtain ⟨b, hbb⟩ : ∃ b : Nat, ((L s)[i]'hl).toNat = b := ⟨_, rfl⟩
  have hb256 : b < 256 := by rw [← hbb]; exact UInt8.toNat_lt _
  rw [hbb] at hb ⊢
  simp only [octet_groups.l0]
  rw [if_pos (show (i : Int) < 9 by omega), if_neg (show ¬ (i : Int) = (s.size : Int) by omega), if_pos (show (0 : Int) ≤ (i : Int) by omega), if_pos (show (i : Int) < (s.size : Int) by omega), hb, andn b hb256, or7 a (b % 128) ha (by omega), wrap_succ i (by omega)]
  by_cases c0 : i = 0
  · rw [if_pos (show ((i + 1 : Nat) : Int) = 1 by omega)]
    simp only [octet_groups.j1]
    by_cases c1 : b = 128
    · rw [if_pos (show ((b : Int) == 128) = true by rw [beq_iff_eq]; omega), if_pos ⟨c0, c1⟩]
    · rw [if_neg (show ¬ ((b : Int) == 128) = true by rw [beq_iff_eq]; omega), if_neg (show ¬ (i = 0 ∧ b = 128) from fun h => c1 h.2)]
      by_cases c2 : 4294967295 < a * 128 + b % 128
      · rw [if_pos (show ((a * 128 + b % 128 : Nat) : Int) > 4294967295 by omega), if_pos c2]
      · rw [if_neg (show ¬ ((a * 128 + b % 128 : Nat) : Int) > 4294967295 by omega), if_neg c2]
        by_cases c3 : b < 128
        · rw [if_pos (show (b : Int) < 128 by omega), if_pos c3]
        · rw [if_neg (show ¬ (b : Int) < 128 by omega), if_neg c3]
  · rw [if_neg (show ¬ ((i + 1 : Nat) : Int) = 1 by omega)]
    simp only [octet_groups.j1]
    rw [if_neg (show ¬ false = true by decide), if_neg (show ¬ (i = 0 ∧ b = 128) from fun h => c0 h.1)]
    by_cases c2 : 4294967295 < a * 128 + b % 128
    · rw [if_pos (show ((a * 128 + b % 128 : Nat) : Int) > 4294967295 by omega), if_pos c2]
    · rw [if_neg (show ¬ ((a * 128 + b % 128 : Nat) : Int) > 4294967295 by omega), if_neg c2]
      by_cases c3 : b < 128
      · rw [if_pos (show (b : Int) < 128 by omega), if_pos c3]
      · rw [if_neg (show ¬ (b : Int) < 128 by omega), if_neg c3]
/-- What is read, is what is written. -/
theorem read_sound (s : ByteArray) : ∀ (d a i k : Nat), i + d = 9 → 2 * d < k → a ≤ 4294967295 → i ≤ (L s).length → (i = 0 → a = 0) → (0 < i → 0 < a ∧ (L s).take i = hiG a) →
    (∃ c : Int, c ≠ 0 ∧ octet_groups.l0 k s 4294967295 (a : Int) (i : Int) = some (0, 0, c)) ∨
    (∃ v j : Nat, v ≤ 4294967295 ∧ j ≤ (L s).length ∧ octet_groups.l0 k s 4294967295 (a : Int) (i : Int) = some ((v : Int), (j : Int), 0) ∧ (L s).take j = grp v) := by
  intro d
  induction d with
  | zero =>
    intro a i k hi hk ha hl h0 h1
    obtain ⟨k, rfl⟩ : ∃ m, k = m + 1 := ⟨k - 1, by omega⟩
    refine .inl ⟨3, by decide, ?_⟩
    simp only [octet_groups.l0]
    rw [if_neg (by omega)]
  | succ d ih =>
    intro a i k hi hk ha hl h0 h1
    obtain ⟨k, rfl⟩ : ∃ m, k = m + 2 := ⟨k - 2, by omega⟩
    have hs := L_len s
    by_cases ce : i = (L s).length
    · refine .inl ⟨10, by decide, ?_⟩
      simp only [octet_groups.l0]
      rw [if_pos (by omega), if_pos (by omega)]
    · have hlt : i < (L s).length := by omega
      rw [step_eq s a i k ha (by omega) hlt]
      obtain ⟨b, hbb⟩ : ∃ b : Nat, ((L s)[i]'hlt).toNat = b := ⟨_, rfl⟩
      have hb256 : b < 256 := by rw [← hbb]; exact UInt8.toNat_lt _
      have hofb : (L s)[i]'hlt = UInt8.ofNat b := by rw [← hbb]; simp
      simp only [hbb]
      have htk : (L s).take (i + 1) = (L s).take i ++ [UInt8.ofNat b] := by rw [List.take_succ_eq_append_getElem hlt, hofb]
      by_cases c1 : i = 0 ∧ b = 128
      · rw [if_pos c1]; exact .inl ⟨3, by decide, rfl⟩
      · rw [if_neg c1]
        by_cases c2 : 4294967295 < a * 128 + b % 128
        · rw [if_pos c2]; exact .inl ⟨2, by decide, rfl⟩
        · rw [if_neg c2]
          by_cases c3 : b < 128
          · rw [if_pos c3]
            refine .inr ⟨a * 128 + b % 128, i + 1, by omega, by omega, rfl, ?_⟩
            rw [htk]
            unfold grp
            by_cases ci : i = 0
            · obtain rfl := h0 ci
              subst ci
              rw [if_pos (by omega), show 0 * 128 + b % 128 = b by omega]
              rfl
            · obtain ⟨p1, p2⟩ := h1 (by omega)
              rw [if_neg (by omega), p2, show (a * 128 + b % 128) / 128 = a by omega, show (a * 128 + b % 128) % 128 = b by omega]
          · rw [if_neg c3]
            refine ih (a * 128 + b % 128) (i + 1) k (by omega) (by omega) (by omega) (by omega) (by omega) (fun _ => ⟨?_, ?_⟩)
            · by_cases ci : i = 0
              · have := c1; omega
              · have := (h1 (by omega)).1; omega
            · rw [htk]
              by_cases ci : i = 0
              · obtain rfl := h0 ci
                subst ci
                rw [hiG_lo (by omega), show 0 * 128 + b % 128 + 128 = b by omega]
                rfl
              · obtain ⟨p1, p2⟩ := h1 (by omega)
                rw [hiG_hi (by omega), p2, show (a * 128 + b % 128) / 128 = a by omega, show (a * 128 + b % 128) % 128 + 128 = b by omega]
/-- What is written, is read. -/
theorem read_hi (s : ByteArray) : ∀ (a k : Nat) (rest : List UInt8), 0 < a → a ≤ 4294967295 → L s = hiG a ++ rest → (hiG a).length < 9 →
    octet_groups.l0 (k + 2 * (hiG a).length) s 4294967295 0 0 = octet_groups.l0 k s 4294967295 (a : Int) ((hiG a).length : Int) := by
  intro a
  induction a using Nat.strongRecOn with
  | ind a ih =>
    intro k rest h0 h1 hL h9
    by_cases c : a < 128
    · rw [hiG_lo c] at hL h9 ⊢
      have hlt : 0 < (L s).length := by rw [hL]; simp
      have h := step_eq s 0 0 k (by omega) (by omega) hlt
      have hb : ((L s)[0]'hlt).toNat = a + 128 := by
        have : (L s)[0]'hlt = UInt8.ofNat (a + 128) := by simp only [hL]; rfl
        rw [this]; exact u8_nat _ (by omega)
      simp only [hb] at h
      rw [if_neg (by omega), if_neg (by omega), if_neg (by omega), show 0 * 128 + (a + 128) % 128 = a by omega] at h
      simp only [List.length_cons, List.length_nil]
      exact h
    · have hh := hiG_hi c
      have hlen : (hiG a).length = (hiG (a / 128)).length + 1 := by rw [hh, List.length_append]; rfl
      have hL2 : L s = hiG (a / 128) ++ (UInt8.ofNat (a % 128 + 128) :: rest) := by rw [hL, hh, List.append_assoc]; rfl
      have hr := ih (a / 128) (by omega) (k + 2) _ (by omega) (by omega) hL2 (by omega)
      rw [hlen, show k + 2 * ((hiG (a / 128)).length + 1) = k + 2 + 2 * (hiG (a / 128)).length by omega, hr]
      have hlt : (hiG (a / 128)).length < (L s).length := by rw [hL2, List.length_append]; simp
      have h := step_eq s (a / 128) (hiG (a / 128)).length k (by omega) (by omega) hlt
      have hb : ((L s)[(hiG (a / 128)).length]'hlt).toNat = a % 128 + 128 := by
        have : (L s)[(hiG (a / 128)).length]'hlt = UInt8.ofNat (a % 128 + 128) := by
          simp only [hL2]
          rw [List.getElem_append_right (Nat.le_refl _)]
          simp
        rw [this]; exact u8_nat _ (by omega)
      simp only [hb] at h
      have hp := hiG_pos (a / 128)
      rw [h, if_neg (by omega), if_neg (by omega), if_neg (by omega), show a / 128 * 128 + (a % 128 + 128) % 128 = a by omega]
theorem read_grp (s : ByteArray) (v k : Nat) (rest : List UInt8) (hv : v ≤ 4294967295) (hL : L s = grp v ++ rest) (hk : 20 ≤ k) : octet_groups.f k s 4294967295 = some ((v : Int), ((grp v).length : Int), 0) := by
  have hgl := grp_len v hv
  unfold octet_groups.f
  by_cases c : v < 128
  · have hg : grp v = [UInt8.ofNat v] := by unfold grp; rw [if_pos c]
    rw [hg] at hL ⊢
    obtain ⟨k, rfl⟩ : ∃ m, k = m + 2 := ⟨k - 2, by omega⟩
    have hlt : 0 < (L s).length := by rw [hL]; simp
    have h := step_eq s 0 0 k (by omega) (by omega) hlt
    have hb : ((L s)[0]'hlt).toNat = v := by
      have : (L s)[0]'hlt = UInt8.ofNat v := by simp only [hL]; rfl
      rw [this]; exact u8_nat _ (by omega)
    simp only [hb] at h
    rw [if_neg (by omega), if_neg (by omega), if_pos c, show 0 * 128 + v % 128 = v by omega] at h
    exact h
  · have hg : grp v = hiG (v / 128) ++ [UInt8.ofNat (v % 128)] := by unfold grp; rw [if_neg c]
    have hlen : (grp v).length = (hiG (v / 128)).length + 1 := by rw [hg, List.length_append]; rfl
    have hL2 : L s = hiG (v / 128) ++ (UInt8.ofNat (v % 128) :: rest) := by rw [hL, hg, List.append_assoc]; rfl
    obtain ⟨k, rfl⟩ : ∃ m, k = m + 2 + 2 * (hiG (v / 128)).length := ⟨k - 2 - 2 * (hiG (v / 128)).length, by omega⟩
    rw [read_hi s (v / 128) (k + 2) _ (by omega) (by omega) hL2 (by omega)]
    have hlt : (hiG (v / 128)).length < (L s).length := by rw [hL2, List.length_append]; simp
    have h := step_eq s (v / 128) (hiG (v / 128)).length k (by omega) (by omega) hlt
    have hb : ((L s)[(hiG (v / 128)).length]'hlt).toNat = v % 128 := by
      have : (L s)[(hiG (v / 128)).length]'hlt = UInt8.ofNat (v % 128) := by
        simp only [hL2]
        rw [List.getElem_append_right (Nat.le_refl _)]
        simp
      rw [this]; exact u8_nat _ (by omega)
    simp only [hb] at h
    rw [h, if_neg (by omega), if_neg (by omega), if_pos (by omega), show v / 128 * 128 + v % 128 % 128 = v by omega, hlen]
/-- The groups of a number. -/
theorem pow128 : (128 : Int) ^ 0 = 1 ∧ (128 : Int) ^ 1 = 128 ∧ (128 : Int) ^ 2 = 16384 ∧ (128 : Int) ^ 3 = 2097152 ∧ (128 : Int) ^ 4 = 268435456 ∧ (128 : Int) ^ 5 = 34359738368 := by decide
theorem groups_eq (n : Nat) (h : n ≤ 4294967295) : octet_Groups.f (n : Int) = some (Bs (grp n), 0) := by
  obtain ⟨q0, q1, q2, q3, q4, q5⟩ := pow128
  have drop_range : ∀ k : Nat, k ≤ 8 → (gbytes (n : Int)).drop (8 - k) = (List.range' (8 - k) (k + 1)).map fun i => gbyte (n : Int) i := by
    intro k hk
    unfold gbytes
    rw [← List.map_drop, List.range_eq_range', List.drop_range']
    congr 2 <;> omega
  unfold octet_Groups.f
  rw [if_neg (by omega), if_pos (by omega)]
  congr 2
  apply L_inj
  rw [L_Bs]
  unfold gkOf
  unfold grp
  by_cases c0 : n < 128
  · have e : gkAt 8 (n : Int) 0 = 0 := by unfold gkAt; rw [if_neg (by rw [q1]; omega)]
    rw [e, drop_range 0 (by omega), if_pos c0]
    have b0 : gbyte (n : Int) 8 = (n : Int) := by unfold gbyte; simp only [Nat.sub_self, q0]; rw [if_neg (by omega)]; omega
    simp only [List.range', List.map_cons, List.map_nil, Nat.sub_zero, b0]
    rfl
  · rw [if_neg c0]
    have b0 : gbyte (n : Int) 8 = ((n % 128 : Nat) : Int) := by unfold gbyte; simp only [Nat.sub_self, q0]; rw [if_neg (by omega)]; omega
    by_cases c1 : n < 16384
    · have e : gkAt 8 (n : Int) 0 = 1 := by unfold gkAt; rw [if_pos (by rw [q1]; omega)]; unfold gkAt; rw [if_neg (by rw [q2]; omega)]
      rw [e, drop_range 1 (by omega), hiG_lo (by omega)]
      have b1 : gbyte (n : Int) 7 = ((n / 128 + 128 : Nat) : Int) := by unfold gbyte; simp only [show 8 - 7 = 1 from rfl, q1]; rw [if_pos (by omega)]; omega
      simp only [List.range', List.map_cons, List.map_nil, show 8 - 1 = 7 from rfl, show 7 + 1 = 8 from rfl, b0, b1]
      rfl
    · rw [hiG_hi (show ¬ n / 128 < 128 by omega)]
      have b1 : gbyte (n : Int) 7 = ((n / 128 % 128 + 128 : Nat) : Int) := by unfold gbyte; simp only [show 8 - 7 = 1 from rfl, q1]; rw [if_pos (by omega)]; omega
      by_cases c2 : n < 2097152
      · have e : gkAt 8 (n : Int) 0 = 2 := by unfold gkAt; rw [if_pos (by rw [q1]; omega)]; unfold gkAt; rw [if_pos (by rw [q2]; omega)]; unfold gkAt; rw [if_neg (by rw [q3]; omega)]
        rw [e, drop_range 2 (by omega), hiG_lo (by omega)]
        have b2 : gbyte (n : Int) 6 = ((n / 128 / 128 + 128 : Nat) : Int) := by unfold gbyte; simp only [show 8 - 6 = 2 from rfl, q2]; rw [if_pos (by omega)]; omega
        simp only [List.range', List.map_cons, List.map_nil, show 8 - 2 = 6 from rfl, show 6 + 1 = 7 from rfl, show 7 + 1 = 8 from rfl, b0, b1, b2]
        rfl
      · rw [hiG_hi (show ¬ n / 128 / 128 < 128 by omega)]
        have b2 : gbyte (n : Int) 6 = ((n / 128 / 128 % 128 + 128 : Nat) : Int) := by unfold gbyte; simp only [show 8 - 6 = 2 from rfl, q2]; rw [if_pos (by omega)]; omega
        by_cases c3 : n < 268435456
        · have e : gkAt 8 (n : Int) 0 = 3 := by unfold gkAt; rw [if_pos (by rw [q1]; omega)]; unfold gkAt; rw [if_pos (by rw [q2]; omega)]; unfold gkAt; rw [if_pos (by rw [q3]; omega)]; unfold gkAt; rw [if_neg (by rw [q4]; omega)]
          rw [e, drop_range 3 (by omega), hiG_lo (by omega)]
          have b3 : gbyte (n : Int) 5 = ((n / 128 / 128 / 128 + 128 : Nat) : Int) := by unfold gbyte; simp only [show 8 - 5 = 3 from rfl, q3]; rw [if_pos (by omega)]; omega
          simp only [List.range', List.map_cons, List.map_nil, show 8 - 3 = 5 from rfl, show 5 + 1 = 6 from rfl, show 6 + 1 = 7 from rfl, show 7 + 1 = 8 from rfl, b0, b1, b2, b3]
          rfl
        · have e : gkAt 8 (n : Int) 0 = 4 := by unfold gkAt; rw [if_pos (by rw [q1]; omega)]; unfold gkAt; rw [if_pos (by rw [q2]; omega)]; unfold gkAt; rw [if_pos (by rw [q3]; omega)]; unfold gkAt; rw [if_pos (by rw [q4]; omega)]; unfold gkAt; rw [if_neg (by rw [q5]; omega)]
          rw [e, drop_range 4 (by omega), hiG_hi (show ¬ n / 128 / 128 / 128 < 128 by omega), hiG_lo (by omega)]
          have b3 : gbyte (n : Int) 5 = ((n / 128 / 128 / 128 % 128 + 128 : Nat) : Int) := by unfold gbyte; simp only [show 8 - 5 = 3 from rfl, q3]; rw [if_pos (by omega)]; omega
          have b4 : gbyte (n : Int) 4 = ((n / 128 / 128 / 128 / 128 + 128 : Nat) : Int) := by unfold gbyte; simp only [show 8 - 4 = 4 from rfl, q4]; rw [if_pos (by omega)]; omega
          simp only [List.range', List.map_cons, List.map_nil, show 4 + 1 = 5 from rfl, show 5 + 1 = 6 from rfl, show 6 + 1 = 7 from rfl, show 7 + 1 = 8 from rfl, b0, b1, b2, b3, b4]
          rfl
end Go.Proofs.YtjcenencgnfffaaDoor.OidS
