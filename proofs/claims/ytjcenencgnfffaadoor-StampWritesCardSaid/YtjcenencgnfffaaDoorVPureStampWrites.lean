/- The stamp of any time, by any clock, and the span that spells any number, are those of the document. -/
import Derived.Test.YtjcenencgnfffaaDoorVStpRef
import Derived.Test.YtjcenencgnfffaaDoorVStpParseB
import Derived.Test.YtjcenencgnfffaaDoorVStpShift
import Derived.Test.YtjcenencgnfffaaDoorVStpSpell
namespace Go.Proofs.YtjcenencgnfffaaDoor.StpS
open Go.RowKit Gong Go.Proofs.YtjcenencgnfffaaDoor.XStW Go.Proofs.YtjcenencgnfffaaDoor.DecS Go.Proofs.YtjcenencgnfffaaDoorW.PrintWords Go.Proofs.YtjcenencgnfffaaDoorW.PrintLast Go.Proofs.YtjcenencgnfffaaDoorW.PrintMore
set_option linter.unusedVariables false
set_option linter.unusedSimpArgs false
theorem print_same (t : Int) (k : Nat) (hk : 1000 ≤ k) : ∃ r, stamp_Print.f k t = some r ∧ gongref03_Print.f k t = some r := by
  by_cases c0 : t < 0
  · refine ⟨(⟨#[]⟩, 1), ?_, ?_⟩
    · unfold stamp_Print.f
      rw [if_pos c0]
    · unfold gongref03_Print.f
      rw [if_pos c0]
  · by_cases c1 : t > 2305843009213693952
    · refine ⟨(⟨#[]⟩, 1), ?_, ?_⟩
      · unfold stamp_Print.f
        rw [if_neg c0, if_pos c1]
      · unfold gongref03_Print.f
        rw [if_neg c0, if_pos c1]
    · obtain ⟨l, hl, hp⟩ := print_eq t (by omega) (by omega) k (by omega)
      refine ⟨_, hp, ?_⟩
      obtain ⟨o, ho, hr⟩ := rclock_eq (t / 1000000000) (t % 1000000000) (by omega) (by omega) (by omega) (by omega) k (by omega)
      have hs := hl.same ho
      subst hs
      have hll := hl.len
      have hf := fracL_len (t % 1000000000).toNat
      unfold gongref03_Print.f
      rw [if_neg c0, if_neg c1, tdiv_nn (by omega), tmod_nn (by omega), wrap_id (by omega) (by omega), hr, Option.bind_some, if_pos (by rw [Bs_size, List.length_append, hll]; omega), lit_Bs, Bs_app, List.append_assoc]
theorem rshifted_eq (t m : Int) (t0 : 0 ≤ t) (t1 : t ≤ 2305843009213693952) (m0 : -1439 ≤ m) (m1 : m ≤ 1439) (k : Nat) (hk : 900 ≤ k) :
    (t / 1000000000 + m * 60 < 0 → gongref03_Shifted.f k t m = some (⟨#[]⟩, 1)) ∧ ∀ l, 0 ≤ t / 1000000000 + m * 60 → Shows (t / 1000000000 + m * 60) l → gongref03_Shifted.f k t m = some (Bs (l ++ (fracL (t % 1000000000).toNat ++ zoneT m)), 0) := by
  obtain ⟨k, rfl⟩ : ∃ j, k = j + 1 := ⟨k - 1, by omega⟩
  have e2 : ((2 : Nat) : Int) = 2 := rfl
  unfold gongref03_Shifted.f
  rw [if_neg (by omega), if_neg (by omega), if_neg (by omega), if_neg (by omega), tdiv_nn t0, wrap_id (x := t / 1000000000) (by omega) (by omega), wrap_id (x := m * 60) (by omega) (by omega), wrap_id (x := t / 1000000000 + m * 60) (by omega) (by omega)]
  constructor
  · intro c
    rw [decide_eq_true c]
    simp only [gongref03_Shifted.j0, if_true]
  · intro l c hl
    rw [decide_eq_false (by omega)]
    simp only [gongref03_Shifted.j0]
    rw [if_neg (by decide), tdiv_nn t0, tmod_nn t0, wrap_id (x := t / 1000000000) (by omega) (by omega), wrap_id (x := m * 60) (by omega) (by omega), wrap_id (x := t / 1000000000 + m * 60) (by omega) (by omega)]
    obtain ⟨o, ho, hw⟩ := rclock_eq (t / 1000000000 + m * 60) (t % 1000000000) (by omega) (by omega) (by omega) (by omega) k (by omega)
    have hs := hl.same ho
    subst hs
    have hll := hl.len
    have hf := fracL_len (t % 1000000000).toNat
    have hsz : (Bs (l ++ fracL (t % 1000000000).toNat)).size ≤ 29 := by rw [Bs_size, List.length_append, hll]; omega
    by_cases d : m < 0
    · have d1 := rdigits_eq (-m / 60) 2 (by omega) (by omega) (by omega) k (by omega)
      have d2 := rdigits_eq (-m % 60) 2 (by omega) (by omega) (by omega) k (by omega)
      rw [e2] at d1 d2
      rw [if_pos d, hw, Option.bind_some, wrap_id (x := -m) (by omega) (by omega), tdiv_nn (by omega), tmod_nn (by omega), wrap_id (x := -m / 60) (by omega) (by omega), d1, d2, Option.bind_some, Option.bind_some,
        if_pos (by omega), lit_Bs, lit_Bs, Bs_app, if_pos (by simp only [Bs_size, List.length_append, digsN_len, List.length_singleton] at hsz ⊢; omega), Bs_app, if_pos (by simp only [Bs_size, List.length_append, digsN_len, List.length_singleton] at hsz ⊢; omega), Bs_app, if_pos (by simp only [Bs_size, List.length_append, digsN_len, List.length_singleton] at hsz ⊢; omega), Bs_app]
      congr 3
      unfold zoneT
      rw [if_pos d, show m.natAbs / 60 = (-m / 60).toNat from by omega, show m.natAbs % 60 = (-m % 60).toNat from by omega]
      simp
    · have d1 := rdigits_eq (m / 60) 2 (by omega) (by omega) (by omega) k (by omega)
      have d2 := rdigits_eq (m % 60) 2 (by omega) (by omega) (by omega) k (by omega)
      rw [e2] at d1 d2
      rw [if_neg d, hw, Option.bind_some, tdiv_nn (by omega), tmod_nn (by omega), wrap_id (x := m / 60) (by omega) (by omega), d1, d2, Option.bind_some, Option.bind_some,
        if_pos (by omega), lit_Bs, lit_Bs, Bs_app, if_pos (by simp only [Bs_size, List.length_append, digsN_len, List.length_singleton] at hsz ⊢; omega), Bs_app, if_pos (by simp only [Bs_size, List.length_append, digsN_len, List.length_singleton] at hsz ⊢; omega), Bs_app, if_pos (by simp only [Bs_size, List.length_append, digsN_len, List.length_singleton] at hsz ⊢; omega), Bs_app]
      congr 3
      unfold zoneT
      rw [if_neg d, show m.natAbs / 60 = (m / 60).toNat from by omega, show m.natAbs % 60 = (m % 60).toNat from by omega]
      simp
theorem shifted_same (t m : Int) (k : Nat) (hk : 1000 ≤ k) : ∃ r, stamp_Shifted.f k t m = some r ∧ gongref03_Shifted.f k t m = some r := by
  by_cases c : 0 ≤ t ∧ t ≤ 2305843009213693952 ∧ -1439 ≤ m ∧ m ≤ 1439
  · obtain ⟨t0, t1, m0, m1⟩ := c
    have hr := rshifted_eq t m t0 t1 m0 m1 k (by omega)
    rcases shifted_eq t m t0 t1 m0 m1 k (by omega) with ⟨h1, h2⟩ | ⟨h1, l, hl, h2⟩
    · exact ⟨_, h2, hr.1 h1⟩
    · exact ⟨_, h2, hr.2 l h1 hl⟩
  · obtain ⟨k, rfl⟩ : ∃ j, k = j + 1 := ⟨k - 1, by omega⟩
    have p1 : stamp_Shifted.j0 (k + 1) t m true = some (⟨#[]⟩, 1) := by simp only [stamp_Shifted.j0, if_true]
    have p2 : gongref03_Shifted.j0 (k + 1) t m true = some (⟨#[]⟩, 1) := by simp only [gongref03_Shifted.j0, if_true]
    refine ⟨(⟨#[]⟩, 1), ?_, ?_⟩
    · unfold stamp_Shifted.f
      by_cases c0 : t < 0
      · rw [if_pos c0, p1]
      · rw [if_neg c0]
        by_cases c1 : t > 2305843009213693952
        · rw [if_pos c1, p1]
        · rw [if_neg c1]
          by_cases c2 : m < -1439
          · rw [if_pos c2, p1]
          · rw [if_neg c2, decide_eq_true (by omega), p1]
    · unfold gongref03_Shifted.f
      by_cases c0 : t < 0
      · rw [if_pos c0, p2]
      · rw [if_neg c0]
        by_cases c1 : t > 2305843009213693952
        · rw [if_pos c1, p2]
        · rw [if_neg c1]
          by_cases c2 : m < -1439
          · rw [if_pos c2, p2]
          · rw [if_neg c2, if_pos (by omega), p2]
theorem dd_len : ∀ (m n : Nat), n < 10 ^ (m + 1) → (Lib.decDigits n).length ≤ m + 1 := by
  intro m
  induction m with
  | zero => intro n h; rw [dd_one n (by omega)]; exact Nat.le_refl _
  | succ m ih =>
    intro n h
    by_cases c : n < 10
    · rw [dd_one n c]; simp
    · rw [dd_step n c, List.length_append]
      have := ih (n / 10) (by rw [Nat.pow_succ] at h; omega)
      simp only [List.length_cons, List.length_nil]
      omega
theorem rtext_loop : ∀ (d n : Nat) (acc : List UInt8) (k : Nat), n < 10 ^ (d + 1) → n ≤ 4611686018427387904 → acc.length ≤ 100 → acc.length + d ≤ 100 → d < k → gongref03_text.l0 k (n : Int) (Bs (UInt8.ofNat (48 + n % 10) :: acc)) = some (Bs (Lib.decDigits n ++ acc)) := by
  intro d
  induction d with
  | zero =>
    intro n acc k hn hm ha hd hk
    obtain ⟨k, rfl⟩ : ∃ m, k = m + 1 := ⟨k - 1, by omega⟩
    simp only [gongref03_text.l0]
    rw [if_neg (by omega), dd_one n (by omega), Nat.mod_eq_of_lt (by omega)]
    rfl
  | succ d ih =>
    intro n acc k hn hm ha hd hk
    obtain ⟨k, rfl⟩ : ∃ m, k = m + 1 := ⟨k - 1, by omega⟩
    simp only [gongref03_text.l0]
    by_cases c : (n : Int) ≥ 10
    · rw [if_pos c, tdiv_nn (by omega), wrap_id (x := (n : Int) / 10) (by omega) (by omega), tmod_nn (by omega), Option.bind_some, one_byte ((n : Int) / 10 % 10) (by omega) (by omega), if_pos (by rw [Bs_size, Bs_size, List.length_singleton, List.length_cons]; omega), Bs_app,
        show (n : Int) / 10 = ((n / 10 : Nat) : Int) from by omega, show (((n / 10 : Nat) : Int) % 10).toNat = n / 10 % 10 from by omega]
      have := ih (n / 10) (UInt8.ofNat (48 + n % 10) :: acc) k (by rw [Nat.pow_succ] at hn; omega) (by omega) (by rw [List.length_cons]; omega) (by rw [List.length_cons]; omega) (by omega)
      rw [show [UInt8.ofNat (48 + n / 10 % 10)] ++ UInt8.ofNat (48 + n % 10) :: acc = UInt8.ofNat (48 + n / 10 % 10) :: UInt8.ofNat (48 + n % 10) :: acc from rfl, this, dd_step n (by omega)]
      simp
    · rw [if_neg c, dd_one n (by omega), Nat.mod_eq_of_lt (by omega)]
      rfl
theorem rtext_eq (n : Int) (h0 : 0 ≤ n) (h1 : n ≤ 2305843009213693952) (k : Nat) (hk : 30 ≤ k) : gongref03_text.f k n = some (Bs (Lib.decDigits n.toNat)) := by
  obtain ⟨m, rfl⟩ := Int.eq_ofNat_of_zero_le h0
  unfold gongref03_text.f
  rw [tmod_nn h0, one_byte ((m : Int) % 10) (by omega) (by omega), show ((m : Int) % 10).toNat = m % 10 from by omega, Int.toNat_natCast]
  have := rtext_loop 19 m [] k (by omega) (by omega) (by simp) (by simp) (by omega)
  rw [List.append_nil] at this
  exact this
theorem rspell_loop (n : Int) (n0 : 0 < n) (n1 : n ≤ 2305843009213693952) : ∀ (d i k : Nat), i + d = 7 → 2 * d + 40 ≤ k →
    gongref03_Spell.l0 k n [(⟨#[100]⟩ : ByteArray), (⟨#[104]⟩ : ByteArray), (⟨#[109]⟩ : ByteArray), (⟨#[115]⟩ : ByteArray), (⟨#[109, 115]⟩ : ByteArray), (⟨#[117, 115]⟩ : ByteArray), (⟨#[110, 115]⟩ : ByteArray)] [86400000000000, 3600000000000, 60000000000, 1000000000, 1000000, 1000, 1] (i : Int)
      = some (match findSpell (unitsL.drop i) n with | some w => (Bs w, 0) | none => (⟨#[]⟩, 1)) := by
  intro d
  induction d with
  | zero =>
    intro i k hi hk
    obtain ⟨k, rfl⟩ : ∃ m, k = m + 2 := ⟨k - 2, by omega⟩
    have : i = 7 := by omega
    subst this
    simp only [gongref03_Spell.l0]
    rw [if_neg (by decide)]
    simp only [gongref03_Spell.j2]
    rw [if_neg (by decide)]
    rfl
  | succ d ih =>
    intro i k hi hk
    obtain ⟨k, rfl⟩ : ∃ m, k = m + 2 := ⟨k - 2, by omega⟩
    obtain ⟨u, hu, hr, hn, hp, hl⟩ := runit_at i (by omega)
    have hih := ih (i + 1) k (by omega) (by omega)
    have hq0 : 0 ≤ n / u.2 := Int.ediv_nonneg (by omega) (by omega)
    have hq1 : n / u.2 ≤ n := Int.ediv_le_self _ (by omega)
    simp only [gongref03_Spell.l0]
    rw [if_pos (by simp only [List.length_cons, List.length_nil]; omega), decide_eq_true (by simp only [List.length_cons, List.length_nil]; omega)]
    simp only [gongref03_Spell.j2]
    rw [if_pos trivial, if_pos (by omega), if_pos (by simp only [List.length_cons, List.length_nil]; omega), hr, hn, if_neg (by omega), tmod_nn (by omega), tdiv_nn (by omega), hu, findSpell]
    by_cases c : n % u.2 = 0
    · rw [if_pos c, if_pos c]
      generalize n / u.2 = q at hq0 hq1 ⊢
      rw [wrap_id (x := q) (by omega) (by omega)]
      by_cases c2 : q > 999999999
      · rw [if_pos c2, if_pos c2]
      · rw [if_neg c2, if_neg c2, rtext_eq q hq0 (by omega) k (by omega), Option.bind_some, if_pos (by simp only [List.length_cons, List.length_nil]; omega)]
        have hlen : (Lib.decDigits q.toNat).length ≤ 20 := by
          exact dd_len 19 _ (by omega)
        rw [if_pos (by rw [Bs_size, Bs_size]; omega), Bs_app]
    · rw [if_neg c, if_neg c, wrap_id (x := (i : Int) + 1) (by omega) (by omega)]
      exact hih
theorem rspell_eq (n : Int) (k : Nat) (hk : 100 ≤ k) : gongref03_Spell.f k n = some (spellR n) := by
  obtain ⟨k, rfl⟩ : ∃ j, k = j + 1 := ⟨k - 1, by omega⟩
  unfold gongref03_Spell.f spellR spellL
  by_cases c0 : n < 0
  · rw [if_pos c0, if_pos (show n < 0 ∨ 2305843009213693952 < n from .inl c0)]
    simp only [gongref03_Spell.j0, if_true]
  · rw [if_neg c0]
    by_cases c1 : n > 2305843009213693952
    · rw [decide_eq_true c1, if_pos (show n < 0 ∨ 2305843009213693952 < n from .inr c1)]
      simp only [gongref03_Spell.j0, if_true]
    · rw [decide_eq_false c1, if_neg (show ¬ (n < 0 ∨ 2305843009213693952 < n) from fun h => h.elim c0 c1)]
      simp only [gongref03_Spell.j0]
      rw [if_neg (by decide)]
      by_cases c2 : n = 0
      · rw [if_pos c2, if_pos c2]
        rfl
      · rw [if_neg c2, if_neg c2]
        unfold gongref03_Units.f
        rw [Option.bind_some]
        exact rspell_loop n (by omega) (by omega) 7 0 k (by omega) (by omega)
end Go.Proofs.YtjcenencgnfffaaDoor.StpS
namespace Go.Proofs.YtjcenencgnfffaaDoor.Pure
open Go.RowKit Gong Go.Proofs.YtjcenencgnfffaaDoor.StpS Go.Proofs.YtjcenencgnfffaaDoor.XStW Go.Proofs.YtjcenencgnfffaaDoor.DecS Go.Proofs.YtjcenencgnfffaaDoorW.PrintWords Go.Proofs.YtjcenencgnfffaaDoorW.PrintLast Go.Proofs.YtjcenencgnfffaaDoorW.PrintMore
set_option linter.unusedVariables false
set_option linter.unusedSimpArgs false
theorem StampWrites (a0 a1 : Int) (w0 : (Lit.int .i64 a0).wf = true) (w1 : (Lit.int .i64 a1).wf = true) : ∃ k, gonglaw03_StampWrites.f k a0 a1 = some true := by
  obtain ⟨k, hk⟩ : ∃ k : Nat, 1000 ≤ k := ⟨_, Nat.le_refl _⟩
  refine ⟨k, ?_⟩
  obtain ⟨p, p1, p2⟩ := print_same a0 k hk
  obtain ⟨q, q1, q2⟩ := shifted_same a0 a1 k hk
  unfold gonglaw03_StampWrites.f
  rw [p1, p2, q1, q2, spell_eq, rspell_eq a0 k (by omega), works_at k (by omega)]
  simp
end Go.Proofs.YtjcenencgnfffaaDoor.Pure
