/- A time's stamp is read as that time, with Z, and by any clock that shows no year below 1970; so is a span that spells a number. -/
import Derived.Test.YtjcenencgnfffaaDoorBStpParseB
import Derived.Test.YtjcenencgnfffaaDoorBStpShift
import Derived.Test.YtjcenencgnfffaaDoorBStpSpan
import Derived.Test.YtjcenencgnfffaaDoorBStpSpell
import Derived.Test.YtjcenencgnfffaaDoorBStpBelow
namespace Go.Proofs.YtjcenencgnfffaaDoor.Pure
open Go.RowKit Gong Go.Proofs.YtjcenencgnfffaaDoor.StpS Go.Proofs.YtjcenencgnfffaaDoor.XStB Go.Proofs.YtjcenencgnfffaaDoor.DecS Go.Proofs.YtjcenencgnfffaaDoorW.PrintWords Go.Proofs.YtjcenencgnfffaaDoorW.PrintLast Go.Proofs.YtjcenencgnfffaaDoorW.PrintMore
set_option linter.unusedVariables false
set_option linter.unusedSimpArgs false
theorem back_loop (n : Int) (n0 : 0 ≤ n) (n1 : n < 1000000000) : ∀ (d i k : Nat), i + d = 4 → d < k → gonglaw03_StampBack.l0 k n [1, 1000, 1000000, 1000000000] 4 (i : Int) = some true := by
  intro d
  induction d with
  | zero =>
    intro i k hi hk
    obtain ⟨k, rfl⟩ : ∃ m, k = m + 1 := ⟨k - 1, by omega⟩
    simp only [gonglaw03_StampBack.l0]
    rw [if_neg (by omega)]
  | succ d ih =>
    intro i k hi hk
    obtain ⟨k, rfl⟩ : ∃ m, k = m + 1 := ⟨k - 1, by omega⟩
    have hi3 : i = 0 ∨ i = 1 ∨ i = 2 ∨ i = 3 := by omega
    obtain ⟨b, hb, hbv⟩ : ∃ b, rd [1, 1000, 1000000, 1000000000] (i : Int) = b ∧ (b = 1 ∨ b = 1000 ∨ b = 1000000 ∨ b = 1000000000) := by
      rcases hi3 with rfl | rfl | rfl | rfl <;> exact ⟨_, rfl, by decide⟩
    have hw : wrap64 ((i : Int) + 1) = ((i + 1 : Nat) : Int) := by rw [wrap_id (by omega) (by omega)]; rfl
    have hr : 0 ≤ n * b ∧ n * b ≤ 999999999000000000 := by rcases hbv with rfl | rfl | rfl | rfl <;> omega
    simp only [gonglaw03_StampBack.l0]
    rw [if_pos (by omega), if_pos (by omega), if_pos (by simp only [List.length_cons, List.length_nil]; omega), hb, wrap_id (x := n * b) (by omega) (by omega), hw, ih (i + 1) k (by omega) (by omega), spell_eq, Option.bind_some]
    obtain ⟨w, hsp⟩ := spell_few n b n0 (by omega) hbv
    have hl := spellL_len (n * b) w hr.1 (by omega) hsp
    have hback := span_spell (n * b) hr.1 (by omega) w hsp
    have e1 : spellR (n * b) = (Bs w, 0) := by
      unfold spellR
      rw [if_neg (by omega), hsp]
    have e2 : spanR (L (Bs w)) = (n * b, 0) := by
      unfold spanR
      rw [L_Bs, hback]
    rw [e1]
    simp only
    rw [span_eq (Bs w) (by rw [Bs_size]; omega), Option.bind_some, e2]
    simp
theorem StampBack (a0 a1 a2 : Int) (w0 : (Lit.int .i64 a0).wf = true) (w1 : (Lit.int .i64 a1).wf = true) (w2 : (Lit.int .i64 a2).wf = true) : ∃ k, gonglaw03_StampBack.f k a0 a1 a2 = some true := by
  obtain ⟨k, hk⟩ : ∃ k : Nat, 1000 ≤ k := ⟨_, Nat.le_refl _⟩
  refine ⟨k + 2, ?_⟩
  obtain ⟨t, t0, t1, ht⟩ := below_eq a0 2305843009213693953 (by omega) (by omega)
  obtain ⟨m, m0, m1, hm⟩ := below_eq a1 2879 (by omega) (by omega)
  obtain ⟨n, n0, n1, hn⟩ := below_eq a2 1000000000 (by omega) (by omega)
  obtain ⟨l, hl, hp⟩ := print_eq t t0 (by omega) (k + 2) (by omega)
  have hll := hl.len
  have f1 := fracL_len (t % 1000000000).toNat
  have b1 : stampL (l ++ (fracL (t % 1000000000).toNat ++ [90])) = some t := shows_back (z := 0) (by rw [Int.zero_mul, Int.add_zero]; exact hl) t0 (by omega) (by omega) (by omega) [90] zoneZ_head rfl
  have p1 := parse_eq (Bs (l ++ (fracL (t % 1000000000).toNat ++ [90]))) (by rw [Bs_size, List.length_append, List.length_append, hll, List.length_singleton]; omega) (k + 2) (by omega)
  rw [L_Bs, show stampR (l ++ (fracL (t % 1000000000).toNat ++ [90])) = (t, 0) from by unfold stampR; rw [b1]] at p1
  unfold gonglaw03_StampBack.f
  rw [works_at (k + 2) (by omega), Option.bind_some, if_pos rfl, ht, hm, Option.bind_some, Option.bind_some, hp, Option.bind_some]
  simp only
  rw [p1, Option.bind_some]
  simp only [if_true]
  rw [wrap_id (x := m - 1439) (by omega) (by omega)]
  have hne : (t != t) = false := by simp
  rw [hne]
  have hfin : gonglaw03_StampBack.j1 (k + 1) a2 = some true := by
    simp only [gonglaw03_StampBack.j1]
    rw [hn, Option.bind_some, Option.bind_some]
    exact back_loop n n0 n1 4 0 k (by omega) (by omega)
  simp only [gonglaw03_StampBack.j0]
  rw [if_neg (by decide), hfin]
  rcases shifted_eq t (m - 1439) t0 (by omega) (by omega) (by omega) (k + 1) (by omega) with ⟨h1, h2⟩ | ⟨h1, o, ho, h2⟩
  · rw [h2, Option.bind_some]
    simp only
    rw [if_neg (by decide), if_neg (by omega), if_neg (by omega)]
  · have hol := ho.len
    have b2 : stampL (o ++ (fracL (t % 1000000000).toNat ++ zoneT (m - 1439))) = some t := shows_back ho t0 (by omega) (by omega) h1 _ (zoneT_head _) (zoneT_back _ (by omega))
    have hzl : (zoneT (m - 1439)).length = 6 := by unfold zoneT; simp [digsN_len]
    have p2 := parse_eq (Bs (o ++ (fracL (t % 1000000000).toNat ++ zoneT (m - 1439)))) (by rw [Bs_size, List.length_append, List.length_append, hol, hzl]; omega) (k + 1) (by omega)
    rw [L_Bs, show stampR (o ++ (fracL (t % 1000000000).toNat ++ zoneT (m - 1439))) = (t, 0) from by unfold stampR; rw [b2]] at p2
    rw [h2, Option.bind_some]
    simp only [if_true]
    rw [p2, Option.bind_some]
    simp
end Go.Proofs.YtjcenencgnfffaaDoor.Pure
