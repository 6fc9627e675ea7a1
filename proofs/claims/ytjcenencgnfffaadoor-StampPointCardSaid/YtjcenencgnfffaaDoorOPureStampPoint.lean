/- Noughts behind the digits of a second's part change nothing, as long as there are at most nine; one digit more is none. -/
import Derived.Test.YtjcenencgnfffaaDoorOPureStampOrder
namespace Go.Proofs.YtjcenencgnfffaaDoor.Pure
open Go.RowKit Gong Go.Proofs.YtjcenencgnfffaaDoor.StpS Go.Proofs.YtjcenencgnfffaaDoor.XStO Go.Proofs.YtjcenencgnfffaaDoor.DecS Go.Proofs.YtjcenencgnfffaaDoorW.PrintWords Go.Proofs.YtjcenencgnfffaaDoorW.PrintLast Go.Proofs.YtjcenencgnfffaaDoorW.PrintMore
set_option linter.unusedVariables false
set_option linter.unusedSimpArgs false
theorem point_loop (t many : Int) (l ds : List UInt8) (hl : Shows (t / 1000000000) l) (t0 : 0 ≤ t) (t1 : t ≤ 2305843009213693952) (hd : ∀ b ∈ ds, isD b = true) (hds : ds.length ≤ 9)
    (hv : ∀ i, 1 ≤ ds.length + i → ds.length + i ≤ 9 → val (ds ++ List.replicate i 48) * 10 ^ (9 - (ds ++ List.replicate i 48).length) = (t % 1000000000).toNat) :
    ∀ (d i k : Nat), i + d = 10 → d + 300 ≤ k → gonglaw03_StampPoint.l0 k t many (Bs (l ++ 46 :: (ds ++ List.replicate i 48))) (i : Int) = some true := by
  intro d
  have hll := hl.len
  induction d with
  | zero =>
    intro i k hi hk
    obtain ⟨k, rfl⟩ : ∃ m, k = m + 1 := ⟨k - 1, by omega⟩
    simp only [gonglaw03_StampPoint.l0]
    rw [if_neg (by omega)]
  | succ d ih =>
    intro i k hi hk
    obtain ⟨k, rfl⟩ : ∃ m, k = m + 1 := ⟨k - 1, by omega⟩
    obtain ⟨q, q0, q1, hq⟩ := below_eq many 10 (by omega) (by omega)
    have hsz : (Bs (l ++ 46 :: (ds ++ List.replicate i 48))).size = 20 + (ds.length + i) := by
      rw [Bs_size, List.length_append, List.length_cons, List.length_append, List.length_replicate, hll]
      omega
    have hD : ∀ b ∈ ds ++ List.replicate i 48, isD b = true := by
      intro b hb
      rcases List.mem_append.1 hb with hb | hb
      · exact hd b hb
      · rw [(List.mem_replicate.1 hb).2]; decide
    have hDl : (ds ++ List.replicate i 48).length = ds.length + i := by rw [List.length_append, List.length_replicate]
    have hx : Bs (l ++ 46 :: (ds ++ List.replicate i 48)) ++ (⟨#[90]⟩ : ByteArray) = Bs (l ++ 46 :: ((ds ++ List.replicate i 48) ++ [90])) := by
      rw [lit_Bs, Bs_app]
      simp
    have hn : Bs (l ++ 46 :: (ds ++ List.replicate i 48)) ++ (⟨#[48]⟩ : ByteArray) = Bs (l ++ 46 :: (ds ++ List.replicate (i + 1) 48)) := by
      rw [lit_Bs, Bs_app, List.replicate_succ']
      simp
    have hpe := parse_eq (Bs (l ++ 46 :: ((ds ++ List.replicate i 48) ++ [90]))) (by rw [Bs_size, List.length_append, List.length_cons, List.length_append, hDl, hll, List.length_singleton]; omega) k (by omega)
    rw [L_Bs] at hpe
    have hnext := ih (i + 1) k (by omega) (by omega)
    have hw : wrap64 ((i : Int) + 1) = ((i + 1 : Nat) : Int) := by rw [wrap_id (by omega) (by omega)]; rfl
    simp only [gonglaw03_StampPoint.l0]
    rw [if_pos (by omega), if_pos (by omega), hx, hpe, Option.bind_some, hq, Option.bind_some, hn, hw, hnext, hsz]
    unfold stampR
    by_cases c0 : ds.length + i = 0
    · have e : ds ++ List.replicate i 48 = [] := List.eq_nil_of_length_eq_zero (by rw [hDl]; exact c0)
      rw [e, show ([] : List UInt8) ++ [90] = [90] from rfl, point_none hl (by omega) (by omega)]
      simp only [if_true, ite_self]
      rw [if_neg (show ¬ (((20 + (ds.length + i) : Nat) : Int) > 20) by omega)]
      simp
    · by_cases c1 : ds.length + i ≤ 9
      · have hvi := hv i (by omega) c1
        rw [point_ok hl t0 t1 _ hD (fun e => by rw [e] at hDl; simp at hDl; omega) (by omega) (by rw [hvi, Int.toNat_of_nonneg (by omega)])]
        simp only [if_true]
        rw [if_pos (show (((20 + (ds.length + i) : Nat) : Int) > 20) by omega), if_pos (show (((20 + (ds.length + i) : Nat) : Int) ≤ 29) by omega), if_neg (show ¬ (((20 + (ds.length + i) : Nat) : Int) = 20) by omega), if_neg (show ¬ (((20 + (ds.length + i) : Nat) : Int) > 29) by omega)]
        simp
      · rw [point_many hl (by omega) (by omega) _ hD (by omega)]
        simp only [if_true]
        rw [if_pos (show (((20 + (ds.length + i) : Nat) : Int) > 20) by omega), if_neg (show ¬ (((20 + (ds.length + i) : Nat) : Int) ≤ 29) by omega), if_neg (show ¬ (((20 + (ds.length + i) : Nat) : Int) = 20) by omega), if_pos (show (((20 + (ds.length + i) : Nat) : Int) > 29) by omega)]
        simp
theorem StampPoint (a0 a1 : Int) (w0 : (Lit.int .i64 a0).wf = true) (w1 : (Lit.int .i64 a1).wf = true) : ∃ k, gonglaw03_StampPoint.f k a0 a1 = some true := by
  obtain ⟨k, hk⟩ : ∃ k : Nat, 1000 ≤ k := ⟨_, Nat.le_refl _⟩
  refine ⟨k + 1, ?_⟩
  obtain ⟨t, t0, t1, ht⟩ := below_eq a0 2305843009213693953 (by omega) (by omega)
  obtain ⟨l, hl, hp⟩ := print_eq t t0 (by omega) (k + 1) (by omega)
  have hll := hl.len
  have f1 := fracL_len (t % 1000000000).toNat
  have hsz : (Bs (l ++ (fracL (t % 1000000000).toNat ++ [90]))).size = 20 + (fracL (t % 1000000000).toNat).length := by
    rw [Bs_size, List.length_append, List.length_append, List.length_singleton, hll]
    omega
  have hcut : (Bs (l ++ (fracL (t % 1000000000).toNat ++ [90]))).extract 0 ((((20 + (fracL (t % 1000000000).toNat).length : Nat) : Int) - 1) : Int).toNat = Bs (l ++ fracL (t % 1000000000).toNat) := by
    apply L_inj
    rw [L_take, L_Bs, L_Bs, ← List.append_assoc]
    exact List.take_left' (by rw [List.length_append, hll]; omega)
  unfold gonglaw03_StampPoint.f
  rw [works_at (k + 1) (by omega), Option.bind_some, if_pos rfl, ht, Option.bind_some, hp, Option.bind_some]
  simp only [if_true]
  rw [hsz, wrap_id (by omega) (by omega), hcut, if_pos (by omega), if_pos (by omega), Bs_size, List.length_append, hll]
  by_cases c : (t % 1000000000).toNat = 0
  · have hf : fracL (t % 1000000000).toNat = [] := by unfold fracL; rw [if_pos c]
    rw [hf, if_pos (by simp), if_pos (by simp), List.append_nil, lit_Bs, Bs_app]
    simp only [gonglaw03_StampPoint.j0]
    have := point_loop t a1 l [] hl t0 (by omega) (by simp) (by simp) (fun i h1 h2 => by
      rw [List.nil_append, c]
      have h := val_app0 [] i
      rw [List.nil_append, show val [] = 0 from rfl, Nat.zero_mul] at h
      rw [h, Nat.zero_mul]) 10 0 k (by omega) (by omega)
    simpa using this
  · obtain ⟨ds, hf, hd, hne, hdl, hv⟩ := frac_digs (show (t % 1000000000).toNat < 1000000000 by omega) c
    have hp2 := List.length_pos_iff.2 hne
    rw [hf, if_neg (by rw [List.length_cons]; omega)]
    simp only [gonglaw03_StampPoint.j0]
    have := point_loop t a1 l ds hl t0 (by omega) hd hdl (fun i _ h2 => hv i h2) 10 0 k (by omega) (by omega)
    simpa using this
end Go.Proofs.YtjcenencgnfffaaDoor.Pure
