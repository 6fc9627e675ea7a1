/- The reference's framer, message by message, and what its bytes tell one by one. -/
import Derived.Test.YthacblokhhhlmaaDoorFrmRef
namespace Go.Proofs.YthacblokhhhlmaaDoor.FrmS
open Go.RowKit Gong Go.Proofs.YthacblokhhhlmaaDoor.XFf Go.Proofs.YthacblokhhhlmaaDoorW.PrintWords Go.Proofs.YthacblokhhhlmaaDoorW.PrintLast Go.Proofs.YthacblokhhhlmaaDoorW.PrintMore
set_option linter.unusedVariables false
set_option linter.unusedSimpArgs false
/-- The number at the beginning, and how many bytes it has with its blank; -1: it is not whole yet; -2: it is bad. -/
def headL (most : Int) : List UInt8 → Int → Nat → Int × Int
  | [], _, _ => (-1, 0)
  | b :: s, n, i =>
    if (b.toNat : Int) = 32 ∧ 0 < i then (n, (i : Int) + 1) else
    if (b.toNat : Int) < 48 ∨ 57 < (b.toNat : Int) ∨ (i = 0 ∧ (b.toNat : Int) = 48) then (-2, 0) else
    if n * 10 + ((b.toNat : Int) - 48) > most then (-2, 0) else headL most s (n * 10 + ((b.toNat : Int) - 48)) (i + 1)
/-- A framer that has read so many digits. -/
def hd (most d n : Int) (i : Nat) : Fm := ⟨most, if i = 0 then 0 else 1, n, (i : Int), [], d⟩
theorem hd_zero (most d : Int) : hd most d 0 0 = st most d := rfl
theorem wr4 (a b : Nat) (ha : a ≤ 1000000) (hb : b ≤ 2000000) : wrap64 ((a : Int) - (b : Int)) = (a : Int) - (b : Int) := by unfold wrap64; omega
theorem wr5 (a b : Nat) (ha : a ≤ 2000000) (hb : b ≤ 2000000) : wrap64 ((a : Int) + (b : Int)) = (a : Int) + (b : Int) := by unfold wrap64; omega
theorem wr6 (i : Nat) (h : i ≤ 3000000) : wrap64 ((i : Int) + 1) = ((i + 1 : Nat) : Int) := by unfold wrap64; omega
theorem wr1 (i : Nat) (h : i ≤ 1000000) : wrap64 ((i : Int) + 1) = ((i + 1 : Nat) : Int) := by unfold wrap64; omega
theorem wr2 (n b : Int) (h0 : 0 ≤ n) (h1 : n ≤ 65535) (h2 : 48 ≤ b) (h3 : b ≤ 57) : wrap64 (wrap64 (n * 10) + (b - 48) % 256) = n * 10 + (b - 48) := by unfold wrap64; omega
theorem wr3 (n b : Int) (h0 : 0 ≤ n) (h1 : n ≤ 65535) (h2 : 48 ≤ b) (h3 : b ≤ 57) : wrap64 (wrap64 (n * 10) + (b - 48)) = n * 10 + (b - 48) := by unfold wrap64; omega
theorem head_run (most d : Int) (m1 : 1 ≤ most) (m2 : most ≤ 65535) : ∀ (s : List UInt8) (n : Int) (i : Nat) (out : List ByteArray), ((i = 0 ∧ n = 0) ∨ (1 ≤ i ∧ 1 ≤ n ∧ n ≤ most ∧ (i : Int) ≤ n)) →
    (headL most s n i = (-2, 0) ∧ brun (hd most d n i) s out = (out, st most d |>.emptied 3)) ∨
    (headL most s n i = (-1, 0) ∧ ∃ F, brun (hd most d n i) s out = (out, F) ∧ F.state ≠ 3) ∨
    (∃ (n' : Int) (j : Nat), headL most s n i = (n', ((j + 1 : Nat) : Int)) ∧ 1 ≤ n' ∧ n' ≤ most ∧ i ≤ j ∧ 1 ≤ j ∧ (j : Int) ≤ n' ∧ j + 1 ≤ i + s.length ∧ brun (hd most d n i) s out = brun ⟨most, 2, n', (j : Int), [], d⟩ (s.drop (j + 1 - i)) out)
  | [], n, i, out, hi => .inr (.inl ⟨rfl, _, rfl, by unfold hd; simp only; split <;> decide⟩)
  | b :: s, n, i, out, hi => by
    have hb : (b.toNat : Int) ≤ 255 := by have := b.toNat_lt; omega
    have hst : (hd most d n i).state ≠ 2 := by unfold hd; simp only; split <;> decide
    have e : bstep (hd most d n i) b = if ((hd most d n i).head (b.toNat : Int)).1 = true then some (((hd most d n i).head (b.toNat : Int)).2, none) else none := by
      unfold bstep
      rw [if_neg hst]
    unfold headL
    by_cases c1 : (b.toNat : Int) = 32 ∧ 0 < i
    · rw [if_pos c1]
      have hh : (hd most d n i).head (b.toNat : Int) = (true, ⟨most, 2, n, (i : Int), [], d⟩) := by
        unfold Fm.head hd
        simp only
        rw [if_neg (show ¬ i = 0 by omega), if_pos ⟨rfl, c1.1⟩]
      rw [hh, if_pos rfl] at e
      have hin : 1 ≤ i ∧ 1 ≤ n ∧ n ≤ most ∧ (i : Int) ≤ n := by
        rcases hi with hi | hi
        · omega
        · exact hi
      refine .inr (.inr ⟨n, i, by push_cast; rfl, hin.2.1, hin.2.2.1, Nat.le_refl _, hin.1, hin.2.2.2, by simp only [List.length_cons]; omega, ?_⟩)
      rw [brun_some e, show i + 1 - i = 1 by omega]
      rfl
    · rw [if_neg c1]
      by_cases c2 : (b.toNat : Int) < 48 ∨ 57 < (b.toNat : Int) ∨ (i = 0 ∧ (b.toNat : Int) = 48)
      · rw [if_pos c2]
        have hh : ((hd most d n i).head (b.toNat : Int)).1 = false := by
          unfold Fm.head hd
          simp only
          by_cases c3 : i = 0
          · rw [if_pos c3, if_neg (by omega)]
            by_cases c4 : (b.toNat : Int) = 48
            · rw [if_pos ⟨rfl, c4⟩]
            · rw [if_neg (by omega), if_pos (by omega)]
          · rw [if_neg c3, if_neg (by omega), if_neg (by omega), if_pos (by omega)]
        rw [hh, if_neg Bool.false_ne_true] at e
        exact .inl ⟨rfl, brun_none e s out⟩
      · rw [if_neg c2]
        have hni : (0 ≤ n ∧ n ≤ 65535) ∧ i ≤ 65535 := by rcases hi with hi | hi <;> omega
        have HW := Aside0.mk (wr3 n (b.toNat : Int) hni.1.1 hni.1.2 (by omega) (by omega))
        have HD := Aside0.mk (wr1 i (by omega))
        have hh : (hd most d n i).head (b.toNat : Int) = (decide (n * 10 + ((b.toNat : Int) - 48) ≤ most), hd most d (n * 10 + ((b.toNat : Int) - 48)) (i + 1)) := by
          unfold Fm.head hd
          simp only
          by_cases c3 : i = 0
          · rw [if_pos c3, if_neg (by omega), if_neg (by omega), if_neg (by omega), HW.out, HD.out, if_neg (by omega)]
          · rw [if_neg c3, if_neg (by omega), if_neg (by omega), if_neg (by omega), HW.out, HD.out, if_neg (by omega)]
        by_cases c5 : n * 10 + ((b.toNat : Int) - 48) > most
        · rw [if_pos c5]
          rw [hh, if_neg (by simp; omega)] at e
          exact .inl ⟨rfl, brun_none e s out⟩
        · rw [if_neg c5]
          rw [hh, if_pos (by simp; omega)] at e
          rw [brun_some e]
          simp only
          rcases head_run most d m1 m2 s (n * 10 + ((b.toNat : Int) - 48)) (i + 1) out (.inr ⟨by omega, by omega, by omega, by omega⟩) with h | h | ⟨n', j, h1, h2, h3, h4, h5, h6, h7, h8⟩
          · exact .inl h
          · exact .inr (.inl h)
          · refine .inr (.inr ⟨n', j, h1, h2, h3, by omega, h5, h6, by rw [List.length_cons]; omega, ?_⟩)
            rw [h8, show j + 1 - i = (j + 1 - (i + 1)) + 1 by omega, List.drop_succ_cons]
/-- Both stand the same. -/
structure Rel (F : Fm) (R : Rf) : Prop where
  inv : Inv F
  most : R.most = F.most
  dropped : R.dropped = F.dropped
  dead : F.state = 3 → R.dead = true ∧ R.s = ⟨#[]⟩
  live : F.state ≠ 3 → R.dead = false ∧ brun (st F.most F.dropped) (L R.s) [] = ([], F)
theorem Rel.same {F : Fm} {R : Rf} (h : Rel F R) : (F.state == 3) = R.dead ∧ F.dropped = R.dropped ∧ F.held = (R.s.size : Int) := by
  by_cases c : F.state = 3
  · obtain ⟨h1, h2⟩ := h.dead c
    rw [h1, h2, c]
    refine ⟨rfl, h.dropped.symm, ?_⟩
    unfold Fm.held
    rw [c]
    rfl
  · obtain ⟨h1, h2⟩ := h.live c
    refine ⟨?_, h.dropped.symm, ?_⟩
    · rw [h1]; exact beq_eq_false_iff_ne.2 c
    · have h3 := run_held (L R.s) (st F.most F.dropped) F (st_inv _ h.inv.m1 h.inv.m2) (show (0 : Int) ≠ 3 by decide) h2 c
      rw [h3, L_len]
      unfold Fm.held st
      simp
theorem rel_new (most : Int) (m1 : 1 ≤ most) (m2 : most ≤ 65535) : Rel ⟨most, 0, 0, 0, [], 0⟩ ⟨most, ⟨#[]⟩, false, 0⟩ :=
  ⟨st_inv 0 m1 m2, rfl, rfl, fun h => absurd h (show (0 : Int) ≠ 3 by decide), fun _ => ⟨rfl, rfl⟩⟩
/-- The printed number at the beginning is the plain one. -/
theorem head_eq (most : Int) (m1 : 1 ≤ most) (m2 : most ≤ 65535) (s : ByteArray) (hs : s.size ≤ 1000000) : ∀ (q i : Nat) (n : Int) (k : Nat), i + q = s.size → 0 ≤ n → n ≤ most → 3 * q + 5 ≤ k →
    gongref12_head.l0 k s most n (i : Int) = some (headL most ((L s).drop i) n i) := by
  intro q
  induction q with
  | zero =>
    intro i n k hi h0 h1 hk
    obtain ⟨k, rfl⟩ : ∃ m, k = m + 1 := ⟨k - 1, by omega⟩
    have hd : (L s).drop i = [] := List.drop_eq_nil_of_le (by rw [L_len]; omega)
    rw [gongref12_head.l0, if_neg (by omega), hd]
    rfl
  | succ q ih =>
    intro i n k hi h0 h1 hk
    obtain ⟨k, rfl⟩ : ∃ m, k = m + 3 := ⟨k - 3, by omega⟩
    have hlt : i < (L s).length := by rw [L_len]; omega
    have hb := bt_L s i hlt
    have hb1 : ((L s)[i]'hlt).toNat < 256 := ((L s)[i]'hlt).toNat_lt
    rw [List.drop_eq_getElem_cons hlt]
    generalize ((L s)[i]'hlt) = b at hb hb1
    have hi1 : i ≤ 1000000 := by omega
    rw [gongref12_head.l0, if_pos (by omega), if_pos (by omega), hb]
    unfold headL
    by_cases c1 : (b.toNat : Int) = 32
    · rw [if_pos c1]
      by_cases c2 : 0 < i
      · rw [if_pos ⟨c1, c2⟩, show decide ((i : Int) > 0) = true from decide_eq_true (by omega), gongref12_head.j1, if_pos rfl, wr1 i hi1]
        rfl
      · rw [if_neg (fun h => c2 h.2), if_pos (.inl (by omega)), show decide ((i : Int) > 0) = false from decide_eq_false (by omega), gongref12_head.j1, if_neg Bool.false_ne_true, if_pos (by omega), if_pos (by omega), hb, if_pos (by omega), gongref12_head.j2, if_pos rfl]
    · rw [if_neg c1, if_neg (fun h => c1 h.1), gongref12_head.j1, if_neg Bool.false_ne_true, if_pos (by omega), if_pos (by omega), hb]
      by_cases c2 : (b.toNat : Int) < 48
      · rw [if_pos c2, if_pos (.inl c2), gongref12_head.j2, if_pos rfl]
      · rw [if_neg c2]
        by_cases c3 : (b.toNat : Int) > 57
        · rw [if_pos c3, if_pos (.inr (.inl c3)), gongref12_head.j2, if_pos rfl]
        · rw [if_neg c3]
          have hv := wr2 n (b.toNat : Int) h0 (by omega) (by omega) (by omega)
          have HV := Aside0.mk hv
          clear hv
          have tl : ∀ x : Bool, x = false → gongref12_head.j2 (k + 1) s most n (i : Int) x = some (if n * 10 + ((b.toNat : Int) - 48) > most then (-2, 0) else headL most ((L s).drop (i + 1)) (n * 10 + ((b.toNat : Int) - 48)) (i + 1)) := by
            rintro x rfl
            rw [gongref12_head.j2, if_neg Bool.false_ne_true, if_pos (by omega), if_pos (by omega), hb, HV.out]
            by_cases c6 : n * 10 + ((b.toNat : Int) - 48) > most
            · rw [if_pos c6, if_pos c6]
            · rw [if_neg c6, if_neg c6, wr1 i hi1, ih (i + 1) _ k (by omega) (by omega) (by omega) (by omega)]
          by_cases c4 : (i : Int) = 0
          · rw [if_pos c4]
            by_cases c5 : (b.toNat : Int) = 48
            · rw [if_pos (.inr (.inr ⟨by omega, c5⟩)), show ((b.toNat : Int) == 48) = true from beq_iff_eq.2 c5, gongref12_head.j2, if_pos rfl]
            · rw [tl _ (beq_eq_false_iff_ne.2 c5), if_neg (show ¬ ((b.toNat : Int) < 48 ∨ 57 < (b.toNat : Int) ∨ (i = 0 ∧ (b.toNat : Int) = 48)) by omega)]
          · rw [if_neg c4, tl _ rfl, if_neg (show ¬ ((b.toNat : Int) < 48 ∨ 57 < (b.toNat : Int) ∨ (i = 0 ∧ (b.toNat : Int) = 48)) by omega)]
theorem head_f (most : Int) (m1 : 1 ≤ most) (m2 : most ≤ 65535) (s : ByteArray) (hs : s.size ≤ 1000000) (k : Nat) (hk : 3 * s.size + 5 ≤ k) : gongref12_head.f k s most = some (headL most (L s) 0 0) := by
  have := head_eq most m1 m2 s hs s.size 0 0 k (by omega) (by omega) (by omega) hk
  rw [List.drop_zero] at this
  exact this
/-- The turns of the reference tell what the bytes tell. -/
theorem loop_eq (most d turns : Int) (m1 : 1 ≤ most) (m2 : most ≤ 65535) :
    ∀ (q : Nat) (s : ByteArray) (k : Nat) (out : List ByteArray) (i : Nat), s.size ≤ q → q ≤ 1000000 → (i : Int) + s.size < turns → turns ≤ 2000000 → 3 * q + 10 ≤ k → out.length + q ≤ 2000000 →
    ∃ R', gongref12_Framer_Feed.l0 k out turns (i : Int) most s false d = some (out ++ (brun (st most d) (L s) []).1, if (brun (st most d) (L s) []).2.state = 3 then 120 else 0, R'.most, R'.s, R'.dead, R'.dropped) ∧ Rel (brun (st most d) (L s) []).2 R' := by
  intro q
  induction q with
  | zero =>
    intro s k out i hs hq hi ht hk ho
    obtain ⟨k, rfl⟩ : ∃ m, k = m + 1 := ⟨k - 1, by omega⟩
    have hl : L s = [] := List.eq_nil_of_length_eq_zero (by rw [L_len]; omega)
    rw [gongref12_Framer_Feed.l0, if_pos (by omega), head_f most m1 m2 s (by omega) k (by omega), hl, Option.bind_some]
    refine ⟨⟨most, s, false, d⟩, by simp [headL, brun, st], ?_⟩
    refine ⟨st_inv d m1 m2, rfl, rfl, fun h => absurd h (show (0 : Int) ≠ 3 by decide), fun _ => ⟨rfl, ?_⟩⟩
    rw [hl]; rfl
  | succ q ih =>
    intro s k out i hs hq hi ht hk ho
    obtain ⟨k, rfl⟩ : ∃ m, k = m + 1 := ⟨k - 1, by omega⟩
    rw [gongref12_Framer_Feed.l0, if_pos (by omega), head_f most m1 m2 s (by omega) k (by omega), Option.bind_some]
    have hlen := L_len s
    have hr := head_run most d m1 m2 (L s) 0 0 [] (.inl ⟨rfl, rfl⟩)
    rw [hd_zero] at hr
    rcases hr with ⟨h1, h2⟩ | ⟨h1, F, h2, h3⟩ | ⟨n', j, h1, h2, h3, h4, h5, h6, h7, h8⟩
    · rw [h1, h2]
      simp only
      rw [if_pos trivial]
      refine ⟨⟨most, ⟨#[]⟩, true, d⟩, by simp [Fm.emptied], ?_⟩
      exact ⟨(st_inv d m1 m2).emptied 3 (.inr rfl), rfl, rfl, fun _ => ⟨rfl, rfl⟩, fun h => absurd rfl h⟩
    · have hi2 := brun_inv (st_inv d m1 m2) (show (0 : Int) ≠ 3 by decide) (L s) []
      rw [h1]
      rw [h2] at hi2 ⊢
      simp only
      rw [if_neg (by decide), if_pos trivial, if_neg h3]
      refine ⟨⟨most, s, false, d⟩, by simp, hi2.1, hi2.2.1.symm, hi2.2.2.1.symm, fun h => absurd h h3, fun _ => ⟨rfl, ?_⟩⟩
      simp only
      rw [hi2.2.1, hi2.2.2.1]
      exact h2
    · rw [h1]
      simp only
      rw [if_neg (by omega), if_neg (by omega)]
      rw [wr4 s.size (j + 1) (by omega) (by omega)]
      have hdl : ((L s).drop (j + 1 - 0)).length = s.size - (j + 1) := by rw [List.length_drop, hlen]; omega
      by_cases c : n' > (s.size : Int) - ((j + 1 : Nat) : Int)
      · rw [if_pos c]
        have hb := brun_body ((L s).drop (j + 1 - 0)) (F := ⟨most, 2, n', (j : Int), [], d⟩) rfl [] [] (by rw [hdl]; simp only [List.length_nil]; omega)
        rw [List.append_nil] at hb
        have hbr : brun (st most d) (L s) [] = ([], ⟨most, 2, n', (j : Int), [] ++ (L s).drop (j + 1 - 0), d⟩) := by rw [h8, hb]; rfl
        have hi2 := brun_inv (st_inv d m1 m2) (show (0 : Int) ≠ 3 by decide) (L s) []
        rw [hbr] at hi2 ⊢
        simp only
        rw [if_neg (show ¬ (2 : Int) = 3 by decide)]
        refine ⟨⟨most, s, false, d⟩, by simp, hi2.1, rfl, rfl, fun h => absurd h (show (2 : Int) ≠ 3 by decide), fun _ => ⟨rfl, hbr⟩⟩
      · rw [if_neg c]
        obtain ⟨N, hN⟩ : ∃ N : Nat, n' = (N : Int) := ⟨n'.toNat, by omega⟩
        subst hN
        have e1 : (((j + 1 : Nat) : Int)).toNat = j + 1 := by omega
        have e2 : (((j + 1 : Nat) : Int) + (N : Int)).toNat = j + 1 + N := by omega
        have hNs : j + 1 + N ≤ s.size := by omega
        have hi3 : i ≤ 3000000 := by omega
        have g1 : (0 : Int) ≤ ((j + 1 : Nat) : Int) := by omega
        have g2 : ((j + 1 : Nat) : Int) ≤ ((j + 1 : Nat) : Int) + (N : Int) := by omega
        have g3 : ((j + 1 : Nat) : Int) + (N : Int) ≤ (s.size : Int) := by omega
        have g4 : out.length < 8796093022208 := by omega
        have g5 : (0 : Int) ≤ ((j + 1 : Nat) : Int) + (N : Int) := by omega
        rw [wr5 (j + 1) N (by omega) (by omega), if_pos g1, if_pos g2, if_pos g3, if_pos g4, if_pos g5, e1, e2, wr6 i hi3]
        have hsz : (s.extract (j + 1 + N) s.size).size = s.size - (j + 1 + N) := by rw [ByteArray.size_extract]; omega
        obtain ⟨R', hl1, hl2⟩ := ih (s.extract (j + 1 + N) s.size) k (out ++ [s.extract (j + 1) (j + 1 + N)]) (i + 1) (by rw [hsz]; omega) (by omega) (by rw [hsz]; omega) ht (by omega) (by rw [List.length_append, List.length_singleton]; omega)
        have hL2 : L (s.extract (j + 1 + N) s.size) = (L s).drop (j + 1 + N) := by rw [L_extract, ← hlen, List.take_length]
        have hbr : brun (st most d) (L s) [] = ([s.extract (j + 1) (j + 1 + N)] ++ (brun (st most d) ((L s).drop (j + 1 + N)) []).1, (brun (st most d) ((L s).drop (j + 1 + N)) []).2) := by
          rw [h8, Nat.sub_zero, ← List.take_append_drop N ((L s).drop (j + 1)), List.drop_drop]
          rw [brun_full (((L s).drop (j + 1)).take N) (F := ⟨most, 2, (N : Int), (j : Int), [], d⟩) rfl _ [] (by simp only [List.length_nil]; omega) (by rw [List.length_take, List.length_drop, hlen]; simp only [List.length_nil]; omega)]
          rw [brun_out]
          have e4 : Bs ([] ++ ((L s).drop (j + 1)).take N) = s.extract (j + 1) (j + 1 + N) := by
            rw [List.nil_append, ← Bs_L (s.extract (j + 1) (j + 1 + N)), L_extract, List.drop_take, show j + 1 + N - (j + 1) = N by omega]
          rw [e4]
          rfl
        rw [hL2] at hl1 hl2
        refine ⟨R', ?_, ?_⟩
        · rw [hl1, hbr]; simp
        · rw [hbr]; exact hl2
/-- What both tell of a chunk. -/
theorem feed_both {F : Fm} {R : Rf} (h : Rel F R) (c : ByteArray) (hc : c.size ≤ 1000) (hs : R.s.size ≤ 200000) (k : Nat) (hk : 1000000 ≤ k) :
    ∃ (ms : List ByteArray) (e : Int) (F' : Fm) (R' : Rf), Fm.feed k F c = some (ms, e, F') ∧ gongref12_Framer_Feed.f k R.most R.s R.dead R.dropped c = some (ms, e, R'.most, R'.s, R'.dead, R'.dropped) ∧ Rel F' R' ∧ ms.length ≤ 1000 ∧ F'.most = F.most := by
  by_cases c3 : F.state = 3
  · obtain ⟨h1, h2⟩ := h.dead c3
    refine ⟨[], 120, _, ⟨R.most, R.s, R.dead, wrap64 (R.dropped + 1)⟩, feed_dead k F c c3, by unfold gongref12_Framer_Feed.f; rw [if_pos h1], ⟨?_, h.most, by simp only; rw [h.dropped], fun _ => ⟨h1, h2⟩, fun hn => absurd c3 hn⟩, by simp, rfl⟩
    exact ⟨h.inv.m1, h.inv.m2, h.inv.st⟩
  · obtain ⟨h1, h2⟩ := h.live c3
    obtain ⟨most, s, dead, dropped⟩ := R
    have hm := h.most
    have hdr := h.dropped
    simp only at h1 h2 hm hdr hs
    subst h1 hm hdr
    have hL : L (s ++ c) = L s ++ L c := by simp [L]
    have hsz : (s ++ c).size = s.size + c.size := ByteArray.size_append
    have hap := brun_append (st_inv F.dropped h.inv.m1 h.inv.m2) (show (0 : Int) ≠ 3 by decide) (L s) (L c) []
    rw [h2, ← hL] at hap
    simp only at hap
    rw [if_neg c3] at hap
    obtain ⟨R', hl1, hl2⟩ := loop_eq F.most F.dropped (wrap64 (((s ++ c).size : Int) + 1)) h.inv.m1 h.inv.m2 (s ++ c).size (s ++ c) k [] 0 (Nat.le_refl _) (by omega) (by unfold wrap64; omega) (by unfold wrap64; omega) (by omega) (by simp; omega)
    rw [hap] at hl1 hl2
    have hi := brun_inv h.inv c3 (L c) []
    refine ⟨_, _, _, R', feed_eq k F c (by omega) h.inv c3 (by omega), ?_, hl2, ?_, hi.2.1⟩
    · unfold gongref12_Framer_Feed.f
      rw [if_neg Bool.false_ne_true]
      simp only
      rw [if_pos (by omega)]
      exact hl1
    · have := hi.2.2.2
      rw [L_len] at this
      simp only [List.length_nil] at this
      omega
end Go.Proofs.YthacblokhhhlmaaDoor.FrmS
