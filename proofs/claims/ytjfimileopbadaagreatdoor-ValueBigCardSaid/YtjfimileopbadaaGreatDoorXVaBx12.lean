-- Laid by extprint.py (the session's own driver): functions told by the kit's printer and by hand.
import Derived.Test.YtjfimileopbadaaGreatDoorXVaBx0
import Derived.Test.YtjfimileopbadaaGreatDoorXVaBx7
import Derived.Test.YtjfimileopbadaaGreatDoorXVaBx10
import Derived.Test.YtjfimileopbadaaGreatDoorXVaBx11
namespace Go.Proofs.YtjfimileopbadaaGreatDoor.XVaB
open Go.RowKit Gong Go.Proofs.YtjfimileopbadaaGreatDoorW.PrintWords Go.Proofs.YtjfimileopbadaaGreatDoorW.PrintLast Go.Proofs.YtjfimileopbadaaGreatDoorW.PrintMore
attribute [local go_sem] max2_int min2_int max_two min_two max_three min_three max_four min_four   -- for this text's walks alone
set_option linter.unusedVariables false
set_option linter.unusedSimpArgs false

/-! ### value_Decode: function 39 -/
def value_Decode.fin (k : Nat) (kind n : Int) (s : ByteArray) (e : Int) : Option (Int × Int × ByteArray × Int) :=
  if e = 0 then (value_right.f k kind n s).bind fun t => if t = true then some (kind, n, s, 0) else some (0, 0, ⟨#[]⟩, 70) else some (0, 0, ⟨#[]⟩, 70)
def value_Decode.f (k : Nat) (a0_0 : Int) (a0_1 : ByteArray) : Option (Int × Int × ByteArray × Int) := (value_of.f a0_0).bind fun t =>
  if t = 1 then (ber_Number.f a0_1).bind fun r => value_Decode.fin k a0_0 r.1 ⟨#[]⟩ r.2 else
  if t = 2 then (ber_Unsigned.f a0_1).bind fun r => value_Decode.fin k a0_0 (wrap64 r.1) ⟨#[]⟩ r.2 else
  if t = 4 then (oid_Decode.f k a0_1).bind fun r => value_Decode.fin k a0_0 0 r.1 r.2 else value_Decode.fin k a0_0 0 a0_1 0
theorem value_Decode.fin_mono (kind n : Int) (s : ByteArray) (e : Int) (k : Nat) : LeO (value_Decode.fin k kind n s e) (value_Decode.fin (k + 1) kind n s e) := by
  unfold value_Decode.fin
  split
  · exact LeO.bind (value_right.mono _ _ _ _) (fun _ => LeO.refl _)
  · exact LeO.refl _
theorem value_Decode.mono : ∀ a0 a1 k, LeO (value_Decode.f k a0 a1) (value_Decode.f (k + 1) a0 a1) := by
  intro a0 a1 k
  unfold value_Decode.f
  refine LeO.bind (LeO.refl _) (fun t => ?_)
  split
  · exact LeO.bind (LeO.refl _) (fun _ => value_Decode.fin_mono _ _ _ _ k)
  · split
    · exact LeO.bind (LeO.refl _) (fun _ => value_Decode.fin_mono _ _ _ _ k)
    · split
      · exact LeO.bind (oid_Decode.mono _ _) (fun _ => value_Decode.fin_mono _ _ _ _ k)
      · exact value_Decode.fin_mono _ _ _ _ k
set_option maxHeartbeats 8000000 in
set_option maxRecDepth 100000 in
theorem value_Decode.calls (k : Nat) (a0_0 : Int) (a0_1 : ByteArray) (r1 : Int) (r2 : Int) (r3 : ByteArray) (r4 : Int) (w : World) (hG : Gl w) (h : value_Decode.f k a0_0 a0_1 = some (r1, r2, r3, r4)) :
    Calls Tryz.prog 39 #[.agg #[.int .i64 a0_0, .string a0_1]] w fun e w' => e = .returned (.tuple #[.agg #[.int .i64 r1, .int .i64 r2, .string r3], .int .i64 r4]) ∧ Below w.heap.size w w' := by
  have HGl := Aside0.mk hG
  unfold value_Decode.f at h
  obtain ⟨t, hof, h⟩ := Option.bind_eq_some_iff.1 h
  have HOF := Aside0.mk hof
  clear hG hof
  go_enter Tryz.func39, Tryz.ntmps39
  go_wp2_with fail
  obtain ⟨w3, hw3⟩ : ∃ w3, w3 = (((w.alloc (.cells #[.int .i64 a0_0, .string a0_1] 50)).alloc (.cells #[.int .i64 0, .int .i64 0, .string ⟨#[]⟩] 28)).alloc (.cells #[.int .i64 a0_0, .int .i64 0, .string ⟨#[]⟩] 28)) := ⟨_, rfl⟩
  have H1 := Aside0.mk (show w3.heap[w.heap.size]? = some (.cells #[.int .i64 a0_0, .string a0_1] 50 (0, 0)) by rw [hw3]; exact blk_alloc (blk_alloc (heap_alloc_new w _) _) _)
  have H2 := Aside0.mk (show w3.heap[w.heap.size + 1]? = some (.cells #[.int .i64 0, .int .i64 0, .string ⟨#[]⟩] 28 (0, 0)) by
    rw [hw3]; refine blk_alloc ?_ _
    have := heap_alloc_new (w.alloc (.cells #[.int .i64 a0_0, .string a0_1] 50)) (.cells #[.int .i64 0, .int .i64 0, .string ⟨#[]⟩] 28)
    simpa using this)
  have H4 := Aside0.mk (show w3.heap[w.heap.size + 1 + 1]? = some (.cells #[.int .i64 a0_0, .int .i64 0, .string ⟨#[]⟩] 28 (0, 0)) by
    rw [hw3]
    have := heap_alloc_new ((w.alloc (.cells #[.int .i64 a0_0, .string a0_1] 50)).alloc (.cells #[.int .i64 0, .int .i64 0, .string ⟨#[]⟩] 28)) (.cells #[.int .i64 a0_0, .int .i64 0, .string ⟨#[]⟩] 28)
    simpa using this)
  have HB := Aside0.mk (show Below w.heap.size w w3 by rw [hw3]; exact below_alloc (below_alloc (below_alloc (Below.refl _ _) _) _) _)
  rw [← hw3]
  obtain ⟨b2, hb2⟩ : ∃ b2, b2 = w.heap.size + 1 := ⟨_, rfl⟩
  obtain ⟨b4, hb4⟩ : ∃ b4, b4 = w.heap.size + 1 + 1 := ⟨_, rfl⟩
  rw [← hb4, ← hb2]
  rw [← hb2] at H2
  rw [← hb4] at H4
  have HN := Aside0.mk (show w.heap.size ≤ b2 ∧ w.heap.size ≤ b4 ∧ b2 ≠ b4 ∧ w.heap.size ≠ b4 by omega)
  have n1 : b2 ≠ b4 := by omega
  have n2 : b4 ≠ b2 := by omega
  have n3 : w.heap.size ≠ b4 := by omega
  clear hb4 hb2 hw3
  refine (value_of.calls a0_0 t w3 HOF.out).mono ?_
  rintro e w' ⟨rfl, ⟨nd, rfl⟩⟩
  have H1d := Aside0.mk (show (w3.drewN nd).heap[w.heap.size]? = _ from H1.out)
  have H2d := Aside0.mk (show (w3.drewN nd).heap[b2]? = _ from H2.out)
  have H4d := Aside0.mk (show (w3.drewN nd).heap[b4]? = _ from H4.out)
  have HBd := Aside0.mk (show Below w.heap.size w (w3.drewN nd) from pw_below_drewN HB.out nd)
  obtain ⟨w4, hw4⟩ : ∃ w4, w4 = w3.drewN nd := ⟨_, rfl⟩
  rw [← hw4] at H1d H2d H4d HBd ⊢
  clear hw4 H1 H2 H4 HB HOF
  by_cases ht1 : t = 1
  · subst ht1
    rw [if_pos rfl] at h
    obtain ⟨⟨x, ec⟩, hF, h⟩ := Option.bind_eq_some_iff.1 h
    simp only at h
    have HF := Aside0.mk hF
    clear hF
    have c1 := (blk_cell H1d.out 1).trans rfl
    go_wp2_with fail
    refine (ber_Number.calls a0_1 x ec w4 HF.out).mono ?_
    rintro e w5 ⟨rfl, hb5⟩
    clear c1
    have K4 := Aside0.mk ((Mv.of_below (S := fun _ => False) hb5).heap H4d.out id)
    have K2 := Aside0.mk ((Mv.of_below (S := fun _ => False) hb5).heap H2d.out id)
    have KB := Aside0.mk (Below.trans HBd.out (Below.mono hb5 HBd.out.size))
    clear hb5 H4d H2d HBd H1d HF
    have x0 := (blk_cell K4.out 1).trans rfl
    have y0 := blk_frozen K4.out 1
    go_upto_region 13 with (fail)
    clear x0 y0
    obtain ⟨w6, hw6⟩ : ∃ w6, w6 = w5.setCell ⟨b4, 1, none⟩ (.int .i64 x) := ⟨_, rfl⟩
    have H4s := Aside0.mk (show w6.heap[b4]? = some (.cells #[.int .i64 a0_0, .int .i64 x, .string ⟨#[]⟩] 28 (0, 0)) by rw [hw6]; exact blk_put K4.out 1 _ rfl)
    have H2s := Aside0.mk (show w6.heap[b2]? = some (.cells #[.int .i64 0, .int .i64 0, .string ⟨#[]⟩] 28 (0, 0)) by rw [hw6]; exact blk_far K2.out HN.out.2.2.1 _)
    have HBs := Aside0.mk (show Below w.heap.size w w6 by rw [hw6]; exact below_set KB.out HN.out.2.1)
    rw [← hw6]
    clear hw6 K4 K2 KB
    unfold value_Decode.fin at h
    by_cases hec : ec = 0
    · rw [if_pos hec] at h
      subst hec
      obtain ⟨tt, hR, h⟩ := Option.bind_eq_some_iff.1 h
      have HR := Aside0.mk hR
      clear hR
      have z0 := (blk_cell H4s.out 0).trans rfl
      have z1 := (blk_cell H4s.out 1).trans rfl
      have z2 := (blk_cell H4s.out 2).trans rfl
      go_wp2_with fail
      refine (value_right.calls k a0_0 x ⟨#[]⟩ tt w6 (HGl.out.below HBs.out) HR.out).mono ?_
      rintro e w7 ⟨rfl, hb7⟩
      clear z0 z1 z2
      have H2r := Aside0.mk ((Mv.of_below (S := fun _ => False) hb7).heap H2s.out id)
      have H4r := Aside0.mk ((Mv.of_below (S := fun _ => False) hb7).heap H4s.out id)
      have HBr := Aside0.mk (Below.trans HBs.out (Below.mono hb7 HBs.out.size))
      clear hb7 H2s H4s HBs
      have x0 := (blk_cell H2r.out 0).trans rfl
      have x1 := (blk_cell H2r.out 1).trans rfl
      have x2 := (blk_cell H2r.out 2).trans rfl
      have y0 := blk_frozen H2r.out 0
      have y1 := blk_frozen H2r.out 1
      have y2 := blk_frozen H2r.out 2
      have z0 := (blk_cell H4r.out 0).trans rfl
      have z1 := (blk_cell H4r.out 1).trans rfl
      have z2 := (blk_cell H4r.out 2).trans rfl
      cases tt with
      | true =>
        rw [if_pos rfl] at h
        simp only [Option.some.injEq, Prod.mk.injEq] at h
        obtain ⟨rfl, rfl, rfl, rfl⟩ := h
        go_wp2
        refine bodyPost_ret (results_ct rfl _ _ b2 28 #[.int .i64 a0_0, .int .i64 x, .string ⟨#[]⟩] (0, 0) _ rfl (by
          refine blk_put (cs := #[.int .i64 a0_0, .int .i64 x, .string ⟨#[]⟩]) ?_ 2 _ rfl
          refine blk_put (cs := #[.int .i64 a0_0, .int .i64 0, .string ⟨#[]⟩]) ?_ 1 _ rfl
          refine blk_put (cs := #[.int .i64 0, .int .i64 0, .string ⟨#[]⟩]) ?_ 0 _ rfl
          exact H2r.out) Tryz.underlying28 rfl (by kernel_rfl)) rfl ?_
        exact ⟨rfl, below_set (below_set (below_set HBr.out HN.out.1) HN.out.1) HN.out.1⟩
      | false =>
        rw [if_neg (by simp)] at h
        simp only [Option.some.injEq, Prod.mk.injEq] at h
        obtain ⟨rfl, rfl, rfl, rfl⟩ := h
        go_wp2
        refine bodyPost_ret (results_ct rfl _ _ b2 28 #[.int .i64 0, .int .i64 0, .string ⟨#[]⟩] (0, 0) _ rfl (by
          refine blk_put (cs := #[.int .i64 0, .int .i64 0, .string ⟨#[]⟩]) ?_ 2 _ rfl
          refine blk_put (cs := #[.int .i64 0, .int .i64 0, .string ⟨#[]⟩]) ?_ 1 _ rfl
          refine blk_put (cs := #[.int .i64 0, .int .i64 0, .string ⟨#[]⟩]) ?_ 0 _ rfl
          exact H2r.out) Tryz.underlying28 rfl (by kernel_rfl)) rfl ?_
        exact ⟨rfl, below_set (below_set (below_set HBr.out HN.out.1) HN.out.1) HN.out.1⟩
    · rw [if_neg hec] at h
      have d1 : (ec != 0) = true := bne_iff_ne.mpr hec
      have d2 := eq_false hec
      clear hec
      simp only [Option.some.injEq, Prod.mk.injEq] at h
      obtain ⟨rfl, rfl, rfl, rfl⟩ := h
      have x0 := (blk_cell H2s.out 0).trans rfl
      have x1 := (blk_cell H2s.out 1).trans rfl
      have x2 := (blk_cell H2s.out 2).trans rfl
      have y0 := blk_frozen H2s.out 0
      have y1 := blk_frozen H2s.out 1
      have y2 := blk_frozen H2s.out 2
      go_wp2
      refine bodyPost_ret (results_ct rfl _ _ b2 28 #[.int .i64 0, .int .i64 0, .string ⟨#[]⟩] (0, 0) _ rfl (by
        refine blk_put (cs := #[.int .i64 0, .int .i64 0, .string ⟨#[]⟩]) ?_ 2 _ rfl
        refine blk_put (cs := #[.int .i64 0, .int .i64 0, .string ⟨#[]⟩]) ?_ 1 _ rfl
        refine blk_put (cs := #[.int .i64 0, .int .i64 0, .string ⟨#[]⟩]) ?_ 0 _ rfl
        exact H2s.out) Tryz.underlying28 rfl (by kernel_rfl)) rfl ?_
      exact ⟨rfl, below_set (below_set (below_set HBs.out HN.out.1) HN.out.1) HN.out.1⟩
  rw [if_neg ht1] at h
  have e1 : (t == 1) = false := beq_eq_false_iff_ne.mpr ht1
  have e1' := eq_false ht1
  clear ht1
  by_cases ht2 : t = 2
  · subst ht2
    rw [if_pos rfl] at h
    obtain ⟨⟨x, ec⟩, hF, h⟩ := Option.bind_eq_some_iff.1 h
    simp only at h
    have HF := Aside0.mk hF
    clear hF
    have c1 := (blk_cell H1d.out 1).trans rfl
    go_wp2_with fail
    refine (ber_Unsigned.calls a0_1 x ec w4 HF.out).mono ?_
    rintro e w5 ⟨rfl, hb5⟩
    clear c1
    have K4 := Aside0.mk ((Mv.of_below (S := fun _ => False) hb5).heap H4d.out id)
    have K2 := Aside0.mk ((Mv.of_below (S := fun _ => False) hb5).heap H2d.out id)
    have KB := Aside0.mk (Below.trans HBd.out (Below.mono hb5 HBd.out.size))
    clear hb5 H4d H2d HBd H1d HF
    have x0 := (blk_cell K4.out 1).trans rfl
    have y0 := blk_frozen K4.out 1
    go_upto_region 13 with (fail)
    clear x0 y0
    obtain ⟨w6, hw6⟩ : ∃ w6, w6 = w5.setCell ⟨b4, 1, none⟩ (.int .i64 (wrap64 x)) := ⟨_, rfl⟩
    have H4s := Aside0.mk (show w6.heap[b4]? = some (.cells #[.int .i64 a0_0, .int .i64 (wrap64 x), .string ⟨#[]⟩] 28 (0, 0)) by rw [hw6]; exact blk_put K4.out 1 _ rfl)
    have H2s := Aside0.mk (show w6.heap[b2]? = some (.cells #[.int .i64 0, .int .i64 0, .string ⟨#[]⟩] 28 (0, 0)) by rw [hw6]; exact blk_far K2.out HN.out.2.2.1 _)
    have HBs := Aside0.mk (show Below w.heap.size w w6 by rw [hw6]; exact below_set KB.out HN.out.2.1)
    rw [← hw6]
    clear hw6 K4 K2 KB
    unfold value_Decode.fin at h
    by_cases hec : ec = 0
    · rw [if_pos hec] at h
      subst hec
      obtain ⟨tt, hR, h⟩ := Option.bind_eq_some_iff.1 h
      have HR := Aside0.mk hR
      clear hR
      have z0 := (blk_cell H4s.out 0).trans rfl
      have z1 := (blk_cell H4s.out 1).trans rfl
      have z2 := (blk_cell H4s.out 2).trans rfl
      go_wp2_with fail
      refine (value_right.calls k a0_0 (wrap64 x) ⟨#[]⟩ tt w6 (HGl.out.below HBs.out) HR.out).mono ?_
      rintro e w7 ⟨rfl, hb7⟩
      clear z0 z1 z2
      have H2r := Aside0.mk ((Mv.of_below (S := fun _ => False) hb7).heap H2s.out id)
      have H4r := Aside0.mk ((Mv.of_below (S := fun _ => False) hb7).heap H4s.out id)
      have HBr := Aside0.mk (Below.trans HBs.out (Below.mono hb7 HBs.out.size))
      clear hb7 H2s H4s HBs
      have x0 := (blk_cell H2r.out 0).trans rfl
      have x1 := (blk_cell H2r.out 1).trans rfl
      have x2 := (blk_cell H2r.out 2).trans rfl
      have y0 := blk_frozen H2r.out 0
      have y1 := blk_frozen H2r.out 1
      have y2 := blk_frozen H2r.out 2
      have z0 := (blk_cell H4r.out 0).trans rfl
      have z1 := (blk_cell H4r.out 1).trans rfl
      have z2 := (blk_cell H4r.out 2).trans rfl
      cases tt with
      | true =>
        rw [if_pos rfl] at h
        simp only [Option.some.injEq, Prod.mk.injEq] at h
        obtain ⟨rfl, rfl, rfl, rfl⟩ := h
        go_wp2
        refine bodyPost_ret (results_ct rfl _ _ b2 28 #[.int .i64 a0_0, .int .i64 (wrap64 x), .string ⟨#[]⟩] (0, 0) _ rfl (by
          refine blk_put (cs := #[.int .i64 a0_0, .int .i64 (wrap64 x), .string ⟨#[]⟩]) ?_ 2 _ rfl
          refine blk_put (cs := #[.int .i64 a0_0, .int .i64 0, .string ⟨#[]⟩]) ?_ 1 _ rfl
          refine blk_put (cs := #[.int .i64 0, .int .i64 0, .string ⟨#[]⟩]) ?_ 0 _ rfl
          exact H2r.out) Tryz.underlying28 rfl (by kernel_rfl)) rfl ?_
        exact ⟨rfl, below_set (below_set (below_set HBr.out HN.out.1) HN.out.1) HN.out.1⟩
      | false =>
        rw [if_neg (by simp)] at h
        simp only [Option.some.injEq, Prod.mk.injEq] at h
        obtain ⟨rfl, rfl, rfl, rfl⟩ := h
        go_wp2
        refine bodyPost_ret (results_ct rfl _ _ b2 28 #[.int .i64 0, .int .i64 0, .string ⟨#[]⟩] (0, 0) _ rfl (by
          refine blk_put (cs := #[.int .i64 0, .int .i64 0, .string ⟨#[]⟩]) ?_ 2 _ rfl
          refine blk_put (cs := #[.int .i64 0, .int .i64 0, .string ⟨#[]⟩]) ?_ 1 _ rfl
          refine blk_put (cs := #[.int .i64 0, .int .i64 0, .string ⟨#[]⟩]) ?_ 0 _ rfl
          exact H2r.out) Tryz.underlying28 rfl (by kernel_rfl)) rfl ?_
        exact ⟨rfl, below_set (below_set (below_set HBr.out HN.out.1) HN.out.1) HN.out.1⟩
    · rw [if_neg hec] at h
      have d1 : (ec != 0) = true := bne_iff_ne.mpr hec
      have d2 := eq_false hec
      clear hec
      simp only [Option.some.injEq, Prod.mk.injEq] at h
      obtain ⟨rfl, rfl, rfl, rfl⟩ := h
      have x0 := (blk_cell H2s.out 0).trans rfl
      have x1 := (blk_cell H2s.out 1).trans rfl
      have x2 := (blk_cell H2s.out 2).trans rfl
      have y0 := blk_frozen H2s.out 0
      have y1 := blk_frozen H2s.out 1
      have y2 := blk_frozen H2s.out 2
      go_wp2
      refine bodyPost_ret (results_ct rfl _ _ b2 28 #[.int .i64 0, .int .i64 0, .string ⟨#[]⟩] (0, 0) _ rfl (by
        refine blk_put (cs := #[.int .i64 0, .int .i64 0, .string ⟨#[]⟩]) ?_ 2 _ rfl
        refine blk_put (cs := #[.int .i64 0, .int .i64 0, .string ⟨#[]⟩]) ?_ 1 _ rfl
        refine blk_put (cs := #[.int .i64 0, .int .i64 0, .string ⟨#[]⟩]) ?_ 0 _ rfl
        exact H2s.out) Tryz.underlying28 rfl (by kernel_rfl)) rfl ?_
      exact ⟨rfl, below_set (below_set (below_set HBs.out HN.out.1) HN.out.1) HN.out.1⟩
  rw [if_neg ht2] at h
  have e2 : (t == 2) = false := beq_eq_false_iff_ne.mpr ht2
  have e2' := eq_false ht2
  clear ht2
  by_cases ht4 : t = 4
  · subst ht4
    rw [if_pos rfl] at h
    obtain ⟨⟨x, ec⟩, hF, h⟩ := Option.bind_eq_some_iff.1 h
    simp only at h
    have HF := Aside0.mk hF
    clear hF
    have c1 := (blk_cell H1d.out 1).trans rfl
    go_wp2_with fail
    refine (oid_Decode.calls k a0_1 x ec w4 (HGl.out.below HBd.out) HF.out).mono ?_
    rintro e w5 ⟨rfl, hb5⟩
    clear c1
    have K4 := Aside0.mk ((Mv.of_below (S := fun _ => False) hb5).heap H4d.out id)
    have K2 := Aside0.mk ((Mv.of_below (S := fun _ => False) hb5).heap H2d.out id)
    have KB := Aside0.mk (Below.trans HBd.out (Below.mono hb5 HBd.out.size))
    clear hb5 H4d H2d HBd H1d HF
    have x0 := (blk_cell K4.out 2).trans rfl
    have y0 := blk_frozen K4.out 2
    go_upto_region 13 with (fail)
    clear x0 y0
    obtain ⟨w6, hw6⟩ : ∃ w6, w6 = w5.setCell ⟨b4, 2, none⟩ (.string x) := ⟨_, rfl⟩
    have H4s := Aside0.mk (show w6.heap[b4]? = some (.cells #[.int .i64 a0_0, .int .i64 0, .string x] 28 (0, 0)) by rw [hw6]; exact blk_put K4.out 2 _ rfl)
    have H2s := Aside0.mk (show w6.heap[b2]? = some (.cells #[.int .i64 0, .int .i64 0, .string ⟨#[]⟩] 28 (0, 0)) by rw [hw6]; exact blk_far K2.out HN.out.2.2.1 _)
    have HBs := Aside0.mk (show Below w.heap.size w w6 by rw [hw6]; exact below_set KB.out HN.out.2.1)
    rw [← hw6]
    clear hw6 K4 K2 KB
    unfold value_Decode.fin at h
    by_cases hec : ec = 0
    · rw [if_pos hec] at h
      subst hec
      obtain ⟨tt, hR, h⟩ := Option.bind_eq_some_iff.1 h
      have HR := Aside0.mk hR
      clear hR
      have z0 := (blk_cell H4s.out 0).trans rfl
      have z1 := (blk_cell H4s.out 1).trans rfl
      have z2 := (blk_cell H4s.out 2).trans rfl
      go_wp2_with fail
      refine (value_right.calls k a0_0 0 x tt w6 (HGl.out.below HBs.out) HR.out).mono ?_
      rintro e w7 ⟨rfl, hb7⟩
      clear z0 z1 z2
      have H2r := Aside0.mk ((Mv.of_below (S := fun _ => False) hb7).heap H2s.out id)
      have H4r := Aside0.mk ((Mv.of_below (S := fun _ => False) hb7).heap H4s.out id)
      have HBr := Aside0.mk (Below.trans HBs.out (Below.mono hb7 HBs.out.size))
      clear hb7 H2s H4s HBs
      have x0 := (blk_cell H2r.out 0).trans rfl
      have x1 := (blk_cell H2r.out 1).trans rfl
      have x2 := (blk_cell H2r.out 2).trans rfl
      have y0 := blk_frozen H2r.out 0
      have y1 := blk_frozen H2r.out 1
      have y2 := blk_frozen H2r.out 2
      have z0 := (blk_cell H4r.out 0).trans rfl
      have z1 := (blk_cell H4r.out 1).trans rfl
      have z2 := (blk_cell H4r.out 2).trans rfl
      cases tt with
      | true =>
        rw [if_pos rfl] at h
        simp only [Option.some.injEq, Prod.mk.injEq] at h
        obtain ⟨rfl, rfl, rfl, rfl⟩ := h
        go_wp2
        refine bodyPost_ret (results_ct rfl _ _ b2 28 #[.int .i64 a0_0, .int .i64 0, .string x] (0, 0) _ rfl (by
          refine blk_put (cs := #[.int .i64 a0_0, .int .i64 0, .string ⟨#[]⟩]) ?_ 2 _ rfl
          refine blk_put (cs := #[.int .i64 a0_0, .int .i64 0, .string ⟨#[]⟩]) ?_ 1 _ rfl
          refine blk_put (cs := #[.int .i64 0, .int .i64 0, .string ⟨#[]⟩]) ?_ 0 _ rfl
          exact H2r.out) Tryz.underlying28 rfl (by kernel_rfl)) rfl ?_
        exact ⟨rfl, below_set (below_set (below_set HBr.out HN.out.1) HN.out.1) HN.out.1⟩
      | false =>
        rw [if_neg (by simp)] at h
        simp only [Option.some.injEq, Prod.mk.injEq] at h
        obtain ⟨rfl, rfl, rfl, rfl⟩ := h
        go_wp2
        refine bodyPost_ret (results_ct rfl _ _ b2 28 #[.int .i64 0, .int .i64 0, .string ⟨#[]⟩] (0, 0) _ rfl (by
          refine blk_put (cs := #[.int .i64 0, .int .i64 0, .string ⟨#[]⟩]) ?_ 2 _ rfl
          refine blk_put (cs := #[.int .i64 0, .int .i64 0, .string ⟨#[]⟩]) ?_ 1 _ rfl
          refine blk_put (cs := #[.int .i64 0, .int .i64 0, .string ⟨#[]⟩]) ?_ 0 _ rfl
          exact H2r.out) Tryz.underlying28 rfl (by kernel_rfl)) rfl ?_
        exact ⟨rfl, below_set (below_set (below_set HBr.out HN.out.1) HN.out.1) HN.out.1⟩
    · rw [if_neg hec] at h
      have d1 : (ec != 0) = true := bne_iff_ne.mpr hec
      have d2 := eq_false hec
      clear hec
      simp only [Option.some.injEq, Prod.mk.injEq] at h
      obtain ⟨rfl, rfl, rfl, rfl⟩ := h
      have x0 := (blk_cell H2s.out 0).trans rfl
      have x1 := (blk_cell H2s.out 1).trans rfl
      have x2 := (blk_cell H2s.out 2).trans rfl
      have y0 := blk_frozen H2s.out 0
      have y1 := blk_frozen H2s.out 1
      have y2 := blk_frozen H2s.out 2
      go_wp2
      refine bodyPost_ret (results_ct rfl _ _ b2 28 #[.int .i64 0, .int .i64 0, .string ⟨#[]⟩] (0, 0) _ rfl (by
        refine blk_put (cs := #[.int .i64 0, .int .i64 0, .string ⟨#[]⟩]) ?_ 2 _ rfl
        refine blk_put (cs := #[.int .i64 0, .int .i64 0, .string ⟨#[]⟩]) ?_ 1 _ rfl
        refine blk_put (cs := #[.int .i64 0, .int .i64 0, .string ⟨#[]⟩]) ?_ 0 _ rfl
        exact H2s.out) Tryz.underlying28 rfl (by kernel_rfl)) rfl ?_
      exact ⟨rfl, below_set (below_set (below_set HBs.out HN.out.1) HN.out.1) HN.out.1⟩
  rw [if_neg ht4] at h
  have e4 : (t == 4) = false := beq_eq_false_iff_ne.mpr ht4
  have e4' := eq_false ht4
  clear ht4
  have c1 := (blk_cell H1d.out 1).trans rfl
  have K4 := Aside0.mk H4d.out
  have K2 := Aside0.mk H2d.out
  have KB := Aside0.mk HBd.out
  have x0 := (blk_cell K4.out 2).trans rfl
  have y0 := blk_frozen K4.out 2
  go_upto_region 13 with (fail)
  clear x0 y0
  obtain ⟨w6, hw6⟩ : ∃ w6, w6 = w4.setCell ⟨b4, 2, none⟩ (.string a0_1) := ⟨_, rfl⟩
  have H4s := Aside0.mk (show w6.heap[b4]? = some (.cells #[.int .i64 a0_0, .int .i64 0, .string a0_1] 28 (0, 0)) by rw [hw6]; exact blk_put K4.out 2 _ rfl)
  have H2s := Aside0.mk (show w6.heap[b2]? = some (.cells #[.int .i64 0, .int .i64 0, .string ⟨#[]⟩] 28 (0, 0)) by rw [hw6]; exact blk_far K2.out HN.out.2.2.1 _)
  have HBs := Aside0.mk (show Below w.heap.size w w6 by rw [hw6]; exact below_set KB.out HN.out.2.1)
  rw [← hw6]
  clear hw6 K4 K2 KB
  clear c1 H1d H2d H4d HBd
  unfold value_Decode.fin at h
  rw [if_pos rfl] at h
  obtain ⟨tt, hR, h⟩ := Option.bind_eq_some_iff.1 h
  have HR := Aside0.mk hR
  clear hR
  have z0 := (blk_cell H4s.out 0).trans rfl
  have z1 := (blk_cell H4s.out 1).trans rfl
  have z2 := (blk_cell H4s.out 2).trans rfl
  go_wp2_with fail
  refine (value_right.calls k a0_0 0 a0_1 tt w6 (HGl.out.below HBs.out) HR.out).mono ?_
  rintro e w7 ⟨rfl, hb7⟩
  clear z0 z1 z2
  have H2r := Aside0.mk ((Mv.of_below (S := fun _ => False) hb7).heap H2s.out id)
  have H4r := Aside0.mk ((Mv.of_below (S := fun _ => False) hb7).heap H4s.out id)
  have HBr := Aside0.mk (Below.trans HBs.out (Below.mono hb7 HBs.out.size))
  clear hb7 H2s H4s HBs
  have x0 := (blk_cell H2r.out 0).trans rfl
  have x1 := (blk_cell H2r.out 1).trans rfl
  have x2 := (blk_cell H2r.out 2).trans rfl
  have y0 := blk_frozen H2r.out 0
  have y1 := blk_frozen H2r.out 1
  have y2 := blk_frozen H2r.out 2
  have z0 := (blk_cell H4r.out 0).trans rfl
  have z1 := (blk_cell H4r.out 1).trans rfl
  have z2 := (blk_cell H4r.out 2).trans rfl
  cases tt with
  | true =>
    rw [if_pos rfl] at h
    simp only [Option.some.injEq, Prod.mk.injEq] at h
    obtain ⟨rfl, rfl, rfl, rfl⟩ := h
    go_wp2
    refine bodyPost_ret (results_ct rfl _ _ b2 28 #[.int .i64 a0_0, .int .i64 0, .string a0_1] (0, 0) _ rfl (by
      refine blk_put (cs := #[.int .i64 a0_0, .int .i64 0, .string ⟨#[]⟩]) ?_ 2 _ rfl
      refine blk_put (cs := #[.int .i64 a0_0, .int .i64 0, .string ⟨#[]⟩]) ?_ 1 _ rfl
      refine blk_put (cs := #[.int .i64 0, .int .i64 0, .string ⟨#[]⟩]) ?_ 0 _ rfl
      exact H2r.out) Tryz.underlying28 rfl (by kernel_rfl)) rfl ?_
    exact ⟨rfl, below_set (below_set (below_set HBr.out HN.out.1) HN.out.1) HN.out.1⟩
  | false =>
    rw [if_neg (by simp)] at h
    simp only [Option.some.injEq, Prod.mk.injEq] at h
    obtain ⟨rfl, rfl, rfl, rfl⟩ := h
    go_wp2
    refine bodyPost_ret (results_ct rfl _ _ b2 28 #[.int .i64 0, .int .i64 0, .string ⟨#[]⟩] (0, 0) _ rfl (by
      refine blk_put (cs := #[.int .i64 0, .int .i64 0, .string ⟨#[]⟩]) ?_ 2 _ rfl
      refine blk_put (cs := #[.int .i64 0, .int .i64 0, .string ⟨#[]⟩]) ?_ 1 _ rfl
      refine blk_put (cs := #[.int .i64 0, .int .i64 0, .string ⟨#[]⟩]) ?_ 0 _ rfl
      exact H2r.out) Tryz.underlying28 rfl (by kernel_rfl)) rfl ?_
    exact ⟨rfl, below_set (below_set (below_set HBr.out HN.out.1) HN.out.1) HN.out.1⟩

end Go.Proofs.YtjfimileopbadaaGreatDoor.XVaB
