-- Laid by extprint.py (the session's own driver): functions told by the kit's printer and by hand.
import Derived.Test.YtjfimileopbadaaGreatDoorXVaRx0
import Derived.Test.YtjfimileopbadaaGreatDoorXVaRx3
import Derived.Test.YtjfimileopbadaaGreatDoorXVaRx7
import Derived.Test.YtjfimileopbadaaGreatDoorXVaRx8
namespace Go.Proofs.YtjfimileopbadaaGreatDoor.XVaR
open Go.RowKit Gong Go.Proofs.YtjfimileopbadaaGreatDoorW.PrintWords Go.Proofs.YtjfimileopbadaaGreatDoorW.PrintLast Go.Proofs.YtjfimileopbadaaGreatDoorW.PrintMore
attribute [local go_sem] max2_int min2_int max_two min_two max_three min_three max_four min_four   -- for this text's walks alone
set_option linter.unusedVariables false
set_option linter.unusedSimpArgs false

/-! ### value_Decode: function 39 -/
def value_Decode.fin (k : Nat) (kind n : Int) (s : ByteArray) (e : Int) : Option (Int × Int × ByteArray × Int) :=
  if e = 0 then (value_right.f k kind n s).bind fun t => if t = true then some (kind, n, s, 0) else some (0, 0, ⟨#[]⟩, 70) else some (0, 0, ⟨#[]⟩, 70)
def value_Decode.f (k : Nat) (a0_0 : Int) (a0_1 : ByteArray) : Option (Int × Int × ByteArray × Int) := (value_of.f a0_0).bind fun t =>
  if t = 1 then (ber_Number.f a0_1).bind fun r => value_Decode.fin k a0_0 r.1 ⟨#[]⟩ r.2 else
  if t = 2 then (ber_Unsigned.f a0_1).bind fun r => value_Decode.fin k a0_0 (wrap64 r.1) ⟨#[]⟩ r.2 else
  if t = 4 then (oid_Decode.f k a0_1).bind fun r => value_Decode.fin k a0_0 0 r.1 r.2 else value_Decode.fin k a0_0 0 a0_1 0
theorem value_Decode.fin_mono (kind n : Int) (s : ByteArray) (e : Int) (k : Nat) : LeO (value_Decode.fin k kind n s e) (value_Decode.fin (k + 1) kind n s e) := by
  unfold value_Decode.fin
  split
  · exact LeO.bind (value_right.mono _ _ _ _) (fun _ => LeO.refl _)
  · exact LeO.refl _
theorem value_Decode.mono : ∀ a0 a1 k, LeO (value_Decode.f k a0 a1) (value_Decode.f (k + 1) a0 a1) := by
  intro a0 a1 k
  unfold value_Decode.f
  refine LeO.bind (LeO.refl _) (fun t => ?_)
  split
  · exact LeO.bind (LeO.refl _) (fun _ => value_Decode.fin_mono _ _ _ _ k)
  · split
    · exact LeO.bind (LeO.refl _) (fun _ => value_Decode.fin_mono _ _ _ _ k)
    · split
      · exact LeO.bind (oid_Decode.mono _ _) (fun _ => value_Decode.fin_mono _ _ _ _ k)
      · exact value_Decode.fin_mono _ _ _ _ k
set_option maxHeartbeats 8000000 in
set_option maxRecDepth 100000 in
theorem value_Decode.calls (k : Nat) (a0_0 : Int) (a0_1 : ByteArray) (r1 : Int) (r2 : Int) (r3 : ByteArray) (r4 : Int) (w : World) (hG : Gl w) (h : value_Decode.f k a0_0 a0_1 = some (r1, r2, r3, r4)) :
    Calls Tryz.prog 39 #[.agg #[.int .i64 a0_0, .string a0_1]] w fun e w' => e = .returned (.tuple #[.agg #[.int .i64 r1, .int .i64 r2, .string r3], .int .i64 r4]) ∧ Below w.heap.size w w' := by
  have HGl := Aside0.mk hG
  unfold value_Decode.f at h
  obtain ⟨t, hof, h⟩ := Option.bind_eq_some_iff.1 h
  have HOF := Aside0.mk hof
  clear hG hof
  go_enter Tryz.func39, Tryz.ntmps39
  go_wp2_with fail
  obtain ⟨w3, hw3⟩ : ∃ w3, w3 = (((w.alloc (.cells #[.int .i64 a0_0, .string a0_1] 50)).alloc (.cells #[.int .i64 0, .int .i64 0, .string ⟨#[]⟩] 28)).alloc (.cells #[.int .i64 a0_0, .int .i64 0, .string ⟨#[]⟩] 28)) := ⟨_, rfl⟩
  have H1 := Aside0.mk (show w3.heap[w.heap.size]? = some (.cells #[.int .i64 a0_0, .string a0_1] 50 (0, 0)) by rw [hw3]; exact blk_alloc (blk_alloc (heap_alloc_new w _) _) _)
  have H2 := Aside0.mk (show w3.heap[w.heap.size + 1]? = some (.cells #[.int .i64 0, .int .i64 0, .string ⟨#[]⟩] 28 (0, 0)) by
    rw [hw3]; refine blk_alloc ?_ _
    have := heap_alloc_new (w.alloc (.cells #[.int .i64 a0_0, .string a0_1] 50)) (.cells #[.int .i64 0, .int .i64 0, .string ⟨#[]⟩] 28)
    simpa using this)
  have H4 := Aside0.mk (show w3.heap[w.heap.size + 1 + 1]? = some (.cells #[.int .i64 a0_0, .int .i64 0, .string ⟨#[]⟩] 28 (0, 0)) by
    rw [hw3]
    have := heap_alloc_new ((w.alloc (.cells #[.int .i64 a0_0, .string a0_1] 50)).alloc (.cells #[.int .i64 0, .int .i64 0, .string ⟨#[]⟩] 28)) (.cells #[.int .i64 a0_0, .int .i64 0, .string ⟨#[]⟩] 28)
    simpa using this)
  have HB := Aside0.mk (show Below w.heap.size w w3 by rw [hw3]; exact below_alloc (below_alloc (below_alloc (Below.refl _ _) _) _) _)
  rw [← hw3]
  obtain ⟨b2, hb2⟩ : ∃ b2, b2 = w.heap.size + 1 := ⟨_, rfl⟩
  obtain ⟨b4, hb4⟩ : ∃ b4, b4 = w.heap.size + 1 + 1 := ⟨_, rfl⟩
  rw [← hb4, ← hb2]
  rw [← hb2] at H2
  rw [← hb4] at H4
  have HN := Aside0.mk (show w.heap.size ≤ b2 ∧ w.heap.size ≤ b4 ∧ b2 ≠ b4 ∧ w.heap.size ≠ b4 by omega)
  have n1 : b2 ≠ b4 := by omega
  have n2 : b4 ≠ b2 := by omega
  have n3 : w.heap.size ≠ b4 := by omega
  clear hb4 hb2 hw3
  refine (value_of.calls a0_0 t w3 HOF.out).mono ?_
  rintro e w' ⟨rfl, ⟨nd, rfl⟩⟩
  have H1d := Aside0.mk (show (w3.drewN nd).heap[w.heap.size]? = _ from H1.out)
  have H2d := Aside0.mk (show (w3.drewN nd).heap[b2]? = _ from H2.out)
  have H4d := Aside0.mk (show (w3.drewN nd).heap[b4]? = _ from H4.out)
  have HBd := Aside0.mk (show Below w.heap.size w (w3.drewN nd) from pw_below_drewN HB.out nd)
  obtain ⟨w4, hw4⟩ : ∃ w4, w4 = w3.drewN nd := ⟨_, rfl⟩
  rw [← hw4] at H1d H2d H4d HBd ⊢
  clear hw4 H1 H2 H4 HB HOF
  by_cases ht1 : t = 1
  · subst ht1
    rw [if_pos rfl] at h
    obtain ⟨⟨x, ec⟩, hF, h⟩ := Option.bind_eq_some_iff.1 h
    simp only at h
    have HF := Aside0.mk hF
    clear hF
    have c1 := (blk_cell H1d.out 1).trans rfl
    go_wp2_with fail
    refine (ber_Number.calls a0_1 x ec w4 HF.out).mono ?_
    rintro e w5 ⟨rfl, hb5⟩
    clear c1
    have K4 := Aside0.mk ((Mv.of_below (S := fun _ => False) hb5).heap H4d.out id)
    have K2 := Aside0.mk ((Mv.of_below (S := fun _ => False) hb5).heap H2d.out id)
    have KB := Aside0.mk (Below.trans HBd.out (Below.mono hb5 HBd.out.size))
    clear hb5 H4d H2d HBd H1d HF
    have x0 := (blk_cell K4.out 1).trans rfl
    have y0 := blk_frozen K4.out 1
    go_upto_region 13 with (fail)
    clear x0 y0
    obtain ⟨w6, hw6⟩ : ∃ w6, w6 = w5.setCell ⟨b4, 1, none⟩ (.int .i64 x) := ⟨_, rfl⟩
    have H4s := Aside0.mk (show w6.heap[b4]? = some (.cells #[.int .i64 a0_0, .int .i64 x, .string ⟨#[]⟩] 28 (0, 0)) by rw [hw6]; exact blk_put K4.out 1 _ rfl)
    have H2s := Aside0.mk (show w6.heap[b2]? = some (.cells #[.int .i64 0, .int .i64 0, .string ⟨#[]⟩] 28 (0, 0)) by rw [hw6]; exact blk_far K2.out HN.out.2.2.1 _)
    have HBs := Aside0.mk (show Below w.heap.size w w6 by rw [hw6]; exact below_set KB.out HN.out.2.1)
    rw [← hw6]
    clear hw6 K4 K2 KB
    unfold value_Decode.fin at h
    by_cases hec : ec = 0
    · rw [if_pos hec] at h
      subst hec
      obtain ⟨tt, hR, h⟩ := Option.bind_eq_some_iff.1 h
      have HR := Aside0.mk hR
      clear hR
      have z0 := (blk_cell H4s.out 0).trans rfl
      have z1 := (blk_cell H4s.out 1).trans rfl
      have z2 := (blk_cell H4s.out 2).trans rfl
      go_wp2_with fail
      refine (value_right.calls k a0_0 x ⟨#[]⟩ tt w6 (HGl.out.below HBs.out) HR.out).mono ?_
      rintro e w7 ⟨rfl, hb7⟩
      clear z0 z1 z2
      have H2r := Aside0.mk ((Mv.of_below (S := fun _ => False) hb7).heap H2s.out id)
      have H4r := Aside0.mk ((Mv.of_below (S := fun _ => False) hb7).heap H4s.out id)
      have HBr := Aside0.mk (Below.trans HBs.out (Below.mono hb7 HBs.out.size))
      clear hb7 H2s H4s HBs
      have x0 := (blk_cell H2r.out 0).trans rfl
      have x1 := (blk_cell H2r.out 1).trans rfl
      have x2 := (blk_cell H2r.out 2).trans rfl
      have y0 := blk_frozen H2r.out 0
      have y1 := blk_frozen H2r.out 1
      have y2 := blk_frozen H2r.out 2
      have z0 := (blk_cell H4r.out 0).trans rfl
      have z1 := (blk_cell H4r.out 1).trans rfl
      have z2 := (blk_cell H4r.out 2).trans rfl
      cases tt with
      | true =>
        rw [if_pos rfl] at h
        simp only [Option.some.injEq, Prod.mk.injEq] at h
        obtain ⟨rfl, rfl, rfl, rfl⟩ := h
        go_wp2
        refine bodyPost_ret (results_ct rfl _ _ b2 28 #[.int .i64 a0_0, .int .i64 x, .string ⟨#[]⟩] (0, 0) _ rfl (by
          refine blk_put (cs := #[.int .i64 a0_0, .int .i64 x, .string ⟨#[]⟩]) ?_ 2 _ rfl
          refine blk_put (cs := #[.int .i64 a0_0, .int .i64 0, .string ⟨#[]⟩]) ?_ 1 _ rfl
          refine blk_put (cs := #[.int .i64 0, .int .i64 0, .string ⟨#[]⟩]) ?_ 0 _ rfl
          exact H2r.out) Tryz.underlying28 rfl (by kernel_rfl)) rfl ?_
        exact ⟨rfl, below_set (below_set (below_set HBr.out HN.out.1) HN.out.1) HN.out.1⟩
      | false =>
        rw [if_neg (by simp)] at h
        simp only [Option.some.injEq, Prod.mk.injEq] at h
        obtain ⟨rfl, rfl, rfl, rfl⟩ := h
        go_wp2
        refine bodyPost_ret (results_ct rfl _ _ b2 28 #[.int .i64 0, .int .i64 0, .string ⟨#[]⟩] (0, 0) _ rfl (by
          refine blk_put (cs := #[.int .i64 0, .int .i64 0, .string ⟨#[]⟩]) ?_ 2 _ rfl
          refine blk_put (cs := #[.int .i64 0, .int .i64 0, .string ⟨#[]⟩]) ?_ 1 _ rfl
          refine blk_put (cs := #[.int .i64 0, .int .i64 0, .string ⟨#[]⟩]) ?_ 0 _ rfl
          exact H2r.out) Tryz.underlying28 rfl (by kernel_rfl)) rfl ?_
        exact ⟨rfl, below_set (below_set (below_set HBr.out HN.out.1) HN.out.1) HN.out.1⟩
    · rw [if_neg hec] at h
      have d1 : (ec != 0) = true := bne_iff_ne.mpr hec
      have d2 := eq_false hec
      clear hec
      simp only [Option.some.injEq, Prod.mk.injEq] at h
      obtain ⟨rfl, rfl, rfl, rfl⟩ := h
      have x0 := (blk_cell H2s.out 0).trans rfl
      have x1 := (blk_cell H2s.out 1).trans rfl
      have x2 := (blk_cell H2s.out 2).trans rfl
      have y0 := blk_frozen H2s.out 0
      have y1 := blk_frozen H2s.out 1
      have y2 := blk_frozen H2s.out 2
      go_wp2
      refine bodyPost_ret (results_ct rfl _ _ b2 28 #[.int .i64 0, .int .i64 0, .string ⟨#[]⟩] (0, 0) _ rfl (by
        refine blk_put (cs := #[.int .i64 0, .int .i64 0, .string ⟨#[]⟩]) ?_ 2 _ rfl
        refine blk_put (cs := #[.int .i64 0, .int .i64 0, .string ⟨#[]⟩]) ?_ 1 _ rfl
        refine blk_put (cs := #[.int .i64 0, .int .i64 0, .string ⟨#[]⟩]) ?_ 0 _ rfl
        exact H2s.out) Tryz.underlying28 rfl (by kernel_rfl)) rfl ?_
      exact ⟨rfl, below_set (below_set (below_set HBs.out HN.out.1) HN.out.1) HN.out.1⟩
  rw [if_neg ht1] at h
  have e1 : (t == 1) = false := beq_eq_false_iff_ne.mpr ht1
  have e1' := eq_false ht1
  clear ht1
  by_cases ht2 : t = 2
  · subst ht2
    rw [if_pos rfl] at h
    obtain ⟨⟨x, ec⟩, hF, h⟩ := Option.bind_eq_some_iff.1 h
    simp only at h
    have HF := Aside0.mk hF
    clear hF
    have c1 := (blk_cell H1d.out 1).trans rfl
    go_wp2_with fail
    refine (ber_Unsigned.calls a0_1 x ec w4 HF.out).mono ?_
    rintro e w5 ⟨rfl, hb5⟩
    clear c1
    have K4 := Aside0.mk ((Mv.of_below (S := fun _ => False) hb5).heap H4d.out id)
    have K2 := Aside0.mk ((Mv.of_below (S := fun _ => False) hb5).heap H2d.out id)
    have KB := Aside0.mk (Below.trans HBd.out (Below.mono hb5 HBd.out.size))
    clear hb5 H4d H2d HBd H1d HF
    have x0 := (blk_cell K4.out 1).trans rfl
    have y0 := blk_frozen K4.out 1
    go_upto_region 13 with (fail)
    clear x0 y0
    obtain ⟨w6, hw6⟩ : ∃ w6, w6 = w5.setCell ⟨b4, 1, none⟩ (.int .i64 (wrap64 x)) := ⟨_, rfl⟩
    have H4s := Aside0.mk (show w6.heap[b4]? = some (.cells #[.int .i64 a0_0, .int .i64 (wrap64 x), .string ⟨#[]⟩] 28 (0, 0)) by rw [hw6]; exact blk_put K4.out 1 _ rfl)
    have H2s := Aside0.mk (show w6.heap[b2]? = some (.cells #[.int .i64 0, .int .i64 0, .string ⟨#[]⟩] 28 (0, 0)) by rw [hw6]; exact blk_far K2.out HN.out.2.2.1 _)
    have HBs := Aside0.mk (show Below w.heap.size w w6 by rw [hw6]; exact below_set KB.out HN.out.2.1)
    rw [← hw6]
    clear hw6 K4 K2 KB
    unfold value_Decode.fin at h
    by_cases hec : ec = 0
    · rw [if_pos hec] at h
      subst hec
      obtain ⟨tt, hR, h⟩ := Option.bind_eq_some_iff.1 h
      have HR := Aside0.mk hR
      clear hR
      have z0 := (blk_cell H4s.out 0).trans rfl
      have z1 := (blk_cell H4s.out 1).trans rfl
      have z2 := (blk_cell H4s.out 2).trans rfl
      go_wp2_with fail
      refine (value_right.calls k a0_0 (wrap64 x) ⟨#[]⟩ tt w6 (HGl.out.below HBs.out) HR.out).mono ?_
      rintro e w7 ⟨rfl, hb7⟩
      clear z0 z1 z2
      have H2r := Aside0.mk ((Mv.of_below (S := fun _ => False) hb7).heap H2s.out id)
      have H4r := Aside0.mk ((Mv.of_below (S := fun _ => False) hb7).heap H4s.out id)
      have HBr := Aside0.mk (Below.trans HBs.out (Below.mono hb7 HBs.out.size))
      clear hb7 H2s H4s HBs
      have x0 := (blk_cell H2r.out 0).trans rfl
      have x1 := (blk_cell H2r.out 1).trans rfl
      have x2 := (blk_cell H2r.out 2).trans rfl
      have y0 := blk_frozen H2r.out 0
      have y1 := blk_frozen H2r.out 1
      have y2 := blk_frozen H2r.out 2
      have z0 := (blk_cell H4r.out 0).trans rfl
      have z1 := (blk_cell H4r.out 1).trans rfl
      have z2 := (blk_cell H4r.out 2).trans rfl
      cases tt with
      | true =>
        rw [if_pos rfl] at h
        simp only [Option.some.injEq, Prod.mk.injEq] at h
        obtain ⟨rfl, rfl, rfl, rfl⟩ := h
        go_wp2
        refine bodyPost_ret (results_ct rfl _ _ b2 28 #[.int .i64 a0_0, .int .i64 (wrap64 x), .string ⟨#[]⟩] (0, 0) _ rfl (by
          refine blk_put (cs := #[.int .i64 a0_0, .int .i64 (wrap64 x), .string ⟨#[]⟩]) ?_ 2 _ rfl
          refine blk_put (cs := #[.int .i64 a0_0, .int .i64 0, .string ⟨#[]⟩]) ?_ 1 _ rfl
          refine blk_put (cs := #[.int .i64 0, .int .i64 0, .string ⟨#[]⟩]) ?_ 0 _ rfl
          exact H2r.out) Tryz.underlying28 rfl (by kernel_rfl)) rfl ?_
        exact ⟨rfl, below_set (below_set (below_set HBr.out HN.out.1) HN.out.1) HN.out.1⟩
      | false =>
        rw [if_neg (by simp)] at h
        simp only [Option.some.injEq, Prod.mk.injEq] at h
        obtain ⟨rfl, rfl, rfl, rfl⟩ := h
        go_wp2
        refine bodyPost_ret (results_ct rfl _ _ b2 28 #[.int .i64 0, .int .i64 0, .string ⟨#[]⟩] (0, 0) _ rfl (by
          refine blk_put (cs := #[.int .i64 0, .int .i64 0, .string ⟨#[]⟩]) ?_ 2 _ rfl
          refine blk_put (cs := #[.int .i64 0, .int .i64 0, .string ⟨#[]⟩]) ?_ 1 _ rfl
          refine blk_put (cs := #[.int .i64 0, .int .i64 0, .string ⟨#[]⟩]) ?_ 0 _ rfl
          exact H2r.out) Tryz.underlying28 rfl (by kernel_rfl)) rfl ?_
        exact ⟨rfl, below_set (below_set (below_set HBr.out HN.out.1) HN.out.1) HN.out.1⟩
    · rw [if_neg hec] at h
      have d1 : (ec != 0) = true := bne_iff_ne.mpr hec
      have d2 := eq_false hec
      clear hec
      simp only [Option.some.injEq, Prod.mk.injEq] at h
      obtain ⟨rfl, rfl, rfl, rfl⟩ := h
      have x0 := (blk_cell H2s.out 0).trans rfl
      have x1 := (blk_cell H2s.out 1).trans rfl
      have x2 := (blk_cell H2s.out 2).trans rfl
      have y0 := blk_frozen H2s.out 0
      have y1 := blk_frozen H2s.out 1
      have y2 := blk_frozen H2s.out 2
      go_wp2
      refine bodyPost_ret (results_ct rfl _ _ b2 28 #[.int .i64 0, .int .i64 0, .string ⟨#[]⟩] (0, 0) _ rfl (by
        refine blk_put (cs := #[.int .i64 0, .int .i64 0, .string ⟨#[]⟩]) ?_ 2 _ rfl
        refine blk_put (cs := #[.int .i64 0, .int .i64 0, .string ⟨#[]⟩]) ?_ 1 _ rfl
        refine blk_put (cs := #[.int .i64 0, .int .i64 0, .string ⟨#[]⟩]) ?_ 0 _ rfl
        exact H2s.out) Tryz.underlying28 rfl (by kernel_rfl)) rfl ?_
      exact ⟨rfl, below_set (below_set (below_set HBs.out HN.out.1) HN.out.1) HN.out.1⟩
  rw [if_neg ht2] at h
  have e2 : (t == 2) = false := beq_eq_false_iff_ne.mpr ht2
  have e2' := eq_false ht2
  clear ht2
  by_cases ht4 : t = 4
  · subst ht4
    rw [if_pos rfl] at h
    obtain ⟨⟨x, ec⟩, hF, h⟩ := Option.bind_eq_some_iff.1 h
    simp only at h
    have HF := Aside0.mk hF
    clear hF
    have c1 := (blk_cell H1d.out 1).trans rfl
    go_wp2_with fail
    refine (oid_Decode.calls k a0_1 x ec w4 (HGl.out.below HBd.out) HF.out).mono ?_
    rintro e w5 ⟨rfl, hb5⟩
    clear c1
    have K4 := Aside0.mk ((Mv.of_below (S := fun _ => False) hb5).heap H4d.out id)
    have K2 := Aside0.mk ((Mv.of_below (S := fun _ => False) hb5).heap H2d.out id)
    have KB := Aside0.mk (Below.trans HBd.out (Below.mono hb5 HBd.out.size))
    clear hb5 H4d H2d HBd H1d HF
    have x0 := (blk_cell K4.out 2).trans rfl
    have y0 := blk_frozen K4.out 2
    go_upto_region 13 with (fail)
    clear x0 y0
    obtain ⟨w6, hw6⟩ : ∃ w6, w6 = w5.setCell ⟨b4, 2, none⟩ (.string x) := ⟨_, rfl⟩
    have H4s := Aside0.mk (show w6.heap[b4]? = some (.cells #[.int .i64 a0_0, .int .i64 0, .string x] 28 (0, 0)) by rw [hw6]; exact blk_put K4.out 2 _ rfl)
    have H2s := Aside0.mk (show w6.heap[b2]? = some (.cells #[.int .i64 0, .int .i64 0, .string ⟨#[]⟩] 28 (0, 0)) by rw [hw6]; exact blk_far K2.out HN.out.2.2.1 _)
    have HBs := Aside0.mk (show Below w.heap.size w w6 by rw [hw6]; exact below_set KB.out HN.out.2.1)
    rw [← hw6]
    clear hw6 K4 K2 KB
    unfold value_Decode.fin at h
    by_cases hec : ec = 0
    · rw [if_pos hec] at h
      subst hec
      obtain ⟨tt, hR, h⟩ := Option.bind_eq_some_iff.1 h
      have HR := Aside0.mk hR
      clear hR
      have z0 := (blk_cell H4s.out 0).trans rfl
      have z1 := (blk_cell H4s.out 1).trans rfl
      have z2 := (blk_cell H4s.out 2).trans rfl
      go_wp2_with fail
      refine (value_right.calls k a0_0 0 x tt w6 (HGl.out.below HBs.out) HR.out).mono ?_
      rintro e w7 ⟨rfl, hb7⟩
      clear z0 z1 z2
      have H2r := Aside0.mk ((Mv.of_below (S := fun _ => False) hb7).heap H2s.out id)
      have H4r := Aside0.mk ((Mv.of_below (S := fun _ => False) hb7).heap H4s.out id)
      have HBr := Aside0.mk (Below.trans HBs.out (Below.mono hb7 HBs.out.size))
      clear hb7 H2s H4s HBs
      have x0 := (blk_cell H2r.out 0).trans rfl
      have x1 := (blk_cell H2r.out 1).trans rfl
      have x2 := (blk_cell H2r.out 2).trans rfl
      have y0 := blk_frozen H2r.out 0
      have y1 := blk_frozen H2r.out 1
      have y2 := blk_frozen H2r.out 2
      have z0 := (blk_cell H4r.out 0).trans rfl
      have z1 := (blk_cell H4r.out 1).trans rfl
      have z2 := (blk_cell H4r.out 2).trans rfl
      cases tt with
      | true =>
        rw [if_pos rfl] at h
        simp only [Option.some.injEq, Prod.mk.injEq] at h
        obtain ⟨rfl, rfl, rfl, rfl⟩ := h
        go_wp2
        refine bodyPost_ret (results_ct rfl _ _ b2 28 #[.int .i64 a0_0, .int .i64 0, .string x] (0, 0) _ rfl (by
          refine blk_put (cs := #[.int .i64 a0_0, .int .i64 0, .string ⟨#[]⟩]) ?_ 2 _ rfl
          refine blk_put (cs := #[.int .i64 a0_0, .int .i64 0, .string ⟨#[]⟩]) ?_ 1 _ rfl
          refine blk_put (cs := #[.int .i64 0, .int .i64 0, .string ⟨#[]⟩]) ?_ 0 _ rfl
          exact H2r.out) Tryz.underlying28 rfl (by kernel_rfl)) rfl ?_
        exact ⟨rfl, below_set (below_set (below_set HBr.out HN.out.1) HN.out.1) HN.out.1⟩
      | false =>
        rw [if_neg (by simp)] at h
        simp only [Option.some.injEq, Prod.mk.injEq] at h
        obtain ⟨rfl, rfl, rfl, rfl⟩ := h
        go_wp2
        refine bodyPost_ret (results_ct rfl _ _ b2 28 #[.int .i64 0, .int .i64 0, .string ⟨#[]⟩] (0, 0) _ rfl (by
          refine blk_put (cs := #[.int .i64 0, .int .i64 0, .string ⟨#[]⟩]) ?_ 2 _ rfl
          refine blk_put (cs := #[.int .i64 0, .int .i64 0, .string ⟨#[]⟩]) ?_ 1 _ rfl
          refine blk_put (cs := #[.int .i64 0, .int .i64 0, .string ⟨#[]⟩]) ?_ 0 _ rfl
          exact H2r.out) Tryz.underlying28 rfl (by kernel_rfl)) rfl ?_
        exact ⟨rfl, below_set (below_set (below_set HBr.out HN.out.1) HN.out.1) HN.out.1⟩
    · rw [if_neg hec] at h
      have d1 : (ec != 0) = true := bne_iff_ne.mpr hec
      have d2 := eq_false hec
      clear hec
      simp only [Option.some.injEq, Prod.mk.injEq] at h
      obtain ⟨rfl, rfl, rfl, rfl⟩ := h
      have x0 := (blk_cell H2s.out 0).trans rfl
      have x1 := (blk_cell H2s.out 1).trans rfl
      have x2 := (blk_cell H2s.out 2).trans rfl
      have y0 := blk_frozen H2s.out 0
      have y1 := blk_frozen H2s.out 1
      have y2 := blk_frozen H2s.out 2
      go_wp2
      refine bodyPost_ret (results_ct rfl _ _ b2 28 #[.int .i64 0, .int .i64 0, .string ⟨#[]⟩] (0, 0) _ rfl (by
        refine blk_put (cs := #[.int .i64 0, .int .i64 0, .string ⟨#[]⟩]) ?_ 2 _ rfl
        refine blk_put (cs := #[.int .i64 0, .int .i64 0, .string ⟨#[]⟩]) ?_ 1 _ rfl
        refine blk_put (cs := #[.int .i64 0, .int .i64 0, .string ⟨#[]⟩]) ?_ 0 _ rfl
        exact H2s.out) Tryz.underlying28 rfl (by kernel_rfl)) rfl ?_
      exact ⟨rfl, below_set (below_set (below_set HBs.out HN.out.1) HN.out.1) HN.out.1⟩
  rw [if_neg ht4] at h
  have e4 : (t == 4) = false := beq_eq_false_iff_ne.mpr ht4
  have e4' := eq_false ht4
  clear ht4
  have c1 := (blk_cell H1d.out 1).trans rfl
  have K4 := Aside0.mk H4d.out
  have K2 := Aside0.mk H2d.out
  have KB := Aside0.mk HBd.out
  have x0 := (blk_cell K4.out 2).trans rfl
  have y0 := blk_frozen K4.out 2
  go_upto_region 13 with (fail)
  clear x0 y0
  obtain ⟨w6, hw6⟩ : ∃ w6, w6 = w4.setCell ⟨b4, 2, none⟩ (.string a0_1) := ⟨_, rfl⟩
  have H4s := Aside0.mk (show w6.heap[b4]? = some (.cells #[.int .i64 a0_0, .int .i64 0, .string a0_1] 28 (0, 0)) by rw [hw6]; exact blk_put K4.out 2 _ rfl)
  have H2s := Aside0.mk (show w6.heap[b2]? = some (.cells #[.int .i64 0, .int .i64 0, .string ⟨#[]⟩] 28 (0, 0)) by rw [hw6]; exact blk_far K2.out HN.out.2.2.1 _)
  have HBs := Aside0.mk (show Below w.heap.size w w6 by rw [hw6]; exact below_set KB.out HN.out.2.1)
  rw [← hw6]
  clear hw6 K4 K2 KB
  clear c1 H1d H2d H4d HBd
  unfold value_Decode.fin at h
  rw [if_pos rfl] at h
  obtain ⟨tt, hR, h⟩ := Option.bind_eq_some_iff.1 h
  have HR := Aside0.mk hR
  clear hR
  have z0 := (blk_cell H4s.out 0).trans rfl
  have z1 := (blk_cell H4s.out 1).trans rfl
  have z2 := (blk_cell H4s.out 2).trans rfl
  go_wp2_with fail
  refine (value_right.calls k a0_0 0 a0_1 tt w6 (HGl.out.below HBs.out) HR.out).mono ?_
  rintro e w7 ⟨rfl, hb7⟩
  clear z0 z1 z2
  have H2r := Aside0.mk ((Mv.of_below (S := fun _ => False) hb7).heap H2s.out id)
  have H4r := Aside0.mk ((Mv.of_below (S := fun _ => False) hb7).heap H4s.out id)
  have HBr := Aside0.mk (Below.trans HBs.out (Below.mono hb7 HBs.out.size))
  clear hb7 H2s H4s HBs
  have x0 := (blk_cell H2r.out 0).trans rfl
  have x1 := (blk_cell H2r.out 1).trans rfl
  have x2 := (blk_cell H2r.out 2).trans rfl
  have y0 := blk_frozen H2r.out 0
  have y1 := blk_frozen H2r.out 1
  have y2 := blk_frozen H2r.out 2
  have z0 := (blk_cell H4r.out 0).trans rfl
  have z1 := (blk_cell H4r.out 1).trans rfl
  have z2 := (blk_cell H4r.out 2).trans rfl
  cases tt with
  | true =>
    rw [if_pos rfl] at h
    simp only [Option.some.injEq, Prod.mk.injEq] at h
    obtain ⟨rfl, rfl, rfl, rfl⟩ := h
    go_wp2
    refine bodyPost_ret (results_ct rfl _ _ b2 28 #[.int .i64 a0_0, .int .i64 0, .string a0_1] (0, 0) _ rfl (by
      refine blk_put (cs := #[.int .i64 a0_0, .int .i64 0, .string ⟨#[]⟩]) ?_ 2 _ rfl
      refine blk_put (cs := #[.int .i64 a0_0, .int .i64 0, .string ⟨#[]⟩]) ?_ 1 _ rfl
      refine blk_put (cs := #[.int .i64 0, .int .i64 0, .string ⟨#[]⟩]) ?_ 0 _ rfl
      exact H2r.out) Tryz.underlying28 rfl (by kernel_rfl)) rfl ?_
    exact ⟨rfl, below_set (below_set (below_set HBr.out HN.out.1) HN.out.1) HN.out.1⟩
  | false =>
    rw [if_neg (by simp)] at h
    simp only [Option.some.injEq, Prod.mk.injEq] at h
    obtain ⟨rfl, rfl, rfl, rfl⟩ := h
    go_wp2
    refine bodyPost_ret (results_ct rfl _ _ b2 28 #[.int .i64 0, .int .i64 0, .string ⟨#[]⟩] (0, 0) _ rfl (by
      refine blk_put (cs := #[.int .i64 0, .int .i64 0, .string ⟨#[]⟩]) ?_ 2 _ rfl
      refine blk_put (cs := #[.int .i64 0, .int .i64 0, .string ⟨#[]⟩]) ?_ 1 _ rfl
      refine blk_put (cs := #[.int .i64 0, .int .i64 0, .string ⟨#[]⟩]) ?_ 0 _ rfl
      exact H2r.out) Tryz.underlying28 rfl (by kernel_rfl)) rfl ?_
    exact ⟨rfl, below_set (below_set (below_set HBr.out HN.out.1) HN.out.1) HN.out.1⟩

/-! ### gongref06_Is: function 118 -/
mutual
def gongref06_Is.j0 : Nat → List Int → Bool → Option (Bool)
  | 0, _, _ => none
  | k + 1, x0, x11 => if x11 = true then (some false) else (gongref06_Is.l0 k x0 0)
def gongref06_Is.l0 : Nat → List Int → Int → Option (Bool)
  | 0, _, _ => none
  | k + 1, x0, x3 => if x3 < (x0.length : Int) then (if 0 ≤ x3 then (if (rd x0 x3) < 0 then (some false) else (if (rd x0 x3) > 4294967295 then (some false) else (gongref06_Is.l0 k x0 (wrap64 (x3 + 1))))) else (none)) else (if 0 < (x0.length : Int) then (if (rd x0 0) < 2 then (if 1 < (x0.length : Int) then (if (rd x0 1) ≤ 39 then (some true) else (if (rd x0 0) = 2 then (some (decide ((rd x0 1) ≤ 4294967215))) else (some false))) else (none)) else (if (rd x0 0) = 2 then (if 1 < (x0.length : Int) then (some (decide ((rd x0 1) ≤ 4294967215))) else (none)) else (some false))) else (none))
end
def gongref06_Is.f (k : Nat) (l0 : List Int) : Option (Bool) := if (l0.length : Int) < 2 then (gongref06_Is.j0 k l0 true) else (gongref06_Is.j0 k l0 (decide ((l0.length : Int) > 128)))
theorem gongref06_Is.mono_l : ∀ k, (∀ y0 y1, LeO (gongref06_Is.j0 k y0 y1) (gongref06_Is.j0 (k + 1) y0 y1)) ∧ (∀ y0 y1, LeO (gongref06_Is.l0 k y0 y1) (gongref06_Is.l0 (k + 1) y0 y1))
  | 0 => ⟨fun _ _ r h => by simp [gongref06_Is.j0] at h, fun _ _ r h => by simp [gongref06_Is.l0] at h⟩
  | k + 1 => by
    obtain ⟨ih0, ih1⟩ := gongref06_Is.mono_l k
    refine ⟨?_, ?_⟩
    · intro y0 y1
      unfold gongref06_Is.j0
      repeat' first
      | (with_reducible exact ih0 _ _)
      | (with_reducible exact ih1 _ _)
      | (with_reducible exact LeO.refl _)
      | (with_reducible exact LeO.none _)
      | (with_reducible refine LeO.ite ?_ ?_)
      | (with_reducible refine LeO.bind ?_ (fun _ => ?_))
      | exact ih0 _ _
      | exact ih1 _ _
      | exact LeO.none _
      | refine LeO.ite ?_ ?_
      | refine LeO.bind ?_ (fun _ => ?_)
    · intro y0 y1
      unfold gongref06_Is.l0
      repeat' first
      | (with_reducible exact ih0 _ _)
      | (with_reducible exact ih1 _ _)
      | (with_reducible exact LeO.refl _)
      | (with_reducible exact LeO.none _)
      | (with_reducible refine LeO.ite ?_ ?_)
      | (with_reducible refine LeO.bind ?_ (fun _ => ?_))
      | exact ih0 _ _
      | exact ih1 _ _
      | exact LeO.none _
      | refine LeO.ite ?_ ?_
      | refine LeO.bind ?_ (fun _ => ?_)
theorem gongref06_Is.mono : ∀ a0 k, LeO (gongref06_Is.f k a0) (gongref06_Is.f (k + 1) a0) := by
  intro a0 k
  obtain ⟨ih0, ih1⟩ := gongref06_Is.mono_l k
  unfold gongref06_Is.f
  repeat' first
      | (with_reducible exact ih0 _ _)
      | (with_reducible exact ih1 _ _)
      | (with_reducible exact LeO.refl _)
      | (with_reducible exact LeO.none _)
      | (with_reducible refine LeO.ite ?_ ?_)
      | (with_reducible refine LeO.bind ?_ (fun _ => ?_))
      | exact ih0 _ _
      | exact ih1 _ _
      | exact LeO.none _
      | refine LeO.ite ?_ ?_
      | refine LeO.bind ?_ (fun _ => ?_)
set_option maxHeartbeats 8000000 in
set_option maxRecDepth 100000 in
theorem gongref06_Is.calls (k : Nat) (A0 : Option Addr) (c0 : Nat) (l0 : List Int) (r : Bool) (w : World) (hr0 : Kd.C (Kd.int .i64) w A0 l0.length l0) (hc0 : l0.length ≤ c0) (h : gongref06_Is.f k l0 = some r) :
    Calls Tryz.prog 118 #[.slice A0 l0.length c0] w fun e w' => e = .returned (.bool r) ∧ Drawn0 w w' := by
  have HR0 := Aside0.mk hr0
  have HC0 := Aside0.mk hc0
  clear hr0 hc0
  have H : (if (l0.length : Int) < 2 then (gongref06_Is.j0 k l0 true) else (gongref06_Is.j0 k l0 (decide ((l0.length : Int) > 128)))) = some r := h
  clear h
  have HC2 := Aside0.mk H
  clear H
  go_enter Tryz.func118, Tryz.ntmps118
  go_upto_region 1 with (fail)
  go_cut [11] (fun v11 wc => ∃ (kq : Nat) (x11_1 : Bool), v11 = .bool x11_1 ∧ Aside0 (gongref06_Is.j0 kq l0 x11_1 = some r) ∧ Aside0 (kq ≤ k) ∧ Drawn0 w wc)
  case first =>
    have H := HC2.out
    clear HC2
    by_cases c3 : (l0.length : Int) < 2
    · rw [if_pos c3] at H
      have c3b0 : decide ((l0.length : Int) < 2) = true := decide_eq_true c3
      have c3b1 : decide (l0.length < 2) = true := decide_eq_true (by omega)
      clear c3
      (first | rw [c3b0] | (simp only [i64_w, i32_w]; rw [c3b0]) | skip)
      have H' := Aside0.mk H
      clear H
      go_wp2
      go_meet
      case rel => exact ⟨_, (true), (by first | rfl | (simp; done) | (simp [*]; done) | (simp [*]; exact isEmpty_bne _) | (simp; exact isEmpty_bne _)), H', ⟨by first | omega | exact Nat.le_refl _⟩, by repeat (first | exact Drawn0.refl _ | apply Drawn0.step)⟩
    · rw [if_neg c3] at H
      have c3b0 : decide ((l0.length : Int) < 2) = false := decide_eq_false c3
      have c3b1 : decide (l0.length < 2) = false := decide_eq_false (by omega)
      clear c3
      (first | rw [c3b0] | (simp only [i64_w, i32_w]; rw [c3b0]) | skip)
      have H' := Aside0.mk H
      clear H
      go_wp2
      go_meet
      case rel => exact ⟨_, (decide ((l0.length : Int) > 128)), (by first | rfl | (simp; done) | (simp [*]; done) | (simp [*]; exact isEmpty_bne _) | (simp; exact isEmpty_bne _)), H', ⟨by first | omega | exact Nat.le_refl _⟩, by repeat (first | exact Drawn0.refl _ | apply Drawn0.step)⟩
  case rest =>
    clear HC2
    try clear c1
    try clear p2
    try clear c3
    try clear c3b0
    try clear c3b1
    obtain ⟨kq, x11_1, rfl, HA, HJ1, ⟨mc1, rfl⟩⟩ := hcut
    cases kq with
    | zero => exact absurd HA.out (by simp [gongref06_Is.j0])
    | succ kj1 =>
      have H := HA.out
      clear HA
      simp only [gongref06_Is.j0] at H
      by_cases c4 : x11_1 = true
      · subst c4
        have H1 : (some false) = some r := by rw [if_pos rfl] at H; exact H
        clear H
        have H := H1
        clear H1
        obtain rfl := Option.some.inj H
        go_wp2
        go_ret
        exact ⟨by first | rfl | (simp; done) | (simp [*]; done), by repeat (first | exact Drawn0.refl _ | apply Drawn0.step)⟩
      · replace c4 := Bool.eq_false_iff.mpr c4
        subst c4
        have H1 : (gongref06_Is.l0 kj1 l0 0) = some r := by rw [if_neg (show ¬ (false = true) by decide)] at H; exact H
        clear H
        have H := H1
        clear H1
        have H' := Aside0.mk H
        clear H
        go_wp2
        go_loopg [3] kj1 (fun kq v3 w' => ∃ (x3_2 : Int), v3 = .int .i64 x3_2 ∧ Aside0 (gongref06_Is.l0 kq l0 x3_2 = some r) ∧ Aside0 (kq ≤ kj1) ∧ Drawn0 w w')
        case atStart => exact ⟨(0), (by first | rfl | (simp; done) | (simp [*]; done) | (simp [*]; exact isEmpty_bne _) | (simp; exact isEmpty_bne _)), H', ⟨Nat.le_refl _⟩, by repeat (first | exact Drawn0.refl _ | apply Drawn0.step)⟩
        case round =>
          clear H'
          try clear c1
          try clear p2
          try clear c3
          try clear c3b0
          try clear c3b1
          try clear c4
          try clear p2
          obtain ⟨x3_2, rfl, HA, HK2, ⟨m2, rfl⟩⟩ := hrel
          cases gk with
          | zero => exact absurd HA.out (by simp [gongref06_Is.l0])
          | succ k2 =>
            have H := HA.out
            clear HA
            simp only [gongref06_Is.l0] at H
            by_cases c5 : x3_2 < (l0.length : Int)
            · rw [if_pos c5] at H
              have c5b0 : decide (x3_2 < (l0.length : Int)) = true := decide_eq_true c5
              clear c5
              by_cases c6 : 0 ≤ x3_2
              · rw [if_pos c6] at H
                have c6b0 : decide (0 ≤ x3_2) = true := decide_eq_true c6
                clear c6
                by_cases c7 : (rd l0 x3_2) < 0
                · rw [if_pos c7] at H
                  have c7b0 : decide ((rd l0 x3_2) < 0) = true := decide_eq_true c7
                  clear c7
                  obtain rfl := Option.some.inj H
                  have p199 : 0 ≤ (x3_2 : Int) := of_decide_eq_true (by first | (with_reducible assumption) | assumption)
                  have q199 : x3_2 < (l0.length : Int) := of_decide_eq_true (by first | (with_reducible assumption) | assumption)
                  obtain ⟨ad199, e199, hx199_0⟩ := Kd.at_int HR0.out x3_2 p199 q199
                  cases e199
                  replace p199 := eq_true p199
                  replace q199 := eq_true q199
                  go_wp2
                  go_ret
                  exact ⟨by first | rfl | (simp; done) | (simp [*]; done), by repeat (first | exact Drawn0.refl _ | apply Drawn0.step)⟩
                · rw [if_neg c7] at H
                  have c7b0 : decide ((rd l0 x3_2) < 0) = false := decide_eq_false c7
                  clear c7
                  by_cases c8 : (rd l0 x3_2) > 4294967295
                  · rw [if_pos c8] at H
                    have c8b0 : decide (4294967295 < (rd l0 x3_2)) = true := decide_eq_true c8
                    clear c8
                    obtain rfl := Option.some.inj H
                    have p199 : 0 ≤ (x3_2 : Int) := of_decide_eq_true (by first | (with_reducible assumption) | assumption)
                    have q199 : x3_2 < (l0.length : Int) := of_decide_eq_true (by first | (with_reducible assumption) | assumption)
                    obtain ⟨ad199, e199, hx199_0⟩ := Kd.at_int HR0.out x3_2 p199 q199
                    cases e199
                    replace p199 := eq_true p199
                    replace q199 := eq_true q199
                    have p200 : 0 ≤ (x3_2 : Int) := of_decide_eq_true (by first | (with_reducible assumption) | assumption)
                    have q200 : x3_2 < (l0.length : Int) := of_decide_eq_true (by first | (with_reducible assumption) | assumption)
                    obtain ⟨ad200, e200, hx200_0⟩ := Kd.at_int HR0.out x3_2 p200 q200
                    obtain rfl : ad199 = ad200 := (by injection e200)
                    replace p200 := eq_true p200
                    replace q200 := eq_true q200
                    go_wp2
                    go_ret
                    exact ⟨by first | rfl | (simp; done) | (simp [*]; done), by repeat (first | exact Drawn0.refl _ | apply Drawn0.step)⟩
                  · rw [if_neg c8] at H
                    have c8b0 : decide (4294967295 < (rd l0 x3_2)) = false := decide_eq_false c8
                    clear c8
                    have H' := Aside0.mk H
                    clear H
                    have p199 : 0 ≤ (x3_2 : Int) := of_decide_eq_true (by first | (with_reducible assumption) | assumption)
                    have q199 : x3_2 < (l0.length : Int) := of_decide_eq_true (by first | (with_reducible assumption) | assumption)
                    obtain ⟨ad199, e199, hx199_0⟩ := Kd.at_int HR0.out x3_2 p199 q199
                    cases e199
                    replace p199 := eq_true p199
                    replace q199 := eq_true q199
                    have p200 : 0 ≤ (x3_2 : Int) := of_decide_eq_true (by first | (with_reducible assumption) | assumption)
                    have q200 : x3_2 < (l0.length : Int) := of_decide_eq_true (by first | (with_reducible assumption) | assumption)
                    obtain ⟨ad200, e200, hx200_0⟩ := Kd.at_int HR0.out x3_2 p200 q200
                    obtain rfl : ad199 = ad200 := (by injection e200)
                    replace p200 := eq_true p200
                    replace q200 := eq_true q200
                    go_wp2
                    go_roundg k2
                    case measure => have := HJ1.out; have := HK2.out; omega
                    case rel => exact ⟨(wrap64 (x3_2 + 1)), (by first | rfl | (simp; done) | (simp [*]; done) | (simp [*]; exact isEmpty_bne _) | (simp; exact isEmpty_bne _)), H', ⟨by have := HJ1.out; have := HK2.out; omega⟩, by repeat (first | exact Drawn0.refl _ | apply Drawn0.step)⟩
              · rw [if_neg c6] at H
                exact absurd H (by simp)
            · rw [if_neg c5] at H
              have c5b0 : decide (x3_2 < (l0.length : Int)) = false := decide_eq_false c5
              clear c5
              by_cases c9 : 0 < (l0.length : Int)
              · rw [if_pos c9] at H
                have c9b0 : decide (0 < (l0.length : Int)) = true := decide_eq_true c9
                have c9b1 : decide (0 < l0.length) = true := decide_eq_true (by omega)
                clear c9
                by_cases c10 : (rd l0 0) < 2
                · rw [if_pos c10] at H
                  have c10b0 : decide ((rd l0 0) < 2) = true := decide_eq_true c10
                  clear c10
                  by_cases c11 : 1 < (l0.length : Int)
                  · rw [if_pos c11] at H
                    have c11b0 : decide (1 < (l0.length : Int)) = true := decide_eq_true c11
                    have c11b1 : decide (1 < l0.length) = true := decide_eq_true (by omega)
                    clear c11
                    by_cases c12 : (rd l0 1) ≤ 39
                    · rw [if_pos c12] at H
                      have c12b0 : decide ((rd l0 1) ≤ 39) = true := decide_eq_true c12
                      clear c12
                      obtain rfl := Option.some.inj H
                      have p201 : 0 ≤ (0 : Int) := (by omega)
                      have q201 : 0 < (l0.length : Int) := of_decide_eq_true (by first | (with_reducible assumption) | assumption)
                      obtain ⟨ad201, e201, hx201_0⟩ := Kd.at_int HR0.out 0 p201 q201
                      cases e201
                      have qi201 : (0 < l0.length) = True := eq_true (by omega)
                      (try rw [show ((0 : Int)).toNat = 0 from rfl] at hx201_0)
                      (try rw [Addr.add_zero'] at hx201_0)
                      replace p201 := eq_true p201
                      replace q201 := eq_true q201
                      have p202 : 0 ≤ (1 : Int) := (by omega)
                      have q202 : 1 < (l0.length : Int) := of_decide_eq_true (by first | (with_reducible assumption) | assumption)
                      obtain ⟨ad202, e202, hx202_0⟩ := Kd.at_int HR0.out 1 p202 q202
                      obtain rfl : ad201 = ad202 := (by injection e202)
                      (try simp only [show (1 : Int).toNat = 1 from rfl, Nat.reduceMul, Nat.reduceEqDiff, Go.Addr.add, ↓reduceIte] at hx202_0)
                      have qi202 : (1 < l0.length) = True := eq_true (by omega)
                      (try rw [show ((1 : Int)).toNat = 1 from rfl] at hx202_0)
                      replace p202 := eq_true p202
                      replace q202 := eq_true q202
                      go_wp2
                      go_ret
                      exact ⟨by first | rfl | (simp; done) | (simp [*]; done), by repeat (first | exact Drawn0.refl _ | apply Drawn0.step)⟩
                    · rw [if_neg c12] at H
                      have c12b0 : decide ((rd l0 1) ≤ 39) = false := decide_eq_false c12
                      clear c12
                      by_cases c13 : (rd l0 0) = 2
                      · rw [if_pos c13] at H
                        have c13b0 : ((rd l0 0) == 2) = true := beq_iff_eq.mpr c13
                        have c13b1 : ((rd l0 0) != 2) = false := bne_eq_false_iff_eq.mpr c13
                        clear c13
                        obtain rfl := Option.some.inj H
                        have p201 : 0 ≤ (0 : Int) := (by omega)
                        have q201 : 0 < (l0.length : Int) := of_decide_eq_true (by first | (with_reducible assumption) | assumption)
                        obtain ⟨ad201, e201, hx201_0⟩ := Kd.at_int HR0.out 0 p201 q201
                        cases e201
                        have qi201 : (0 < l0.length) = True := eq_true (by omega)
                        (try rw [show ((0 : Int)).toNat = 0 from rfl] at hx201_0)
                        (try rw [Addr.add_zero'] at hx201_0)
                        replace p201 := eq_true p201
                        replace q201 := eq_true q201
                        have p202 : 0 ≤ (1 : Int) := (by omega)
                        have q202 : 1 < (l0.length : Int) := of_decide_eq_true (by first | (with_reducible assumption) | assumption)
                        obtain ⟨ad202, e202, hx202_0⟩ := Kd.at_int HR0.out 1 p202 q202
                        obtain rfl : ad201 = ad202 := (by injection e202)
                        (try simp only [show (1 : Int).toNat = 1 from rfl, Nat.reduceMul, Nat.reduceEqDiff, Go.Addr.add, ↓reduceIte] at hx202_0)
                        have qi202 : (1 < l0.length) = True := eq_true (by omega)
                        (try rw [show ((1 : Int)).toNat = 1 from rfl] at hx202_0)
                        replace p202 := eq_true p202
                        replace q202 := eq_true q202
                        have p203 : 0 ≤ (0 : Int) := (by omega)
                        have q203 : 0 < (l0.length : Int) := of_decide_eq_true (by first | (with_reducible assumption) | assumption)
                        obtain ⟨ad203, e203, hx203_0⟩ := Kd.at_int HR0.out 0 p203 q203
                        obtain rfl : ad201 = ad203 := (by injection e203)
                        have qi203 : (0 < l0.length) = True := eq_true (by omega)
                        (try rw [show ((0 : Int)).toNat = 0 from rfl] at hx203_0)
                        (try rw [Addr.add_zero'] at hx203_0)
                        replace p203 := eq_true p203
                        replace q203 := eq_true q203
                        have p204 : 0 ≤ (1 : Int) := (by omega)
                        have q204 : 1 < (l0.length : Int) := of_decide_eq_true (by first | (with_reducible assumption) | assumption)
                        obtain ⟨ad204, e204, hx204_0⟩ := Kd.at_int HR0.out 1 p204 q204
                        obtain rfl : ad201 = ad204 := (by injection e204)
                        (try simp only [show (1 : Int).toNat = 1 from rfl, Nat.reduceMul, Nat.reduceEqDiff, Go.Addr.add, ↓reduceIte] at hx204_0)
                        have qi204 : (1 < l0.length) = True := eq_true (by omega)
                        (try rw [show ((1 : Int)).toNat = 1 from rfl] at hx204_0)
                        replace p204 := eq_true p204
                        replace q204 := eq_true q204
                        go_wp2
                        go_ret
                        exact ⟨by first | rfl | (simp; done) | (simp [*]; done), by repeat (first | exact Drawn0.refl _ | apply Drawn0.step)⟩
                      · rw [if_neg c13] at H
                        have c13b0 : ((rd l0 0) == 2) = false := beq_eq_false_iff_ne.mpr c13
                        have c13b1 : ((rd l0 0) != 2) = true := bne_iff_ne.mpr c13
                        obtain rfl := Option.some.inj H
                        have p201 : 0 ≤ (0 : Int) := (by omega)
                        have q201 : 0 < (l0.length : Int) := of_decide_eq_true (by first | (with_reducible assumption) | assumption)
                        obtain ⟨ad201, e201, hx201_0⟩ := Kd.at_int HR0.out 0 p201 q201
                        cases e201
                        have qi201 : (0 < l0.length) = True := eq_true (by omega)
                        (try rw [show ((0 : Int)).toNat = 0 from rfl] at hx201_0)
                        (try rw [Addr.add_zero'] at hx201_0)
                        replace p201 := eq_true p201
                        replace q201 := eq_true q201
                        have p202 : 0 ≤ (1 : Int) := (by omega)
                        have q202 : 1 < (l0.length : Int) := of_decide_eq_true (by first | (with_reducible assumption) | assumption)
                        obtain ⟨ad202, e202, hx202_0⟩ := Kd.at_int HR0.out 1 p202 q202
                        obtain rfl : ad201 = ad202 := (by injection e202)
                        (try simp only [show (1 : Int).toNat = 1 from rfl, Nat.reduceMul, Nat.reduceEqDiff, Go.Addr.add, ↓reduceIte] at hx202_0)
                        have qi202 : (1 < l0.length) = True := eq_true (by omega)
                        (try rw [show ((1 : Int)).toNat = 1 from rfl] at hx202_0)
                        replace p202 := eq_true p202
                        replace q202 := eq_true q202
                        have p203 : 0 ≤ (0 : Int) := (by omega)
                        have q203 : 0 < (l0.length : Int) := of_decide_eq_true (by first | (with_reducible assumption) | assumption)
                        obtain ⟨ad203, e203, hx203_0⟩ := Kd.at_int HR0.out 0 p203 q203
                        obtain rfl : ad201 = ad203 := (by injection e203)
                        have qi203 : (0 < l0.length) = True := eq_true (by omega)
                        (try rw [show ((0 : Int)).toNat = 0 from rfl] at hx203_0)
                        (try rw [Addr.add_zero'] at hx203_0)
                        replace p203 := eq_true p203
                        replace q203 := eq_true q203
                        go_wp2
                        go_ret
                        exact ⟨by first | rfl | (simp; done) | (simp [*]; done), by repeat (first | exact Drawn0.refl _ | apply Drawn0.step)⟩
                  · rw [if_neg c11] at H
                    exact absurd H (by simp)
                · rw [if_neg c10] at H
                  have c10b0 : decide ((rd l0 0) < 2) = false := decide_eq_false c10
                  clear c10
                  by_cases c14 : (rd l0 0) = 2
                  · rw [if_pos c14] at H
                    have c14b0 : ((rd l0 0) == 2) = true := beq_iff_eq.mpr c14
                    have c14b1 : ((rd l0 0) != 2) = false := bne_eq_false_iff_eq.mpr c14
                    clear c14
                    by_cases c15 : 1 < (l0.length : Int)
                    · rw [if_pos c15] at H
                      have c15b0 : decide (1 < (l0.length : Int)) = true := decide_eq_true c15
                      have c15b1 : decide (1 < l0.length) = true := decide_eq_true (by omega)
                      clear c15
                      obtain rfl := Option.some.inj H
                      have p201 : 0 ≤ (0 : Int) := (by omega)
                      have q201 : 0 < (l0.length : Int) := of_decide_eq_true (by first | (with_reducible assumption) | assumption)
                      obtain ⟨ad201, e201, hx201_0⟩ := Kd.at_int HR0.out 0 p201 q201
                      cases e201
                      have qi201 : (0 < l0.length) = True := eq_true (by omega)
                      (try rw [show ((0 : Int)).toNat = 0 from rfl] at hx201_0)
                      (try rw [Addr.add_zero'] at hx201_0)
                      replace p201 := eq_true p201
                      replace q201 := eq_true q201
                      have p205 : 0 ≤ (0 : Int) := (by omega)
                      have q205 : 0 < (l0.length : Int) := of_decide_eq_true (by first | (with_reducible assumption) | assumption)
                      obtain ⟨ad205, e205, hx205_0⟩ := Kd.at_int HR0.out 0 p205 q205
                      obtain rfl : ad201 = ad205 := (by injection e205)
                      have qi205 : (0 < l0.length) = True := eq_true (by omega)
                      (try rw [show ((0 : Int)).toNat = 0 from rfl] at hx205_0)
                      (try rw [Addr.add_zero'] at hx205_0)
                      replace p205 := eq_true p205
                      replace q205 := eq_true q205
                      have p206 : 0 ≤ (1 : Int) := (by omega)
                      have q206 : 1 < (l0.length : Int) := of_decide_eq_true (by first | (with_reducible assumption) | assumption)
                      obtain ⟨ad206, e206, hx206_0⟩ := Kd.at_int HR0.out 1 p206 q206
                      obtain rfl : ad201 = ad206 := (by injection e206)
                      (try simp only [show (1 : Int).toNat = 1 from rfl, Nat.reduceMul, Nat.reduceEqDiff, Go.Addr.add, ↓reduceIte] at hx206_0)
                      have qi206 : (1 < l0.length) = True := eq_true (by omega)
                      (try rw [show ((1 : Int)).toNat = 1 from rfl] at hx206_0)
                      replace p206 := eq_true p206
                      replace q206 := eq_true q206
                      go_wp2
                      go_ret
                      exact ⟨by first | rfl | (simp; done) | (simp [*]; done), by repeat (first | exact Drawn0.refl _ | apply Drawn0.step)⟩
                    · rw [if_neg c15] at H
                      exact absurd H (by simp)
                  · rw [if_neg c14] at H
                    have c14b0 : ((rd l0 0) == 2) = false := beq_eq_false_iff_ne.mpr c14
                    have c14b1 : ((rd l0 0) != 2) = true := bne_iff_ne.mpr c14
                    obtain rfl := Option.some.inj H
                    have p201 : 0 ≤ (0 : Int) := (by omega)
                    have q201 : 0 < (l0.length : Int) := of_decide_eq_true (by first | (with_reducible assumption) | assumption)
                    obtain ⟨ad201, e201, hx201_0⟩ := Kd.at_int HR0.out 0 p201 q201
                    cases e201
                    have qi201 : (0 < l0.length) = True := eq_true (by omega)
                    (try rw [show ((0 : Int)).toNat = 0 from rfl] at hx201_0)
                    (try rw [Addr.add_zero'] at hx201_0)
                    replace p201 := eq_true p201
                    replace q201 := eq_true q201
                    have p205 : 0 ≤ (0 : Int) := (by omega)
                    have q205 : 0 < (l0.length : Int) := of_decide_eq_true (by first | (with_reducible assumption) | assumption)
                    obtain ⟨ad205, e205, hx205_0⟩ := Kd.at_int HR0.out 0 p205 q205
                    obtain rfl : ad201 = ad205 := (by injection e205)
                    have qi205 : (0 < l0.length) = True := eq_true (by omega)
                    (try rw [show ((0 : Int)).toNat = 0 from rfl] at hx205_0)
                    (try rw [Addr.add_zero'] at hx205_0)
                    replace p205 := eq_true p205
                    replace q205 := eq_true q205
                    go_wp2
                    go_ret
                    exact ⟨by first | rfl | (simp; done) | (simp [*]; done), by repeat (first | exact Drawn0.refl _ | apply Drawn0.step)⟩
              · rw [if_neg c9] at H
                exact absurd H (by simp)

end Go.Proofs.YtjfimileopbadaaGreatDoor.XVaR
