-- Laid by extprint.py (the session's own driver): functions told by the kit's printer and by hand.
import Derived.Test.YtfgdnnbhlnbojaaGreatDoorXPdRx0
import Derived.Test.YtfgdnnbhlnbojaaGreatDoorXPdRx16
import Derived.Test.YtfgdnnbhlnbojaaGreatDoorXPdRx19
import Derived.Test.YtfgdnnbhlnbojaaGreatDoorXPdRx20
namespace Go.Proofs.YtfgdnnbhlnbojaaGreatDoor.XPdR
open Go.RowKit Gong Go.Proofs.YtfgdnnbhlnbojaaGreatDoorW.PrintWords Go.Proofs.YtfgdnnbhlnbojaaGreatDoorW.PrintLast Go.Proofs.YtfgdnnbhlnbojaaGreatDoorW.PrintMore
attribute [local go_sem] max2_int min2_int max_two min_two max_three min_three max_four min_four   -- for this text's walks alone
set_option linter.unusedVariables false
set_option linter.unusedSimpArgs false
def gongref07_Decode.fin (k : Nat) (kind n : Int) (s : ByteArray) (e : Int) : Option (Int × Int × ByteArray × Int) :=
 if e = 0 then (gongref07_Check.f k kind n s).bind fun t => if t = 0 then some (kind, n, s, 0) else some (0, 0, ⟨#[]⟩, 70) else some (0, 0, ⟨#[]⟩, 70)
def gongref07_Decode.f (k : Nat) (a0 : Int) (a1 : ByteArray) : Option (Int × Int × ByteArray × Int) :=
 if a0 = 2 then (gongref05_Number.f k a1).bind fun r => gongref07_Decode.fin k a0 r.1 ⟨#[]⟩ r.2 else
 if a0 = 65 ∨ a0 = 66 ∨ a0 = 67 ∨ a0 = 70 then (gongref05_Unsigned.f k a1).bind fun r => gongref07_Decode.fin k a0 (wrap64 r.1) ⟨#[]⟩ r.2 else
 if a0 = 6 then (gongref06_Decode.f k a1).bind fun r => gongref07_Decode.fin k a0 0 r.1 r.2 else gongref07_Decode.fin k a0 0 a1 0
theorem gongref07_Decode.fin_mono (kind n : Int) (s : ByteArray) (e : Int) (k : Nat) : LeO (gongref07_Decode.fin k kind n s e) (gongref07_Decode.fin (k + 1) kind n s e) := by
 unfold gongref07_Decode.fin
 split
 ·exact LeO.bind (gongref07_Check.mono _ _ _ _) (fun _ => LeO.refl _)
 ·exact LeO.refl _
theorem gongref07_Decode.mono : ∀ a0 a1 k, LeO (gongref07_Decode.f k a0 a1) (gongref07_Decode.f (k + 1) a0 a1) := by
 intro a0 a1 k
 unfold gongref07_Decode.f
 split
 ·exact LeO.bind (gongref05_Number.mono _ _) (fun _ => gongref07_Decode.fin_mono _ _ _ _ k)
 ·split
  ·exact LeO.bind (gongref05_Unsigned.mono _ _) (fun _ => gongref07_Decode.fin_mono _ _ _ _ k)
  ·split
   ·exact LeO.bind (gongref06_Decode.mono _ _) (fun _ => gongref07_Decode.fin_mono _ _ _ _ k)
   ·exact gongref07_Decode.fin_mono _ _ _ _ k
set_option maxHeartbeats 8000000 in
set_option maxRecDepth 100000 in
theorem gongref07_Decode.calls (k : Nat) (a0 : Int) (a1 : ByteArray) (r1 : Int) (r2 : Int) (r3 : ByteArray) (r4 : Int) (w : World) (h : gongref07_Decode.f k a0 a1 = some (r1, r2, r3, r4)) :
  Calls Tryz.prog 60 #[.int .i64 a0, .string a1] w fun e w' => e = .returned (.tuple #[.agg #[.int .i64 r1, .int .i64 r2, .string r3], .int .i64 r4]) ∧ Below w.heap.size w w' := by
 unfold gongref07_Decode.f at h
 go_enter Tryz.func60, Tryz.ntmps60
 go_upto_region 3 with (fail)
 obtain ⟨w4, hw4⟩ : ∃ w4, w4 = ((w.alloc (.cells #[.int .i64 0, .int .i64 0, .string ⟨#[]⟩] 28)).alloc (.cells #[.int .i64 a0, .int .i64 0, .string ⟨#[]⟩] 28)) := ⟨_, rfl⟩
 have H2d := Aside0.mk (show w4.heap[w.heap.size]? = some (.cells #[.int .i64 0, .int .i64 0, .string ⟨#[]⟩] 28 (0, 0)) by rw [hw4]; exact blk_alloc (heap_alloc_new w _) _)
 have H4d := Aside0.mk (show w4.heap[w.heap.size + 1]? = some (.cells #[.int .i64 a0, .int .i64 0, .string ⟨#[]⟩] 28 (0, 0)) by
  rw [hw4]
  have := heap_alloc_new (w.alloc (.cells #[.int .i64 0, .int .i64 0, .string ⟨#[]⟩] 28)) (.cells #[.int .i64 a0, .int .i64 0, .string ⟨#[]⟩] 28)
  simpa using this)
 have HBd := Aside0.mk (show Below w.heap.size w w4 by rw [hw4]; exact below_alloc (below_alloc (Below.refl _ _) _) _)
 rw [← hw4]
 obtain ⟨b4, hb4⟩ : ∃ b4, b4 = w.heap.size + 1 := ⟨_, rfl⟩
 rw [← hb4] at H4d ⊢
 have HN := Aside0.mk (show w.heap.size ≤ w.heap.size ∧ w.heap.size ≤ b4 ∧ w.heap.size ≠ b4 by omega)
 have n1 : w.heap.size ≠ b4 := by omega
 have n2 : b4 ≠ w.heap.size := by omega
 clear hb4 hw4
 by_cases h2 : a0 = 2
 ·subst h2
  rw [if_pos rfl] at h
  obtain ⟨⟨x, ec⟩, hF, h⟩ := Option.bind_eq_some_iff.1 h
  simp only at h
  have HF := Aside0.mk hF
  clear hF
  go_wp2_with fail
  refine (gongref05_Number.calls k a1 x ec w4 HF.out).mono ?_
  rintro e w5 ⟨rfl, hb5d⟩
  have hb5 := hb5d.below
  clear hb5d
  have K4 := Aside0.mk ((Mv.of_below (S := fun _ => False) hb5).heap H4d.out id)
  have K2 := Aside0.mk ((Mv.of_below (S := fun _ => False) hb5).heap H2d.out id)
  have KB := Aside0.mk (Below.trans HBd.out (Below.mono hb5 HBd.out.size))
  clear hb5 H4d H2d HBd HF
  have x0 := (blk_cell K4.out 1).trans rfl
  have y0 := blk_frozen K4.out 1
  go_upto_region 15 with (fail)
  clear x0 y0
  obtain ⟨w6, hw6⟩ : ∃ w6, w6 = w5.setCell ⟨b4, 1, none⟩ (.int .i64 x) := ⟨_, rfl⟩
  have H4s := Aside0.mk (show w6.heap[b4]? = some (.cells #[.int .i64 2, .int .i64 x, .string ⟨#[]⟩] 28 (0, 0)) by rw [hw6]; exact blk_put K4.out 1 _ rfl)
  have H2s := Aside0.mk (show w6.heap[w.heap.size]? = some (.cells #[.int .i64 0, .int .i64 0, .string ⟨#[]⟩] 28 (0, 0)) by rw [hw6]; exact blk_far K2.out HN.out.2.2 _)
  have HBs := Aside0.mk (show Below w.heap.size w w6 by rw [hw6]; exact below_set KB.out HN.out.2.1)
  rw [← hw6]
  clear hw6 K4 K2 KB
  unfold gongref07_Decode.fin at h
  by_cases hec : ec = 0
  ·rw [if_pos hec] at h
   subst hec
   obtain ⟨tt, hR, h⟩ := Option.bind_eq_some_iff.1 h
   have HR := Aside0.mk hR
   clear hR
   have z0 := (blk_cell H4s.out 0).trans rfl
   have z1 := (blk_cell H4s.out 1).trans rfl
   have z2 := (blk_cell H4s.out 2).trans rfl
   go_wp2_with fail
   refine (gongref07_Check.calls k 2 x ⟨#[]⟩ tt w6 HR.out).mono ?_
   rintro e w7 ⟨rfl, hb7⟩
   clear z0 z1 z2
   have H2r := Aside0.mk ((Mv.of_below (S := fun _ => False) hb7).heap H2s.out id)
   have H4r := Aside0.mk ((Mv.of_below (S := fun _ => False) hb7).heap H4s.out id)
   have HBr := Aside0.mk (Below.trans HBs.out (Below.mono hb7 HBs.out.size))
   clear hb7 H2s H4s HBs
   have x0 := (blk_cell H2r.out 0).trans rfl
   have x1 := (blk_cell H2r.out 1).trans rfl
   have x2 := (blk_cell H2r.out 2).trans rfl
   have y0 := blk_frozen H2r.out 0
   have y1 := blk_frozen H2r.out 1
   have y2 := blk_frozen H2r.out 2
   have z0 := (blk_cell H4r.out 0).trans rfl
   have z1 := (blk_cell H4r.out 1).trans rfl
   have z2 := (blk_cell H4r.out 2).trans rfl
   by_cases htt : tt = 0
   ·subst htt
    rw [if_pos rfl] at h
    simp only [Option.some.injEq, Prod.mk.injEq] at h
    obtain ⟨rfl, rfl, rfl, rfl⟩ := h
    go_wp2
    refine bodyPost_ret (results_ct rfl _ _ w.heap.size 28 #[.int .i64 2, .int .i64 x, .string ⟨#[]⟩] (0, 0) _ rfl (by
     refine blk_put (cs := #[.int .i64 2, .int .i64 x, .string ⟨#[]⟩]) ?_ 2 _ rfl
     refine blk_put (cs := #[.int .i64 2, .int .i64 0, .string ⟨#[]⟩]) ?_ 1 _ rfl
     refine blk_put (cs := #[.int .i64 0, .int .i64 0, .string ⟨#[]⟩]) ?_ 0 _ rfl
     exact H2r.out) Tryz.underlying28 rfl (by kernel_rfl)) rfl ?_
    exact ⟨rfl, below_set (below_set (below_set HBr.out HN.out.1) HN.out.1) HN.out.1⟩
   ·rw [if_neg htt] at h
    have f1 : (tt != 0) = true := bne_iff_ne.mpr htt
    have f2 := eq_false htt
    clear htt
    simp only [Option.some.injEq, Prod.mk.injEq] at h
    obtain ⟨rfl, rfl, rfl, rfl⟩ := h
    go_wp2
    refine bodyPost_ret (results_ct rfl _ _ w.heap.size 28 #[.int .i64 0, .int .i64 0, .string ⟨#[]⟩] (0, 0) _ rfl (by
     refine blk_put (cs := #[.int .i64 0, .int .i64 0, .string ⟨#[]⟩]) ?_ 2 _ rfl
     refine blk_put (cs := #[.int .i64 0, .int .i64 0, .string ⟨#[]⟩]) ?_ 1 _ rfl
     refine blk_put (cs := #[.int .i64 0, .int .i64 0, .string ⟨#[]⟩]) ?_ 0 _ rfl
     exact H2r.out) Tryz.underlying28 rfl (by kernel_rfl)) rfl ?_
    exact ⟨rfl, below_set (below_set (below_set HBr.out HN.out.1) HN.out.1) HN.out.1⟩
  ·rw [if_neg hec] at h
   have d1 : (ec != 0) = true := bne_iff_ne.mpr hec
   have d2 := eq_false hec
   clear hec
   simp only [Option.some.injEq, Prod.mk.injEq] at h
   obtain ⟨rfl, rfl, rfl, rfl⟩ := h
   have x0 := (blk_cell H2s.out 0).trans rfl
   have x1 := (blk_cell H2s.out 1).trans rfl
   have x2 := (blk_cell H2s.out 2).trans rfl
   have y0 := blk_frozen H2s.out 0
   have y1 := blk_frozen H2s.out 1
   have y2 := blk_frozen H2s.out 2
   go_wp2
   refine bodyPost_ret (results_ct rfl _ _ w.heap.size 28 #[.int .i64 0, .int .i64 0, .string ⟨#[]⟩] (0, 0) _ rfl (by
    refine blk_put (cs := #[.int .i64 0, .int .i64 0, .string ⟨#[]⟩]) ?_ 2 _ rfl
    refine blk_put (cs := #[.int .i64 0, .int .i64 0, .string ⟨#[]⟩]) ?_ 1 _ rfl
    refine blk_put (cs := #[.int .i64 0, .int .i64 0, .string ⟨#[]⟩]) ?_ 0 _ rfl
    exact H2s.out) Tryz.underlying28 rfl (by kernel_rfl)) rfl ?_
   exact ⟨rfl, below_set (below_set (below_set HBs.out HN.out.1) HN.out.1) HN.out.1⟩
 rw [if_neg h2] at h
 have e2 : (a0 == 2) = false := beq_eq_false_iff_ne.mpr h2
 have e2' := eq_false h2
 clear h2
 by_cases hu : a0 = 65 ∨ a0 = 66 ∨ a0 = 67 ∨ a0 = 70
 ·rw [if_pos hu] at h
  clear e2 e2'
  rcases hu with rfl | rfl | rfl | rfl
  ·obtain ⟨⟨x, ec⟩, hF, h⟩ := Option.bind_eq_some_iff.1 h
   simp only at h
   have HF := Aside0.mk hF
   clear hF
   go_wp2_with fail
   refine (gongref05_Unsigned.calls k a1 x ec w4 HF.out).mono ?_
   rintro e w5 ⟨rfl, hb5d⟩
   have hb5 := hb5d.below
   clear hb5d
   have K4 := Aside0.mk ((Mv.of_below (S := fun _ => False) hb5).heap H4d.out id)
   have K2 := Aside0.mk ((Mv.of_below (S := fun _ => False) hb5).heap H2d.out id)
   have KB := Aside0.mk (Below.trans HBd.out (Below.mono hb5 HBd.out.size))
   clear hb5 H4d H2d HBd HF
   have x0 := (blk_cell K4.out 1).trans rfl
   have y0 := blk_frozen K4.out 1
   go_upto_region 15 with (fail)
   clear x0 y0
   obtain ⟨w6, hw6⟩ : ∃ w6, w6 = w5.setCell ⟨b4, 1, none⟩ (.int .i64 (wrap64 x)) := ⟨_, rfl⟩
   have H4s := Aside0.mk (show w6.heap[b4]? = some (.cells #[.int .i64 65, .int .i64 (wrap64 x), .string ⟨#[]⟩] 28 (0, 0)) by rw [hw6]; exact blk_put K4.out 1 _ rfl)
   have H2s := Aside0.mk (show w6.heap[w.heap.size]? = some (.cells #[.int .i64 0, .int .i64 0, .string ⟨#[]⟩] 28 (0, 0)) by rw [hw6]; exact blk_far K2.out HN.out.2.2 _)
   have HBs := Aside0.mk (show Below w.heap.size w w6 by rw [hw6]; exact below_set KB.out HN.out.2.1)
   rw [← hw6]
   clear hw6 K4 K2 KB
   unfold gongref07_Decode.fin at h
   by_cases hec : ec = 0
   ·rw [if_pos hec] at h
    subst hec
    obtain ⟨tt, hR, h⟩ := Option.bind_eq_some_iff.1 h
    have HR := Aside0.mk hR
    clear hR
    have z0 := (blk_cell H4s.out 0).trans rfl
    have z1 := (blk_cell H4s.out 1).trans rfl
    have z2 := (blk_cell H4s.out 2).trans rfl
    go_wp2_with fail
    refine (gongref07_Check.calls k 65 (wrap64 x) ⟨#[]⟩ tt w6 HR.out).mono ?_
    rintro e w7 ⟨rfl, hb7⟩
    clear z0 z1 z2
    have H2r := Aside0.mk ((Mv.of_below (S := fun _ => False) hb7).heap H2s.out id)
    have H4r := Aside0.mk ((Mv.of_below (S := fun _ => False) hb7).heap H4s.out id)
    have HBr := Aside0.mk (Below.trans HBs.out (Below.mono hb7 HBs.out.size))
    clear hb7 H2s H4s HBs
    have x0 := (blk_cell H2r.out 0).trans rfl
    have x1 := (blk_cell H2r.out 1).trans rfl
    have x2 := (blk_cell H2r.out 2).trans rfl
    have y0 := blk_frozen H2r.out 0
    have y1 := blk_frozen H2r.out 1
    have y2 := blk_frozen H2r.out 2
    have z0 := (blk_cell H4r.out 0).trans rfl
    have z1 := (blk_cell H4r.out 1).trans rfl
    have z2 := (blk_cell H4r.out 2).trans rfl
    by_cases htt : tt = 0
    ·subst htt
     rw [if_pos rfl] at h
     simp only [Option.some.injEq, Prod.mk.injEq] at h
     obtain ⟨rfl, rfl, rfl, rfl⟩ := h
     go_wp2
     refine bodyPost_ret (results_ct rfl _ _ w.heap.size 28 #[.int .i64 65, .int .i64 (wrap64 x), .string ⟨#[]⟩] (0, 0) _ rfl (by
      refine blk_put (cs := #[.int .i64 65, .int .i64 (wrap64 x), .string ⟨#[]⟩]) ?_ 2 _ rfl
      refine blk_put (cs := #[.int .i64 65, .int .i64 0, .string ⟨#[]⟩]) ?_ 1 _ rfl
      refine blk_put (cs := #[.int .i64 0, .int .i64 0, .string ⟨#[]⟩]) ?_ 0 _ rfl
      exact H2r.out) Tryz.underlying28 rfl (by kernel_rfl)) rfl ?_
     exact ⟨rfl, below_set (below_set (below_set HBr.out HN.out.1) HN.out.1) HN.out.1⟩
    ·rw [if_neg htt] at h
     have f1 : (tt != 0) = true := bne_iff_ne.mpr htt
     have f2 := eq_false htt
     clear htt
     simp only [Option.some.injEq, Prod.mk.injEq] at h
     obtain ⟨rfl, rfl, rfl, rfl⟩ := h
     go_wp2
     refine bodyPost_ret (results_ct rfl _ _ w.heap.size 28 #[.int .i64 0, .int .i64 0, .string ⟨#[]⟩] (0, 0) _ rfl (by
      refine blk_put (cs := #[.int .i64 0, .int .i64 0, .string ⟨#[]⟩]) ?_ 2 _ rfl
      refine blk_put (cs := #[.int .i64 0, .int .i64 0, .string ⟨#[]⟩]) ?_ 1 _ rfl
      refine blk_put (cs := #[.int .i64 0, .int .i64 0, .string ⟨#[]⟩]) ?_ 0 _ rfl
      exact H2r.out) Tryz.underlying28 rfl (by kernel_rfl)) rfl ?_
     exact ⟨rfl, below_set (below_set (below_set HBr.out HN.out.1) HN.out.1) HN.out.1⟩
   ·rw [if_neg hec] at h
    have d1 : (ec != 0) = true := bne_iff_ne.mpr hec
    have d2 := eq_false hec
    clear hec
    simp only [Option.some.injEq, Prod.mk.injEq] at h
    obtain ⟨rfl, rfl, rfl, rfl⟩ := h
    have x0 := (blk_cell H2s.out 0).trans rfl
    have x1 := (blk_cell H2s.out 1).trans rfl
    have x2 := (blk_cell H2s.out 2).trans rfl
    have y0 := blk_frozen H2s.out 0
    have y1 := blk_frozen H2s.out 1
    have y2 := blk_frozen H2s.out 2
    go_wp2
    refine bodyPost_ret (results_ct rfl _ _ w.heap.size 28 #[.int .i64 0, .int .i64 0, .string ⟨#[]⟩] (0, 0) _ rfl (by
     refine blk_put (cs := #[.int .i64 0, .int .i64 0, .string ⟨#[]⟩]) ?_ 2 _ rfl
     refine blk_put (cs := #[.int .i64 0, .int .i64 0, .string ⟨#[]⟩]) ?_ 1 _ rfl
     refine blk_put (cs := #[.int .i64 0, .int .i64 0, .string ⟨#[]⟩]) ?_ 0 _ rfl
     exact H2s.out) Tryz.underlying28 rfl (by kernel_rfl)) rfl ?_
    exact ⟨rfl, below_set (below_set (below_set HBs.out HN.out.1) HN.out.1) HN.out.1⟩
  ·obtain ⟨⟨x, ec⟩, hF, h⟩ := Option.bind_eq_some_iff.1 h
   simp only at h
   have HF := Aside0.mk hF
   clear hF
   go_wp2_with fail
   refine (gongref05_Unsigned.calls k a1 x ec w4 HF.out).mono ?_
   rintro e w5 ⟨rfl, hb5d⟩
   have hb5 := hb5d.below
   clear hb5d
   have K4 := Aside0.mk ((Mv.of_below (S := fun _ => False) hb5).heap H4d.out id)
   have K2 := Aside0.mk ((Mv.of_below (S := fun _ => False) hb5).heap H2d.out id)
   have KB := Aside0.mk (Below.trans HBd.out (Below.mono hb5 HBd.out.size))
   clear hb5 H4d H2d HBd HF
   have x0 := (blk_cell K4.out 1).trans rfl
   have y0 := blk_frozen K4.out 1
   go_upto_region 15 with (fail)
   clear x0 y0
   obtain ⟨w6, hw6⟩ : ∃ w6, w6 = w5.setCell ⟨b4, 1, none⟩ (.int .i64 (wrap64 x)) := ⟨_, rfl⟩
   have H4s := Aside0.mk (show w6.heap[b4]? = some (.cells #[.int .i64 66, .int .i64 (wrap64 x), .string ⟨#[]⟩] 28 (0, 0)) by rw [hw6]; exact blk_put K4.out 1 _ rfl)
   have H2s := Aside0.mk (show w6.heap[w.heap.size]? = some (.cells #[.int .i64 0, .int .i64 0, .string ⟨#[]⟩] 28 (0, 0)) by rw [hw6]; exact blk_far K2.out HN.out.2.2 _)
   have HBs := Aside0.mk (show Below w.heap.size w w6 by rw [hw6]; exact below_set KB.out HN.out.2.1)
   rw [← hw6]
   clear hw6 K4 K2 KB
   unfold gongref07_Decode.fin at h
   by_cases hec : ec = 0
   ·rw [if_pos hec] at h
    subst hec
    obtain ⟨tt, hR, h⟩ := Option.bind_eq_some_iff.1 h
    have HR := Aside0.mk hR
    clear hR
    have z0 := (blk_cell H4s.out 0).trans rfl
    have z1 := (blk_cell H4s.out 1).trans rfl
    have z2 := (blk_cell H4s.out 2).trans rfl
    go_wp2_with fail
    refine (gongref07_Check.calls k 66 (wrap64 x) ⟨#[]⟩ tt w6 HR.out).mono ?_
    rintro e w7 ⟨rfl, hb7⟩
    clear z0 z1 z2
    have H2r := Aside0.mk ((Mv.of_below (S := fun _ => False) hb7).heap H2s.out id)
    have H4r := Aside0.mk ((Mv.of_below (S := fun _ => False) hb7).heap H4s.out id)
    have HBr := Aside0.mk (Below.trans HBs.out (Below.mono hb7 HBs.out.size))
    clear hb7 H2s H4s HBs
    have x0 := (blk_cell H2r.out 0).trans rfl
    have x1 := (blk_cell H2r.out 1).trans rfl
    have x2 := (blk_cell H2r.out 2).trans rfl
    have y0 := blk_frozen H2r.out 0
    have y1 := blk_frozen H2r.out 1
    have y2 := blk_frozen H2r.out 2
    have z0 := (blk_cell H4r.out 0).trans rfl
    have z1 := (blk_cell H4r.out 1).trans rfl
    have z2 := (blk_cell H4r.out 2).trans rfl
    by_cases htt : tt = 0
    ·subst htt
     rw [if_pos rfl] at h
     simp only [Option.some.injEq, Prod.mk.injEq] at h
     obtain ⟨rfl, rfl, rfl, rfl⟩ := h
     go_wp2
     refine bodyPost_ret (results_ct rfl _ _ w.heap.size 28 #[.int .i64 66, .int .i64 (wrap64 x), .string ⟨#[]⟩] (0, 0) _ rfl (by
      refine blk_put (cs := #[.int .i64 66, .int .i64 (wrap64 x), .string ⟨#[]⟩]) ?_ 2 _ rfl
      refine blk_put (cs := #[.int .i64 66, .int .i64 0, .string ⟨#[]⟩]) ?_ 1 _ rfl
      refine blk_put (cs := #[.int .i64 0, .int .i64 0, .string ⟨#[]⟩]) ?_ 0 _ rfl
      exact H2r.out) Tryz.underlying28 rfl (by kernel_rfl)) rfl ?_
     exact ⟨rfl, below_set (below_set (below_set HBr.out HN.out.1) HN.out.1) HN.out.1⟩
    ·rw [if_neg htt] at h
     have f1 : (tt != 0) = true := bne_iff_ne.mpr htt
     have f2 := eq_false htt
     clear htt
     simp only [Option.some.injEq, Prod.mk.injEq] at h
     obtain ⟨rfl, rfl, rfl, rfl⟩ := h
     go_wp2
     refine bodyPost_ret (results_ct rfl _ _ w.heap.size 28 #[.int .i64 0, .int .i64 0, .string ⟨#[]⟩] (0, 0) _ rfl (by
      refine blk_put (cs := #[.int .i64 0, .int .i64 0, .string ⟨#[]⟩]) ?_ 2 _ rfl
      refine blk_put (cs := #[.int .i64 0, .int .i64 0, .string ⟨#[]⟩]) ?_ 1 _ rfl
      refine blk_put (cs := #[.int .i64 0, .int .i64 0, .string ⟨#[]⟩]) ?_ 0 _ rfl
      exact H2r.out) Tryz.underlying28 rfl (by kernel_rfl)) rfl ?_
     exact ⟨rfl, below_set (below_set (below_set HBr.out HN.out.1) HN.out.1) HN.out.1⟩
   ·rw [if_neg hec] at h
    have d1 : (ec != 0) = true := bne_iff_ne.mpr hec
    have d2 := eq_false hec
    clear hec
    simp only [Option.some.injEq, Prod.mk.injEq] at h
    obtain ⟨rfl, rfl, rfl, rfl⟩ := h
    have x0 := (blk_cell H2s.out 0).trans rfl
    have x1 := (blk_cell H2s.out 1).trans rfl
    have x2 := (blk_cell H2s.out 2).trans rfl
    have y0 := blk_frozen H2s.out 0
    have y1 := blk_frozen H2s.out 1
    have y2 := blk_frozen H2s.out 2
    go_wp2
    refine bodyPost_ret (results_ct rfl _ _ w.heap.size 28 #[.int .i64 0, .int .i64 0, .string ⟨#[]⟩] (0, 0) _ rfl (by
     refine blk_put (cs := #[.int .i64 0, .int .i64 0, .string ⟨#[]⟩]) ?_ 2 _ rfl
     refine blk_put (cs := #[.int .i64 0, .int .i64 0, .string ⟨#[]⟩]) ?_ 1 _ rfl
     refine blk_put (cs := #[.int .i64 0, .int .i64 0, .string ⟨#[]⟩]) ?_ 0 _ rfl
     exact H2s.out) Tryz.underlying28 rfl (by kernel_rfl)) rfl ?_
    exact ⟨rfl, below_set (below_set (below_set HBs.out HN.out.1) HN.out.1) HN.out.1⟩
  ·obtain ⟨⟨x, ec⟩, hF, h⟩ := Option.bind_eq_some_iff.1 h
   simp only at h
   have HF := Aside0.mk hF
   clear hF
   go_wp2_with fail
   refine (gongref05_Unsigned.calls k a1 x ec w4 HF.out).mono ?_
   rintro e w5 ⟨rfl, hb5d⟩
   have hb5 := hb5d.below
   clear hb5d
   have K4 := Aside0.mk ((Mv.of_below (S := fun _ => False) hb5).heap H4d.out id)
   have K2 := Aside0.mk ((Mv.of_below (S := fun _ => False) hb5).heap H2d.out id)
   have KB := Aside0.mk (Below.trans HBd.out (Below.mono hb5 HBd.out.size))
   clear hb5 H4d H2d HBd HF
   have x0 := (blk_cell K4.out 1).trans rfl
   have y0 := blk_frozen K4.out 1
   go_upto_region 15 with (fail)
   clear x0 y0
   obtain ⟨w6, hw6⟩ : ∃ w6, w6 = w5.setCell ⟨b4, 1, none⟩ (.int .i64 (wrap64 x)) := ⟨_, rfl⟩
   have H4s := Aside0.mk (show w6.heap[b4]? = some (.cells #[.int .i64 67, .int .i64 (wrap64 x), .string ⟨#[]⟩] 28 (0, 0)) by rw [hw6]; exact blk_put K4.out 1 _ rfl)
   have H2s := Aside0.mk (show w6.heap[w.heap.size]? = some (.cells #[.int .i64 0, .int .i64 0, .string ⟨#[]⟩] 28 (0, 0)) by rw [hw6]; exact blk_far K2.out HN.out.2.2 _)
   have HBs := Aside0.mk (show Below w.heap.size w w6 by rw [hw6]; exact below_set KB.out HN.out.2.1)
   rw [← hw6]
   clear hw6 K4 K2 KB
   unfold gongref07_Decode.fin at h
   by_cases hec : ec = 0
   ·rw [if_pos hec] at h
    subst hec
    obtain ⟨tt, hR, h⟩ := Option.bind_eq_some_iff.1 h
    have HR := Aside0.mk hR
    clear hR
    have z0 := (blk_cell H4s.out 0).trans rfl
    have z1 := (blk_cell H4s.out 1).trans rfl
    have z2 := (blk_cell H4s.out 2).trans rfl
    go_wp2_with fail
    refine (gongref07_Check.calls k 67 (wrap64 x) ⟨#[]⟩ tt w6 HR.out).mono ?_
    rintro e w7 ⟨rfl, hb7⟩
    clear z0 z1 z2
    have H2r := Aside0.mk ((Mv.of_below (S := fun _ => False) hb7).heap H2s.out id)
    have H4r := Aside0.mk ((Mv.of_below (S := fun _ => False) hb7).heap H4s.out id)
    have HBr := Aside0.mk (Below.trans HBs.out (Below.mono hb7 HBs.out.size))
    clear hb7 H2s H4s HBs
    have x0 := (blk_cell H2r.out 0).trans rfl
    have x1 := (blk_cell H2r.out 1).trans rfl
    have x2 := (blk_cell H2r.out 2).trans rfl
    have y0 := blk_frozen H2r.out 0
    have y1 := blk_frozen H2r.out 1
    have y2 := blk_frozen H2r.out 2
    have z0 := (blk_cell H4r.out 0).trans rfl
    have z1 := (blk_cell H4r.out 1).trans rfl
    have z2 := (blk_cell H4r.out 2).trans rfl
    by_cases htt : tt = 0
    ·subst htt
     rw [if_pos rfl] at h
     simp only [Option.some.injEq, Prod.mk.injEq] at h
     obtain ⟨rfl, rfl, rfl, rfl⟩ := h
     go_wp2
     refine bodyPost_ret (results_ct rfl _ _ w.heap.size 28 #[.int .i64 67, .int .i64 (wrap64 x), .string ⟨#[]⟩] (0, 0) _ rfl (by
      refine blk_put (cs := #[.int .i64 67, .int .i64 (wrap64 x), .string ⟨#[]⟩]) ?_ 2 _ rfl
      refine blk_put (cs := #[.int .i64 67, .int .i64 0, .string ⟨#[]⟩]) ?_ 1 _ rfl
      refine blk_put (cs := #[.int .i64 0, .int .i64 0, .string ⟨#[]⟩]) ?_ 0 _ rfl
      exact H2r.out) Tryz.underlying28 rfl (by kernel_rfl)) rfl ?_
     exact ⟨rfl, below_set (below_set (below_set HBr.out HN.out.1) HN.out.1) HN.out.1⟩
    ·rw [if_neg htt] at h
     have f1 : (tt != 0) = true := bne_iff_ne.mpr htt
     have f2 := eq_false htt
     clear htt
     simp only [Option.some.injEq, Prod.mk.injEq] at h
     obtain ⟨rfl, rfl, rfl, rfl⟩ := h
     go_wp2
     refine bodyPost_ret (results_ct rfl _ _ w.heap.size 28 #[.int .i64 0, .int .i64 0, .string ⟨#[]⟩] (0, 0) _ rfl (by
      refine blk_put (cs := #[.int .i64 0, .int .i64 0, .string ⟨#[]⟩]) ?_ 2 _ rfl
      refine blk_put (cs := #[.int .i64 0, .int .i64 0, .string ⟨#[]⟩]) ?_ 1 _ rfl
      refine blk_put (cs := #[.int .i64 0, .int .i64 0, .string ⟨#[]⟩]) ?_ 0 _ rfl
      exact H2r.out) Tryz.underlying28 rfl (by kernel_rfl)) rfl ?_
     exact ⟨rfl, below_set (below_set (below_set HBr.out HN.out.1) HN.out.1) HN.out.1⟩
   ·rw [if_neg hec] at h
    have d1 : (ec != 0) = true := bne_iff_ne.mpr hec
    have d2 := eq_false hec
    clear hec
    simp only [Option.some.injEq, Prod.mk.injEq] at h
    obtain ⟨rfl, rfl, rfl, rfl⟩ := h
    have x0 := (blk_cell H2s.out 0).trans rfl
    have x1 := (blk_cell H2s.out 1).trans rfl
    have x2 := (blk_cell H2s.out 2).trans rfl
    have y0 := blk_frozen H2s.out 0
    have y1 := blk_frozen H2s.out 1
    have y2 := blk_frozen H2s.out 2
    go_wp2
    refine bodyPost_ret (results_ct rfl _ _ w.heap.size 28 #[.int .i64 0, .int .i64 0, .string ⟨#[]⟩] (0, 0) _ rfl (by
     refine blk_put (cs := #[.int .i64 0, .int .i64 0, .string ⟨#[]⟩]) ?_ 2 _ rfl
     refine blk_put (cs := #[.int .i64 0, .int .i64 0, .string ⟨#[]⟩]) ?_ 1 _ rfl
     refine blk_put (cs := #[.int .i64 0, .int .i64 0, .string ⟨#[]⟩]) ?_ 0 _ rfl
     exact H2s.out) Tryz.underlying28 rfl (by kernel_rfl)) rfl ?_
    exact ⟨rfl, below_set (below_set (below_set HBs.out HN.out.1) HN.out.1) HN.out.1⟩
  ·obtain ⟨⟨x, ec⟩, hF, h⟩ := Option.bind_eq_some_iff.1 h
   simp only at h
   have HF := Aside0.mk hF
   clear hF
   go_wp2_with fail
   refine (gongref05_Unsigned.calls k a1 x ec w4 HF.out).mono ?_
   rintro e w5 ⟨rfl, hb5d⟩
   have hb5 := hb5d.below
   clear hb5d
   have K4 := Aside0.mk ((Mv.of_below (S := fun _ => False) hb5).heap H4d.out id)
   have K2 := Aside0.mk ((Mv.of_below (S := fun _ => False) hb5).heap H2d.out id)
   have KB := Aside0.mk (Below.trans HBd.out (Below.mono hb5 HBd.out.size))
   clear hb5 H4d H2d HBd HF
   have x0 := (blk_cell K4.out 1).trans rfl
   have y0 := blk_frozen K4.out 1
   go_upto_region 15 with (fail)
   clear x0 y0
   obtain ⟨w6, hw6⟩ : ∃ w6, w6 = w5.setCell ⟨b4, 1, none⟩ (.int .i64 (wrap64 x)) := ⟨_, rfl⟩
   have H4s := Aside0.mk (show w6.heap[b4]? = some (.cells #[.int .i64 70, .int .i64 (wrap64 x), .string ⟨#[]⟩] 28 (0, 0)) by rw [hw6]; exact blk_put K4.out 1 _ rfl)
   have H2s := Aside0.mk (show w6.heap[w.heap.size]? = some (.cells #[.int .i64 0, .int .i64 0, .string ⟨#[]⟩] 28 (0, 0)) by rw [hw6]; exact blk_far K2.out HN.out.2.2 _)
   have HBs := Aside0.mk (show Below w.heap.size w w6 by rw [hw6]; exact below_set KB.out HN.out.2.1)
   rw [← hw6]
   clear hw6 K4 K2 KB
   unfold gongref07_Decode.fin at h
   by_cases hec : ec = 0
   ·rw [if_pos hec] at h
    subst hec
    obtain ⟨tt, hR, h⟩ := Option.bind_eq_some_iff.1 h
    have HR := Aside0.mk hR
    clear hR
    have z0 := (blk_cell H4s.out 0).trans rfl
    have z1 := (blk_cell H4s.out 1).trans rfl
    have z2 := (blk_cell H4s.out 2).trans rfl
    go_wp2_with fail
    refine (gongref07_Check.calls k 70 (wrap64 x) ⟨#[]⟩ tt w6 HR.out).mono ?_
    rintro e w7 ⟨rfl, hb7⟩
    clear z0 z1 z2
    have H2r := Aside0.mk ((Mv.of_below (S := fun _ => False) hb7).heap H2s.out id)
    have H4r := Aside0.mk ((Mv.of_below (S := fun _ => False) hb7).heap H4s.out id)
    have HBr := Aside0.mk (Below.trans HBs.out (Below.mono hb7 HBs.out.size))
    clear hb7 H2s H4s HBs
    have x0 := (blk_cell H2r.out 0).trans rfl
    have x1 := (blk_cell H2r.out 1).trans rfl
    have x2 := (blk_cell H2r.out 2).trans rfl
    have y0 := blk_frozen H2r.out 0
    have y1 := blk_frozen H2r.out 1
    have y2 := blk_frozen H2r.out 2
    have z0 := (blk_cell H4r.out 0).trans rfl
    have z1 := (blk_cell H4r.out 1).trans rfl
    have z2 := (blk_cell H4r.out 2).trans rfl
    by_cases htt : tt = 0
    ·subst htt
     rw [if_pos rfl] at h
     simp only [Option.some.injEq, Prod.mk.injEq] at h
     obtain ⟨rfl, rfl, rfl, rfl⟩ := h
     go_wp2
     refine bodyPost_ret (results_ct rfl _ _ w.heap.size 28 #[.int .i64 70, .int .i64 (wrap64 x), .string ⟨#[]⟩] (0, 0) _ rfl (by
      refine blk_put (cs := #[.int .i64 70, .int .i64 (wrap64 x), .string ⟨#[]⟩]) ?_ 2 _ rfl
      refine blk_put (cs := #[.int .i64 70, .int .i64 0, .string ⟨#[]⟩]) ?_ 1 _ rfl
      refine blk_put (cs := #[.int .i64 0, .int .i64 0, .string ⟨#[]⟩]) ?_ 0 _ rfl
      exact H2r.out) Tryz.underlying28 rfl (by kernel_rfl)) rfl ?_
     exact ⟨rfl, below_set (below_set (below_set HBr.out HN.out.1) HN.out.1) HN.out.1⟩
    ·rw [if_neg htt] at h
     have f1 : (tt != 0) = true := bne_iff_ne.mpr htt
     have f2 := eq_false htt
     clear htt
     simp only [Option.some.injEq, Prod.mk.injEq] at h
     obtain ⟨rfl, rfl, rfl, rfl⟩ := h
     go_wp2
     refine bodyPost_ret (results_ct rfl _ _ w.heap.size 28 #[.int .i64 0, .int .i64 0, .string ⟨#[]⟩] (0, 0) _ rfl (by
      refine blk_put (cs := #[.int .i64 0, .int .i64 0, .string ⟨#[]⟩]) ?_ 2 _ rfl
      refine blk_put (cs := #[.int .i64 0, .int .i64 0, .string ⟨#[]⟩]) ?_ 1 _ rfl
      refine blk_put (cs := #[.int .i64 0, .int .i64 0, .string ⟨#[]⟩]) ?_ 0 _ rfl
      exact H2r.out) Tryz.underlying28 rfl (by kernel_rfl)) rfl ?_
     exact ⟨rfl, below_set (below_set (below_set HBr.out HN.out.1) HN.out.1) HN.out.1⟩
   ·rw [if_neg hec] at h
    have d1 : (ec != 0) = true := bne_iff_ne.mpr hec
    have d2 := eq_false hec
    clear hec
    simp only [Option.some.injEq, Prod.mk.injEq] at h
    obtain ⟨rfl, rfl, rfl, rfl⟩ := h
    have x0 := (blk_cell H2s.out 0).trans rfl
    have x1 := (blk_cell H2s.out 1).trans rfl
    have x2 := (blk_cell H2s.out 2).trans rfl
    have y0 := blk_frozen H2s.out 0
    have y1 := blk_frozen H2s.out 1
    have y2 := blk_frozen H2s.out 2
    go_wp2
    refine bodyPost_ret (results_ct rfl _ _ w.heap.size 28 #[.int .i64 0, .int .i64 0, .string ⟨#[]⟩] (0, 0) _ rfl (by
     refine blk_put (cs := #[.int .i64 0, .int .i64 0, .string ⟨#[]⟩]) ?_ 2 _ rfl
     refine blk_put (cs := #[.int .i64 0, .int .i64 0, .string ⟨#[]⟩]) ?_ 1 _ rfl
     refine blk_put (cs := #[.int .i64 0, .int .i64 0, .string ⟨#[]⟩]) ?_ 0 _ rfl
     exact H2s.out) Tryz.underlying28 rfl (by kernel_rfl)) rfl ?_
    exact ⟨rfl, below_set (below_set (below_set HBs.out HN.out.1) HN.out.1) HN.out.1⟩
 rw [if_neg hu] at h
 have u1 : (a0 == 65) = false := beq_eq_false_iff_ne.mpr (fun e => hu (.inl e))
 have u2 : (a0 == 66) = false := beq_eq_false_iff_ne.mpr (fun e => hu (.inr (.inl e)))
 have u3 : (a0 == 67) = false := beq_eq_false_iff_ne.mpr (fun e => hu (.inr (.inr (.inl e))))
 have u4 : (a0 == 70) = false := beq_eq_false_iff_ne.mpr (fun e => hu (.inr (.inr (.inr e))))
 have u1' := eq_false (fun e : a0 = 65 => hu (.inl e))
 have u2' := eq_false (fun e : a0 = 66 => hu (.inr (.inl e)))
 have u3' := eq_false (fun e : a0 = 67 => hu (.inr (.inr (.inl e))))
 have u4' := eq_false (fun e : a0 = 70 => hu (.inr (.inr (.inr e))))
 clear hu
 by_cases h6 : a0 = 6
 ·subst h6
  rw [if_pos rfl] at h
  obtain ⟨⟨x, ec⟩, hF, h⟩ := Option.bind_eq_some_iff.1 h
  simp only at h
  have HF := Aside0.mk hF
  clear hF
  go_wp2_with fail
  refine (gongref06_Decode.calls k a1 x ec w4 HF.out).mono ?_
  rintro e w5 ⟨rfl, hb5⟩
  have K4 := Aside0.mk ((Mv.of_below (S := fun _ => False) hb5).heap H4d.out id)
  have K2 := Aside0.mk ((Mv.of_below (S := fun _ => False) hb5).heap H2d.out id)
  have KB := Aside0.mk (Below.trans HBd.out (Below.mono hb5 HBd.out.size))
  clear hb5 H4d H2d HBd HF
  have x0 := (blk_cell K4.out 2).trans rfl
  have y0 := blk_frozen K4.out 2
  go_upto_region 15 with (fail)
  clear x0 y0
  obtain ⟨w6, hw6⟩ : ∃ w6, w6 = w5.setCell ⟨b4, 2, none⟩ (.string x) := ⟨_, rfl⟩
  have H4s := Aside0.mk (show w6.heap[b4]? = some (.cells #[.int .i64 6, .int .i64 0, .string x] 28 (0, 0)) by rw [hw6]; exact blk_put K4.out 2 _ rfl)
  have H2s := Aside0.mk (show w6.heap[w.heap.size]? = some (.cells #[.int .i64 0, .int .i64 0, .string ⟨#[]⟩] 28 (0, 0)) by rw [hw6]; exact blk_far K2.out HN.out.2.2 _)
  have HBs := Aside0.mk (show Below w.heap.size w w6 by rw [hw6]; exact below_set KB.out HN.out.2.1)
  rw [← hw6]
  clear hw6 K4 K2 KB
  unfold gongref07_Decode.fin at h
  by_cases hec : ec = 0
  ·rw [if_pos hec] at h
   subst hec
   obtain ⟨tt, hR, h⟩ := Option.bind_eq_some_iff.1 h
   have HR := Aside0.mk hR
   clear hR
   have z0 := (blk_cell H4s.out 0).trans rfl
   have z1 := (blk_cell H4s.out 1).trans rfl
   have z2 := (blk_cell H4s.out 2).trans rfl
   go_wp2_with fail
   refine (gongref07_Check.calls k 6 0 x tt w6 HR.out).mono ?_
   rintro e w7 ⟨rfl, hb7⟩
   clear z0 z1 z2
   have H2r := Aside0.mk ((Mv.of_below (S := fun _ => False) hb7).heap H2s.out id)
   have H4r := Aside0.mk ((Mv.of_below (S := fun _ => False) hb7).heap H4s.out id)
   have HBr := Aside0.mk (Below.trans HBs.out (Below.mono hb7 HBs.out.size))
   clear hb7 H2s H4s HBs
   have x0 := (blk_cell H2r.out 0).trans rfl
   have x1 := (blk_cell H2r.out 1).trans rfl
   have x2 := (blk_cell H2r.out 2).trans rfl
   have y0 := blk_frozen H2r.out 0
   have y1 := blk_frozen H2r.out 1
   have y2 := blk_frozen H2r.out 2
   have z0 := (blk_cell H4r.out 0).trans rfl
   have z1 := (blk_cell H4r.out 1).trans rfl
   have z2 := (blk_cell H4r.out 2).trans rfl
   by_cases htt : tt = 0
   ·subst htt
    rw [if_pos rfl] at h
    simp only [Option.some.injEq, Prod.mk.injEq] at h
    obtain ⟨rfl, rfl, rfl, rfl⟩ := h
    go_wp2
    refine bodyPost_ret (results_ct rfl _ _ w.heap.size 28 #[.int .i64 6, .int .i64 0, .string x] (0, 0) _ rfl (by
     refine blk_put (cs := #[.int .i64 6, .int .i64 0, .string ⟨#[]⟩]) ?_ 2 _ rfl
     refine blk_put (cs := #[.int .i64 6, .int .i64 0, .string ⟨#[]⟩]) ?_ 1 _ rfl
     refine blk_put (cs := #[.int .i64 0, .int .i64 0, .string ⟨#[]⟩]) ?_ 0 _ rfl
     exact H2r.out) Tryz.underlying28 rfl (by kernel_rfl)) rfl ?_
    exact ⟨rfl, below_set (below_set (below_set HBr.out HN.out.1) HN.out.1) HN.out.1⟩
   ·rw [if_neg htt] at h
    have f1 : (tt != 0) = true := bne_iff_ne.mpr htt
    have f2 := eq_false htt
    clear htt
    simp only [Option.some.injEq, Prod.mk.injEq] at h
    obtain ⟨rfl, rfl, rfl, rfl⟩ := h
    go_wp2
    refine bodyPost_ret (results_ct rfl _ _ w.heap.size 28 #[.int .i64 0, .int .i64 0, .string ⟨#[]⟩] (0, 0) _ rfl (by
     refine blk_put (cs := #[.int .i64 0, .int .i64 0, .string ⟨#[]⟩]) ?_ 2 _ rfl
     refine blk_put (cs := #[.int .i64 0, .int .i64 0, .string ⟨#[]⟩]) ?_ 1 _ rfl
     refine blk_put (cs := #[.int .i64 0, .int .i64 0, .string ⟨#[]⟩]) ?_ 0 _ rfl
     exact H2r.out) Tryz.underlying28 rfl (by kernel_rfl)) rfl ?_
    exact ⟨rfl, below_set (below_set (below_set HBr.out HN.out.1) HN.out.1) HN.out.1⟩
  ·rw [if_neg hec] at h
   have d1 : (ec != 0) = true := bne_iff_ne.mpr hec
   have d2 := eq_false hec
   clear hec
   simp only [Option.some.injEq, Prod.mk.injEq] at h
   obtain ⟨rfl, rfl, rfl, rfl⟩ := h
   have x0 := (blk_cell H2s.out 0).trans rfl
   have x1 := (blk_cell H2s.out 1).trans rfl
   have x2 := (blk_cell H2s.out 2).trans rfl
   have y0 := blk_frozen H2s.out 0
   have y1 := blk_frozen H2s.out 1
   have y2 := blk_frozen H2s.out 2
   go_wp2
   refine bodyPost_ret (results_ct rfl _ _ w.heap.size 28 #[.int .i64 0, .int .i64 0, .string ⟨#[]⟩] (0, 0) _ rfl (by
    refine blk_put (cs := #[.int .i64 0, .int .i64 0, .string ⟨#[]⟩]) ?_ 2 _ rfl
    refine blk_put (cs := #[.int .i64 0, .int .i64 0, .string ⟨#[]⟩]) ?_ 1 _ rfl
    refine blk_put (cs := #[.int .i64 0, .int .i64 0, .string ⟨#[]⟩]) ?_ 0 _ rfl
    exact H2s.out) Tryz.underlying28 rfl (by kernel_rfl)) rfl ?_
   exact ⟨rfl, below_set (below_set (below_set HBs.out HN.out.1) HN.out.1) HN.out.1⟩
 rw [if_neg h6] at h
 have e6 : (a0 == 6) = false := beq_eq_false_iff_ne.mpr h6
 have e6' := eq_false h6
 clear h6
 have K4 := Aside0.mk H4d.out
 have K2 := Aside0.mk H2d.out
 have KB := Aside0.mk HBd.out
 clear H4d H2d HBd
 have x0 := (blk_cell K4.out 2).trans rfl
 have y0 := blk_frozen K4.out 2
 go_upto_region 15 with (fail)
 clear x0 y0
 obtain ⟨w6, hw6⟩ : ∃ w6, w6 = w4.setCell ⟨b4, 2, none⟩ (.string a1) := ⟨_, rfl⟩
 have H4s := Aside0.mk (show w6.heap[b4]? = some (.cells #[.int .i64 a0, .int .i64 0, .string a1] 28 (0, 0)) by rw [hw6]; exact blk_put K4.out 2 _ rfl)
 have H2s := Aside0.mk (show w6.heap[w.heap.size]? = some (.cells #[.int .i64 0, .int .i64 0, .string ⟨#[]⟩] 28 (0, 0)) by rw [hw6]; exact blk_far K2.out HN.out.2.2 _)
 have HBs := Aside0.mk (show Below w.heap.size w w6 by rw [hw6]; exact below_set KB.out HN.out.2.1)
 rw [← hw6]
 clear hw6 K4 K2 KB
 unfold gongref07_Decode.fin at h
 rw [if_pos rfl] at h
 obtain ⟨tt, hR, h⟩ := Option.bind_eq_some_iff.1 h
 have HR := Aside0.mk hR
 clear hR
 have z0 := (blk_cell H4s.out 0).trans rfl
 have z1 := (blk_cell H4s.out 1).trans rfl
 have z2 := (blk_cell H4s.out 2).trans rfl
 go_wp2_with fail
 refine (gongref07_Check.calls k a0 0 a1 tt w6 HR.out).mono ?_
 rintro e w7 ⟨rfl, hb7⟩
 clear z0 z1 z2
 have H2r := Aside0.mk ((Mv.of_below (S := fun _ => False) hb7).heap H2s.out id)
 have H4r := Aside0.mk ((Mv.of_below (S := fun _ => False) hb7).heap H4s.out id)
 have HBr := Aside0.mk (Below.trans HBs.out (Below.mono hb7 HBs.out.size))
 clear hb7 H2s H4s HBs
 have x0 := (blk_cell H2r.out 0).trans rfl
 have x1 := (blk_cell H2r.out 1).trans rfl
 have x2 := (blk_cell H2r.out 2).trans rfl
 have y0 := blk_frozen H2r.out 0
 have y1 := blk_frozen H2r.out 1
 have y2 := blk_frozen H2r.out 2
 have z0 := (blk_cell H4r.out 0).trans rfl
 have z1 := (blk_cell H4r.out 1).trans rfl
 have z2 := (blk_cell H4r.out 2).trans rfl
 by_cases htt : tt = 0
 ·subst htt
  rw [if_pos rfl] at h
  simp only [Option.some.injEq, Prod.mk.injEq] at h
  obtain ⟨rfl, rfl, rfl, rfl⟩ := h
  go_wp2
  refine bodyPost_ret (results_ct rfl _ _ w.heap.size 28 #[.int .i64 a0, .int .i64 0, .string a1] (0, 0) _ rfl (by
   refine blk_put (cs := #[.int .i64 a0, .int .i64 0, .string ⟨#[]⟩]) ?_ 2 _ rfl
   refine blk_put (cs := #[.int .i64 a0, .int .i64 0, .string ⟨#[]⟩]) ?_ 1 _ rfl
   refine blk_put (cs := #[.int .i64 0, .int .i64 0, .string ⟨#[]⟩]) ?_ 0 _ rfl
   exact H2r.out) Tryz.underlying28 rfl (by kernel_rfl)) rfl ?_
  exact ⟨rfl, below_set (below_set (below_set HBr.out HN.out.1) HN.out.1) HN.out.1⟩
 ·rw [if_neg htt] at h
  have f1 : (tt != 0) = true := bne_iff_ne.mpr htt
  have f2 := eq_false htt
  clear htt
  simp only [Option.some.injEq, Prod.mk.injEq] at h
  obtain ⟨rfl, rfl, rfl, rfl⟩ := h
  go_wp2
  refine bodyPost_ret (results_ct rfl _ _ w.heap.size 28 #[.int .i64 0, .int .i64 0, .string ⟨#[]⟩] (0, 0) _ rfl (by
   refine blk_put (cs := #[.int .i64 0, .int .i64 0, .string ⟨#[]⟩]) ?_ 2 _ rfl
   refine blk_put (cs := #[.int .i64 0, .int .i64 0, .string ⟨#[]⟩]) ?_ 1 _ rfl
   refine blk_put (cs := #[.int .i64 0, .int .i64 0, .string ⟨#[]⟩]) ?_ 0 _ rfl
   exact H2r.out) Tryz.underlying28 rfl (by kernel_rfl)) rfl ?_
  exact ⟨rfl, below_set (below_set (below_set HBr.out HN.out.1) HN.out.1) HN.out.1⟩
end Go.Proofs.YtfgdnnbhlnbojaaGreatDoor.XPdR
