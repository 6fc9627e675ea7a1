-- Laid by extprint.py (the session's own driver): functions told by the kit's printer and by hand.
import Derived.Test.YtjfimileopbadaaGreatDoorXVaRx0
import Derived.Test.YtjfimileopbadaaGreatDoorXVaRx1
import Derived.Test.YtjfimileopbadaaGreatDoorXVaRx7
import Derived.Test.YtjfimileopbadaaGreatDoorXVaRx9
import Derived.Test.YtjfimileopbadaaGreatDoorXVaRx11
import Derived.Test.YtjfimileopbadaaGreatDoorXVaRx12
import Derived.Test.YtjfimileopbadaaGreatDoorXVaRx13
import Derived.Test.YtjfimileopbadaaGreatDoorXVaRx14
namespace Go.Proofs.YtjfimileopbadaaGreatDoor.XVaR
open Go.RowKit Gong Go.Proofs.YtjfimileopbadaaGreatDoorW.PrintWords Go.Proofs.YtjfimileopbadaaGreatDoorW.PrintLast Go.Proofs.YtjfimileopbadaaGreatDoorW.PrintMore
attribute [local go_sem] max2_int min2_int max_two min_two max_three min_three max_four min_four   -- for this text's walks alone
set_option linter.unusedVariables false
set_option linter.unusedSimpArgs false

attribute [local go_sem high] eqA28
/-! ### gongref07_Decode: function 40 -/
def gongref07_Decode.fin (k : Nat) (kind n : Int) (s : ByteArray) (e : Int) : Option (Int × Int × ByteArray × Int) :=
  if e = 0 then (gongref07_Check.f k kind n s).bind fun t => if t = 0 then some (kind, n, s, 0) else some (0, 0, ⟨#[]⟩, 70) else some (0, 0, ⟨#[]⟩, 70)
def gongref07_Decode.f (k : Nat) (a0 : Int) (a1 : ByteArray) : Option (Int × Int × ByteArray × Int) :=
  if a0 = 2 then (gongref05_Number.f k a1).bind fun r => gongref07_Decode.fin k a0 r.1 ⟨#[]⟩ r.2 else
  if a0 = 65 ∨ a0 = 66 ∨ a0 = 67 ∨ a0 = 70 then (gongref05_Unsigned.f k a1).bind fun r => gongref07_Decode.fin k a0 (wrap64 r.1) ⟨#[]⟩ r.2 else
  if a0 = 6 then (gongref06_Decode.f k a1).bind fun r => gongref07_Decode.fin k a0 0 r.1 r.2 else gongref07_Decode.fin k a0 0 a1 0
theorem gongref07_Decode.fin_mono (kind n : Int) (s : ByteArray) (e : Int) (k : Nat) : LeO (gongref07_Decode.fin k kind n s e) (gongref07_Decode.fin (k + 1) kind n s e) := by
  unfold gongref07_Decode.fin
  split
  · exact LeO.bind (gongref07_Check.mono _ _ _ _) (fun _ => LeO.refl _)
  · exact LeO.refl _
theorem gongref07_Decode.mono : ∀ a0 a1 k, LeO (gongref07_Decode.f k a0 a1) (gongref07_Decode.f (k + 1) a0 a1) := by
  intro a0 a1 k
  unfold gongref07_Decode.f
  split
  · exact LeO.bind (gongref05_Number.mono _ _) (fun _ => gongref07_Decode.fin_mono _ _ _ _ k)
  · split
    · exact LeO.bind (gongref05_Unsigned.mono _ _) (fun _ => gongref07_Decode.fin_mono _ _ _ _ k)
    · split
      · exact LeO.bind (gongref06_Decode.mono _ _) (fun _ => gongref07_Decode.fin_mono _ _ _ _ k)
      · exact gongref07_Decode.fin_mono _ _ _ _ k
set_option maxHeartbeats 8000000 in
set_option maxRecDepth 100000 in
theorem gongref07_Decode.calls (k : Nat) (a0 : Int) (a1 : ByteArray) (r1 : Int) (r2 : Int) (r3 : ByteArray) (r4 : Int) (w : World) (h : gongref07_Decode.f k a0 a1 = some (r1, r2, r3, r4)) :
    Calls Tryz.prog 40 #[.int .i64 a0, .string a1] w fun e w' => e = .returned (.tuple #[.agg #[.int .i64 r1, .int .i64 r2, .string r3], .int .i64 r4]) ∧ Below w.heap.size w w' := by
  unfold gongref07_Decode.f at h
  go_enter Tryz.func40, Tryz.ntmps40
  go_upto_region 3 with (fail)
  obtain ⟨w4, hw4⟩ : ∃ w4, w4 = ((w.alloc (.cells #[.int .i64 0, .int .i64 0, .string ⟨#[]⟩] 28)).alloc (.cells #[.int .i64 a0, .int .i64 0, .string ⟨#[]⟩] 28)) := ⟨_, rfl⟩
  have H2d := Aside0.mk (show w4.heap[w.heap.size]? = some (.cells #[.int .i64 0, .int .i64 0, .string ⟨#[]⟩] 28 (0, 0)) by rw [hw4]; exact blk_alloc (heap_alloc_new w _) _)
  have H4d := Aside0.mk (show w4.heap[w.heap.size + 1]? = some (.cells #[.int .i64 a0, .int .i64 0, .string ⟨#[]⟩] 28 (0, 0)) by
    rw [hw4]
    have := heap_alloc_new (w.alloc (.cells #[.int .i64 0, .int .i64 0, .string ⟨#[]⟩] 28)) (.cells #[.int .i64 a0, .int .i64 0, .string ⟨#[]⟩] 28)
    simpa using this)
  have HBd := Aside0.mk (show Below w.heap.size w w4 by rw [hw4]; exact below_alloc (below_alloc (Below.refl _ _) _) _)
  rw [← hw4]
  obtain ⟨b4, hb4⟩ : ∃ b4, b4 = w.heap.size + 1 := ⟨_, rfl⟩
  rw [← hb4] at H4d ⊢
  have HN := Aside0.mk (show w.heap.size ≤ w.heap.size ∧ w.heap.size ≤ b4 ∧ w.heap.size ≠ b4 by omega)
  have n1 : w.heap.size ≠ b4 := by omega
  have n2 : b4 ≠ w.heap.size := by omega
  clear hb4 hw4
  by_cases h2 : a0 = 2
  · subst h2
    rw [if_pos rfl] at h
    obtain ⟨⟨x, ec⟩, hF, h⟩ := Option.bind_eq_some_iff.1 h
    simp only at h
    have HF := Aside0.mk hF
    clear hF
    go_wp2_with fail
    refine (gongref05_Number.calls k a1 x ec w4 HF.out).mono ?_
    rintro e w5 ⟨rfl, hb5d⟩
    have hb5 := hb5d.below
    clear hb5d
    have K4 := Aside0.mk ((Mv.of_below (S := fun _ => False) hb5).heap H4d.out id)
    have K2 := Aside0.mk ((Mv.of_below (S := fun _ => False) hb5).heap H2d.out id)
    have KB := Aside0.mk (Below.trans HBd.out (Below.mono hb5 HBd.out.size))
    clear hb5 H4d H2d HBd HF
    have x0 := (blk_cell K4.out 1).trans rfl
    have y0 := blk_frozen K4.out 1
    go_upto_region 15 with (fail)
    clear x0 y0
    obtain ⟨w6, hw6⟩ : ∃ w6, w6 = w5.setCell ⟨b4, 1, none⟩ (.int .i64 x) := ⟨_, rfl⟩
    have H4s := Aside0.mk (show w6.heap[b4]? = some (.cells #[.int .i64 2, .int .i64 x, .string ⟨#[]⟩] 28 (0, 0)) by rw [hw6]; exact blk_put K4.out 1 _ rfl)
    have H2s := Aside0.mk (show w6.heap[w.heap.size]? = some (.cells #[.int .i64 0, .int .i64 0, .string ⟨#[]⟩] 28 (0, 0)) by rw [hw6]; exact blk_far K2.out HN.out.2.2 _)
    have HBs := Aside0.mk (show Below w.heap.size w w6 by rw [hw6]; exact below_set KB.out HN.out.2.1)
    rw [← hw6]
    clear hw6 K4 K2 KB
    unfold gongref07_Decode.fin at h
    by_cases hec : ec = 0
    · rw [if_pos hec] at h
      subst hec
      obtain ⟨tt, hR, h⟩ := Option.bind_eq_some_iff.1 h
      have HR := Aside0.mk hR
      clear hR
      have z0 := (blk_cell H4s.out 0).trans rfl
      have z1 := (blk_cell H4s.out 1).trans rfl
      have z2 := (blk_cell H4s.out 2).trans rfl
      go_wp2_with fail
      refine (gongref07_Check.calls k 2 x ⟨#[]⟩ tt w6 HR.out).mono ?_
      rintro e w7 ⟨rfl, hb7⟩
      clear z0 z1 z2
      have H2r := Aside0.mk ((Mv.of_below (S := fun _ => False) hb7).heap H2s.out id)
      have H4r := Aside0.mk ((Mv.of_below (S := fun _ => False) hb7).heap H4s.out id)
      have HBr := Aside0.mk (Below.trans HBs.out (Below.mono hb7 HBs.out.size))
      clear hb7 H2s H4s HBs
      have x0 := (blk_cell H2r.out 0).trans rfl
      have x1 := (blk_cell H2r.out 1).trans rfl
      have x2 := (blk_cell H2r.out 2).trans rfl
      have y0 := blk_frozen H2r.out 0
      have y1 := blk_frozen H2r.out 1
      have y2 := blk_frozen H2r.out 2
      have z0 := (blk_cell H4r.out 0).trans rfl
      have z1 := (blk_cell H4r.out 1).trans rfl
      have z2 := (blk_cell H4r.out 2).trans rfl
      by_cases htt : tt = 0
      · subst htt
        rw [if_pos rfl] at h
        simp only [Option.some.injEq, Prod.mk.injEq] at h
        obtain ⟨rfl, rfl, rfl, rfl⟩ := h
        go_wp2
        refine bodyPost_ret (results_ct rfl _ _ w.heap.size 28 #[.int .i64 2, .int .i64 x, .string ⟨#[]⟩] (0, 0) _ rfl (by
          refine blk_put (cs := #[.int .i64 2, .int .i64 x, .string ⟨#[]⟩]) ?_ 2 _ rfl
          refine blk_put (cs := #[.int .i64 2, .int .i64 0, .string ⟨#[]⟩]) ?_ 1 _ rfl
          refine blk_put (cs := #[.int .i64 0, .int .i64 0, .string ⟨#[]⟩]) ?_ 0 _ rfl
          exact H2r.out) Tryz.underlying28 rfl (by kernel_rfl)) rfl ?_
        exact ⟨rfl, below_set (below_set (below_set HBr.out HN.out.1) HN.out.1) HN.out.1⟩
      · rw [if_neg htt] at h
        have f1 : (tt != 0) = true := bne_iff_ne.mpr htt
        have f2 := eq_false htt
        clear htt
        simp only [Option.some.injEq, Prod.mk.injEq] at h
        obtain ⟨rfl, rfl, rfl, rfl⟩ := h
        go_wp2
        refine bodyPost_ret (results_ct rfl _ _ w.heap.size 28 #[.int .i64 0, .int .i64 0, .string ⟨#[]⟩] (0, 0) _ rfl (by
          refine blk_put (cs := #[.int .i64 0, .int .i64 0, .string ⟨#[]⟩]) ?_ 2 _ rfl
          refine blk_put (cs := #[.int .i64 0, .int .i64 0, .string ⟨#[]⟩]) ?_ 1 _ rfl
          refine blk_put (cs := #[.int .i64 0, .int .i64 0, .string ⟨#[]⟩]) ?_ 0 _ rfl
          exact H2r.out) Tryz.underlying28 rfl (by kernel_rfl)) rfl ?_
        exact ⟨rfl, below_set (below_set (below_set HBr.out HN.out.1) HN.out.1) HN.out.1⟩
    · rw [if_neg hec] at h
      have d1 : (ec != 0) = true := bne_iff_ne.mpr hec
      have d2 := eq_false hec
      clear hec
      simp only [Option.some.injEq, Prod.mk.injEq] at h
      obtain ⟨rfl, rfl, rfl, rfl⟩ := h
      have x0 := (blk_cell H2s.out 0).trans rfl
      have x1 := (blk_cell H2s.out 1).trans rfl
      have x2 := (blk_cell H2s.out 2).trans rfl
      have y0 := blk_frozen H2s.out 0
      have y1 := blk_frozen H2s.out 1
      have y2 := blk_frozen H2s.out 2
      go_wp2
      refine bodyPost_ret (results_ct rfl _ _ w.heap.size 28 #[.int .i64 0, .int .i64 0, .string ⟨#[]⟩] (0, 0) _ rfl (by
        refine blk_put (cs := #[.int .i64 0, .int .i64 0, .string ⟨#[]⟩]) ?_ 2 _ rfl
        refine blk_put (cs := #[.int .i64 0, .int .i64 0, .string ⟨#[]⟩]) ?_ 1 _ rfl
        refine blk_put (cs := #[.int .i64 0, .int .i64 0, .string ⟨#[]⟩]) ?_ 0 _ rfl
        exact H2s.out) Tryz.underlying28 rfl (by kernel_rfl)) rfl ?_
      exact ⟨rfl, below_set (below_set (below_set HBs.out HN.out.1) HN.out.1) HN.out.1⟩
  rw [if_neg h2] at h
  have e2 : (a0 == 2) = false := beq_eq_false_iff_ne.mpr h2
  have e2' := eq_false h2
  clear h2
  by_cases hu : a0 = 65 ∨ a0 = 66 ∨ a0 = 67 ∨ a0 = 70
  · rw [if_pos hu] at h
    clear e2 e2'
    rcases hu with rfl | rfl | rfl | rfl
    · obtain ⟨⟨x, ec⟩, hF, h⟩ := Option.bind_eq_some_iff.1 h
      simp only at h
      have HF := Aside0.mk hF
      clear hF
      go_wp2_with fail
      refine (gongref05_Unsigned.calls k a1 x ec w4 HF.out).mono ?_
      rintro e w5 ⟨rfl, hb5d⟩
      have hb5 := hb5d.below
      clear hb5d
      have K4 := Aside0.mk ((Mv.of_below (S := fun _ => False) hb5).heap H4d.out id)
      have K2 := Aside0.mk ((Mv.of_below (S := fun _ => False) hb5).heap H2d.out id)
      have KB := Aside0.mk (Below.trans HBd.out (Below.mono hb5 HBd.out.size))
      clear hb5 H4d H2d HBd HF
      have x0 := (blk_cell K4.out 1).trans rfl
      have y0 := blk_frozen K4.out 1
      go_upto_region 15 with (fail)
      clear x0 y0
      obtain ⟨w6, hw6⟩ : ∃ w6, w6 = w5.setCell ⟨b4, 1, none⟩ (.int .i64 (wrap64 x)) := ⟨_, rfl⟩
      have H4s := Aside0.mk (show w6.heap[b4]? = some (.cells #[.int .i64 65, .int .i64 (wrap64 x), .string ⟨#[]⟩] 28 (0, 0)) by rw [hw6]; exact blk_put K4.out 1 _ rfl)
      have H2s := Aside0.mk (show w6.heap[w.heap.size]? = some (.cells #[.int .i64 0, .int .i64 0, .string ⟨#[]⟩] 28 (0, 0)) by rw [hw6]; exact blk_far K2.out HN.out.2.2 _)
      have HBs := Aside0.mk (show Below w.heap.size w w6 by rw [hw6]; exact below_set KB.out HN.out.2.1)
      rw [← hw6]
      clear hw6 K4 K2 KB
      unfold gongref07_Decode.fin at h
      by_cases hec : ec = 0
      · rw [if_pos hec] at h
        subst hec
        obtain ⟨tt, hR, h⟩ := Option.bind_eq_some_iff.1 h
        have HR := Aside0.mk hR
        clear hR
        have z0 := (blk_cell H4s.out 0).trans rfl
        have z1 := (blk_cell H4s.out 1).trans rfl
        have z2 := (blk_cell H4s.out 2).trans rfl
        go_wp2_with fail
        refine (gongref07_Check.calls k 65 (wrap64 x) ⟨#[]⟩ tt w6 HR.out).mono ?_
        rintro e w7 ⟨rfl, hb7⟩
        clear z0 z1 z2
        have H2r := Aside0.mk ((Mv.of_below (S := fun _ => False) hb7).heap H2s.out id)
        have H4r := Aside0.mk ((Mv.of_below (S := fun _ => False) hb7).heap H4s.out id)
        have HBr := Aside0.mk (Below.trans HBs.out (Below.mono hb7 HBs.out.size))
        clear hb7 H2s H4s HBs
        have x0 := (blk_cell H2r.out 0).trans rfl
        have x1 := (blk_cell H2r.out 1).trans rfl
        have x2 := (blk_cell H2r.out 2).trans rfl
        have y0 := blk_frozen H2r.out 0
        have y1 := blk_frozen H2r.out 1
        have y2 := blk_frozen H2r.out 2
        have z0 := (blk_cell H4r.out 0).trans rfl
        have z1 := (blk_cell H4r.out 1).trans rfl
        have z2 := (blk_cell H4r.out 2).trans rfl
        by_cases htt : tt = 0
        · subst htt
          rw [if_pos rfl] at h
          simp only [Option.some.injEq, Prod.mk.injEq] at h
          obtain ⟨rfl, rfl, rfl, rfl⟩ := h
          go_wp2
          refine bodyPost_ret (results_ct rfl _ _ w.heap.size 28 #[.int .i64 65, .int .i64 (wrap64 x), .string ⟨#[]⟩] (0, 0) _ rfl (by
            refine blk_put (cs := #[.int .i64 65, .int .i64 (wrap64 x), .string ⟨#[]⟩]) ?_ 2 _ rfl
            refine blk_put (cs := #[.int .i64 65, .int .i64 0, .string ⟨#[]⟩]) ?_ 1 _ rfl
            refine blk_put (cs := #[.int .i64 0, .int .i64 0, .string ⟨#[]⟩]) ?_ 0 _ rfl
            exact H2r.out) Tryz.underlying28 rfl (by kernel_rfl)) rfl ?_
          exact ⟨rfl, below_set (below_set (below_set HBr.out HN.out.1) HN.out.1) HN.out.1⟩
        · rw [if_neg htt] at h
          have f1 : (tt != 0) = true := bne_iff_ne.mpr htt
          have f2 := eq_false htt
          clear htt
          simp only [Option.some.injEq, Prod.mk.injEq] at h
          obtain ⟨rfl, rfl, rfl, rfl⟩ := h
          go_wp2
          refine bodyPost_ret (results_ct rfl _ _ w.heap.size 28 #[.int .i64 0, .int .i64 0, .string ⟨#[]⟩] (0, 0) _ rfl (by
            refine blk_put (cs := #[.int .i64 0, .int .i64 0, .string ⟨#[]⟩]) ?_ 2 _ rfl
            refine blk_put (cs := #[.int .i64 0, .int .i64 0, .string ⟨#[]⟩]) ?_ 1 _ rfl
            refine blk_put (cs := #[.int .i64 0, .int .i64 0, .string ⟨#[]⟩]) ?_ 0 _ rfl
            exact H2r.out) Tryz.underlying28 rfl (by kernel_rfl)) rfl ?_
          exact ⟨rfl, below_set (below_set (below_set HBr.out HN.out.1) HN.out.1) HN.out.1⟩
      · rw [if_neg hec] at h
        have d1 : (ec != 0) = true := bne_iff_ne.mpr hec
        have d2 := eq_false hec
        clear hec
        simp only [Option.some.injEq, Prod.mk.injEq] at h
        obtain ⟨rfl, rfl, rfl, rfl⟩ := h
        have x0 := (blk_cell H2s.out 0).trans rfl
        have x1 := (blk_cell H2s.out 1).trans rfl
        have x2 := (blk_cell H2s.out 2).trans rfl
        have y0 := blk_frozen H2s.out 0
        have y1 := blk_frozen H2s.out 1
        have y2 := blk_frozen H2s.out 2
        go_wp2
        refine bodyPost_ret (results_ct rfl _ _ w.heap.size 28 #[.int .i64 0, .int .i64 0, .string ⟨#[]⟩] (0, 0) _ rfl (by
          refine blk_put (cs := #[.int .i64 0, .int .i64 0, .string ⟨#[]⟩]) ?_ 2 _ rfl
          refine blk_put (cs := #[.int .i64 0, .int .i64 0, .string ⟨#[]⟩]) ?_ 1 _ rfl
          refine blk_put (cs := #[.int .i64 0, .int .i64 0, .string ⟨#[]⟩]) ?_ 0 _ rfl
          exact H2s.out) Tryz.underlying28 rfl (by kernel_rfl)) rfl ?_
        exact ⟨rfl, below_set (below_set (below_set HBs.out HN.out.1) HN.out.1) HN.out.1⟩
    · obtain ⟨⟨x, ec⟩, hF, h⟩ := Option.bind_eq_some_iff.1 h
      simp only at h
      have HF := Aside0.mk hF
      clear hF
      go_wp2_with fail
      refine (gongref05_Unsigned.calls k a1 x ec w4 HF.out).mono ?_
      rintro e w5 ⟨rfl, hb5d⟩
      have hb5 := hb5d.below
      clear hb5d
      have K4 := Aside0.mk ((Mv.of_below (S := fun _ => False) hb5).heap H4d.out id)
      have K2 := Aside0.mk ((Mv.of_below (S := fun _ => False) hb5).heap H2d.out id)
      have KB := Aside0.mk (Below.trans HBd.out (Below.mono hb5 HBd.out.size))
      clear hb5 H4d H2d HBd HF
      have x0 := (blk_cell K4.out 1).trans rfl
      have y0 := blk_frozen K4.out 1
      go_upto_region 15 with (fail)
      clear x0 y0
      obtain ⟨w6, hw6⟩ : ∃ w6, w6 = w5.setCell ⟨b4, 1, none⟩ (.int .i64 (wrap64 x)) := ⟨_, rfl⟩
      have H4s := Aside0.mk (show w6.heap[b4]? = some (.cells #[.int .i64 66, .int .i64 (wrap64 x), .string ⟨#[]⟩] 28 (0, 0)) by rw [hw6]; exact blk_put K4.out 1 _ rfl)
      have H2s := Aside0.mk (show w6.heap[w.heap.size]? = some (.cells #[.int .i64 0, .int .i64 0, .string ⟨#[]⟩] 28 (0, 0)) by rw [hw6]; exact blk_far K2.out HN.out.2.2 _)
      have HBs := Aside0.mk (show Below w.heap.size w w6 by rw [hw6]; exact below_set KB.out HN.out.2.1)
      rw [← hw6]
      clear hw6 K4 K2 KB
      unfold gongref07_Decode.fin at h
      by_cases hec : ec = 0
      · rw [if_pos hec] at h
        subst hec
        obtain ⟨tt, hR, h⟩ := Option.bind_eq_some_iff.1 h
        have HR := Aside0.mk hR
        clear hR
        have z0 := (blk_cell H4s.out 0).trans rfl
        have z1 := (blk_cell H4s.out 1).trans rfl
        have z2 := (blk_cell H4s.out 2).trans rfl
        go_wp2_with fail
        refine (gongref07_Check.calls k 66 (wrap64 x) ⟨#[]⟩ tt w6 HR.out).mono ?_
        rintro e w7 ⟨rfl, hb7⟩
        clear z0 z1 z2
        have H2r := Aside0.mk ((Mv.of_below (S := fun _ => False) hb7).heap H2s.out id)
        have H4r := Aside0.mk ((Mv.of_below (S := fun _ => False) hb7).heap H4s.out id)
        have HBr := Aside0.mk (Below.trans HBs.out (Below.mono hb7 HBs.out.size))
        clear hb7 H2s H4s HBs
        have x0 := (blk_cell H2r.out 0).trans rfl
        have x1 := (blk_cell H2r.out 1).trans rfl
        have x2 := (blk_cell H2r.out 2).trans rfl
        have y0 := blk_frozen H2r.out 0
        have y1 := blk_frozen H2r.out 1
        have y2 := blk_frozen H2r.out 2
        have z0 := (blk_cell H4r.out 0).trans rfl
        have z1 := (blk_cell H4r.out 1).trans rfl
        have z2 := (blk_cell H4r.out 2).trans rfl
        by_cases htt : tt = 0
        · subst htt
          rw [if_pos rfl] at h
          simp only [Option.some.injEq, Prod.mk.injEq] at h
          obtain ⟨rfl, rfl, rfl, rfl⟩ := h
          go_wp2
          refine bodyPost_ret (results_ct rfl _ _ w.heap.size 28 #[.int .i64 66, .int .i64 (wrap64 x), .string ⟨#[]⟩] (0, 0) _ rfl (by
            refine blk_put (cs := #[.int .i64 66, .int .i64 (wrap64 x), .string ⟨#[]⟩]) ?_ 2 _ rfl
            refine blk_put (cs := #[.int .i64 66, .int .i64 0, .string ⟨#[]⟩]) ?_ 1 _ rfl
            refine blk_put (cs := #[.int .i64 0, .int .i64 0, .string ⟨#[]⟩]) ?_ 0 _ rfl
            exact H2r.out) Tryz.underlying28 rfl (by kernel_rfl)) rfl ?_
          exact ⟨rfl, below_set (below_set (below_set HBr.out HN.out.1) HN.out.1) HN.out.1⟩
        · rw [if_neg htt] at h
          have f1 : (tt != 0) = true := bne_iff_ne.mpr htt
          have f2 := eq_false htt
          clear htt
          simp only [Option.some.injEq, Prod.mk.injEq] at h
          obtain ⟨rfl, rfl, rfl, rfl⟩ := h
          go_wp2
          refine bodyPost_ret (results_ct rfl _ _ w.heap.size 28 #[.int .i64 0, .int .i64 0, .string ⟨#[]⟩] (0, 0) _ rfl (by
            refine blk_put (cs := #[.int .i64 0, .int .i64 0, .string ⟨#[]⟩]) ?_ 2 _ rfl
            refine blk_put (cs := #[.int .i64 0, .int .i64 0, .string ⟨#[]⟩]) ?_ 1 _ rfl
            refine blk_put (cs := #[.int .i64 0, .int .i64 0, .string ⟨#[]⟩]) ?_ 0 _ rfl
            exact H2r.out) Tryz.underlying28 rfl (by kernel_rfl)) rfl ?_
          exact ⟨rfl, below_set (below_set (below_set HBr.out HN.out.1) HN.out.1) HN.out.1⟩
      · rw [if_neg hec] at h
        have d1 : (ec != 0) = true := bne_iff_ne.mpr hec
        have d2 := eq_false hec
        clear hec
        simp only [Option.some.injEq, Prod.mk.injEq] at h
        obtain ⟨rfl, rfl, rfl, rfl⟩ := h
        have x0 := (blk_cell H2s.out 0).trans rfl
        have x1 := (blk_cell H2s.out 1).trans rfl
        have x2 := (blk_cell H2s.out 2).trans rfl
        have y0 := blk_frozen H2s.out 0
        have y1 := blk_frozen H2s.out 1
        have y2 := blk_frozen H2s.out 2
        go_wp2
        refine bodyPost_ret (results_ct rfl _ _ w.heap.size 28 #[.int .i64 0, .int .i64 0, .string ⟨#[]⟩] (0, 0) _ rfl (by
          refine blk_put (cs := #[.int .i64 0, .int .i64 0, .string ⟨#[]⟩]) ?_ 2 _ rfl
          refine blk_put (cs := #[.int .i64 0, .int .i64 0, .string ⟨#[]⟩]) ?_ 1 _ rfl
          refine blk_put (cs := #[.int .i64 0, .int .i64 0, .string ⟨#[]⟩]) ?_ 0 _ rfl
          exact H2s.out) Tryz.underlying28 rfl (by kernel_rfl)) rfl ?_
        exact ⟨rfl, below_set (below_set (below_set HBs.out HN.out.1) HN.out.1) HN.out.1⟩
    · obtain ⟨⟨x, ec⟩, hF, h⟩ := Option.bind_eq_some_iff.1 h
      simp only at h
      have HF := Aside0.mk hF
      clear hF
      go_wp2_with fail
      refine (gongref05_Unsigned.calls k a1 x ec w4 HF.out).mono ?_
      rintro e w5 ⟨rfl, hb5d⟩
      have hb5 := hb5d.below
      clear hb5d
      have K4 := Aside0.mk ((Mv.of_below (S := fun _ => False) hb5).heap H4d.out id)
      have K2 := Aside0.mk ((Mv.of_below (S := fun _ => False) hb5).heap H2d.out id)
      have KB := Aside0.mk (Below.trans HBd.out (Below.mono hb5 HBd.out.size))
      clear hb5 H4d H2d HBd HF
      have x0 := (blk_cell K4.out 1).trans rfl
      have y0 := blk_frozen K4.out 1
      go_upto_region 15 with (fail)
      clear x0 y0
      obtain ⟨w6, hw6⟩ : ∃ w6, w6 = w5.setCell ⟨b4, 1, none⟩ (.int .i64 (wrap64 x)) := ⟨_, rfl⟩
      have H4s := Aside0.mk (show w6.heap[b4]? = some (.cells #[.int .i64 67, .int .i64 (wrap64 x), .string ⟨#[]⟩] 28 (0, 0)) by rw [hw6]; exact blk_put K4.out 1 _ rfl)
      have H2s := Aside0.mk (show w6.heap[w.heap.size]? = some (.cells #[.int .i64 0, .int .i64 0, .string ⟨#[]⟩] 28 (0, 0)) by rw [hw6]; exact blk_far K2.out HN.out.2.2 _)
      have HBs := Aside0.mk (show Below w.heap.size w w6 by rw [hw6]; exact below_set KB.out HN.out.2.1)
      rw [← hw6]
      clear hw6 K4 K2 KB
      unfold gongref07_Decode.fin at h
      by_cases hec : ec = 0
      · rw [if_pos hec] at h
        subst hec
        obtain ⟨tt, hR, h⟩ := Option.bind_eq_some_iff.1 h
        have HR := Aside0.mk hR
        clear hR
        have z0 := (blk_cell H4s.out 0).trans rfl
        have z1 := (blk_cell H4s.out 1).trans rfl
        have z2 := (blk_cell H4s.out 2).trans rfl
        go_wp2_with fail
        refine (gongref07_Check.calls k 67 (wrap64 x) ⟨#[]⟩ tt w6 HR.out).mono ?_
        rintro e w7 ⟨rfl, hb7⟩
        clear z0 z1 z2
        have H2r := Aside0.mk ((Mv.of_below (S := fun _ => False) hb7).heap H2s.out id)
        have H4r := Aside0.mk ((Mv.of_below (S := fun _ => False) hb7).heap H4s.out id)
        have HBr := Aside0.mk (Below.trans HBs.out (Below.mono hb7 HBs.out.size))
        clear hb7 H2s H4s HBs
        have x0 := (blk_cell H2r.out 0).trans rfl
        have x1 := (blk_cell H2r.out 1).trans rfl
        have x2 := (blk_cell H2r.out 2).trans rfl
        have y0 := blk_frozen H2r.out 0
        have y1 := blk_frozen H2r.out 1
        have y2 := blk_frozen H2r.out 2
        have z0 := (blk_cell H4r.out 0).trans rfl
        have z1 := (blk_cell H4r.out 1).trans rfl
        have z2 := (blk_cell H4r.out 2).trans rfl
        by_cases htt : tt = 0
        · subst htt
          rw [if_pos rfl] at h
          simp only [Option.some.injEq, Prod.mk.injEq] at h
          obtain ⟨rfl, rfl, rfl, rfl⟩ := h
          go_wp2
          refine bodyPost_ret (results_ct rfl _ _ w.heap.size 28 #[.int .i64 67, .int .i64 (wrap64 x), .string ⟨#[]⟩] (0, 0) _ rfl (by
            refine blk_put (cs := #[.int .i64 67, .int .i64 (wrap64 x), .string ⟨#[]⟩]) ?_ 2 _ rfl
            refine blk_put (cs := #[.int .i64 67, .int .i64 0, .string ⟨#[]⟩]) ?_ 1 _ rfl
            refine blk_put (cs := #[.int .i64 0, .int .i64 0, .string ⟨#[]⟩]) ?_ 0 _ rfl
            exact H2r.out) Tryz.underlying28 rfl (by kernel_rfl)) rfl ?_
          exact ⟨rfl, below_set (below_set (below_set HBr.out HN.out.1) HN.out.1) HN.out.1⟩
        · rw [if_neg htt] at h
          have f1 : (tt != 0) = true := bne_iff_ne.mpr htt
          have f2 := eq_false htt
          clear htt
          simp only [Option.some.injEq, Prod.mk.injEq] at h
          obtain ⟨rfl, rfl, rfl, rfl⟩ := h
          go_wp2
          refine bodyPost_ret (results_ct rfl _ _ w.heap.size 28 #[.int .i64 0, .int .i64 0, .string ⟨#[]⟩] (0, 0) _ rfl (by
            refine blk_put (cs := #[.int .i64 0, .int .i64 0, .string ⟨#[]⟩]) ?_ 2 _ rfl
            refine blk_put (cs := #[.int .i64 0, .int .i64 0, .string ⟨#[]⟩]) ?_ 1 _ rfl
            refine blk_put (cs := #[.int .i64 0, .int .i64 0, .string ⟨#[]⟩]) ?_ 0 _ rfl
            exact H2r.out) Tryz.underlying28 rfl (by kernel_rfl)) rfl ?_
          exact ⟨rfl, below_set (below_set (below_set HBr.out HN.out.1) HN.out.1) HN.out.1⟩
      · rw [if_neg hec] at h
        have d1 : (ec != 0) = true := bne_iff_ne.mpr hec
        have d2 := eq_false hec
        clear hec
        simp only [Option.some.injEq, Prod.mk.injEq] at h
        obtain ⟨rfl, rfl, rfl, rfl⟩ := h
        have x0 := (blk_cell H2s.out 0).trans rfl
        have x1 := (blk_cell H2s.out 1).trans rfl
        have x2 := (blk_cell H2s.out 2).trans rfl
        have y0 := blk_frozen H2s.out 0
        have y1 := blk_frozen H2s.out 1
        have y2 := blk_frozen H2s.out 2
        go_wp2
        refine bodyPost_ret (results_ct rfl _ _ w.heap.size 28 #[.int .i64 0, .int .i64 0, .string ⟨#[]⟩] (0, 0) _ rfl (by
          refine blk_put (cs := #[.int .i64 0, .int .i64 0, .string ⟨#[]⟩]) ?_ 2 _ rfl
          refine blk_put (cs := #[.int .i64 0, .int .i64 0, .string ⟨#[]⟩]) ?_ 1 _ rfl
          refine blk_put (cs := #[.int .i64 0, .int .i64 0, .string ⟨#[]⟩]) ?_ 0 _ rfl
          exact H2s.out) Tryz.underlying28 rfl (by kernel_rfl)) rfl ?_
        exact ⟨rfl, below_set (below_set (below_set HBs.out HN.out.1) HN.out.1) HN.out.1⟩
    · obtain ⟨⟨x, ec⟩, hF, h⟩ := Option.bind_eq_some_iff.1 h
      simp only at h
      have HF := Aside0.mk hF
      clear hF
      go_wp2_with fail
      refine (gongref05_Unsigned.calls k a1 x ec w4 HF.out).mono ?_
      rintro e w5 ⟨rfl, hb5d⟩
      have hb5 := hb5d.below
      clear hb5d
      have K4 := Aside0.mk ((Mv.of_below (S := fun _ => False) hb5).heap H4d.out id)
      have K2 := Aside0.mk ((Mv.of_below (S := fun _ => False) hb5).heap H2d.out id)
      have KB := Aside0.mk (Below.trans HBd.out (Below.mono hb5 HBd.out.size))
      clear hb5 H4d H2d HBd HF
      have x0 := (blk_cell K4.out 1).trans rfl
      have y0 := blk_frozen K4.out 1
      go_upto_region 15 with (fail)
      clear x0 y0
      obtain ⟨w6, hw6⟩ : ∃ w6, w6 = w5.setCell ⟨b4, 1, none⟩ (.int .i64 (wrap64 x)) := ⟨_, rfl⟩
      have H4s := Aside0.mk (show w6.heap[b4]? = some (.cells #[.int .i64 70, .int .i64 (wrap64 x), .string ⟨#[]⟩] 28 (0, 0)) by rw [hw6]; exact blk_put K4.out 1 _ rfl)
      have H2s := Aside0.mk (show w6.heap[w.heap.size]? = some (.cells #[.int .i64 0, .int .i64 0, .string ⟨#[]⟩] 28 (0, 0)) by rw [hw6]; exact blk_far K2.out HN.out.2.2 _)
      have HBs := Aside0.mk (show Below w.heap.size w w6 by rw [hw6]; exact below_set KB.out HN.out.2.1)
      rw [← hw6]
      clear hw6 K4 K2 KB
      unfold gongref07_Decode.fin at h
      by_cases hec : ec = 0
      · rw [if_pos hec] at h
        subst hec
        obtain ⟨tt, hR, h⟩ := Option.bind_eq_some_iff.1 h
        have HR := Aside0.mk hR
        clear hR
        have z0 := (blk_cell H4s.out 0).trans rfl
        have z1 := (blk_cell H4s.out 1).trans rfl
        have z2 := (blk_cell H4s.out 2).trans rfl
        go_wp2_with fail
        refine (gongref07_Check.calls k 70 (wrap64 x) ⟨#[]⟩ tt w6 HR.out).mono ?_
        rintro e w7 ⟨rfl, hb7⟩
        clear z0 z1 z2
        have H2r := Aside0.mk ((Mv.of_below (S := fun _ => False) hb7).heap H2s.out id)
        have H4r := Aside0.mk ((Mv.of_below (S := fun _ => False) hb7).heap H4s.out id)
        have HBr := Aside0.mk (Below.trans HBs.out (Below.mono hb7 HBs.out.size))
        clear hb7 H2s H4s HBs
        have x0 := (blk_cell H2r.out 0).trans rfl
        have x1 := (blk_cell H2r.out 1).trans rfl
        have x2 := (blk_cell H2r.out 2).trans rfl
        have y0 := blk_frozen H2r.out 0
        have y1 := blk_frozen H2r.out 1
        have y2 := blk_frozen H2r.out 2
        have z0 := (blk_cell H4r.out 0).trans rfl
        have z1 := (blk_cell H4r.out 1).trans rfl
        have z2 := (blk_cell H4r.out 2).trans rfl
        by_cases htt : tt = 0
        · subst htt
          rw [if_pos rfl] at h
          simp only [Option.some.injEq, Prod.mk.injEq] at h
          obtain ⟨rfl, rfl, rfl, rfl⟩ := h
          go_wp2
          refine bodyPost_ret (results_ct rfl _ _ w.heap.size 28 #[.int .i64 70, .int .i64 (wrap64 x), .string ⟨#[]⟩] (0, 0) _ rfl (by
            refine blk_put (cs := #[.int .i64 70, .int .i64 (wrap64 x), .string ⟨#[]⟩]) ?_ 2 _ rfl
            refine blk_put (cs := #[.int .i64 70, .int .i64 0, .string ⟨#[]⟩]) ?_ 1 _ rfl
            refine blk_put (cs := #[.int .i64 0, .int .i64 0, .string ⟨#[]⟩]) ?_ 0 _ rfl
            exact H2r.out) Tryz.underlying28 rfl (by kernel_rfl)) rfl ?_
          exact ⟨rfl, below_set (below_set (below_set HBr.out HN.out.1) HN.out.1) HN.out.1⟩
        · rw [if_neg htt] at h
          have f1 : (tt != 0) = true := bne_iff_ne.mpr htt
          have f2 := eq_false htt
          clear htt
          simp only [Option.some.injEq, Prod.mk.injEq] at h
          obtain ⟨rfl, rfl, rfl, rfl⟩ := h
          go_wp2
          refine bodyPost_ret (results_ct rfl _ _ w.heap.size 28 #[.int .i64 0, .int .i64 0, .string ⟨#[]⟩] (0, 0) _ rfl (by
            refine blk_put (cs := #[.int .i64 0, .int .i64 0, .string ⟨#[]⟩]) ?_ 2 _ rfl
            refine blk_put (cs := #[.int .i64 0, .int .i64 0, .string ⟨#[]⟩]) ?_ 1 _ rfl
            refine blk_put (cs := #[.int .i64 0, .int .i64 0, .string ⟨#[]⟩]) ?_ 0 _ rfl
            exact H2r.out) Tryz.underlying28 rfl (by kernel_rfl)) rfl ?_
          exact ⟨rfl, below_set (below_set (below_set HBr.out HN.out.1) HN.out.1) HN.out.1⟩
      · rw [if_neg hec] at h
        have d1 : (ec != 0) = true := bne_iff_ne.mpr hec
        have d2 := eq_false hec
        clear hec
        simp only [Option.some.injEq, Prod.mk.injEq] at h
        obtain ⟨rfl, rfl, rfl, rfl⟩ := h
        have x0 := (blk_cell H2s.out 0).trans rfl
        have x1 := (blk_cell H2s.out 1).trans rfl
        have x2 := (blk_cell H2s.out 2).trans rfl
        have y0 := blk_frozen H2s.out 0
        have y1 := blk_frozen H2s.out 1
        have y2 := blk_frozen H2s.out 2
        go_wp2
        refine bodyPost_ret (results_ct rfl _ _ w.heap.size 28 #[.int .i64 0, .int .i64 0, .string ⟨#[]⟩] (0, 0) _ rfl (by
          refine blk_put (cs := #[.int .i64 0, .int .i64 0, .string ⟨#[]⟩]) ?_ 2 _ rfl
          refine blk_put (cs := #[.int .i64 0, .int .i64 0, .string ⟨#[]⟩]) ?_ 1 _ rfl
          refine blk_put (cs := #[.int .i64 0, .int .i64 0, .string ⟨#[]⟩]) ?_ 0 _ rfl
          exact H2s.out) Tryz.underlying28 rfl (by kernel_rfl)) rfl ?_
        exact ⟨rfl, below_set (below_set (below_set HBs.out HN.out.1) HN.out.1) HN.out.1⟩
  rw [if_neg hu] at h
  have u1 : (a0 == 65) = false := beq_eq_false_iff_ne.mpr (fun e => hu (.inl e))
  have u2 : (a0 == 66) = false := beq_eq_false_iff_ne.mpr (fun e => hu (.inr (.inl e)))
  have u3 : (a0 == 67) = false := beq_eq_false_iff_ne.mpr (fun e => hu (.inr (.inr (.inl e))))
  have u4 : (a0 == 70) = false := beq_eq_false_iff_ne.mpr (fun e => hu (.inr (.inr (.inr e))))
  have u1' := eq_false (fun e : a0 = 65 => hu (.inl e))
  have u2' := eq_false (fun e : a0 = 66 => hu (.inr (.inl e)))
  have u3' := eq_false (fun e : a0 = 67 => hu (.inr (.inr (.inl e))))
  have u4' := eq_false (fun e : a0 = 70 => hu (.inr (.inr (.inr e))))
  clear hu
  by_cases h6 : a0 = 6
  · subst h6
    rw [if_pos rfl] at h
    obtain ⟨⟨x, ec⟩, hF, h⟩ := Option.bind_eq_some_iff.1 h
    simp only at h
    have HF := Aside0.mk hF
    clear hF
    go_wp2_with fail
    refine (gongref06_Decode.calls k a1 x ec w4 HF.out).mono ?_
    rintro e w5 ⟨rfl, hb5⟩
    have K4 := Aside0.mk ((Mv.of_below (S := fun _ => False) hb5).heap H4d.out id)
    have K2 := Aside0.mk ((Mv.of_below (S := fun _ => False) hb5).heap H2d.out id)
    have KB := Aside0.mk (Below.trans HBd.out (Below.mono hb5 HBd.out.size))
    clear hb5 H4d H2d HBd HF
    have x0 := (blk_cell K4.out 2).trans rfl
    have y0 := blk_frozen K4.out 2
    go_upto_region 15 with (fail)
    clear x0 y0
    obtain ⟨w6, hw6⟩ : ∃ w6, w6 = w5.setCell ⟨b4, 2, none⟩ (.string x) := ⟨_, rfl⟩
    have H4s := Aside0.mk (show w6.heap[b4]? = some (.cells #[.int .i64 6, .int .i64 0, .string x] 28 (0, 0)) by rw [hw6]; exact blk_put K4.out 2 _ rfl)
    have H2s := Aside0.mk (show w6.heap[w.heap.size]? = some (.cells #[.int .i64 0, .int .i64 0, .string ⟨#[]⟩] 28 (0, 0)) by rw [hw6]; exact blk_far K2.out HN.out.2.2 _)
    have HBs := Aside0.mk (show Below w.heap.size w w6 by rw [hw6]; exact below_set KB.out HN.out.2.1)
    rw [← hw6]
    clear hw6 K4 K2 KB
    unfold gongref07_Decode.fin at h
    by_cases hec : ec = 0
    · rw [if_pos hec] at h
      subst hec
      obtain ⟨tt, hR, h⟩ := Option.bind_eq_some_iff.1 h
      have HR := Aside0.mk hR
      clear hR
      have z0 := (blk_cell H4s.out 0).trans rfl
      have z1 := (blk_cell H4s.out 1).trans rfl
      have z2 := (blk_cell H4s.out 2).trans rfl
      go_wp2_with fail
      refine (gongref07_Check.calls k 6 0 x tt w6 HR.out).mono ?_
      rintro e w7 ⟨rfl, hb7⟩
      clear z0 z1 z2
      have H2r := Aside0.mk ((Mv.of_below (S := fun _ => False) hb7).heap H2s.out id)
      have H4r := Aside0.mk ((Mv.of_below (S := fun _ => False) hb7).heap H4s.out id)
      have HBr := Aside0.mk (Below.trans HBs.out (Below.mono hb7 HBs.out.size))
      clear hb7 H2s H4s HBs
      have x0 := (blk_cell H2r.out 0).trans rfl
      have x1 := (blk_cell H2r.out 1).trans rfl
      have x2 := (blk_cell H2r.out 2).trans rfl
      have y0 := blk_frozen H2r.out 0
      have y1 := blk_frozen H2r.out 1
      have y2 := blk_frozen H2r.out 2
      have z0 := (blk_cell H4r.out 0).trans rfl
      have z1 := (blk_cell H4r.out 1).trans rfl
      have z2 := (blk_cell H4r.out 2).trans rfl
      by_cases htt : tt = 0
      · subst htt
        rw [if_pos rfl] at h
        simp only [Option.some.injEq, Prod.mk.injEq] at h
        obtain ⟨rfl, rfl, rfl, rfl⟩ := h
        go_wp2
        refine bodyPost_ret (results_ct rfl _ _ w.heap.size 28 #[.int .i64 6, .int .i64 0, .string x] (0, 0) _ rfl (by
          refine blk_put (cs := #[.int .i64 6, .int .i64 0, .string ⟨#[]⟩]) ?_ 2 _ rfl
          refine blk_put (cs := #[.int .i64 6, .int .i64 0, .string ⟨#[]⟩]) ?_ 1 _ rfl
          refine blk_put (cs := #[.int .i64 0, .int .i64 0, .string ⟨#[]⟩]) ?_ 0 _ rfl
          exact H2r.out) Tryz.underlying28 rfl (by kernel_rfl)) rfl ?_
        exact ⟨rfl, below_set (below_set (below_set HBr.out HN.out.1) HN.out.1) HN.out.1⟩
      · rw [if_neg htt] at h
        have f1 : (tt != 0) = true := bne_iff_ne.mpr htt
        have f2 := eq_false htt
        clear htt
        simp only [Option.some.injEq, Prod.mk.injEq] at h
        obtain ⟨rfl, rfl, rfl, rfl⟩ := h
        go_wp2
        refine bodyPost_ret (results_ct rfl _ _ w.heap.size 28 #[.int .i64 0, .int .i64 0, .string ⟨#[]⟩] (0, 0) _ rfl (by
          refine blk_put (cs := #[.int .i64 0, .int .i64 0, .string ⟨#[]⟩]) ?_ 2 _ rfl
          refine blk_put (cs := #[.int .i64 0, .int .i64 0, .string ⟨#[]⟩]) ?_ 1 _ rfl
          refine blk_put (cs := #[.int .i64 0, .int .i64 0, .string ⟨#[]⟩]) ?_ 0 _ rfl
          exact H2r.out) Tryz.underlying28 rfl (by kernel_rfl)) rfl ?_
        exact ⟨rfl, below_set (below_set (below_set HBr.out HN.out.1) HN.out.1) HN.out.1⟩
    · rw [if_neg hec] at h
      have d1 : (ec != 0) = true := bne_iff_ne.mpr hec
      have d2 := eq_false hec
      clear hec
      simp only [Option.some.injEq, Prod.mk.injEq] at h
      obtain ⟨rfl, rfl, rfl, rfl⟩ := h
      have x0 := (blk_cell H2s.out 0).trans rfl
      have x1 := (blk_cell H2s.out 1).trans rfl
      have x2 := (blk_cell H2s.out 2).trans rfl
      have y0 := blk_frozen H2s.out 0
      have y1 := blk_frozen H2s.out 1
      have y2 := blk_frozen H2s.out 2
      go_wp2
      refine bodyPost_ret (results_ct rfl _ _ w.heap.size 28 #[.int .i64 0, .int .i64 0, .string ⟨#[]⟩] (0, 0) _ rfl (by
        refine blk_put (cs := #[.int .i64 0, .int .i64 0, .string ⟨#[]⟩]) ?_ 2 _ rfl
        refine blk_put (cs := #[.int .i64 0, .int .i64 0, .string ⟨#[]⟩]) ?_ 1 _ rfl
        refine blk_put (cs := #[.int .i64 0, .int .i64 0, .string ⟨#[]⟩]) ?_ 0 _ rfl
        exact H2s.out) Tryz.underlying28 rfl (by kernel_rfl)) rfl ?_
      exact ⟨rfl, below_set (below_set (below_set HBs.out HN.out.1) HN.out.1) HN.out.1⟩
  rw [if_neg h6] at h
  have e6 : (a0 == 6) = false := beq_eq_false_iff_ne.mpr h6
  have e6' := eq_false h6
  clear h6
  have K4 := Aside0.mk H4d.out
  have K2 := Aside0.mk H2d.out
  have KB := Aside0.mk HBd.out
  clear H4d H2d HBd
  have x0 := (blk_cell K4.out 2).trans rfl
  have y0 := blk_frozen K4.out 2
  go_upto_region 15 with (fail)
  clear x0 y0
  obtain ⟨w6, hw6⟩ : ∃ w6, w6 = w4.setCell ⟨b4, 2, none⟩ (.string a1) := ⟨_, rfl⟩
  have H4s := Aside0.mk (show w6.heap[b4]? = some (.cells #[.int .i64 a0, .int .i64 0, .string a1] 28 (0, 0)) by rw [hw6]; exact blk_put K4.out 2 _ rfl)
  have H2s := Aside0.mk (show w6.heap[w.heap.size]? = some (.cells #[.int .i64 0, .int .i64 0, .string ⟨#[]⟩] 28 (0, 0)) by rw [hw6]; exact blk_far K2.out HN.out.2.2 _)
  have HBs := Aside0.mk (show Below w.heap.size w w6 by rw [hw6]; exact below_set KB.out HN.out.2.1)
  rw [← hw6]
  clear hw6 K4 K2 KB
  unfold gongref07_Decode.fin at h
  rw [if_pos rfl] at h
  obtain ⟨tt, hR, h⟩ := Option.bind_eq_some_iff.1 h
  have HR := Aside0.mk hR
  clear hR
  have z0 := (blk_cell H4s.out 0).trans rfl
  have z1 := (blk_cell H4s.out 1).trans rfl
  have z2 := (blk_cell H4s.out 2).trans rfl
  go_wp2_with fail
  refine (gongref07_Check.calls k a0 0 a1 tt w6 HR.out).mono ?_
  rintro e w7 ⟨rfl, hb7⟩
  clear z0 z1 z2
  have H2r := Aside0.mk ((Mv.of_below (S := fun _ => False) hb7).heap H2s.out id)
  have H4r := Aside0.mk ((Mv.of_below (S := fun _ => False) hb7).heap H4s.out id)
  have HBr := Aside0.mk (Below.trans HBs.out (Below.mono hb7 HBs.out.size))
  clear hb7 H2s H4s HBs
  have x0 := (blk_cell H2r.out 0).trans rfl
  have x1 := (blk_cell H2r.out 1).trans rfl
  have x2 := (blk_cell H2r.out 2).trans rfl
  have y0 := blk_frozen H2r.out 0
  have y1 := blk_frozen H2r.out 1
  have y2 := blk_frozen H2r.out 2
  have z0 := (blk_cell H4r.out 0).trans rfl
  have z1 := (blk_cell H4r.out 1).trans rfl
  have z2 := (blk_cell H4r.out 2).trans rfl
  by_cases htt : tt = 0
  · subst htt
    rw [if_pos rfl] at h
    simp only [Option.some.injEq, Prod.mk.injEq] at h
    obtain ⟨rfl, rfl, rfl, rfl⟩ := h
    go_wp2
    refine bodyPost_ret (results_ct rfl _ _ w.heap.size 28 #[.int .i64 a0, .int .i64 0, .string a1] (0, 0) _ rfl (by
      refine blk_put (cs := #[.int .i64 a0, .int .i64 0, .string ⟨#[]⟩]) ?_ 2 _ rfl
      refine blk_put (cs := #[.int .i64 a0, .int .i64 0, .string ⟨#[]⟩]) ?_ 1 _ rfl
      refine blk_put (cs := #[.int .i64 0, .int .i64 0, .string ⟨#[]⟩]) ?_ 0 _ rfl
      exact H2r.out) Tryz.underlying28 rfl (by kernel_rfl)) rfl ?_
    exact ⟨rfl, below_set (below_set (below_set HBr.out HN.out.1) HN.out.1) HN.out.1⟩
  · rw [if_neg htt] at h
    have f1 : (tt != 0) = true := bne_iff_ne.mpr htt
    have f2 := eq_false htt
    clear htt
    simp only [Option.some.injEq, Prod.mk.injEq] at h
    obtain ⟨rfl, rfl, rfl, rfl⟩ := h
    go_wp2
    refine bodyPost_ret (results_ct rfl _ _ w.heap.size 28 #[.int .i64 0, .int .i64 0, .string ⟨#[]⟩] (0, 0) _ rfl (by
      refine blk_put (cs := #[.int .i64 0, .int .i64 0, .string ⟨#[]⟩]) ?_ 2 _ rfl
      refine blk_put (cs := #[.int .i64 0, .int .i64 0, .string ⟨#[]⟩]) ?_ 1 _ rfl
      refine blk_put (cs := #[.int .i64 0, .int .i64 0, .string ⟨#[]⟩]) ?_ 0 _ rfl
      exact H2r.out) Tryz.underlying28 rfl (by kernel_rfl)) rfl ?_
    exact ⟨rfl, below_set (below_set (below_set HBr.out HN.out.1) HN.out.1) HN.out.1⟩

/-! ### gonglaw07_ValueReads: function 9 -/
def gonglaw07_ValueReads.f (k : Nat) (a0 : Int) (a1 : ByteArray) : Option (Bool) := if (a1.size : Int) > 3000 then ((gonglaw07_works.f k).bind fun t230 => (some t230)) else ((value_Decode.f k a0 a1).bind fun bt231 => ((gongref07_Decode.f k a0 a1).bind fun bt236 => (if (bt231.1 == bt236.1 && (bt231.2.1 == bt236.2.1 && (bt231.2.2.1.toList == bt236.2.2.1.toList))) = true then (if bt231.2.2.2 = bt236.2.2.2 then ((gonglaw07_works.f k).bind fun t241 => (some t241)) else (some false)) else (some false))))
theorem gonglaw07_ValueReads.mono : ∀ a0 a1 k, LeO (gonglaw07_ValueReads.f k a0 a1) (gonglaw07_ValueReads.f (k + 1) a0 a1) := by
  intro a0 a1 k
  unfold gonglaw07_ValueReads.f
  repeat' first
      | (with_reducible exact gonglaw07_works.mono _)
      | (with_reducible exact gongref07_Decode.mono _ _ _)
      | (with_reducible exact value_Decode.mono _ _ _)
      | (with_reducible exact LeO.refl _)
      | (with_reducible exact LeO.none _)
      | (with_reducible refine LeO.ite ?_ ?_)
      | (with_reducible refine LeO.bind ?_ (fun _ => ?_))
      | exact gonglaw07_works.mono _
      | exact gongref07_Decode.mono _ _ _
      | exact value_Decode.mono _ _ _
      | exact LeO.none _
      | refine LeO.ite ?_ ?_
      | refine LeO.bind ?_ (fun _ => ?_)
set_option maxHeartbeats 8000000 in
set_option maxRecDepth 100000 in
theorem gonglaw07_ValueReads.calls (k : Nat) (a0 : Int) (a1 : ByteArray) (r : Bool) (w : World) (hG : Gl w) (h : gonglaw07_ValueReads.f k a0 a1 = some r) :
    Calls Tryz.prog 9 #[.int .i64 a0, .string a1] w fun e w' => e = .returned (.bool r) ∧ Below w.heap.size w w' := by
  have HGl := Aside0.mk hG
  clear hG
  have hu50 := Tryz.underlying50
  have hu28 := Tryz.underlying28
  have HB := Aside0.mk (Below.refl w.heap.size w)
  have H : (if (a1.size : Int) > 3000 then ((gonglaw07_works.f k).bind fun t230 => (some t230)) else ((value_Decode.f k a0 a1).bind fun bt231 => ((gongref07_Decode.f k a0 a1).bind fun bt236 => (if (bt231.1 == bt236.1 && (bt231.2.1 == bt236.2.1 && (bt231.2.2.1.toList == bt236.2.2.1.toList))) = true then (if bt231.2.2.2 = bt236.2.2.2 then ((gonglaw07_works.f k).bind fun t241 => (some t241)) else (some false)) else (some false))))) = some r := h
  clear h
  by_cases c3 : (a1.size : Int) > 3000
  · rw [if_pos c3] at H
    have c3b0 : decide (3000 < (a1.size : Int)) = true := decide_eq_true c3
    have c3b1 : decide (3000 < a1.size) = true := decide_eq_true (by omega)
    clear c3
    replace H := Option.bind_eq_some_iff.mp H
    obtain ⟨t230, A40, H⟩ := H
    replace H : (some t230) = some r := H
    have A4 := Aside0.mk A40
    clear A40
    obtain rfl := Option.some.inj H
    go_enter Tryz.func9, Tryz.ntmps9
    go_wp2_with (first | ((with_reducible refine gate_callee (f := 30) rfl ?_); refine goesL_ (some 12) rfl rfl Tryz.func30 (by kernel_rfl) rfl #[] rfl (by (try simp only [List.map_toArray, List.map_cons, List.map_nil]); first | done | rfl | (simp only [List.length_drop, List.length_take]; rfl)) ?_; (with_reducible refine (gonglaw07_works.calls k  t230 _ ?side1 A4.out).mono ?_); (case side1 => first | exact HGl.out | exact HGl.out.below (by repeat (first | (with_reducible first | exact HB.out | apply below_alloc | apply pw_below_drewN | apply below_drew1) | exact HB.out | (refine below_set ?_ (Aside0.out (by assumption))) | exact Below.refl _ _))); rintro e w5 ⟨rfl, hb⟩; refine ⟨_, rfl, ?_⟩; have n0_ := Aside0.mk (below_step (by repeat (first | (with_reducible first | exact HB.out | apply below_alloc | apply pw_below_drewN | apply below_drew1) | exact HB.out)) hb); clear HB; have HB := n0_; clear n0_; (try clear hb); (try clear hb2); (try clear hk); (try clear hi)))
    go_ret
    exact ⟨by first | rfl | (simp only [i64_w, i32_w]; rfl) | (simp [errW_none, errW_some] <;> rfl) | (simp [*, errW_none, errW_some] <;> rfl), by repeat (first | (with_reducible first | exact HB.out | apply below_alloc | apply pw_below_drewN | apply below_drew1) | exact HB.out)⟩
  rw [if_neg c3] at H
  have c3b0 : decide (3000 < (a1.size : Int)) = false := decide_eq_false c3
  have c3b1 : decide (3000 < a1.size) = false := decide_eq_false (by omega)
  clear c3
  replace H := Option.bind_eq_some_iff.mp H
  obtain ⟨⟨t231, t232, t233, t234⟩, A60, H⟩ := H
  replace H : ((gongref07_Decode.f k a0 a1).bind fun bt236 => (if (t231 == bt236.1 && (t232 == bt236.2.1 && (t233.toList == bt236.2.2.1.toList))) = true then (if t234 = bt236.2.2.2 then ((gonglaw07_works.f k).bind fun t241 => (some t241)) else (some false)) else (some false))) = some r := H
  have A6 := Aside0.mk A60
  clear A60
  replace H := Option.bind_eq_some_iff.mp H
  obtain ⟨⟨t236, t237, t238, t239⟩, A70, H⟩ := H
  replace H : (if (t231 == t236 && (t232 == t237 && (t233.toList == t238.toList))) = true then (if t234 = t239 then ((gonglaw07_works.f k).bind fun t241 => (some t241)) else (some false)) else (some false)) = some r := H
  have A7 := Aside0.mk A70
  clear A70
  by_cases c8 : (t231 == t236 && (t232 == t237 && (t233.toList == t238.toList))) = true
  rotate_left
  · rw [if_neg c8] at H
    have c8b0 : (t231 == t236 && (t232 == t237 && (t233.toList == t238.toList))) = false := by simpa using c8
    (try (have c8b1 : decide (t231 = t236 && (t232 == t237 && (t233.toList == t238.toList))) = false := by simpa using c8))
    (try (have c8b2 : (t231 == t236 && (t232 == t237 && (t233.toList == t238.toList))) = false := by simpa using c8))
    (try (have c8b3 : ¬ (t231 = t236 && (t232 == t237 && (t233.toList == t238.toList))) := by simpa using c8))
    clear c8
    obtain rfl := Option.some.inj H
    go_enter Tryz.func9, Tryz.ntmps9
    go_wp2_with (first | ((with_reducible refine gate_callee (f := 39) rfl ?_); refine goesL_ (some 17) rfl rfl Tryz.func39 (by kernel_rfl) rfl #[.agg #[.int .i64 a0, .string a1]] rfl (by (try simp only [List.map_toArray, List.map_cons, List.map_nil]); first | done | rfl | (simp only [List.length_drop, List.length_take]; rfl)) ?_; (with_reducible refine (value_Decode.calls k a0 a1 t231 t232 t233 t234 _ ?side1 A6.out).mono ?_); (case side1 => first | exact HGl.out | exact HGl.out.below (by repeat (first | (with_reducible first | exact HB.out | apply below_alloc | apply pw_below_drewN | apply below_drew1) | exact HB.out | (refine below_set ?_ (Aside0.out (by assumption))) | exact Below.refl _ _))); rintro e w28 ⟨rfl, hb⟩; refine ⟨_, rfl, ?_⟩; have n0_ := Aside0.mk (below_step (by repeat (first | (with_reducible first | exact HB.out | apply below_alloc | apply pw_below_drewN | apply below_drew1) | exact HB.out)) hb); clear HB; have HB := n0_; clear n0_; (try clear hb); (try clear hb2); (try clear hk); (try clear hi)) | ((with_reducible refine gate_dst (N := 5) rfl ?_); refine box_event ?hg (N := 5) ?hd (cs := #[.int .i64 0, .int .i64 0, .string (⟨#[]⟩ : ByteArray)]) (t := 28) ?hr ?_; (case hd => rfl); (case hg => rfl); (case hr => first | (go_simp; done) | (go_simp; rfl)); intro gb235 hg w29 hbox hb; have n0_ := Aside0.mk (below_step (by repeat (first | (with_reducible first | exact HB.out | apply below_alloc | apply pw_below_drewN | apply below_drew1) | exact HB.out)) hb); have n1_ := Aside0.mk (hbox); have n2_ := Aside0.mk ((by rw [hg]; exact (below_size (by repeat (first | (with_reducible first | exact HB.out | apply below_alloc | apply pw_below_drewN | apply below_drew1) | exact HB.out))) : w.heap.size ≤ gb235)); have n3_ := Aside0.mk ((by rw [hg]; exact (below_size (by repeat (first | (with_reducible first | exact HB.out | apply below_alloc | apply pw_below_drewN | apply below_drew1) | exact HB.out))) : w.heap.size ≤ gb235)); clear HB; have HB := n0_; have BK235 := n1_; have GW235 := n2_; have GE235 := n3_; clear n0_ n1_ n2_ n3_; clear hb hbox hg; have hcz30_0 : w29.cell? ⟨gb235, 0, none⟩ = some (.int .i64 0) := (blk_cell BK235.out 0).trans rfl; have hcz30_1 : w29.cell? ⟨gb235, 1, none⟩ = some (.int .i64 0) := (blk_cell BK235.out 1).trans rfl; have hcz30_2 : w29.cell? ⟨gb235, 2, none⟩ = some (.string (⟨#[]⟩ : ByteArray)) := (blk_cell BK235.out 2).trans rfl; have hfz30_0 := blk_frozen BK235.out 0; have hfz30_1 := blk_frozen BK235.out 1; have hfz30_2 := blk_frozen BK235.out 2) | ((with_reducible refine gate_callee (f := 40) rfl ?_); refine goesL_ (some 23) rfl rfl Tryz.func40 (by kernel_rfl) rfl #[.int .i64 a0, .string a1] rfl (by (try simp only [List.map_toArray, List.map_cons, List.map_nil]); first | done | rfl | (simp only [List.length_drop, List.length_take]; rfl)) ?_; (with_reducible refine (gongref07_Decode.calls k a0 a1 t236 t237 t238 t239 _ A7.out).mono ?_); rintro e w31 ⟨rfl, hb⟩; refine ⟨_, rfl, ?_⟩; have n0_ := Aside0.mk (blk_below (g := gb235) (o := .cells #[.int .i64 t231, .int .i64 t232, .string t233] 28 (0, 0)) (by (with_reducible repeat (first | refine blk_drewN ?_ _ | refine blk_drew ?_ | refine blk_alloc ?_ _)); refine blk_put (cs := #[.int .i64 t231, .int .i64 t232, .string (⟨#[]⟩ : ByteArray)]) ?_ 2 _ rfl; (with_reducible repeat (first | refine blk_drewN ?_ _ | refine blk_drew ?_ | refine blk_alloc ?_ _)); refine blk_put (cs := #[.int .i64 t231, .int .i64 0, .string (⟨#[]⟩ : ByteArray)]) ?_ 1 _ rfl; (with_reducible repeat (first | refine blk_drewN ?_ _ | refine blk_drew ?_ | refine blk_alloc ?_ _)); refine blk_put (cs := #[.int .i64 0, .int .i64 0, .string (⟨#[]⟩ : ByteArray)]) ?_ 0 _ rfl; (with_reducible repeat (first | refine blk_drewN ?_ _ | refine blk_drew ?_ | refine blk_alloc ?_ _)); exact BK235.out) hb); have n1_ := Aside0.mk (below_step (by repeat (first | (with_reducible first | exact HB.out | apply below_alloc | apply pw_below_drewN | apply below_drew1 | refine below_set ?_ GE235.out) | exact HB.out)) hb); clear BK235; clear HB; have BK235 := n0_; have HB := n1_; clear n0_ n1_; (try clear hb); (try clear hb2); (try clear hk); (try clear hi)) | ((with_reducible refine gate_dst (N := 7) rfl ?_); refine box_event ?hg (N := 7) ?hd (cs := #[.int .i64 0, .int .i64 0, .string (⟨#[]⟩ : ByteArray)]) (t := 28) ?hr ?_; (case hd => rfl); (case hg => rfl); (case hr => first | (go_simp; done) | (go_simp; rfl)); intro gb240 hg w32 hbox hb; have n0_ := Aside0.mk (blk_below (g := gb235) (o := .cells #[.int .i64 t231, .int .i64 t232, .string t233] 28 (0, 0)) (by (with_reducible repeat (first | refine blk_drewN ?_ _ | refine blk_drew ?_ | refine blk_alloc ?_ _)); exact BK235.out) hb); have n1_ := Aside0.mk (below_step (by repeat (first | (with_reducible first | exact HB.out | apply below_alloc | apply pw_below_drewN | apply below_drew1 | refine below_set ?_ GE235.out) | exact HB.out)) hb); have n2_ := Aside0.mk (hbox); have n3_ := Aside0.mk ((by rw [hg]; exact (below_size (by repeat (first | (with_reducible first | exact HB.out | apply below_alloc | apply pw_below_drewN | apply below_drew1 | refine below_set ?_ GE235.out) | exact HB.out))) : w.heap.size ≤ gb240)); have n4_ := Aside0.mk ((by rw [hg]; exact (below_size (by repeat (first | (with_reducible first | exact HB.out | apply below_alloc | apply pw_below_drewN | apply below_drew1 | refine below_set ?_ GE235.out) | exact HB.out))) : w.heap.size ≤ gb240)); have n5_ := Aside0.mk ((by rw [hg]; exact Nat.ne_of_lt (blk_lt (g := gb235) (o := .cells #[.int .i64 t231, .int .i64 t232, .string t233] 28 (0, 0)) (by (with_reducible repeat (first | refine blk_drewN ?_ _ | refine blk_drew ?_ | refine blk_alloc ?_ _)); exact BK235.out)) : gb235 ≠ gb240)); have n6_ := Aside0.mk ((by rw [hg]; exact Nat.ne_of_gt (blk_lt (g := gb235) (o := .cells #[.int .i64 t231, .int .i64 t232, .string t233] 28 (0, 0)) (by (with_reducible repeat (first | refine blk_drewN ?_ _ | refine blk_drew ?_ | refine blk_alloc ?_ _)); exact BK235.out)) : gb240 ≠ gb235)); clear BK235; clear HB; have BK235 := n0_; have HB := n1_; have BK240 := n2_; have GW240 := n3_; have GE240 := n4_; have NB235_240 := n5_; have NB240_235 := n6_; clear n0_ n1_ n2_ n3_ n4_ n5_ n6_; clear hb hbox hg; have hnb33 := NB240_235.out; have hnc33 := NB235_240.out; have hcz34_0 : w32.cell? ⟨gb240, 0, none⟩ = some (.int .i64 0) := (blk_cell BK240.out 0).trans rfl; have hcz34_1 : w32.cell? ⟨gb240, 1, none⟩ = some (.int .i64 0) := (blk_cell BK240.out 1).trans rfl; have hcz34_2 : w32.cell? ⟨gb240, 2, none⟩ = some (.string (⟨#[]⟩ : ByteArray)) := (blk_cell BK240.out 2).trans rfl; have hfz34_0 := blk_frozen BK240.out 0; have hfz34_1 := blk_frozen BK240.out 1; have hfz34_2 := blk_frozen BK240.out 2; have hcz35_0 : w32.cell? ⟨gb235, 0, none⟩ = some (.int .i64 t231) := (blk_cell BK235.out 0).trans rfl; have hcz35_1 : w32.cell? ⟨gb235, 1, none⟩ = some (.int .i64 t232) := (blk_cell BK235.out 1).trans rfl; have hcz35_2 : w32.cell? ⟨gb235, 2, none⟩ = some (.string t233) := (blk_cell BK235.out 2).trans rfl; have hfz35_0 := blk_frozen BK235.out 0; have hfz35_1 := blk_frozen BK235.out 1; have hfz35_2 := blk_frozen BK235.out 2))
    go_ret
    exact ⟨by first | rfl | (simp only [i64_w, i32_w]; rfl) | (simp [errW_none, errW_some] <;> rfl) | (simp [*, errW_none, errW_some] <;> rfl), by repeat (first | (with_reducible first | exact HB.out | apply below_alloc | apply pw_below_drewN | apply below_drew1 | refine below_set ?_ GE235.out | refine below_set ?_ GE240.out) | exact HB.out)⟩
  rw [if_pos c8] at H
  have c8b0 : (t231 == t236 && (t232 == t237 && (t233.toList == t238.toList))) = true := c8
  (try (have c8b1 : decide (t231 = t236 && (t232 == t237 && (t233.toList == t238.toList))) = true := by simpa using c8))
  (try (have c8b2 : (t231 == t236 && (t232 == t237 && (t233.toList == t238.toList))) = true := by simpa using c8))
  clear c8
  by_cases c9 : t234 = t239
  rotate_left
  · rw [if_neg c9] at H
    have c9b0 : (t234 == t239) = false := beq_eq_false_iff_ne.mpr c9
    have c9b1 : (t234 != t239) = true := bne_iff_ne.mpr c9
    obtain rfl := Option.some.inj H
    go_enter Tryz.func9, Tryz.ntmps9
    go_wp2_with (first | ((with_reducible refine gate_callee (f := 39) rfl ?_); refine goesL_ (some 17) rfl rfl Tryz.func39 (by kernel_rfl) rfl #[.agg #[.int .i64 a0, .string a1]] rfl (by (try simp only [List.map_toArray, List.map_cons, List.map_nil]); first | done | rfl | (simp only [List.length_drop, List.length_take]; rfl)) ?_; (with_reducible refine (value_Decode.calls k a0 a1 t231 t232 t233 t234 _ ?side1 A6.out).mono ?_); (case side1 => first | exact HGl.out | exact HGl.out.below (by repeat (first | (with_reducible first | exact HB.out | apply below_alloc | apply pw_below_drewN | apply below_drew1) | exact HB.out | (refine below_set ?_ (Aside0.out (by assumption))) | exact Below.refl _ _))); rintro e w20 ⟨rfl, hb⟩; refine ⟨_, rfl, ?_⟩; have n0_ := Aside0.mk (below_step (by repeat (first | (with_reducible first | exact HB.out | apply below_alloc | apply pw_below_drewN | apply below_drew1) | exact HB.out)) hb); clear HB; have HB := n0_; clear n0_; (try clear hb); (try clear hb2); (try clear hk); (try clear hi)) | ((with_reducible refine gate_dst (N := 5) rfl ?_); refine box_event ?hg (N := 5) ?hd (cs := #[.int .i64 0, .int .i64 0, .string (⟨#[]⟩ : ByteArray)]) (t := 28) ?hr ?_; (case hd => rfl); (case hg => rfl); (case hr => first | (go_simp; done) | (go_simp; rfl)); intro gb235 hg w21 hbox hb; have n0_ := Aside0.mk (below_step (by repeat (first | (with_reducible first | exact HB.out | apply below_alloc | apply pw_below_drewN | apply below_drew1) | exact HB.out)) hb); have n1_ := Aside0.mk (hbox); have n2_ := Aside0.mk ((by rw [hg]; exact (below_size (by repeat (first | (with_reducible first | exact HB.out | apply below_alloc | apply pw_below_drewN | apply below_drew1) | exact HB.out))) : w.heap.size ≤ gb235)); have n3_ := Aside0.mk ((by rw [hg]; exact (below_size (by repeat (first | (with_reducible first | exact HB.out | apply below_alloc | apply pw_below_drewN | apply below_drew1) | exact HB.out))) : w.heap.size ≤ gb235)); clear HB; have HB := n0_; have BK235 := n1_; have GW235 := n2_; have GE235 := n3_; clear n0_ n1_ n2_ n3_; clear hb hbox hg; have hcz22_0 : w21.cell? ⟨gb235, 0, none⟩ = some (.int .i64 0) := (blk_cell BK235.out 0).trans rfl; have hcz22_1 : w21.cell? ⟨gb235, 1, none⟩ = some (.int .i64 0) := (blk_cell BK235.out 1).trans rfl; have hcz22_2 : w21.cell? ⟨gb235, 2, none⟩ = some (.string (⟨#[]⟩ : ByteArray)) := (blk_cell BK235.out 2).trans rfl; have hfz22_0 := blk_frozen BK235.out 0; have hfz22_1 := blk_frozen BK235.out 1; have hfz22_2 := blk_frozen BK235.out 2) | ((with_reducible refine gate_callee (f := 40) rfl ?_); refine goesL_ (some 23) rfl rfl Tryz.func40 (by kernel_rfl) rfl #[.int .i64 a0, .string a1] rfl (by (try simp only [List.map_toArray, List.map_cons, List.map_nil]); first | done | rfl | (simp only [List.length_drop, List.length_take]; rfl)) ?_; (with_reducible refine (gongref07_Decode.calls k a0 a1 t236 t237 t238 t239 _ A7.out).mono ?_); rintro e w23 ⟨rfl, hb⟩; refine ⟨_, rfl, ?_⟩; have n0_ := Aside0.mk (blk_below (g := gb235) (o := .cells #[.int .i64 t231, .int .i64 t232, .string t233] 28 (0, 0)) (by (with_reducible repeat (first | refine blk_drewN ?_ _ | refine blk_drew ?_ | refine blk_alloc ?_ _)); refine blk_put (cs := #[.int .i64 t231, .int .i64 t232, .string (⟨#[]⟩ : ByteArray)]) ?_ 2 _ rfl; (with_reducible repeat (first | refine blk_drewN ?_ _ | refine blk_drew ?_ | refine blk_alloc ?_ _)); refine blk_put (cs := #[.int .i64 t231, .int .i64 0, .string (⟨#[]⟩ : ByteArray)]) ?_ 1 _ rfl; (with_reducible repeat (first | refine blk_drewN ?_ _ | refine blk_drew ?_ | refine blk_alloc ?_ _)); refine blk_put (cs := #[.int .i64 0, .int .i64 0, .string (⟨#[]⟩ : ByteArray)]) ?_ 0 _ rfl; (with_reducible repeat (first | refine blk_drewN ?_ _ | refine blk_drew ?_ | refine blk_alloc ?_ _)); exact BK235.out) hb); have n1_ := Aside0.mk (below_step (by repeat (first | (with_reducible first | exact HB.out | apply below_alloc | apply pw_below_drewN | apply below_drew1 | refine below_set ?_ GE235.out) | exact HB.out)) hb); clear BK235; clear HB; have BK235 := n0_; have HB := n1_; clear n0_ n1_; (try clear hb); (try clear hb2); (try clear hk); (try clear hi)) | ((with_reducible refine gate_dst (N := 7) rfl ?_); refine box_event ?hg (N := 7) ?hd (cs := #[.int .i64 0, .int .i64 0, .string (⟨#[]⟩ : ByteArray)]) (t := 28) ?hr ?_; (case hd => rfl); (case hg => rfl); (case hr => first | (go_simp; done) | (go_simp; rfl)); intro gb240 hg w24 hbox hb; have n0_ := Aside0.mk (blk_below (g := gb235) (o := .cells #[.int .i64 t231, .int .i64 t232, .string t233] 28 (0, 0)) (by (with_reducible repeat (first | refine blk_drewN ?_ _ | refine blk_drew ?_ | refine blk_alloc ?_ _)); exact BK235.out) hb); have n1_ := Aside0.mk (below_step (by repeat (first | (with_reducible first | exact HB.out | apply below_alloc | apply pw_below_drewN | apply below_drew1 | refine below_set ?_ GE235.out) | exact HB.out)) hb); have n2_ := Aside0.mk (hbox); have n3_ := Aside0.mk ((by rw [hg]; exact (below_size (by repeat (first | (with_reducible first | exact HB.out | apply below_alloc | apply pw_below_drewN | apply below_drew1 | refine below_set ?_ GE235.out) | exact HB.out))) : w.heap.size ≤ gb240)); have n4_ := Aside0.mk ((by rw [hg]; exact (below_size (by repeat (first | (with_reducible first | exact HB.out | apply below_alloc | apply pw_below_drewN | apply below_drew1 | refine below_set ?_ GE235.out) | exact HB.out))) : w.heap.size ≤ gb240)); have n5_ := Aside0.mk ((by rw [hg]; exact Nat.ne_of_lt (blk_lt (g := gb235) (o := .cells #[.int .i64 t231, .int .i64 t232, .string t233] 28 (0, 0)) (by (with_reducible repeat (first | refine blk_drewN ?_ _ | refine blk_drew ?_ | refine blk_alloc ?_ _)); exact BK235.out)) : gb235 ≠ gb240)); have n6_ := Aside0.mk ((by rw [hg]; exact Nat.ne_of_gt (blk_lt (g := gb235) (o := .cells #[.int .i64 t231, .int .i64 t232, .string t233] 28 (0, 0)) (by (with_reducible repeat (first | refine blk_drewN ?_ _ | refine blk_drew ?_ | refine blk_alloc ?_ _)); exact BK235.out)) : gb240 ≠ gb235)); clear BK235; clear HB; have BK235 := n0_; have HB := n1_; have BK240 := n2_; have GW240 := n3_; have GE240 := n4_; have NB235_240 := n5_; have NB240_235 := n6_; clear n0_ n1_ n2_ n3_ n4_ n5_ n6_; clear hb hbox hg; have hnb25 := NB240_235.out; have hnc25 := NB235_240.out; have hcz26_0 : w24.cell? ⟨gb240, 0, none⟩ = some (.int .i64 0) := (blk_cell BK240.out 0).trans rfl; have hcz26_1 : w24.cell? ⟨gb240, 1, none⟩ = some (.int .i64 0) := (blk_cell BK240.out 1).trans rfl; have hcz26_2 : w24.cell? ⟨gb240, 2, none⟩ = some (.string (⟨#[]⟩ : ByteArray)) := (blk_cell BK240.out 2).trans rfl; have hfz26_0 := blk_frozen BK240.out 0; have hfz26_1 := blk_frozen BK240.out 1; have hfz26_2 := blk_frozen BK240.out 2; have hcz27_0 : w24.cell? ⟨gb235, 0, none⟩ = some (.int .i64 t231) := (blk_cell BK235.out 0).trans rfl; have hcz27_1 : w24.cell? ⟨gb235, 1, none⟩ = some (.int .i64 t232) := (blk_cell BK235.out 1).trans rfl; have hcz27_2 : w24.cell? ⟨gb235, 2, none⟩ = some (.string t233) := (blk_cell BK235.out 2).trans rfl; have hfz27_0 := blk_frozen BK235.out 0; have hfz27_1 := blk_frozen BK235.out 1; have hfz27_2 := blk_frozen BK235.out 2))
    go_ret
    exact ⟨by first | rfl | (simp only [i64_w, i32_w]; rfl) | (simp [errW_none, errW_some] <;> rfl) | (simp [*, errW_none, errW_some] <;> rfl), by repeat (first | (with_reducible first | exact HB.out | apply below_alloc | apply pw_below_drewN | apply below_drew1 | refine below_set ?_ GE235.out | refine below_set ?_ GE240.out) | exact HB.out)⟩
  rw [if_pos c9] at H
  have c9b0 : (t234 == t239) = true := beq_iff_eq.mpr c9
  have c9b1 : (t234 != t239) = false := bne_eq_false_iff_eq.mpr c9
  clear c9
  replace H := Option.bind_eq_some_iff.mp H
  obtain ⟨t241, A100, H⟩ := H
  replace H : (some t241) = some r := H
  have A10 := Aside0.mk A100
  clear A100
  obtain rfl := Option.some.inj H
  go_enter Tryz.func9, Tryz.ntmps9
  go_wp2_with (first | ((with_reducible refine gate_callee (f := 39) rfl ?_); refine goesL_ (some 17) rfl rfl Tryz.func39 (by kernel_rfl) rfl #[.agg #[.int .i64 a0, .string a1]] rfl (by (try simp only [List.map_toArray, List.map_cons, List.map_nil]); first | done | rfl | (simp only [List.length_drop, List.length_take]; rfl)) ?_; (with_reducible refine (value_Decode.calls k a0 a1 t231 t232 t233 t234 _ ?side1 A6.out).mono ?_); (case side1 => first | exact HGl.out | exact HGl.out.below (by repeat (first | (with_reducible first | exact HB.out | apply below_alloc | apply pw_below_drewN | apply below_drew1) | exact HB.out | (refine below_set ?_ (Aside0.out (by assumption))) | exact Below.refl _ _))); rintro e w11 ⟨rfl, hb⟩; refine ⟨_, rfl, ?_⟩; have n0_ := Aside0.mk (below_step (by repeat (first | (with_reducible first | exact HB.out | apply below_alloc | apply pw_below_drewN | apply below_drew1) | exact HB.out)) hb); clear HB; have HB := n0_; clear n0_; (try clear hb); (try clear hb2); (try clear hk); (try clear hi)) | ((with_reducible refine gate_dst (N := 5) rfl ?_); refine box_event ?hg (N := 5) ?hd (cs := #[.int .i64 0, .int .i64 0, .string (⟨#[]⟩ : ByteArray)]) (t := 28) ?hr ?_; (case hd => rfl); (case hg => rfl); (case hr => first | (go_simp; done) | (go_simp; rfl)); intro gb235 hg w12 hbox hb; have n0_ := Aside0.mk (below_step (by repeat (first | (with_reducible first | exact HB.out | apply below_alloc | apply pw_below_drewN | apply below_drew1) | exact HB.out)) hb); have n1_ := Aside0.mk (hbox); have n2_ := Aside0.mk ((by rw [hg]; exact (below_size (by repeat (first | (with_reducible first | exact HB.out | apply below_alloc | apply pw_below_drewN | apply below_drew1) | exact HB.out))) : w.heap.size ≤ gb235)); have n3_ := Aside0.mk ((by rw [hg]; exact (below_size (by repeat (first | (with_reducible first | exact HB.out | apply below_alloc | apply pw_below_drewN | apply below_drew1) | exact HB.out))) : w.heap.size ≤ gb235)); clear HB; have HB := n0_; have BK235 := n1_; have GW235 := n2_; have GE235 := n3_; clear n0_ n1_ n2_ n3_; clear hb hbox hg; have hcz13_0 : w12.cell? ⟨gb235, 0, none⟩ = some (.int .i64 0) := (blk_cell BK235.out 0).trans rfl; have hcz13_1 : w12.cell? ⟨gb235, 1, none⟩ = some (.int .i64 0) := (blk_cell BK235.out 1).trans rfl; have hcz13_2 : w12.cell? ⟨gb235, 2, none⟩ = some (.string (⟨#[]⟩ : ByteArray)) := (blk_cell BK235.out 2).trans rfl; have hfz13_0 := blk_frozen BK235.out 0; have hfz13_1 := blk_frozen BK235.out 1; have hfz13_2 := blk_frozen BK235.out 2) | ((with_reducible refine gate_callee (f := 40) rfl ?_); refine goesL_ (some 23) rfl rfl Tryz.func40 (by kernel_rfl) rfl #[.int .i64 a0, .string a1] rfl (by (try simp only [List.map_toArray, List.map_cons, List.map_nil]); first | done | rfl | (simp only [List.length_drop, List.length_take]; rfl)) ?_; (with_reducible refine (gongref07_Decode.calls k a0 a1 t236 t237 t238 t239 _ A7.out).mono ?_); rintro e w14 ⟨rfl, hb⟩; refine ⟨_, rfl, ?_⟩; have n0_ := Aside0.mk (blk_below (g := gb235) (o := .cells #[.int .i64 t231, .int .i64 t232, .string t233] 28 (0, 0)) (by (with_reducible repeat (first | refine blk_drewN ?_ _ | refine blk_drew ?_ | refine blk_alloc ?_ _)); refine blk_put (cs := #[.int .i64 t231, .int .i64 t232, .string (⟨#[]⟩ : ByteArray)]) ?_ 2 _ rfl; (with_reducible repeat (first | refine blk_drewN ?_ _ | refine blk_drew ?_ | refine blk_alloc ?_ _)); refine blk_put (cs := #[.int .i64 t231, .int .i64 0, .string (⟨#[]⟩ : ByteArray)]) ?_ 1 _ rfl; (with_reducible repeat (first | refine blk_drewN ?_ _ | refine blk_drew ?_ | refine blk_alloc ?_ _)); refine blk_put (cs := #[.int .i64 0, .int .i64 0, .string (⟨#[]⟩ : ByteArray)]) ?_ 0 _ rfl; (with_reducible repeat (first | refine blk_drewN ?_ _ | refine blk_drew ?_ | refine blk_alloc ?_ _)); exact BK235.out) hb); have n1_ := Aside0.mk (below_step (by repeat (first | (with_reducible first | exact HB.out | apply below_alloc | apply pw_below_drewN | apply below_drew1 | refine below_set ?_ GE235.out) | exact HB.out)) hb); clear BK235; clear HB; have BK235 := n0_; have HB := n1_; clear n0_ n1_; (try clear hb); (try clear hb2); (try clear hk); (try clear hi)) | ((with_reducible refine gate_dst (N := 7) rfl ?_); refine box_event ?hg (N := 7) ?hd (cs := #[.int .i64 0, .int .i64 0, .string (⟨#[]⟩ : ByteArray)]) (t := 28) ?hr ?_; (case hd => rfl); (case hg => rfl); (case hr => first | (go_simp; done) | (go_simp; rfl)); intro gb240 hg w15 hbox hb; have n0_ := Aside0.mk (blk_below (g := gb235) (o := .cells #[.int .i64 t231, .int .i64 t232, .string t233] 28 (0, 0)) (by (with_reducible repeat (first | refine blk_drewN ?_ _ | refine blk_drew ?_ | refine blk_alloc ?_ _)); exact BK235.out) hb); have n1_ := Aside0.mk (below_step (by repeat (first | (with_reducible first | exact HB.out | apply below_alloc | apply pw_below_drewN | apply below_drew1 | refine below_set ?_ GE235.out) | exact HB.out)) hb); have n2_ := Aside0.mk (hbox); have n3_ := Aside0.mk ((by rw [hg]; exact (below_size (by repeat (first | (with_reducible first | exact HB.out | apply below_alloc | apply pw_below_drewN | apply below_drew1 | refine below_set ?_ GE235.out) | exact HB.out))) : w.heap.size ≤ gb240)); have n4_ := Aside0.mk ((by rw [hg]; exact (below_size (by repeat (first | (with_reducible first | exact HB.out | apply below_alloc | apply pw_below_drewN | apply below_drew1 | refine below_set ?_ GE235.out) | exact HB.out))) : w.heap.size ≤ gb240)); have n5_ := Aside0.mk ((by rw [hg]; exact Nat.ne_of_lt (blk_lt (g := gb235) (o := .cells #[.int .i64 t231, .int .i64 t232, .string t233] 28 (0, 0)) (by (with_reducible repeat (first | refine blk_drewN ?_ _ | refine blk_drew ?_ | refine blk_alloc ?_ _)); exact BK235.out)) : gb235 ≠ gb240)); have n6_ := Aside0.mk ((by rw [hg]; exact Nat.ne_of_gt (blk_lt (g := gb235) (o := .cells #[.int .i64 t231, .int .i64 t232, .string t233] 28 (0, 0)) (by (with_reducible repeat (first | refine blk_drewN ?_ _ | refine blk_drew ?_ | refine blk_alloc ?_ _)); exact BK235.out)) : gb240 ≠ gb235)); clear BK235; clear HB; have BK235 := n0_; have HB := n1_; have BK240 := n2_; have GW240 := n3_; have GE240 := n4_; have NB235_240 := n5_; have NB240_235 := n6_; clear n0_ n1_ n2_ n3_ n4_ n5_ n6_; clear hb hbox hg; have hnb16 := NB240_235.out; have hnc16 := NB235_240.out; have hcz17_0 : w15.cell? ⟨gb240, 0, none⟩ = some (.int .i64 0) := (blk_cell BK240.out 0).trans rfl; have hcz17_1 : w15.cell? ⟨gb240, 1, none⟩ = some (.int .i64 0) := (blk_cell BK240.out 1).trans rfl; have hcz17_2 : w15.cell? ⟨gb240, 2, none⟩ = some (.string (⟨#[]⟩ : ByteArray)) := (blk_cell BK240.out 2).trans rfl; have hfz17_0 := blk_frozen BK240.out 0; have hfz17_1 := blk_frozen BK240.out 1; have hfz17_2 := blk_frozen BK240.out 2; have hcz18_0 : w15.cell? ⟨gb235, 0, none⟩ = some (.int .i64 t231) := (blk_cell BK235.out 0).trans rfl; have hcz18_1 : w15.cell? ⟨gb235, 1, none⟩ = some (.int .i64 t232) := (blk_cell BK235.out 1).trans rfl; have hcz18_2 : w15.cell? ⟨gb235, 2, none⟩ = some (.string t233) := (blk_cell BK235.out 2).trans rfl; have hfz18_0 := blk_frozen BK235.out 0; have hfz18_1 := blk_frozen BK235.out 1; have hfz18_2 := blk_frozen BK235.out 2) | (go_at_call 30; (with_reducible refine (gonglaw07_works.calls k  t241 _ ?side1 A10.out).mono ?_); (case side1 => first | exact HGl.out | exact HGl.out.below (by repeat (first | (with_reducible first | exact HB.out | apply below_alloc | apply pw_below_drewN | apply below_drew1) | exact HB.out | (refine below_set ?_ (Aside0.out (by assumption))) | exact Below.refl _ _))); rintro e w19 ⟨rfl, hb⟩; have n0_ := Aside0.mk (blk_below (g := gb235) (o := .cells #[.int .i64 t231, .int .i64 t232, .string t233] 28 (0, 0)) (by (with_reducible repeat (first | refine blk_drewN ?_ _ | refine blk_drew ?_ | refine blk_alloc ?_ _)); refine blk_far ?_ NB235_240.out _; (with_reducible repeat (first | refine blk_drewN ?_ _ | refine blk_drew ?_ | refine blk_alloc ?_ _)); refine blk_far ?_ NB235_240.out _; (with_reducible repeat (first | refine blk_drewN ?_ _ | refine blk_drew ?_ | refine blk_alloc ?_ _)); refine blk_far ?_ NB235_240.out _; (with_reducible repeat (first | refine blk_drewN ?_ _ | refine blk_drew ?_ | refine blk_alloc ?_ _)); exact BK235.out) hb); have n1_ := Aside0.mk (blk_below (g := gb240) (o := .cells #[.int .i64 t236, .int .i64 t237, .string t238] 28 (0, 0)) (by (with_reducible repeat (first | refine blk_drewN ?_ _ | refine blk_drew ?_ | refine blk_alloc ?_ _)); refine blk_put (cs := #[.int .i64 t236, .int .i64 t237, .string (⟨#[]⟩ : ByteArray)]) ?_ 2 _ rfl; (with_reducible repeat (first | refine blk_drewN ?_ _ | refine blk_drew ?_ | refine blk_alloc ?_ _)); refine blk_put (cs := #[.int .i64 t236, .int .i64 0, .string (⟨#[]⟩ : ByteArray)]) ?_ 1 _ rfl; (with_reducible repeat (first | refine blk_drewN ?_ _ | refine blk_drew ?_ | refine blk_alloc ?_ _)); refine blk_put (cs := #[.int .i64 0, .int .i64 0, .string (⟨#[]⟩ : ByteArray)]) ?_ 0 _ rfl; (with_reducible repeat (first | refine blk_drewN ?_ _ | refine blk_drew ?_ | refine blk_alloc ?_ _)); exact BK240.out) hb); have n2_ := Aside0.mk (below_step (by repeat (first | (with_reducible first | exact HB.out | apply below_alloc | apply pw_below_drewN | apply below_drew1 | refine below_set ?_ GE235.out | refine below_set ?_ GE240.out) | exact HB.out)) hb); clear BK235; clear BK240; clear HB; have BK235 := n0_; have BK240 := n1_; have HB := n2_; clear n0_ n1_ n2_; (try clear hb); (try clear hb2); (try clear hk); (try clear hi)))
  go_ret
  exact ⟨by first | rfl | (simp only [i64_w, i32_w]; rfl) | (simp [errW_none, errW_some] <;> rfl) | (simp [*, errW_none, errW_some] <;> rfl), by repeat (first | (with_reducible first | exact HB.out | apply below_alloc | apply pw_below_drewN | apply below_drew1 | refine below_set ?_ GE235.out | refine below_set ?_ GE240.out) | exact HB.out)⟩

end Go.Proofs.YtjfimileopbadaaGreatDoor.XVaR
