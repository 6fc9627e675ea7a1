-- Laid by extprint.py (the session's own driver): functions told by the kit's printer and by hand.
import Derived.Test.YtfgdnnbhlnbojaaGreatDoorXPdRx0
import Derived.Test.YtfgdnnbhlnbojaaGreatDoorXPdRx5
import Derived.Test.YtfgdnnbhlnbojaaGreatDoorXPdRx9
import Derived.Test.YtfgdnnbhlnbojaaGreatDoorXPdRx12
namespace Go.Proofs.YtfgdnnbhlnbojaaGreatDoor.XPdR
open Go.RowKit Gong Go.Proofs.YtfgdnnbhlnbojaaGreatDoorW.PrintWords Go.Proofs.YtfgdnnbhlnbojaaGreatDoorW.PrintLast Go.Proofs.YtfgdnnbhlnbojaaGreatDoorW.PrintMore
attribute [local go_sem] max2_int min2_int max_two min_two max_three min_three max_four min_four   -- for this text's walks alone
set_option linter.unusedVariables false
set_option linter.unusedSimpArgs false
def pdu_Decode.bad : (Int × Int × Int × Int × List S30 × Int) := (0, 0, 0, 0, [], 80)
def pdu_Decode.num (x : S47) : Option (Option Int) := (ber_Number.f x.f1).bind fun p => if p.2 = 0 then (if x.f0 = 2 then some (some p.1) else some none) else some none
def pdu_Decode.binds (k : Nat) : List S47 → List S30 → Option (Option (List S30))
 | [], acc => some (some acc)
 | x :: l, acc => (pdu_read.f k x.f0 x.f1).bind fun r => if r.2.2.2.2 = true then (if acc.length < 2932031007402 then pdu_Decode.binds k l (acc ++ [⟨r.1, ⟨r.2.1, r.2.2.1, r.2.2.2.1⟩⟩]) else none) else some none
def pdu_Decode.fin (k : Nat) (a0 n0 n1 n2 : Int) : Option (List S30) → Option (Int × Int × Int × Int × List S30 × Int)
 | none => some pdu_Decode.bad
 | some acc => (pdu_Check.f k a0 n0 n1 n2 acc).bind fun c => if c = 0 then some (a0, n0, n1, n2, acc, 0) else some pdu_Decode.bad
def pdu_Decode.t3 (k : Nat) (a0 : Int) (l : List S47) (n0 n1 n2 : Int) : Option (Int × Int × Int × Int × List S30 × Int) := (ber_Parts.f k (rd_T47 l 3).f1).bind fun q => if q.2 = 0 then (pdu_Decode.binds k q.1 []).bind fun o => pdu_Decode.fin k a0 n0 n1 n2 o else some pdu_Decode.bad
def pdu_Decode.go (k : Nat) (a0 : Int) (l : List S47) : Nat → Int → Int → Int → Option (Int × Int × Int × Int × List S30 × Int)
 | 0, n0, n1, n2 => pdu_Decode.t3 k a0 l n0 n1 n2
 | d + 1, n0, n1, n2 => (pdu_Decode.num (rd_T47 l (2 - (d : Int)))).bind fun o => match o with
  | none => some pdu_Decode.bad
  | some n => if d = 2 then pdu_Decode.go k a0 l d n n1 n2 else if d = 1 then pdu_Decode.go k a0 l d n0 n n2 else pdu_Decode.go k a0 l d n0 n1 n
def pdu_Decode.f (k : Nat) (a0 : Int) (a1 : ByteArray) : Option (Int × Int × Int × Int × List S30 × Int) := (ber_Parts.f k a1).bind fun p => if p.2 = 0 then (if p.1.length = 4 then (if (rd_T47 p.1 3).f0 = 48 then pdu_Decode.go k a0 p.1 3 0 0 0 else some pdu_Decode.bad) else some pdu_Decode.bad) else some pdu_Decode.bad
theorem pdu_Decode.binds_mono (k : Nat) : ∀ l acc, LeO (pdu_Decode.binds k l acc) (pdu_Decode.binds (k + 1) l acc)
 | [], acc => LeO.refl _
 | x :: l, acc => by
  unfold pdu_Decode.binds
  refine LeO.bind (pdu_read.mono _ _ _) (fun r => ?_)
  split
  ·split
   ·exact pdu_Decode.binds_mono k l _
   ·exact LeO.refl _
  ·exact LeO.refl _
theorem pdu_Decode.info : (Tryz.prog.info? 30).map (fun i => (i.zero, i.size, i.bytes)) = some (some (.agg #[(.string ⟨#[]⟩), (.int .i64 0), (.int .i64 0), (.string ⟨#[]⟩)]), 4, 48) := by kernel_rfl
set_option maxHeartbeats 16000000 in
set_option maxRecDepth 100000 in
theorem pdu_Decode.calls (k : Nat) (a0_0 : Int) (a0_1 : ByteArray) (r1 : Int) (r2 : Int) (r3 : Int) (r4 : Int) (r5 : List (S30)) (r6 : Int) (w : World) (hG : Gl w) (h : pdu_Decode.f k a0_0 a0_1 = some (r1, r2, r3, r4, r5, r6)) :
  Calls Tryz.prog 17 #[.agg #[.int .i64 a0_0, .string a0_1]] w fun e w' => ∃ v4_ : Value, e = .returned (.tuple #[.agg #[.int .i64 r1, .int .i64 r2, .int .i64 r3, .int .i64 r4, v4_], .int .i64 r6]) ∧ Kd.R k30 30 w' w.heap.size (fun _ => True) v4_ r5 ∧ Below w.heap.size w w' := by
 have HGl := Aside0.mk hG
 unfold pdu_Decode.f at h
 obtain ⟨⟨t1, t2⟩, hp, h⟩ := Option.bind_eq_some_iff.1 h
 replace h : (if t2 = 0 then (if t1.length = 4 then (if (rd_T47 t1 3).f0 = 48 then pdu_Decode.go k a0_0 t1 3 0 0 0 else some pdu_Decode.bad) else some pdu_Decode.bad) else some pdu_Decode.bad) = some (r1, r2, r3, r4, r5, r6) := h
 have HP := Aside0.mk hp
 have HH := Aside0.mk h
 clear hG hp h
 go_enter Tryz.func17, Tryz.ntmps17
 go_wp2_with fail
 obtain ⟨w1, hw1⟩ : ∃ w1, w1 = (w.alloc (.cells #[.int .i64 a0_0, .string a0_1] 47)).alloc (.cells #[.int .i64 0, .int .i64 0, .int .i64 0, .int .i64 0, .slice none 0 0] 24) := ⟨_, rfl⟩
 have hb1 : Below w.heap.size w w1 := by rw [hw1]; exact below_alloc (below_alloc (Below.refl _ _) _) _
 have hx1 : w1.heap[w.heap.size]? = some (.cells #[.int .i64 a0_0, .string a0_1] 47 (0, 0)) := by rw [hw1]; exact blk_alloc (heap_alloc_new w _) _
 have hx2 : w1.heap[w.heap.size + 1]? = some (.cells #[.int .i64 0, .int .i64 0, .int .i64 0, .int .i64 0, .slice none 0 0] 24 (0, 0)) := by
  rw [hw1]
  have := heap_alloc_new (w.alloc (.cells #[.int .i64 a0_0, .string a0_1] 47)) (.cells #[.int .i64 0, .int .i64 0, .int .i64 0, .int .i64 0, .slice none 0 0] 24)
  simpa using this
 rw [← hw1]
 clear hw1
 refine (ber_Parts.calls k a0_1 t1 t2 w1 HP.out).mono ?_
 rintro e w2 ⟨v1, rfl, hO, hb2⟩
 obtain ⟨A1, c1, rfl⟩ := Kd.R_slice hO
 have HC1 := Aside0.mk (Kd.R_reads' hO).2.2
 have HX1 := Aside0.mk ((Mv.of_below (S := fun _ => False) hb2).heap hx1 id)
 have HX2 := Aside0.mk ((Mv.of_below (S := fun _ => False) hb2).heap hx2 id)
 have HB2 := Aside0.mk (Below.trans hb1 (Below.mono hb2 hb1.size))
 have HN := Aside0.mk (show w.heap.size + 1 < w2.heap.size from (Array.getElem?_eq_some_iff.1 HX2.out).1)
 clear hb1 hb2 hx1 hx2 hO HP
 obtain ⟨b2, hbb2⟩ : ∃ b2, b2 = w.heap.size + 1 := ⟨_, rfl⟩
 rw [← hbb2] at HX2 HN ⊢
 have HN2 := Aside0.mk (show w.heap.size ≤ b2 by omega)
 obtain ⟨b1, hbb1⟩ : ∃ b1, b1 = w.heap.size := ⟨_, rfl⟩
 rw [← hbb1] at HX1 ⊢
 have HN1 := Aside0.mk (show b1 < b2 by omega)
 clear hbb1 hbb2
 have hh := HH.out
 by_cases c2 : t2 = 0
 case neg =>
  rw [if_neg c2] at hh
  simp only [pdu_Decode.bad, Option.some.injEq, Prod.mk.injEq] at hh
  obtain ⟨rfl, rfl, rfl, rfl, rfl, rfl⟩ := hh
  have d1 : (t2 != 0) = true := bne_iff_ne.mpr c2
  have d2 := eq_false c2
  clear c2
  have HE2 := Aside0.mk (HX2.out)
  have HEB := Aside0.mk (HB2.out)
  have x0 := (blk_cell HE2.out 0).trans rfl
  have y0 := blk_frozen HE2.out 0
  have x1 := (blk_cell HE2.out 1).trans rfl
  have y1 := blk_frozen HE2.out 1
  have x2 := (blk_cell HE2.out 2).trans rfl
  have y2 := blk_frozen HE2.out 2
  have x3 := (blk_cell HE2.out 3).trans rfl
  have y3 := blk_frozen HE2.out 3
  have x4 := (blk_cell HE2.out 4).trans rfl
  have y4 := blk_frozen HE2.out 4
  go_wp2
  refine bodyPost_ret (results_ct rfl _ _ b2 24 #[.int .i64 0, .int .i64 0, .int .i64 0, .int .i64 0, .slice none 0 0] (0, 0) _ rfl (by
   refine blk_put (cs := #[.int .i64 0, .int .i64 0, .int .i64 0, .int .i64 0, .slice none 0 0]) ?_ 4 _ rfl
   refine blk_put (cs := #[.int .i64 0, .int .i64 0, .int .i64 0, .int .i64 0, .slice none 0 0]) ?_ 3 _ rfl
   refine blk_put (cs := #[.int .i64 0, .int .i64 0, .int .i64 0, .int .i64 0, .slice none 0 0]) ?_ 2 _ rfl
   refine blk_put (cs := #[.int .i64 0, .int .i64 0, .int .i64 0, .int .i64 0, .slice none 0 0]) ?_ 1 _ rfl
   refine blk_put (cs := #[.int .i64 0, .int .i64 0, .int .i64 0, .int .i64 0, .slice none 0 0]) ?_ 0 _ rfl
   exact HE2.out) Tryz.underlying24 rfl (by kernel_rfl)) rfl ?_
  exact ⟨_, rfl, Kd.R_nil _ _ _ _ _, below_set (below_set (below_set (below_set (below_set HEB.out HN2.out) HN2.out) HN2.out) HN2.out) HN2.out⟩
 rw [if_pos c2] at hh
 subst c2
 by_cases c3 : t1.length = 4
 case neg =>
  rw [if_neg c3] at hh
  simp only [pdu_Decode.bad, Option.some.injEq, Prod.mk.injEq] at hh
  obtain ⟨rfl, rfl, rfl, rfl, rfl, rfl⟩ := hh
  have d1 : ((t1.length : Int) != 4) = true := bne_iff_ne.mpr (by omega)
  have d2 : ((t1.length : Int) = 4) = False := eq_false (by omega)
  have d3 := eq_false c3
  clear c3
  have HE2 := Aside0.mk (HX2.out)
  have HEB := Aside0.mk (HB2.out)
  have x0 := (blk_cell HE2.out 0).trans rfl
  have y0 := blk_frozen HE2.out 0
  have x1 := (blk_cell HE2.out 1).trans rfl
  have y1 := blk_frozen HE2.out 1
  have x2 := (blk_cell HE2.out 2).trans rfl
  have y2 := blk_frozen HE2.out 2
  have x3 := (blk_cell HE2.out 3).trans rfl
  have y3 := blk_frozen HE2.out 3
  have x4 := (blk_cell HE2.out 4).trans rfl
  have y4 := blk_frozen HE2.out 4
  go_wp2
  refine bodyPost_ret (results_ct rfl _ _ b2 24 #[.int .i64 0, .int .i64 0, .int .i64 0, .int .i64 0, .slice none 0 0] (0, 0) _ rfl (by
   refine blk_put (cs := #[.int .i64 0, .int .i64 0, .int .i64 0, .int .i64 0, .slice none 0 0]) ?_ 4 _ rfl
   refine blk_put (cs := #[.int .i64 0, .int .i64 0, .int .i64 0, .int .i64 0, .slice none 0 0]) ?_ 3 _ rfl
   refine blk_put (cs := #[.int .i64 0, .int .i64 0, .int .i64 0, .int .i64 0, .slice none 0 0]) ?_ 2 _ rfl
   refine blk_put (cs := #[.int .i64 0, .int .i64 0, .int .i64 0, .int .i64 0, .slice none 0 0]) ?_ 1 _ rfl
   refine blk_put (cs := #[.int .i64 0, .int .i64 0, .int .i64 0, .int .i64 0, .slice none 0 0]) ?_ 0 _ rfl
   exact HE2.out) Tryz.underlying24 rfl (by kernel_rfl)) rfl ?_
  exact ⟨_, rfl, Kd.R_nil _ _ _ _ _, below_set (below_set (below_set (below_set (below_set HEB.out HN2.out) HN2.out) HN2.out) HN2.out) HN2.out⟩
 rw [if_pos c3] at hh
 have HL4 := Aside0.mk c3
 have l1 : ((t1.length : Int) != 4) = false := bne_eq_false_iff_eq.mpr (by omega)
 have l2 : ((t1.length : Int) = 4) = True := eq_true (by omega)
 have l3 := eq_true c3
 have l4 : ((3 : Int) < (t1.length : Int)) = True := eq_true (by omega)
 have l5 : (3 < t1.length) = True := eq_true (by omega)
 have l6 : ((2 : Int) < (t1.length : Int)) = True := eq_true (by omega)
 have l7 : ((1 : Int) < (t1.length : Int)) = True := eq_true (by omega)
 have l8 : ((0 : Int) < (t1.length : Int)) = True := eq_true (by omega)
 have l9 : (0 < t1.length) = True := eq_true (by omega)
 have l10 : (1 < t1.length) = True := eq_true (by omega)
 have l11 : (2 < t1.length) = True := eq_true (by omega)
 obtain ⟨ad, rfl, z0, z1⟩ := at_T47 HC1.out 3 (by omega) (by omega)
 simp only [show (3 : Int).toNat = 3 from rfl, Nat.reduceMul, Nat.reduceEqDiff, Go.Addr.add, ↓reduceIte] at z0 z1
 by_cases c4 : (rd_T47 t1 3).f0 = 48
 case neg =>
  rw [if_neg c4] at hh
  simp only [pdu_Decode.bad, Option.some.injEq, Prod.mk.injEq] at hh
  obtain ⟨rfl, rfl, rfl, rfl, rfl, rfl⟩ := hh
  have d1 : ((rd_T47 t1 3).f0 != 48) = true := bne_iff_ne.mpr c4
  have d2 := eq_false c4
  clear c3 c4
  have HE2 := Aside0.mk (HX2.out)
  have HEB := Aside0.mk (HB2.out)
  have x0 := (blk_cell HE2.out 0).trans rfl
  have y0 := blk_frozen HE2.out 0
  have x1 := (blk_cell HE2.out 1).trans rfl
  have y1 := blk_frozen HE2.out 1
  have x2 := (blk_cell HE2.out 2).trans rfl
  have y2 := blk_frozen HE2.out 2
  have x3 := (blk_cell HE2.out 3).trans rfl
  have y3 := blk_frozen HE2.out 3
  have x4 := (blk_cell HE2.out 4).trans rfl
  have y4 := blk_frozen HE2.out 4
  go_wp2
  refine bodyPost_ret (results_ct rfl _ _ b2 24 #[.int .i64 0, .int .i64 0, .int .i64 0, .int .i64 0, .slice none 0 0] (0, 0) _ rfl (by
   refine blk_put (cs := #[.int .i64 0, .int .i64 0, .int .i64 0, .int .i64 0, .slice none 0 0]) ?_ 4 _ rfl
   refine blk_put (cs := #[.int .i64 0, .int .i64 0, .int .i64 0, .int .i64 0, .slice none 0 0]) ?_ 3 _ rfl
   refine blk_put (cs := #[.int .i64 0, .int .i64 0, .int .i64 0, .int .i64 0, .slice none 0 0]) ?_ 2 _ rfl
   refine blk_put (cs := #[.int .i64 0, .int .i64 0, .int .i64 0, .int .i64 0, .slice none 0 0]) ?_ 1 _ rfl
   refine blk_put (cs := #[.int .i64 0, .int .i64 0, .int .i64 0, .int .i64 0, .slice none 0 0]) ?_ 0 _ rfl
   exact HE2.out) Tryz.underlying24 rfl (by kernel_rfl)) rfl ?_
  exact ⟨_, rfl, Kd.R_nil _ _ _ _ _, below_set (below_set (below_set (below_set (below_set HEB.out HN2.out) HN2.out) HN2.out) HN2.out) HN2.out⟩
 rw [if_pos c4] at hh
 have HGO := Aside0.mk hh
 have d1 : ((rd_T47 t1 3).f0 != 48) = false := bne_eq_false_iff_eq.mpr c4
 have d2 := eq_true c4
 clear c3 c4 hh HH
 go_upto_region 5 with (fail)
 obtain ⟨b6, hb6⟩ : ∃ b6, b6 = w2.heap.size := ⟨_, rfl⟩
 obtain ⟨w3, hw3⟩ : ∃ w3, w3 = w2.alloc (.cells #[.int .i64 0, .int .i64 0, .int .i64 0] 62) := ⟨_, rfl⟩
 have HX6 := Aside0.mk (show w3.heap[b6]? = some (.cells #[.int .i64 0, .int .i64 0, .int .i64 0] 62 (0, 0)) by rw [hw3, hb6]; exact heap_alloc_new w2 _)
 have HB3 := Aside0.mk (show Below w2.heap.size w2 w3 by rw [hw3]; exact below_alloc (Below.refl _ _) _)
 rw [← hw3, ← hb6]
 have HN6 := Aside0.mk (show w2.heap.size ≤ b6 by omega)
 have HN62 := Aside0.mk (show b2 < b6 ∧ b1 < b6 by have := HN.out; have := HN1.out; omega)
 clear hw3 hb6 z0 z1 d1 d2
 go_wp2
 have hu82 := Tryz.underlying62
 go_loopg [34] 5 (fun kq v34 W => ∃ (j : Nat) (n0 n1 n2 : Int), v34 = .int .i64 j ∧ Aside0 (j ≤ 3) ∧ Aside0 (3 - j < kq) ∧ Aside0 (pdu_Decode.go k a0_0 t1 (3 - j) n0 n1 n2 = some (r1, r2, r3, r4, r5, r6)) ∧ Aside0 (W.heap[b6]? = some (.cells #[.int .i64 n0, .int .i64 n1, .int .i64 n2] 62 (0, 0))) ∧ Aside0 (Below w2.heap.size w2 W))
 case atStart => exact ⟨0, 0, 0, 0, rfl, ⟨by omega⟩, ⟨by omega⟩, HGO, HX6, HB3⟩
 case round =>
  clear HGO HX6 HB3
  obtain ⟨j, n0, n1, n2, rfl, HJ, HJK, HGO, HX6, HB3⟩ := hrel
  have hj : j = 0 ∨ j = 1 ∨ j = 2 ∨ j = 3 := by have := HJ.out; omega
  rcases hj with rfl | rfl | rfl | rfl
  ·have hgo : pdu_Decode.go k a0_0 t1 (2 + 1) n0 n1 n2 = some (r1, r2, r3, r4, r5, r6) := HGO.out
   rw [pdu_Decode.go, show ((2 : Int) - ((2 : Nat) : Int)) = 0 from rfl] at hgo
   obtain ⟨o, ho, hgo⟩ := Option.bind_eq_some_iff.1 hgo
   unfold pdu_Decode.num at ho
   obtain ⟨⟨m, e0⟩, hm, ho⟩ := Option.bind_eq_some_iff.1 ho
   replace ho : (if e0 = 0 then (if (rd_T47 t1 0).f0 = 2 then some (some m) else some none) else some none) = some o := ho
   have HM := Aside0.mk hm
   have HGO2 := Aside0.mk hgo
   clear hm hgo HGO HJ
   obtain ⟨ad2, had, z0, z1⟩ := at_T47 (Kd.C_below HC1.out HB3.out) 0 (by omega) (by have := HL4.out; omega)
   obtain rfl : ad = ad2 := by injection had
   rw [show (0 : Int).toNat = 0 from rfl, show 0 * 2 = 0 from rfl, Addr.add_zero'] at z0 z1
   go_wp2_with fail
   refine (ber_Number.calls (rd_T47 t1 0).f1 m e0 wr HM.out).mono ?_
   rintro e w4 ⟨rfl, hb4⟩
   have HX6a := Aside0.mk ((Mv.of_below (S := fun _ => False) hb4).heap HX6.out id)
   have HB4 := Aside0.mk (Below.trans HB3.out (Below.mono hb4 HB3.out.size))
   clear hb4 HX6 HB3 had z0 z1
   have x0 := (blk_cell HX6a.out 0).trans rfl
   have y0 := blk_frozen HX6a.out 0
   go_upto_region 9 with (fail)
   obtain ⟨w5, hw5⟩ : ∃ w5, w5 = w4.setCell ⟨b6, 0, none⟩ (.int .i64 m) := ⟨_, rfl⟩
   have HX6b := Aside0.mk (show w5.heap[b6]? = some (.cells #[.int .i64 m, .int .i64 n1, .int .i64 n2] 62 (0, 0)) by rw [hw5]; exact blk_put (cs := #[.int .i64 n0, .int .i64 n1, .int .i64 n2]) HX6a.out 0 _ rfl)
   have HB5 := Aside0.mk (show Below w2.heap.size w2 w5 by rw [hw5]; exact below_set HB4.out HN6.out)
   rw [← hw5]
   clear hw5 HX6a HB4 x0 y0
   by_cases ce : e0 = 0
   case neg =>
    rw [if_neg ce] at ho
    obtain rfl := Option.some.inj ho
    have hgo : some pdu_Decode.bad = some (r1, r2, r3, r4, r5, r6) := HGO2.out
    clear HGO2
    simp only [pdu_Decode.bad, Option.some.injEq, Prod.mk.injEq] at hgo
    obtain ⟨rfl, rfl, rfl, rfl, rfl, rfl⟩ := hgo
    have d1 : (e0 != 0) = true := bne_iff_ne.mpr ce
    have d2 := eq_false ce
    clear ce
    have HE2 := Aside0.mk ((Mv.of_below (S := fun _ => False) HB5.out).heap HX2.out id)
    have HEB := Aside0.mk (Below.trans HB2.out (Below.mono HB5.out HB2.out.size))
    have x0 := (blk_cell HE2.out 0).trans rfl
    have y0 := blk_frozen HE2.out 0
    have x1 := (blk_cell HE2.out 1).trans rfl
    have y1 := blk_frozen HE2.out 1
    have x2 := (blk_cell HE2.out 2).trans rfl
    have y2 := blk_frozen HE2.out 2
    have x3 := (blk_cell HE2.out 3).trans rfl
    have y3 := blk_frozen HE2.out 3
    have x4 := (blk_cell HE2.out 4).trans rfl
    have y4 := blk_frozen HE2.out 4
    go_wp2
    refine bodyPost_ret (results_ct rfl _ _ b2 24 #[.int .i64 0, .int .i64 0, .int .i64 0, .int .i64 0, .slice none 0 0] (0, 0) _ rfl (by
     refine blk_put (cs := #[.int .i64 0, .int .i64 0, .int .i64 0, .int .i64 0, .slice none 0 0]) ?_ 4 _ rfl
     refine blk_put (cs := #[.int .i64 0, .int .i64 0, .int .i64 0, .int .i64 0, .slice none 0 0]) ?_ 3 _ rfl
     refine blk_put (cs := #[.int .i64 0, .int .i64 0, .int .i64 0, .int .i64 0, .slice none 0 0]) ?_ 2 _ rfl
     refine blk_put (cs := #[.int .i64 0, .int .i64 0, .int .i64 0, .int .i64 0, .slice none 0 0]) ?_ 1 _ rfl
     refine blk_put (cs := #[.int .i64 0, .int .i64 0, .int .i64 0, .int .i64 0, .slice none 0 0]) ?_ 0 _ rfl
     exact HE2.out) Tryz.underlying24 rfl (by kernel_rfl)) rfl ?_
    exact ⟨_, rfl, Kd.R_nil _ _ _ _ _, below_set (below_set (below_set (below_set (below_set HEB.out HN2.out) HN2.out) HN2.out) HN2.out) HN2.out⟩
   rw [if_pos ce] at ho
   subst ce
   obtain ⟨ad2, had, z0, z1⟩ := at_T47 (Kd.C_below HC1.out HB5.out) 0 (by omega) (by have := HL4.out; omega)
   obtain rfl : ad = ad2 := by injection had
   rw [show (0 : Int).toNat = 0 from rfl, show 0 * 2 = 0 from rfl, Addr.add_zero'] at z0 z1
   by_cases ct : (rd_T47 t1 0).f0 = 2
   case neg =>
    rw [if_neg ct] at ho
    obtain rfl := Option.some.inj ho
    have hgo : some pdu_Decode.bad = some (r1, r2, r3, r4, r5, r6) := HGO2.out
    clear HGO2
    simp only [pdu_Decode.bad, Option.some.injEq, Prod.mk.injEq] at hgo
    obtain ⟨rfl, rfl, rfl, rfl, rfl, rfl⟩ := hgo
    have d1 : ((rd_T47 t1 0).f0 != 2) = true := bne_iff_ne.mpr ct
    have d2 := eq_false ct
    clear ct
    have HE2 := Aside0.mk ((Mv.of_below (S := fun _ => False) HB5.out).heap HX2.out id)
    have HEB := Aside0.mk (Below.trans HB2.out (Below.mono HB5.out HB2.out.size))
    have x0 := (blk_cell HE2.out 0).trans rfl
    have y0 := blk_frozen HE2.out 0
    have x1 := (blk_cell HE2.out 1).trans rfl
    have y1 := blk_frozen HE2.out 1
    have x2 := (blk_cell HE2.out 2).trans rfl
    have y2 := blk_frozen HE2.out 2
    have x3 := (blk_cell HE2.out 3).trans rfl
    have y3 := blk_frozen HE2.out 3
    have x4 := (blk_cell HE2.out 4).trans rfl
    have y4 := blk_frozen HE2.out 4
    go_wp2
    refine bodyPost_ret (results_ct rfl _ _ b2 24 #[.int .i64 0, .int .i64 0, .int .i64 0, .int .i64 0, .slice none 0 0] (0, 0) _ rfl (by
     refine blk_put (cs := #[.int .i64 0, .int .i64 0, .int .i64 0, .int .i64 0, .slice none 0 0]) ?_ 4 _ rfl
     refine blk_put (cs := #[.int .i64 0, .int .i64 0, .int .i64 0, .int .i64 0, .slice none 0 0]) ?_ 3 _ rfl
     refine blk_put (cs := #[.int .i64 0, .int .i64 0, .int .i64 0, .int .i64 0, .slice none 0 0]) ?_ 2 _ rfl
     refine blk_put (cs := #[.int .i64 0, .int .i64 0, .int .i64 0, .int .i64 0, .slice none 0 0]) ?_ 1 _ rfl
     refine blk_put (cs := #[.int .i64 0, .int .i64 0, .int .i64 0, .int .i64 0, .slice none 0 0]) ?_ 0 _ rfl
     exact HE2.out) Tryz.underlying24 rfl (by kernel_rfl)) rfl ?_
    exact ⟨_, rfl, Kd.R_nil _ _ _ _ _, below_set (below_set (below_set (below_set (below_set HEB.out HN2.out) HN2.out) HN2.out) HN2.out) HN2.out⟩
   rw [if_pos ct] at ho
   obtain rfl := Option.some.inj ho
   have hgo : pdu_Decode.go k a0_0 t1 2 m n1 n2 = some (r1, r2, r3, r4, r5, r6) := HGO2.out
   have HGO3 := Aside0.mk hgo
   have d1 : ((rd_T47 t1 0).f0 != 2) = false := bne_eq_false_iff_eq.mpr ct
   have d2 := eq_true ct
   clear ct hgo HGO2
   go_wp2
   go_roundg (3)
   case measure => have := HJK.out; omega
   case rel => exact ⟨1, m, n1, n2, rfl, ⟨by omega⟩, ⟨by omega⟩, HGO3, HX6b, HB5⟩
  ·have hgo : pdu_Decode.go k a0_0 t1 (1 + 1) n0 n1 n2 = some (r1, r2, r3, r4, r5, r6) := HGO.out
   rw [pdu_Decode.go, show ((2 : Int) - ((1 : Nat) : Int)) = 1 from rfl] at hgo
   obtain ⟨o, ho, hgo⟩ := Option.bind_eq_some_iff.1 hgo
   unfold pdu_Decode.num at ho
   obtain ⟨⟨m, e0⟩, hm, ho⟩ := Option.bind_eq_some_iff.1 ho
   replace ho : (if e0 = 0 then (if (rd_T47 t1 1).f0 = 2 then some (some m) else some none) else some none) = some o := ho
   have HM := Aside0.mk hm
   have HGO2 := Aside0.mk hgo
   clear hm hgo HGO HJ
   obtain ⟨ad2, had, z0, z1⟩ := at_T47 (Kd.C_below HC1.out HB3.out) 1 (by omega) (by have := HL4.out; omega)
   obtain rfl : ad = ad2 := by injection had
   simp only [show (1 : Int).toNat = 1 from rfl, Nat.reduceMul, Nat.reduceEqDiff, Go.Addr.add, ↓reduceIte] at z0 z1
   go_wp2_with fail
   refine (ber_Number.calls (rd_T47 t1 1).f1 m e0 wr HM.out).mono ?_
   rintro e w4 ⟨rfl, hb4⟩
   have HX6a := Aside0.mk ((Mv.of_below (S := fun _ => False) hb4).heap HX6.out id)
   have HB4 := Aside0.mk (Below.trans HB3.out (Below.mono hb4 HB3.out.size))
   clear hb4 HX6 HB3 had z0 z1
   have x0 := (blk_cell HX6a.out 1).trans rfl
   have y0 := blk_frozen HX6a.out 1
   go_upto_region 9 with (fail)
   obtain ⟨w5, hw5⟩ : ∃ w5, w5 = w4.setCell ⟨b6, 1, none⟩ (.int .i64 m) := ⟨_, rfl⟩
   have HX6b := Aside0.mk (show w5.heap[b6]? = some (.cells #[.int .i64 n0, .int .i64 m, .int .i64 n2] 62 (0, 0)) by rw [hw5]; exact blk_put (cs := #[.int .i64 n0, .int .i64 n1, .int .i64 n2]) HX6a.out 1 _ rfl)
   have HB5 := Aside0.mk (show Below w2.heap.size w2 w5 by rw [hw5]; exact below_set HB4.out HN6.out)
   rw [← hw5]
   clear hw5 HX6a HB4 x0 y0
   by_cases ce : e0 = 0
   case neg =>
    rw [if_neg ce] at ho
    obtain rfl := Option.some.inj ho
    have hgo : some pdu_Decode.bad = some (r1, r2, r3, r4, r5, r6) := HGO2.out
    clear HGO2
    simp only [pdu_Decode.bad, Option.some.injEq, Prod.mk.injEq] at hgo
    obtain ⟨rfl, rfl, rfl, rfl, rfl, rfl⟩ := hgo
    have d1 : (e0 != 0) = true := bne_iff_ne.mpr ce
    have d2 := eq_false ce
    clear ce
    have HE2 := Aside0.mk ((Mv.of_below (S := fun _ => False) HB5.out).heap HX2.out id)
    have HEB := Aside0.mk (Below.trans HB2.out (Below.mono HB5.out HB2.out.size))
    have x0 := (blk_cell HE2.out 0).trans rfl
    have y0 := blk_frozen HE2.out 0
    have x1 := (blk_cell HE2.out 1).trans rfl
    have y1 := blk_frozen HE2.out 1
    have x2 := (blk_cell HE2.out 2).trans rfl
    have y2 := blk_frozen HE2.out 2
    have x3 := (blk_cell HE2.out 3).trans rfl
    have y3 := blk_frozen HE2.out 3
    have x4 := (blk_cell HE2.out 4).trans rfl
    have y4 := blk_frozen HE2.out 4
    go_wp2
    refine bodyPost_ret (results_ct rfl _ _ b2 24 #[.int .i64 0, .int .i64 0, .int .i64 0, .int .i64 0, .slice none 0 0] (0, 0) _ rfl (by
     refine blk_put (cs := #[.int .i64 0, .int .i64 0, .int .i64 0, .int .i64 0, .slice none 0 0]) ?_ 4 _ rfl
     refine blk_put (cs := #[.int .i64 0, .int .i64 0, .int .i64 0, .int .i64 0, .slice none 0 0]) ?_ 3 _ rfl
     refine blk_put (cs := #[.int .i64 0, .int .i64 0, .int .i64 0, .int .i64 0, .slice none 0 0]) ?_ 2 _ rfl
     refine blk_put (cs := #[.int .i64 0, .int .i64 0, .int .i64 0, .int .i64 0, .slice none 0 0]) ?_ 1 _ rfl
     refine blk_put (cs := #[.int .i64 0, .int .i64 0, .int .i64 0, .int .i64 0, .slice none 0 0]) ?_ 0 _ rfl
     exact HE2.out) Tryz.underlying24 rfl (by kernel_rfl)) rfl ?_
    exact ⟨_, rfl, Kd.R_nil _ _ _ _ _, below_set (below_set (below_set (below_set (below_set HEB.out HN2.out) HN2.out) HN2.out) HN2.out) HN2.out⟩
   rw [if_pos ce] at ho
   subst ce
   obtain ⟨ad2, had, z0, z1⟩ := at_T47 (Kd.C_below HC1.out HB5.out) 1 (by omega) (by have := HL4.out; omega)
   obtain rfl : ad = ad2 := by injection had
   simp only [show (1 : Int).toNat = 1 from rfl, Nat.reduceMul, Nat.reduceEqDiff, Go.Addr.add, ↓reduceIte] at z0 z1
   by_cases ct : (rd_T47 t1 1).f0 = 2
   case neg =>
    rw [if_neg ct] at ho
    obtain rfl := Option.some.inj ho
    have hgo : some pdu_Decode.bad = some (r1, r2, r3, r4, r5, r6) := HGO2.out
    clear HGO2
    simp only [pdu_Decode.bad, Option.some.injEq, Prod.mk.injEq] at hgo
    obtain ⟨rfl, rfl, rfl, rfl, rfl, rfl⟩ := hgo
    have d1 : ((rd_T47 t1 1).f0 != 2) = true := bne_iff_ne.mpr ct
    have d2 := eq_false ct
    clear ct
    have HE2 := Aside0.mk ((Mv.of_below (S := fun _ => False) HB5.out).heap HX2.out id)
    have HEB := Aside0.mk (Below.trans HB2.out (Below.mono HB5.out HB2.out.size))
    have x0 := (blk_cell HE2.out 0).trans rfl
    have y0 := blk_frozen HE2.out 0
    have x1 := (blk_cell HE2.out 1).trans rfl
    have y1 := blk_frozen HE2.out 1
    have x2 := (blk_cell HE2.out 2).trans rfl
    have y2 := blk_frozen HE2.out 2
    have x3 := (blk_cell HE2.out 3).trans rfl
    have y3 := blk_frozen HE2.out 3
    have x4 := (blk_cell HE2.out 4).trans rfl
    have y4 := blk_frozen HE2.out 4
    go_wp2
    refine bodyPost_ret (results_ct rfl _ _ b2 24 #[.int .i64 0, .int .i64 0, .int .i64 0, .int .i64 0, .slice none 0 0] (0, 0) _ rfl (by
     refine blk_put (cs := #[.int .i64 0, .int .i64 0, .int .i64 0, .int .i64 0, .slice none 0 0]) ?_ 4 _ rfl
     refine blk_put (cs := #[.int .i64 0, .int .i64 0, .int .i64 0, .int .i64 0, .slice none 0 0]) ?_ 3 _ rfl
     refine blk_put (cs := #[.int .i64 0, .int .i64 0, .int .i64 0, .int .i64 0, .slice none 0 0]) ?_ 2 _ rfl
     refine blk_put (cs := #[.int .i64 0, .int .i64 0, .int .i64 0, .int .i64 0, .slice none 0 0]) ?_ 1 _ rfl
     refine blk_put (cs := #[.int .i64 0, .int .i64 0, .int .i64 0, .int .i64 0, .slice none 0 0]) ?_ 0 _ rfl
     exact HE2.out) Tryz.underlying24 rfl (by kernel_rfl)) rfl ?_
    exact ⟨_, rfl, Kd.R_nil _ _ _ _ _, below_set (below_set (below_set (below_set (below_set HEB.out HN2.out) HN2.out) HN2.out) HN2.out) HN2.out⟩
   rw [if_pos ct] at ho
   obtain rfl := Option.some.inj ho
   have hgo : pdu_Decode.go k a0_0 t1 1 n0 m n2 = some (r1, r2, r3, r4, r5, r6) := HGO2.out
   have HGO3 := Aside0.mk hgo
   have d1 : ((rd_T47 t1 1).f0 != 2) = false := bne_eq_false_iff_eq.mpr ct
   have d2 := eq_true ct
   clear ct hgo HGO2
   go_wp2
   go_roundg (2)
   case measure => have := HJK.out; omega
   case rel => exact ⟨2, n0, m, n2, rfl, ⟨by omega⟩, ⟨by omega⟩, HGO3, HX6b, HB5⟩
  ·have hgo : pdu_Decode.go k a0_0 t1 (0 + 1) n0 n1 n2 = some (r1, r2, r3, r4, r5, r6) := HGO.out
   rw [pdu_Decode.go, show ((2 : Int) - ((0 : Nat) : Int)) = 2 from rfl] at hgo
   obtain ⟨o, ho, hgo⟩ := Option.bind_eq_some_iff.1 hgo
   unfold pdu_Decode.num at ho
   obtain ⟨⟨m, e0⟩, hm, ho⟩ := Option.bind_eq_some_iff.1 ho
   replace ho : (if e0 = 0 then (if (rd_T47 t1 2).f0 = 2 then some (some m) else some none) else some none) = some o := ho
   have HM := Aside0.mk hm
   have HGO2 := Aside0.mk hgo
   clear hm hgo HGO HJ
   obtain ⟨ad2, had, z0, z1⟩ := at_T47 (Kd.C_below HC1.out HB3.out) 2 (by omega) (by have := HL4.out; omega)
   obtain rfl : ad = ad2 := by injection had
   simp only [show (2 : Int).toNat = 2 from rfl, Nat.reduceMul, Nat.reduceEqDiff, Go.Addr.add, ↓reduceIte] at z0 z1
   go_wp2_with fail
   refine (ber_Number.calls (rd_T47 t1 2).f1 m e0 wr HM.out).mono ?_
   rintro e w4 ⟨rfl, hb4⟩
   have HX6a := Aside0.mk ((Mv.of_below (S := fun _ => False) hb4).heap HX6.out id)
   have HB4 := Aside0.mk (Below.trans HB3.out (Below.mono hb4 HB3.out.size))
   clear hb4 HX6 HB3 had z0 z1
   have x0 := (blk_cell HX6a.out 2).trans rfl
   have y0 := blk_frozen HX6a.out 2
   go_upto_region 9 with (fail)
   obtain ⟨w5, hw5⟩ : ∃ w5, w5 = w4.setCell ⟨b6, 2, none⟩ (.int .i64 m) := ⟨_, rfl⟩
   have HX6b := Aside0.mk (show w5.heap[b6]? = some (.cells #[.int .i64 n0, .int .i64 n1, .int .i64 m] 62 (0, 0)) by rw [hw5]; exact blk_put (cs := #[.int .i64 n0, .int .i64 n1, .int .i64 n2]) HX6a.out 2 _ rfl)
   have HB5 := Aside0.mk (show Below w2.heap.size w2 w5 by rw [hw5]; exact below_set HB4.out HN6.out)
   rw [← hw5]
   clear hw5 HX6a HB4 x0 y0
   by_cases ce : e0 = 0
   case neg =>
    rw [if_neg ce] at ho
    obtain rfl := Option.some.inj ho
    have hgo : some pdu_Decode.bad = some (r1, r2, r3, r4, r5, r6) := HGO2.out
    clear HGO2
    simp only [pdu_Decode.bad, Option.some.injEq, Prod.mk.injEq] at hgo
    obtain ⟨rfl, rfl, rfl, rfl, rfl, rfl⟩ := hgo
    have d1 : (e0 != 0) = true := bne_iff_ne.mpr ce
    have d2 := eq_false ce
    clear ce
    have HE2 := Aside0.mk ((Mv.of_below (S := fun _ => False) HB5.out).heap HX2.out id)
    have HEB := Aside0.mk (Below.trans HB2.out (Below.mono HB5.out HB2.out.size))
    have x0 := (blk_cell HE2.out 0).trans rfl
    have y0 := blk_frozen HE2.out 0
    have x1 := (blk_cell HE2.out 1).trans rfl
    have y1 := blk_frozen HE2.out 1
    have x2 := (blk_cell HE2.out 2).trans rfl
    have y2 := blk_frozen HE2.out 2
    have x3 := (blk_cell HE2.out 3).trans rfl
    have y3 := blk_frozen HE2.out 3
    have x4 := (blk_cell HE2.out 4).trans rfl
    have y4 := blk_frozen HE2.out 4
    go_wp2
    refine bodyPost_ret (results_ct rfl _ _ b2 24 #[.int .i64 0, .int .i64 0, .int .i64 0, .int .i64 0, .slice none 0 0] (0, 0) _ rfl (by
     refine blk_put (cs := #[.int .i64 0, .int .i64 0, .int .i64 0, .int .i64 0, .slice none 0 0]) ?_ 4 _ rfl
     refine blk_put (cs := #[.int .i64 0, .int .i64 0, .int .i64 0, .int .i64 0, .slice none 0 0]) ?_ 3 _ rfl
     refine blk_put (cs := #[.int .i64 0, .int .i64 0, .int .i64 0, .int .i64 0, .slice none 0 0]) ?_ 2 _ rfl
     refine blk_put (cs := #[.int .i64 0, .int .i64 0, .int .i64 0, .int .i64 0, .slice none 0 0]) ?_ 1 _ rfl
     refine blk_put (cs := #[.int .i64 0, .int .i64 0, .int .i64 0, .int .i64 0, .slice none 0 0]) ?_ 0 _ rfl
     exact HE2.out) Tryz.underlying24 rfl (by kernel_rfl)) rfl ?_
    exact ⟨_, rfl, Kd.R_nil _ _ _ _ _, below_set (below_set (below_set (below_set (below_set HEB.out HN2.out) HN2.out) HN2.out) HN2.out) HN2.out⟩
   rw [if_pos ce] at ho
   subst ce
   obtain ⟨ad2, had, z0, z1⟩ := at_T47 (Kd.C_below HC1.out HB5.out) 2 (by omega) (by have := HL4.out; omega)
   obtain rfl : ad = ad2 := by injection had
   simp only [show (2 : Int).toNat = 2 from rfl, Nat.reduceMul, Nat.reduceEqDiff, Go.Addr.add, ↓reduceIte] at z0 z1
   by_cases ct : (rd_T47 t1 2).f0 = 2
   case neg =>
    rw [if_neg ct] at ho
    obtain rfl := Option.some.inj ho
    have hgo : some pdu_Decode.bad = some (r1, r2, r3, r4, r5, r6) := HGO2.out
    clear HGO2
    simp only [pdu_Decode.bad, Option.some.injEq, Prod.mk.injEq] at hgo
    obtain ⟨rfl, rfl, rfl, rfl, rfl, rfl⟩ := hgo
    have d1 : ((rd_T47 t1 2).f0 != 2) = true := bne_iff_ne.mpr ct
    have d2 := eq_false ct
    clear ct
    have HE2 := Aside0.mk ((Mv.of_below (S := fun _ => False) HB5.out).heap HX2.out id)
    have HEB := Aside0.mk (Below.trans HB2.out (Below.mono HB5.out HB2.out.size))
    have x0 := (blk_cell HE2.out 0).trans rfl
    have y0 := blk_frozen HE2.out 0
    have x1 := (blk_cell HE2.out 1).trans rfl
    have y1 := blk_frozen HE2.out 1
    have x2 := (blk_cell HE2.out 2).trans rfl
    have y2 := blk_frozen HE2.out 2
    have x3 := (blk_cell HE2.out 3).trans rfl
    have y3 := blk_frozen HE2.out 3
    have x4 := (blk_cell HE2.out 4).trans rfl
    have y4 := blk_frozen HE2.out 4
    go_wp2
    refine bodyPost_ret (results_ct rfl _ _ b2 24 #[.int .i64 0, .int .i64 0, .int .i64 0, .int .i64 0, .slice none 0 0] (0, 0) _ rfl (by
     refine blk_put (cs := #[.int .i64 0, .int .i64 0, .int .i64 0, .int .i64 0, .slice none 0 0]) ?_ 4 _ rfl
     refine blk_put (cs := #[.int .i64 0, .int .i64 0, .int .i64 0, .int .i64 0, .slice none 0 0]) ?_ 3 _ rfl
     refine blk_put (cs := #[.int .i64 0, .int .i64 0, .int .i64 0, .int .i64 0, .slice none 0 0]) ?_ 2 _ rfl
     refine blk_put (cs := #[.int .i64 0, .int .i64 0, .int .i64 0, .int .i64 0, .slice none 0 0]) ?_ 1 _ rfl
     refine blk_put (cs := #[.int .i64 0, .int .i64 0, .int .i64 0, .int .i64 0, .slice none 0 0]) ?_ 0 _ rfl
     exact HE2.out) Tryz.underlying24 rfl (by kernel_rfl)) rfl ?_
    exact ⟨_, rfl, Kd.R_nil _ _ _ _ _, below_set (below_set (below_set (below_set (below_set HEB.out HN2.out) HN2.out) HN2.out) HN2.out) HN2.out⟩
   rw [if_pos ct] at ho
   obtain rfl := Option.some.inj ho
   have hgo : pdu_Decode.go k a0_0 t1 0 n0 n1 m = some (r1, r2, r3, r4, r5, r6) := HGO2.out
   have HGO3 := Aside0.mk hgo
   have d1 : ((rd_T47 t1 2).f0 != 2) = false := bne_eq_false_iff_eq.mpr ct
   have d2 := eq_true ct
   clear ct hgo HGO2
   go_wp2
   go_roundg (1)
   case measure => have := HJK.out; omega
   case rel => exact ⟨3, n0, n1, m, rfl, ⟨by omega⟩, ⟨by omega⟩, HGO3, HX6b, HB5⟩
  ·have hgo : pdu_Decode.t3 k a0_0 t1 n0 n1 n2 = some (r1, r2, r3, r4, r5, r6) := HGO.out
   unfold pdu_Decode.t3 at hgo
   obtain ⟨⟨t3, e3⟩, hq, hgo⟩ := Option.bind_eq_some_iff.1 hgo
   replace hgo : (if e3 = 0 then (pdu_Decode.binds k t3 []).bind fun o => pdu_Decode.fin k a0_0 n0 n1 n2 o else some pdu_Decode.bad) = some (r1, r2, r3, r4, r5, r6) := hgo
   have HQ := Aside0.mk hq
   have HGO2 := Aside0.mk hgo
   clear hq hgo HGO HJ HJK
   have HX1w := Aside0.mk ((Mv.of_below (S := fun _ => False) HB3.out).heap HX1.out id)
   have xt := (blk_cell HX1w.out 0).trans rfl
   have xa0 := (blk_cell HX6.out 0).trans rfl
   have xa1 := (blk_cell HX6.out 1).trans rfl
   have xa2 := (blk_cell HX6.out 2).trans rfl
   go_upto_region 13 with (fail)
   obtain ⟨b8, hb8⟩ : ∃ b8, b8 = wr.heap.size := ⟨_, rfl⟩
   obtain ⟨w6, hw6⟩ : ∃ w6, w6 = wr.alloc (.cells #[.int .i64 a0_0, .int .i64 n0, .int .i64 n1, .int .i64 n2, .slice none 0 0] 24) := ⟨_, rfl⟩
   have HX8 := Aside0.mk (show w6.heap[b8]? = some (.cells #[.int .i64 a0_0, .int .i64 n0, .int .i64 n1, .int .i64 n2, .slice none 0 0] 24 (0, 0)) by rw [hw6, hb8]; exact heap_alloc_new wr _)
   have HB6 := Aside0.mk (show Below w2.heap.size w2 w6 by rw [hw6]; exact below_alloc HB3.out _)
   have HN8 := Aside0.mk (show w.heap.size ≤ b8 ∧ b2 < b8 ∧ b1 < b8 by have := HB3.out.size; have := HN.out; have := HN1.out; have := HN2.out; omega)
   rw [← hw6, ← hb8]
   clear hw6 hb8 xt xa0 xa1 xa2 HX6 HX1w HB3
   obtain ⟨ad2, had, z0, z1⟩ := at_T47 (Kd.C_below HC1.out HB6.out) 3 (by omega) (by have := HL4.out; omega)
   obtain rfl : ad = ad2 := by injection had
   simp only [show (3 : Int).toNat = 3 from rfl, Nat.reduceMul, Nat.reduceEqDiff, Go.Addr.add, ↓reduceIte] at z0 z1
   go_wp2_with fail
   refine (ber_Parts.calls k (rd_T47 t1 3).f1 t3 e3 w6 HQ.out).mono ?_
   rintro e w7 ⟨v3, rfl, hO, hb7⟩
   obtain ⟨A3, c3, rfl⟩ := Kd.R_slice hO
   have HB7 := Aside0.mk (Below.trans HB6.out (Below.mono hb7 HB6.out.size))
   have HX8b := Aside0.mk ((Mv.of_below (S := fun _ => False) hb7).heap HX8.out id)
   have HO3 := Aside0.mk (Kd.R_types hO HX8b.out (by decide))
   have HL3 := Aside0.mk ((Kd.R_reads' hO).2.2).2.1
   have HW7 := Aside0.mk (Below.trans HB2.out (Below.mono HB7.out HB2.out.size))
   have HX27 := Aside0.mk ((Mv.of_below (S := fun _ => False) HB7.out).heap HX2.out id)
   have HN9 := Aside0.mk (show b8 < w7.heap.size from (Array.getElem?_eq_some_iff.1 HX8b.out).1)
   clear hO hb7 had z0 z1 HX8 HB6 HQ
   have hgo := HGO2.out
   by_cases ce : e3 = 0
   case neg =>
    rw [if_neg ce] at hgo
    simp only [pdu_Decode.bad, Option.some.injEq, Prod.mk.injEq] at hgo
    obtain ⟨rfl, rfl, rfl, rfl, rfl, rfl⟩ := hgo
    have d1 : (e3 != 0) = true := bne_iff_ne.mpr ce
    have d2 := eq_false ce
    clear ce
    have HE2 := Aside0.mk (HX27.out)
    have HEB := Aside0.mk (HW7.out)
    have x0 := (blk_cell HE2.out 0).trans rfl
    have y0 := blk_frozen HE2.out 0
    have x1 := (blk_cell HE2.out 1).trans rfl
    have y1 := blk_frozen HE2.out 1
    have x2 := (blk_cell HE2.out 2).trans rfl
    have y2 := blk_frozen HE2.out 2
    have x3 := (blk_cell HE2.out 3).trans rfl
    have y3 := blk_frozen HE2.out 3
    have x4 := (blk_cell HE2.out 4).trans rfl
    have y4 := blk_frozen HE2.out 4
    go_wp2
    refine bodyPost_ret (results_ct rfl _ _ b2 24 #[.int .i64 0, .int .i64 0, .int .i64 0, .int .i64 0, .slice none 0 0] (0, 0) _ rfl (by
     refine blk_put (cs := #[.int .i64 0, .int .i64 0, .int .i64 0, .int .i64 0, .slice none 0 0]) ?_ 4 _ rfl
     refine blk_put (cs := #[.int .i64 0, .int .i64 0, .int .i64 0, .int .i64 0, .slice none 0 0]) ?_ 3 _ rfl
     refine blk_put (cs := #[.int .i64 0, .int .i64 0, .int .i64 0, .int .i64 0, .slice none 0 0]) ?_ 2 _ rfl
     refine blk_put (cs := #[.int .i64 0, .int .i64 0, .int .i64 0, .int .i64 0, .slice none 0 0]) ?_ 1 _ rfl
     refine blk_put (cs := #[.int .i64 0, .int .i64 0, .int .i64 0, .int .i64 0, .slice none 0 0]) ?_ 0 _ rfl
     exact HE2.out) Tryz.underlying24 rfl (by kernel_rfl)) rfl ?_
    exact ⟨_, rfl, Kd.R_nil _ _ _ _ _, below_set (below_set (below_set (below_set (below_set HEB.out HN2.out) HN2.out) HN2.out) HN2.out) HN2.out⟩
   rw [if_pos ce] at hgo
   subst ce
   obtain ⟨o, hbi, hfin⟩ := Option.bind_eq_some_iff.1 hgo
   have HBI := Aside0.mk hbi
   have HFIN := Aside0.mk hfin
   clear hbi hfin hgo HGO2
   go_wp2
   go_loopg [82] (t3.length + 2) (fun kq v82 W => ∃ (i : Nat) (uv : Value) (acc : List S30), v82 = .int .i64 i ∧ Aside0 (i ≤ t3.length) ∧ Aside0 (t3.length - i < kq) ∧ Aside0 (pdu_Decode.binds k (t3.drop i) acc = some o) ∧ Aside0 (Kd.R k30 30 W w7.heap.size (fun _ => True) uv acc) ∧ Aside0 (W.heap[b8]? = some (.cells #[.int .i64 a0_0, .int .i64 n0, .int .i64 n1, .int .i64 n2, uv] 24 (0, 0))) ∧ Aside0 (Kept w7 W (fun q => q = b8)) ∧ Aside0 (Below w.heap.size w W))
   case atStart => exact ⟨0, .slice none 0 0, [], rfl, ⟨Nat.zero_le _⟩, ⟨by omega⟩, HBI, ⟨Kd.R_nil _ _ _ _ _⟩, HX8b, ⟨Kept.refl _ _⟩, HW7⟩
   case round =>
    clear HBI
    obtain ⟨i, uv, acc, rfl, HI, HKQ, HBI, HR, HX8c, HK, HB⟩ := hrel
    by_cases ci : i < t3.length
    ·obtain ⟨x, hx⟩ : ∃ x, t3[i]? = some x := ⟨_, List.getElem?_eq_getElem ci⟩
     have hd : t3.drop i = x :: t3.drop (i + 1) := by
      obtain ⟨h1, h2⟩ := List.getElem?_eq_some_iff.1 hx
      rw [← h2]; exact List.drop_eq_getElem_cons h1
     have hbi := HBI.out
     rw [hd, pdu_Decode.binds] at hbi
     obtain ⟨⟨s1, m1, m2, s2, okk⟩, hrd, hbi⟩ := Option.bind_eq_some_iff.1 hbi
     replace hbi : (if okk = true then (if acc.length < 2932031007402 then pdu_Decode.binds k (t3.drop (i + 1)) (acc ++ [⟨s1, ⟨m1, m2, s2⟩⟩]) else none) else some none) = some o := hbi
     obtain ⟨ad3, rfl, y0, y1⟩ := at_T47 (Kd.C_kept_own HO3.out (fun q hq => hq.2) wr HK.out) (i : Int) (by omega) (by omega)
     have hrx : rd_T47 t3 (i : Int) = x := by unfold rd_T47; rw [Int.toNat_natCast, List.getD_eq_getElem?_getD, hx]; rfl
     rw [hrx] at y0 y1
     rw [Int.toNat_natCast] at y0 y1
     have HRD := Aside0.mk hrd
     have HBI2 := Aside0.mk hbi
     have HI2 := Aside0.mk ci
     have e1 := eq_true ci
     have e2 : decide ((i : Int) < (t3.length : Int)) = true := decide_eq_true (by omega)
     have e3 : (0 ≤ (i : Int)) = True := eq_true (by omega)
     have e9 : wrap64 ((i : Int) + 1) = ((i + 1 : Nat) : Int) := by have := HL3.out; unfold wrap64; omega
     clear hd hbi hrd hx hrx ci HBI HI
     go_wp2_with fail
     obtain ⟨w8, hw8⟩ : ∃ w8, w8 = wr.alloc (.cells #[.int .i64 x.f0, .string x.f1] 47) := ⟨_, rfl⟩
     have hb8 : Below wr.heap.size wr w8 := by rw [hw8]; exact below_alloc (Below.refl _ _) _
     rw [← hw8]
     clear hw8
     refine (pdu_read.calls k x.f0 x.f1 s1 m1 m2 s2 okk w8 (HGl.out.below (Below.trans HB.out (Below.mono hb8 HB.out.size))) HRD.out).mono ?_
     rintro e w9 ⟨rfl, hb9⟩
     have hb89 : Below wr.heap.size wr w9 := Below.trans hb8 (Below.mono hb9 hb8.size)
     clear hb8 hb9 y0 y1
     cases okk with
     | false =>
      have hbi := HBI2.out
      rw [if_neg Bool.false_ne_true, Option.some.injEq] at hbi
      subst hbi
      have hgo : some pdu_Decode.bad = some (r1, r2, r3, r4, r5, r6) := HFIN.out
      simp only [pdu_Decode.bad, Option.some.injEq, Prod.mk.injEq] at hgo
      obtain ⟨rfl, rfl, rfl, rfl, rfl, rfl⟩ := hgo
      go_upto_region 20 with (fail)
      obtain ⟨w10, hw10⟩ : ∃ w10, w10 = w9.alloc (.cells #[.string s1, .int .i64 m1, .int .i64 m2, .string s2] 30) := ⟨_, rfl⟩
      have hb90 : Below wr.heap.size wr w10 := by rw [hw10]; exact below_alloc hb89 _
      rw [← hw10]
      clear hw10
      have HK10 := Aside0.mk (HK.out.below hb90)
      have HB10 := Aside0.mk (Below.trans HB.out (Below.mono hb90 HB.out.size))
      clear hb90 hb89 e1 e2 e3 e9
      have HE2 := Aside0.mk (blk_kept HX27.out HK10.out (by have := HN8.out.2.1; omega))
      have HEB := Aside0.mk (HB10.out)
      have x0 := (blk_cell HE2.out 0).trans rfl
      have y0 := blk_frozen HE2.out 0
      have x1 := (blk_cell HE2.out 1).trans rfl
      have y1 := blk_frozen HE2.out 1
      have x2 := (blk_cell HE2.out 2).trans rfl
      have y2 := blk_frozen HE2.out 2
      have x3 := (blk_cell HE2.out 3).trans rfl
      have y3 := blk_frozen HE2.out 3
      have x4 := (blk_cell HE2.out 4).trans rfl
      have y4 := blk_frozen HE2.out 4
      go_wp2
      refine bodyPost_ret (results_ct rfl _ _ b2 24 #[.int .i64 0, .int .i64 0, .int .i64 0, .int .i64 0, .slice none 0 0] (0, 0) _ rfl (by
       refine blk_put (cs := #[.int .i64 0, .int .i64 0, .int .i64 0, .int .i64 0, .slice none 0 0]) ?_ 4 _ rfl
       refine blk_put (cs := #[.int .i64 0, .int .i64 0, .int .i64 0, .int .i64 0, .slice none 0 0]) ?_ 3 _ rfl
       refine blk_put (cs := #[.int .i64 0, .int .i64 0, .int .i64 0, .int .i64 0, .slice none 0 0]) ?_ 2 _ rfl
       refine blk_put (cs := #[.int .i64 0, .int .i64 0, .int .i64 0, .int .i64 0, .slice none 0 0]) ?_ 1 _ rfl
       refine blk_put (cs := #[.int .i64 0, .int .i64 0, .int .i64 0, .int .i64 0, .slice none 0 0]) ?_ 0 _ rfl
       exact HE2.out) Tryz.underlying24 rfl (by kernel_rfl)) rfl ?_
      exact ⟨_, rfl, Kd.R_nil _ _ _ _ _, below_set (below_set (below_set (below_set (below_set HEB.out HN2.out) HN2.out) HN2.out) HN2.out) HN2.out⟩
     | true =>
      have hbi := HBI2.out
      rw [if_pos rfl] at hbi
      by_cases hac : acc.length < 2932031007402
      case neg => rw [if_neg hac] at hbi; exact absurd hbi (by simp)
      rw [if_pos hac] at hbi
      have HAC := Aside0.mk hac
      obtain ⟨acc2, hacc2⟩ : ∃ acc2, acc2 = acc ++ [(⟨s1, (⟨m1, m2, s2⟩ : S28)⟩ : S30)] := ⟨_, rfl⟩
      have HBI3 := Aside0.mk (show pdu_Decode.binds k (t3.drop (i + 1)) acc2 = some o by rw [hacc2]; exact hbi)
      have HA2 := Aside0.mk hacc2
      clear hbi hac HBI2 hacc2
      go_upto_region 22 with (fail)
      obtain ⟨w10, hw10⟩ : ∃ w10, w10 = w9.alloc (.cells #[.string s1, .int .i64 m1, .int .i64 m2, .string s2] 30) := ⟨_, rfl⟩
      obtain ⟨b11, hb11⟩ : ∃ b11, b11 = w9.heap.size := ⟨_, rfl⟩
      have hb90 : Below wr.heap.size wr w10 := by rw [hw10]; exact below_alloc hb89 _
      have HX11 := Aside0.mk (show w10.heap[b11]? = some (.cells #[.string s1, .int .i64 m1, .int .i64 m2, .string s2] 30 (0, 0)) by rw [hw10, hb11]; exact heap_alloc_new w9 _)
      rw [← hw10, ← hb11]
      clear hw10 hb11
      have HK10 := Aside0.mk (HK.out.below hb90)
      have HB10 := Aside0.mk (Below.trans HB.out (Below.mono hb90 HB.out.size))
      have HR10 := Aside0.mk (Kd.R_below HR.out hb90)
      have HX10 := Aside0.mk ((Mv.of_below (S := fun _ => False) hb90).heap HX8c.out id)
      clear hb90 hb89 HK HB HR HX8c
      have x4 := (blk_cell HX10.out 4).trans rfl
      have v0 := (blk_cell HX11.out 0).trans rfl
      have v1 := (blk_cell HX11.out 1).trans rfl
      have v2 := (blk_cell HX11.out 2).trans rfl
      have v3 := (blk_cell HX11.out 3).trans rfl
      go_wp2_with ((with_reducible refine gate_builtin (b := .append) (xs := #[.tmp 95, .tmp 97]) rfl ?_); (try (refine gate_guard (by rfl) ?_; dsimp only)); at_builtin; refine Kd.R_append k30 (w0 := w10) w7.heap.size rfl (.tmp 95) (.tmp 97) 22 30 (.agg #[(.string ⟨#[]⟩), (.int .i64 0), (.int .i64 0), (.string ⟨#[]⟩)]) 48 rfl Tryz.underlying22 pdu_Decode.info rfl (by decide) (by omega) uv acc (⟨s1, (⟨m1, m2, s2⟩ : S28)⟩ : S30) [.string s1, .int .i64 m1, .int .i64 m2, .string s2] (fun _ => True) (fun _ => False) rfl Zy60 ?aP (fun _ hk => hk.elim) ?aF ?aO ?aB ?aS ?aL ?_; (case aP => exact k30_mkM _ _ _ (⟨s1, (⟨m1, m2, s2⟩ : S28)⟩ : S30)); (case aF => exact (fun _ _ => trivial)); (case aO => exact HR10.out); (case aB => exact Below.refl _ _); (case aS => exact HK10.out.1); (case aL => have := HAC.out; omega); intro v98 w11 ho hb hg hat; rw [← HA2.out] at ho; obtain ⟨A98, c98, rfl⟩ := Kd.R_slice ho; have HR11 := Aside0.mk ho; have HX12 := Aside0.mk (blk_grown HX10.out hg (Kd.R_ne HR10.out HX10.out (by decide))); have HK11 := Aside0.mk (Kept.of_grown hg HK10.out (fun q hq => .inr (by rcases Kd.R_base2 HR10.out with h | ⟨q2, h, hle⟩ <;> (rw [h] at hq; first | (cases hq; done) | (injection hq with hq; omega))))); have HB11 := Aside0.mk (Below.trans HB10.out (Below.mono hb (by have := HW7.out.size; omega))); clear ho hb hg hat x4 v0 v1 v2 v3; have y4 := blk_frozen HX12.out 4; have y5 := (blk_cell HX12.out 4).trans rfl)
      go_roundg (t3.length - (i + 1) + 1)
      case measure => have := HKQ.out; have := HI2.out; omega
      case rel => exact ⟨i + 1, .slice A98 acc2.length c98, acc2, by first | rfl | rw [e9], ⟨HI2.out⟩, ⟨by omega⟩, HBI3, ⟨Kd.R_set HR11.out HX12.out (by decide) 4 _⟩, ⟨blk_put (cs := #[.int .i64 a0_0, .int .i64 n0, .int .i64 n1, .int .i64 n2, uv]) HX12.out 4 _ rfl⟩, ⟨HK11.out.setCell (.inl rfl) _⟩, ⟨below_set HB11.out HN8.out.1⟩⟩
    ·have hi : i = t3.length := by have := HI.out; omega
     have hbi := HBI.out
     rw [hi, List.drop_length, pdu_Decode.binds, Option.some.injEq] at hbi
     subst hbi
     have hfin := HFIN.out
     unfold pdu_Decode.fin at hfin
     obtain ⟨c, hck, hfin⟩ := Option.bind_eq_some_iff.1 hfin
     have HCK := Aside0.mk hck
     have HF2 := Aside0.mk hfin
     have e1 := eq_false ci
     have e2 : decide ((i : Int) < (t3.length : Int)) = false := decide_eq_false (by omega)
     obtain ⟨A5, c5, rfl⟩ := Kd.R_slice HR.out
     have x0 := (blk_cell HX8c.out 0).trans rfl
     have x1 := (blk_cell HX8c.out 1).trans rfl
     have x2 := (blk_cell HX8c.out 2).trans rfl
     have x3 := (blk_cell HX8c.out 3).trans rfl
     have x4 := (blk_cell HX8c.out 4).trans rfl
     have HX2w := Aside0.mk (blk_kept HX27.out HK.out (by have := HN8.out.2.1; omega))
     clear hck hfin ci hi HBI HI HKQ HFIN
     go_wp2_with fail
     refine (pdu_Check.calls k a0_0 n0 n1 n2 A5 c5 acc c wr (HGl.out.below HB.out) (Kd.R_reads' HR.out).2.2 (Kd.R_reads' HR.out).2.1 HCK.out).mono ?_
     rintro e w12 ⟨rfl, hb12⟩
     have HE := Aside0.mk ((Mv.of_below (S := fun _ => False) hb12).heap HX2w.out id)
     have HX13 := Aside0.mk ((Mv.of_below (S := fun _ => False) hb12).heap HX8c.out id)
     have HR12 := Aside0.mk (Kd.R_below HR.out hb12)
     have HB12 := Aside0.mk (Below.trans HB.out (Below.mono hb12 HB.out.size))
     clear hb12 x0 x1 x2 x3 x4 HX2w HX8c HR HB HK
     have hfin := HF2.out
     by_cases cc : c = 0
     case neg =>
      rw [if_neg cc] at hfin
      simp only [pdu_Decode.bad, Option.some.injEq, Prod.mk.injEq] at hfin
      obtain ⟨rfl, rfl, rfl, rfl, rfl, rfl⟩ := hfin
      have d1 : (c != 0) = true := bne_iff_ne.mpr cc
      have d2 := eq_false cc
      clear cc
      have HE2 := Aside0.mk (HE.out)
      have HEB := Aside0.mk (HB12.out)
      have x0 := (blk_cell HE2.out 0).trans rfl
      have y0 := blk_frozen HE2.out 0
      have x1 := (blk_cell HE2.out 1).trans rfl
      have y1 := blk_frozen HE2.out 1
      have x2 := (blk_cell HE2.out 2).trans rfl
      have y2 := blk_frozen HE2.out 2
      have x3 := (blk_cell HE2.out 3).trans rfl
      have y3 := blk_frozen HE2.out 3
      have x4 := (blk_cell HE2.out 4).trans rfl
      have y4 := blk_frozen HE2.out 4
      go_wp2
      refine bodyPost_ret (results_ct rfl _ _ b2 24 #[.int .i64 0, .int .i64 0, .int .i64 0, .int .i64 0, .slice none 0 0] (0, 0) _ rfl (by
       refine blk_put (cs := #[.int .i64 0, .int .i64 0, .int .i64 0, .int .i64 0, .slice none 0 0]) ?_ 4 _ rfl
       refine blk_put (cs := #[.int .i64 0, .int .i64 0, .int .i64 0, .int .i64 0, .slice none 0 0]) ?_ 3 _ rfl
       refine blk_put (cs := #[.int .i64 0, .int .i64 0, .int .i64 0, .int .i64 0, .slice none 0 0]) ?_ 2 _ rfl
       refine blk_put (cs := #[.int .i64 0, .int .i64 0, .int .i64 0, .int .i64 0, .slice none 0 0]) ?_ 1 _ rfl
       refine blk_put (cs := #[.int .i64 0, .int .i64 0, .int .i64 0, .int .i64 0, .slice none 0 0]) ?_ 0 _ rfl
       exact HE2.out) Tryz.underlying24 rfl (by kernel_rfl)) rfl ?_
      exact ⟨_, rfl, Kd.R_nil _ _ _ _ _, below_set (below_set (below_set (below_set (below_set HEB.out HN2.out) HN2.out) HN2.out) HN2.out) HN2.out⟩
     rw [if_pos cc] at hfin
     subst cc
     simp only [Option.some.injEq, Prod.mk.injEq] at hfin
     obtain ⟨rfl, rfl, rfl, rfl, rfl, rfl⟩ := hfin
     have z0 := (blk_cell HX13.out 0).trans rfl
     have z1 := (blk_cell HX13.out 1).trans rfl
     have z2 := (blk_cell HX13.out 2).trans rfl
     have z3 := (blk_cell HX13.out 3).trans rfl
     have z4 := (blk_cell HX13.out 4).trans rfl
     have y0 := blk_frozen HE.out 0
     have x0 := (blk_cell HE.out 0).trans rfl
     have y1 := blk_frozen HE.out 1
     have x1 := (blk_cell HE.out 1).trans rfl
     have y2 := blk_frozen HE.out 2
     have x2 := (blk_cell HE.out 2).trans rfl
     have y3 := blk_frozen HE.out 3
     have x3 := (blk_cell HE.out 3).trans rfl
     have y4 := blk_frozen HE.out 4
     have x4 := (blk_cell HE.out 4).trans rfl
     go_wp2
     refine bodyPost_ret (results_ct rfl _ _ b2 24 #[.int .i64 a0_0, .int .i64 n0, .int .i64 n1, .int .i64 n2, .slice A5 acc.length c5] (0, 0) _ rfl (by
      refine blk_put (cs := #[.int .i64 a0_0, .int .i64 n0, .int .i64 n1, .int .i64 n2, .slice none 0 0]) ?_ 4 _ rfl
      refine blk_put (cs := #[.int .i64 a0_0, .int .i64 n0, .int .i64 n1, .int .i64 0, .slice none 0 0]) ?_ 3 _ rfl
      refine blk_put (cs := #[.int .i64 a0_0, .int .i64 n0, .int .i64 0, .int .i64 0, .slice none 0 0]) ?_ 2 _ rfl
      refine blk_put (cs := #[.int .i64 a0_0, .int .i64 0, .int .i64 0, .int .i64 0, .slice none 0 0]) ?_ 1 _ rfl
      refine blk_put (cs := #[.int .i64 0, .int .i64 0, .int .i64 0, .int .i64 0, .slice none 0 0]) ?_ 0 _ rfl
      exact HE.out) Tryz.underlying24 rfl (by kernel_rfl)) rfl ?_
     exact ⟨_, rfl, Kd.R_lower (Kd.R_mono (Kd.R_kept (Kd.R_types HR12.out HE.out (by decide)) ((((((Kept.refl _ (fun q => q = b2)).setCell (.inl rfl) _).setCell (.inl rfl) _).setCell (.inl rfl) _).setCell (.inl rfl) _).setCell (.inl rfl) _) (fun q hq => hq.2)) (fun _ _ => trivial)) HW7.out.size, below_set (below_set (below_set (below_set (below_set HB12.out HN2.out) HN2.out) HN2.out) HN2.out) HN2.out⟩
end Go.Proofs.YtfgdnnbhlnbojaaGreatDoor.XPdR
