-- Laid by extprint.py (the session's own driver): functions told by the kit's printer and by hand.
import Derived.Test.YtfmhghlmljlfgaaGreatDoorXTrSx0
import Derived.Test.YtfmhghlmljlfgaaGreatDoorXTrSx11
import Derived.Test.YtfmhghlmljlfgaaGreatDoorXTrSx12
import Derived.Test.YtfmhghlmljlfgaaGreatDoorXTrSx13
namespace Go.Proofs.YtfmhghlmljlfgaaGreatDoor.XTrS
open Go.RowKit Gong Go.Proofs.YtfmhghlmljlfgaaGreatDoorW.PrintWords Go.Proofs.YtfmhghlmljlfgaaGreatDoorW.PrintLast Go.Proofs.YtfmhghlmljlfgaaGreatDoorW.PrintMore
attribute [local go_sem] max2_int min2_int max_two min_two max_three min_three max_four min_four   -- for this text's walks alone
set_option linter.unusedVariables false
set_option linter.unusedSimpArgs false
def pdu_read.j0 : Nat → List (S62) → Bool → Option (ByteArray × Int × Int × ByteArray × Bool)
 | 0, _, _ => none
 | k + 1, x4, x33 => if x33 = true then (some ((⟨#[]⟩ : ByteArray), 0, 0, (⟨#[]⟩ : ByteArray), false)) else (if 0 < (x4.length : Int) then ((oid_Decode.f k ((rd_T62 x4 0).f1)).bind fun bt275 => (if 1 < (x4.length : Int) then ((value_Decode.f k ((rd_T62 x4 1).f0) ((rd_T62 x4 1).f1)).bind fun bt278 => (if bt275.2 = 0 then (some (bt275.1, bt278.1, bt278.2.1, bt278.2.2.1, (bt278.2.2.2 == 0))) else (some (bt275.1, bt278.1, bt278.2.1, bt278.2.2.1, false)))) else (none))) else (none))
def pdu_read.f (k : Nat) (a0_0 : Int) (a0_1 : ByteArray) : Option (ByteArray × Int × Int × ByteArray × Bool) := (ber_Parts.f k a0_1).bind fun bt269 => (if bt269.2 = 0 then (if a0_0 = 48 then (if (bt269.1.length : Int) = 2 then (if 0 < (bt269.1.length : Int) then (pdu_read.j0 k bt269.1 (((rd_T62 bt269.1 0).f0) != 6)) else (none)) else (pdu_read.j0 k bt269.1 true)) else (pdu_read.j0 k bt269.1 true)) else (pdu_read.j0 k bt269.1 true))
set_option maxHeartbeats 8000000 in
set_option maxRecDepth 100000 in
theorem pdu_read.calls (k : Nat) (a0_0 : Int) (a0_1 : ByteArray) (r1 : ByteArray) (r2 : Int) (r3 : Int) (r4 : ByteArray) (r5 : Bool) (w : World) (hG : Gl w) (h : pdu_read.f k a0_0 a0_1 = some (r1, r2, r3, r4, r5)) :
  Calls Tryz.prog 38 #[.agg #[.int .i64 a0_0, .string a0_1]] w fun e w' => e = .returned (.tuple #[.agg #[.string r1, .int .i64 r2, .int .i64 r3, .string r4], .bool r5]) ∧ Below w.heap.size w w' := by
 have HGl := Aside0.mk hG
 clear hG
 have hu62 := Tryz.underlying62
 have hu40 := Tryz.underlying40
 have hu38 := Tryz.underlying38
 have HB := Aside0.mk (Below.refl w.heap.size w)
 have H : ((ber_Parts.f k a0_1).bind fun bt269 => (if bt269.2 = 0 then (if a0_0 = 48 then (if (bt269.1.length : Int) = 2 then (if 0 < (bt269.1.length : Int) then (pdu_read.j0 k bt269.1 (((rd_T62 bt269.1 0).f0) != 6)) else (none)) else (pdu_read.j0 k bt269.1 true)) else (pdu_read.j0 k bt269.1 true)) else (pdu_read.j0 k bt269.1 true))) = some (r1, r2, r3, r4, r5) := h
 clear h
 replace H := Option.bind_eq_some_iff.mp H
 obtain ⟨⟨t269, t270⟩, A20, H⟩ := H
 replace H : (if t270 = 0 then (if a0_0 = 48 then (if (t269.length : Int) = 2 then (if 0 < (t269.length : Int) then (pdu_read.j0 k t269 (((rd_T62 t269 0).f0) != 6)) else (none)) else (pdu_read.j0 k t269 true)) else (pdu_read.j0 k t269 true)) else (pdu_read.j0 k t269 true)) = some (r1, r2, r3, r4, r5) := H
 have A2 := Aside0.mk A20
 clear A20
 have HC3 := Aside0.mk H
 clear H
 go_enter Tryz.func38, Tryz.ntmps38
 go_upto_region 2 with (first | ((with_reducible refine gate_dst (N := 1) rfl ?_); (try (refine gate_guard (by rfl) ?_; dsimp only)); refine box_event ?hg (N := 1) ?hd (cs := #[.int .i64 a0_0, .string a0_1]) (t := 62) ?hr ?_; (case hd => rfl); (case hg => rfl); (case hr => exact Zq2); intro gb267 hg w4 hbox hb; have BK267 := Aside0.mk (hbox); have GW267 := Aside0.mk ((by rw [hg]; exact (below_size Zq13) : w.heap.size ≤ gb267)); have GE267 := Aside0.mk ((by rw [hg]; exact (below_size Zq13) : w.heap.size ≤ gb267)); replace HB := Aside0.mk (below_step Zq13 hb); clear hb hbox hg) | ((with_reducible refine gate_dst (N := 2) rfl ?_); (try (refine gate_guard (by rfl) ?_; dsimp only)); refine box_event ?hg (N := 2) ?hd (cs := #[.string (⟨#[]⟩ : ByteArray), .int .i64 0, .int .i64 0, .string (⟨#[]⟩ : ByteArray)]) (t := 40) ?hr ?_; (case hd => rfl); (case hg => rfl); (case hr => exact Zq2); intro gb268 hg w5 hbox hb; have BK268 := Aside0.mk (hbox); have GW268 := Aside0.mk ((by rw [hg]; exact (below_size Zq24) : w.heap.size ≤ gb268)); have GE268 := Aside0.mk ((by rw [hg]; exact (below_size Zq24) : w.heap.size ≤ gb268)); have NB267_268 := Aside0.mk ((by rw [hg]; exact Nat.ne_of_lt (blk_lt (g := gb267) (o := .cells #[.int .i64 a0_0, .string a0_1] 62 (0, 0)) Zq52) : gb267 ≠ gb268)); have NB268_267 := Aside0.mk ((by rw [hg]; exact Nat.ne_of_gt (blk_lt (g := gb267) (o := .cells #[.int .i64 a0_0, .string a0_1] 62 (0, 0)) Zq52) : gb268 ≠ gb267)); replace BK267 := Aside0.mk (blkb_ BK267.out Zq52 hb); replace HB := Aside0.mk (below_step Zq24 hb); clear hb hbox hg; have hnb6 := NB267_268.out; have hnc6 := NB268_267.out; obtain ⟨hcz7_0, hcz7_1⟩ := cells2_ BK267.out; obtain ⟨hfz7_0, hfz7_1⟩ := frozen2_ BK267.out) | ((with_reducible refine gate_callee (f := 26) rfl ?_); refine goesL_ (some 12) rfl rfl Tryz.func26 (by kernel_rfl) rfl #[.string a0_1] rfl Zq14 ?_; (with_reducible refine (ber_Parts.calls k a0_1 t269 t270 _ A2.out).mono ?_); rintro e w8 ⟨v271, rfl, ho0, hb⟩; refine ⟨_, rfl, ?_⟩; have HO272 := Aside0.mk (Kd.R_lower (Kd.R_newB ho0 (g := gb267) (o := .cells #[.int .i64 a0_0, .string a0_1] 62 (0, 0)) Zq52) (below_size Zq45)); replace BK267 := Aside0.mk (blkb_ BK267.out Zq52 hb); replace BK268 := Aside0.mk (blk_below (g := gb268) (o := .cells #[.string (⟨#[]⟩ : ByteArray), .int .i64 0, .int .i64 0, .string (⟨#[]⟩ : ByteArray)] 40 (0, 0)) Zq52 hb); replace HB := Aside0.mk (below_step Zq45 hb); (try clear hb); (try clear hb2); (try clear hk); (try clear hi); (try clear ho0)))
 (try simp only [Act.put, List.setIfInBounds_toArray, List.set_cons_zero, List.set_cons_succ])
 go_cut [33] (fun v33 wc => ∃ (kq : Nat) (x33_2 : Bool), v33 = .bool x33_2 ∧ Aside0 (pdu_read.j0 kq t269 x33_2 = some (r1, r2, r3, r4, r5)) ∧ Aside0 (kq ≤ k) ∧ Aside0 (Kd.R k62 62 wc w.heap.size (fun k_ => k_ ≠ gb267) v271 t269) ∧ Aside0 (wc.heap[gb267]? = some (.cells #[.int .i64 a0_0, .string a0_1] 62 (0, 0))) ∧ Aside0 (wc.heap[gb268]? = some (.cells #[.string (⟨#[]⟩ : ByteArray), .int .i64 0, .int .i64 0, .string (⟨#[]⟩ : ByteArray)] 40 (0, 0))) ∧ Aside0 (Below w.heap.size w wc))
 case first =>
  have H := HC3.out
  clear HC3
  by_cases c9 : t270 = 0
  ·rw [if_pos c9] at H
   have c9b0 : (t270 == 0) = true := beq_iff_eq.mpr c9
   have c9b1 : (t270 != 0) = false := bne_eq_false_iff_eq.mpr c9
   clear c9
   (first | rw [c9b0] | (simp only [i64_w, i32_w]; rw [c9b0]) | skip)
   by_cases c10 : a0_0 = 48
   ·rw [if_pos c10] at H
    have c10b0 : (a0_0 == 48) = true := beq_iff_eq.mpr c10
    have c10b1 : (a0_0 != 48) = false := bne_eq_false_iff_eq.mpr c10
    clear c10
    by_cases c11 : (t269.length : Int) = 2
    ·rw [if_pos c11] at H
     have c11b0 : ((t269.length : Int) == 2) = true := beq_iff_eq.mpr c11
     have c11b1 : ((t269.length : Int) != 2) = false := bne_eq_false_iff_eq.mpr c11
     clear c11
     by_cases c12 : 0 < (t269.length : Int)
     ·rw [if_pos c12] at H
      have c12b0 : decide (0 < (t269.length : Int)) = true := decide_eq_true c12
      have c12b1 : decide (0 < t269.length) = true := decide_eq_true (by omega)
      clear c12
      have H' := Aside0.mk H
      clear H
      have hnb13 := NB267_268.out
      have hnc13 := NB268_267.out
      obtain ⟨hcz14_0, hcz14_1⟩ := cells2_ BK267.out
      obtain ⟨hfz14_0, hfz14_1⟩ := frozen2_ BK267.out
      obtain ⟨Ao15, co15, eo15⟩ := Kd.R_slice HO272.out
      subst eo15
      have p273 : 0 ≤ (0 : Int) := (by omega)
      have q273 : 0 < (t269.length : Int) := of_decide_eq_true Zq1
      obtain ⟨ad273, e273, hx273_0, hx273_1⟩ := at_T62 (Kd.R_reads' HO272.out).2.2 0 p273 q273
      cases e273
      have qi273 : (0 < t269.length) = True := eq_true (by omega)
      (try rw [show ((0 : Int)).toNat = 0 from rfl] at hx273_0)
      (try rw [show 0 * 2 = 0 from rfl] at hx273_0)
      (try rw [Addr.add_zero'] at hx273_0)
      (try rw [show ((0 : Int)).toNat = 0 from rfl] at hx273_1)
      (try rw [show 0 * 2 = 0 from rfl] at hx273_1)
      (try rw [Addr.add_zero'] at hx273_1)
      replace p273 := eq_true p273
      replace q273 := eq_true q273
      go_wp2
      go_meet
      case rel => exact ⟨_, ((((rd_T62 t269 0).f0) != 6)), Zq12, H', ⟨Zy76⟩, ⟨Zy47⟩, ⟨Zy52⟩, ⟨Zy53⟩, ⟨Zy16⟩⟩
     ·rw [if_neg c12] at H
      exact absurd H (by simp)
    ·rw [if_neg c11] at H
     have c11b0 : ((t269.length : Int) == 2) = false := beq_eq_false_iff_ne.mpr c11
     have c11b1 : ((t269.length : Int) != 2) = true := bne_iff_ne.mpr c11
     have H' := Aside0.mk H
     clear H
     have hnb16 := NB267_268.out
     have hnc16 := NB268_267.out
     obtain ⟨hcz17_0, hcz17_1⟩ := cells2_ BK267.out
     obtain ⟨hfz17_0, hfz17_1⟩ := frozen2_ BK267.out
     obtain ⟨Ao18, co18, eo18⟩ := Kd.R_slice HO272.out
     subst eo18
     go_wp2
     go_meet
     case rel => exact ⟨_, (true), Zq12, H', ⟨Zy76⟩, ⟨Zy47⟩, ⟨Zy52⟩, ⟨Zy53⟩, ⟨Zy16⟩⟩
   ·rw [if_neg c10] at H
    have c10b0 : (a0_0 == 48) = false := beq_eq_false_iff_ne.mpr c10
    have c10b1 : (a0_0 != 48) = true := bne_iff_ne.mpr c10
    have H' := Aside0.mk H
    clear H
    have hnb19 := NB267_268.out
    have hnc19 := NB268_267.out
    obtain ⟨hcz20_0, hcz20_1⟩ := cells2_ BK267.out
    obtain ⟨hfz20_0, hfz20_1⟩ := frozen2_ BK267.out
    go_wp2
    go_meet
    case rel => exact ⟨_, (true), Zq12, H', ⟨Zy76⟩, ⟨Zy47⟩, ⟨Zy52⟩, ⟨Zy53⟩, ⟨Zy16⟩⟩
  ·rw [if_neg c9] at H
   have c9b0 : (t270 == 0) = false := beq_eq_false_iff_ne.mpr c9
   have c9b1 : (t270 != 0) = true := bne_iff_ne.mpr c9
   (first | rw [c9b0] | (simp only [i64_w, i32_w]; rw [c9b0]) | skip)
   have H' := Aside0.mk H
   clear H
   go_wp2
   go_meet
   case rel => exact ⟨_, (true), Zq12, H', ⟨Zy76⟩, ⟨Zy47⟩, ⟨Zy52⟩, ⟨Zy53⟩, ⟨Zy16⟩⟩
 case rest =>
  clear HC3
  (try clear c1); (try clear c2); (try clear p2); (try clear q2); (try clear hx2); (try clear qi2); (try clear c3); (try clear c6); (try clear c9); (try clear c9b0); (try clear c9b1); (try clear c10); (try clear c10b0); (try clear c10b1); (try clear c11); (try clear c11b0); (try clear c11b1); (try clear c12); (try clear c12b0); (try clear c12b1); (try clear c13); (try clear c16); (try clear c19); (try clear hcz14_0); (try clear hcz14_1); (try clear hcz17_0); (try clear hcz17_1); (try clear hcz20_0); (try clear hcz20_1); (try clear hcz7_0); (try clear hcz7_1); (try clear hfz14_0); (try clear hfz14_1); (try clear hfz17_0); (try clear hfz17_1); (try clear hfz20_0); (try clear hfz20_1); (try clear hfz7_0); (try clear hfz7_1); (try clear hx273_0); (try clear hx273_1); (try clear p273); (try clear q273)
  obtain ⟨kq, x33_2, rfl, HA, HJ2, HO_4, BK267, BK268, HB⟩ := hcut
  cases kq with
  | zero => exact absurd HA.out (by simp [pdu_read.j0])
  | succ kj2 =>
   have H := HA.out
   clear HA
   simp only [pdu_read.j0] at H
   by_cases c21 : x33_2 = true
   ·subst c21
    have H1 : (some ((⟨#[]⟩ : ByteArray), 0, 0, (⟨#[]⟩ : ByteArray), false)) = some (r1, r2, r3, r4, r5) := by rw [if_pos rfl] at H; exact H
    clear H
    have H := H1
    clear H1
    simp only [Option.some.injEq, Prod.mk.injEq] at H
    obtain ⟨rfl, rfl, rfl, rfl, rfl⟩ := H
    have hnb22 := NB268_267.out
    have hnc22 := NB267_268.out
    obtain ⟨hcz23_0, hcz23_1, hcz23_2, hcz23_3⟩ := cells4_ BK268.out
    obtain ⟨hfz23_0, hfz23_1, hfz23_2, hfz23_3⟩ := frozen4_ BK268.out
    go_wp2
    refine bodyPost_ret (results_ct rfl _ _ gb268 40 #[.string (⟨#[]⟩ : ByteArray), .int .i64 0, .int .i64 0, .string (⟨#[]⟩ : ByteArray)] (0, 0) _ rfl Zq57 Tryz.underlying40 rfl (by kernel_rfl)) rfl ?_
    exact ⟨Zy51, Zy16⟩
   ·replace c21 := Bool.eq_false_iff.mpr c21
    subst c21
    have H1 : (if 0 < (t269.length : Int) then ((oid_Decode.f kj2 ((rd_T62 t269 0).f1)).bind fun bt275 => (if 1 < (t269.length : Int) then ((value_Decode.f kj2 ((rd_T62 t269 1).f0) ((rd_T62 t269 1).f1)).bind fun bt278 => (if bt275.2 = 0 then (some (bt275.1, bt278.1, bt278.2.1, bt278.2.2.1, (bt278.2.2.2 == 0))) else (some (bt275.1, bt278.1, bt278.2.1, bt278.2.2.1, false)))) else (none))) else (none)) = some (r1, r2, r3, r4, r5) := by rw [if_neg (show ¬ (false = true) by decide)] at H; exact H
    clear H
    have H := H1
    clear H1
    by_cases c24 : 0 < (t269.length : Int)
    ·rw [if_pos c24] at H
     have c24b0 : decide (0 < (t269.length : Int)) = true := decide_eq_true c24
     have c24b1 : decide (0 < t269.length) = true := decide_eq_true (by omega)
     clear c24
     replace H := Option.bind_eq_some_iff.mp H
     obtain ⟨⟨t275, t276⟩, A250, H⟩ := H
     replace H : (if 1 < (t269.length : Int) then ((value_Decode.f kj2 ((rd_T62 t269 1).f0) ((rd_T62 t269 1).f1)).bind fun bt278 => (if t276 = 0 then (some (t275, bt278.1, bt278.2.1, bt278.2.2.1, (bt278.2.2.2 == 0))) else (some (t275, bt278.1, bt278.2.1, bt278.2.2.1, false)))) else (none)) = some (r1, r2, r3, r4, r5) := H
     have A25 := Aside0.mk A250
     clear A250
     by_cases c26 : 1 < (t269.length : Int)
     ·rw [if_pos c26] at H
      have c26b0 : decide (1 < (t269.length : Int)) = true := decide_eq_true c26
      have c26b1 : decide (1 < t269.length) = true := decide_eq_true (by omega)
      clear c26
      replace H := Option.bind_eq_some_iff.mp H
      obtain ⟨⟨t278, t279, t280, t281⟩, A270, H⟩ := H
      replace H : (if t276 = 0 then (some (t275, t278, t279, t280, (t281 == 0))) else (some (t275, t278, t279, t280, false))) = some (r1, r2, r3, r4, r5) := H
      have A27 := Aside0.mk A270
      clear A270
      by_cases c28 : t276 = 0
      ·rw [if_pos c28] at H
       have c28b0 : (t276 == 0) = true := beq_iff_eq.mpr c28
       have c28b1 : (t276 != 0) = false := bne_eq_false_iff_eq.mpr c28
       clear c28
       simp only [Option.some.injEq, Prod.mk.injEq] at H
       obtain ⟨rfl, rfl, rfl, rfl, rfl⟩ := H
       obtain ⟨Ao29, co29, eo29⟩ := Kd.R_slice HO_4.out
       subst eo29
       have p274 : 0 ≤ (0 : Int) := (by omega)
       have q274 : 0 < (t269.length : Int) := of_decide_eq_true Zq1
       obtain ⟨ad274, e274, hx274_0, hx274_1⟩ := at_T62 (Kd.R_reads' HO_4.out).2.2 0 p274 q274
       cases e274
       have qi274 : (0 < t269.length) = True := eq_true (by omega)
       (try rw [show ((0 : Int)).toNat = 0 from rfl] at hx274_0)
       (try rw [show 0 * 2 = 0 from rfl] at hx274_0)
       (try rw [Addr.add_zero'] at hx274_0)
       (try rw [show ((0 : Int)).toNat = 0 from rfl] at hx274_1)
       (try rw [show 0 * 2 = 0 from rfl] at hx274_1)
       (try rw [Addr.add_zero'] at hx274_1)
       replace p274 := eq_true p274
       replace q274 := eq_true q274
       go_wp2_with (first | ((with_reducible refine gate_callee (f := 54) rfl ?_); refine goesL_ (some 40) rfl rfl Tryz.func54 (by kernel_rfl) rfl #[.string ((rd_T62 t269 0).f1)] rfl Zq14 ?_; (with_reducible refine (oid_Decode.calls kj2 ((rd_T62 t269 0).f1) t275 t276 _ ?side1 A25.out).mono ?_); (case side1 => exact Zq71); rintro e w30 ⟨rfl, hb⟩; refine ⟨_, rfl, ?_⟩; replace HO_4 := Aside0.mk (Kd.R_below Zq6 hb); replace BK267 := Aside0.mk (blkb_ BK267.out Zq52 hb); replace BK268 := Aside0.mk (blk_below (g := gb268) (o := .cells #[.string (⟨#[]⟩ : ByteArray), .int .i64 0, .int .i64 0, .string (⟨#[]⟩ : ByteArray)] 40 (0, 0)) Zq52 hb); replace HB := Aside0.mk (below_step Zq45 hb); (try clear hb); (try clear hb2); (try clear hk); (try clear hi); have p277 : 0 ≤ (1 : Int) := (by omega); have q277 : 1 < (t269.length : Int) := of_decide_eq_true Zq1; obtain ⟨ad277, e277, hx277_0, hx277_1⟩ := at_T62 (Kd.R_reads' HO_4.out).2.2 1 p277 q277; obtain rfl : ad274 = ad277 := (by injection e277); (try simp only [show (1 : Int).toNat = 1 from rfl, Nat.reduceMul, Nat.reduceEqDiff, Go.Addr.add, ↓reduceIte] at hx277_0); (try simp only [show (1 : Int).toNat = 1 from rfl, Nat.reduceMul, Nat.reduceEqDiff, Go.Addr.add, ↓reduceIte] at hx277_1); have qi277 : (1 < t269.length) = True := eq_true (by omega); (try rw [show ((1 : Int)).toNat = 1 from rfl] at hx277_0); (try rw [show 1 * 2 = 2 from rfl] at hx277_0); (try rw [show ((1 : Int)).toNat = 1 from rfl] at hx277_1); (try rw [show 1 * 2 = 2 from rfl] at hx277_1); replace p277 := eq_true p277; replace q277 := eq_true q277) | ((with_reducible refine gate_callee (f := 55) rfl ?_); refine goesL_ (some 47) rfl rfl Tryz.func55 (by kernel_rfl) rfl #[.agg #[.int .i64 ((rd_T62 t269 1).f0), .string ((rd_T62 t269 1).f1)]] rfl Zq14 ?_; (with_reducible refine (value_Decode.calls kj2 ((rd_T62 t269 1).f0) ((rd_T62 t269 1).f1) t278 t279 t280 t281 _ ?side1 A27.out).mono ?_); (case side1 => exact Zq71); rintro e w31 ⟨rfl, hb⟩; refine ⟨_, rfl, ?_⟩; replace HO_4 := Aside0.mk (Kd.R_below Zq6 hb); replace BK267 := Aside0.mk (blkb_ BK267.out Zq52 hb); replace BK268 := Aside0.mk (blk_below (g := gb268) (o := .cells #[.string (⟨#[]⟩ : ByteArray), .int .i64 0, .int .i64 0, .string (⟨#[]⟩ : ByteArray)] 40 (0, 0)) Zq52 hb); replace HB := Aside0.mk (below_step Zq45 hb); (try clear hb); (try clear hb2); (try clear hk); (try clear hi)) | ((with_reducible refine gate_dst (N := 7) rfl ?_); (try (refine gate_guard (by rfl) ?_; dsimp only)); refine box_event ?hg (N := 7) ?hd (cs := #[.int .i64 0, .int .i64 0, .string (⟨#[]⟩ : ByteArray)]) (t := 38) ?hr ?_; (case hd => rfl); (case hg => rfl); (case hr => exact Zq2); intro gb282 hg w32 hbox hb; have BK282 := Aside0.mk (hbox); have GW282 := Aside0.mk ((by rw [hg]; exact (below_size Zq45) : w.heap.size ≤ gb282)); have GE282 := Aside0.mk ((by rw [hg]; exact (below_size Zq45) : w.heap.size ≤ gb282)); have NB267_282 := Aside0.mk ((by rw [hg]; exact Nat.ne_of_lt (blk_lt (g := gb267) (o := .cells #[.int .i64 a0_0, .string a0_1] 62 (0, 0)) Zq52) : gb267 ≠ gb282)); have NB282_267 := Aside0.mk ((by rw [hg]; exact Nat.ne_of_gt (blk_lt (g := gb267) (o := .cells #[.int .i64 a0_0, .string a0_1] 62 (0, 0)) Zq52) : gb282 ≠ gb267)); have NB268_282 := Aside0.mk ((by rw [hg]; exact Nat.ne_of_lt (blk_lt (g := gb268) (o := .cells #[.string (⟨#[]⟩ : ByteArray), .int .i64 0, .int .i64 0, .string (⟨#[]⟩ : ByteArray)] 40 (0, 0)) Zq52) : gb268 ≠ gb282)); have NB282_268 := Aside0.mk ((by rw [hg]; exact Nat.ne_of_gt (blk_lt (g := gb268) (o := .cells #[.string (⟨#[]⟩ : ByteArray), .int .i64 0, .int .i64 0, .string (⟨#[]⟩ : ByteArray)] 40 (0, 0)) Zq52) : gb282 ≠ gb268)); replace HO_4 := Aside0.mk (Kd.R_below Zq6 hb); replace BK267 := Aside0.mk (blkb_ BK267.out Zq52 hb); replace BK268 := Aside0.mk (blk_below (g := gb268) (o := .cells #[.string (⟨#[]⟩ : ByteArray), .int .i64 0, .int .i64 0, .string (⟨#[]⟩ : ByteArray)] 40 (0, 0)) Zq52 hb); replace HB := Aside0.mk (below_step Zq45 hb); clear hb hbox hg; have hnb33 := NB282_267.out; have hnc33 := NB267_282.out; have hnb34 := NB282_268.out; have hnc34 := NB268_282.out; obtain ⟨hcz35_0, hcz35_1, hcz35_2⟩ := cells3_ BK282.out; obtain ⟨hfz35_0, hfz35_1, hfz35_2⟩ := frozen3_ BK282.out; have hnb36 := NB268_267.out; have hnc36 := NB267_268.out; obtain ⟨hcz37_0, hcz37_1, hcz37_2, hcz37_3⟩ := cells4_ BK268.out; obtain ⟨hfz37_0, hfz37_1, hfz37_2, hfz37_3⟩ := frozen4_ BK268.out))
       refine bodyPost_ret (results_ct rfl _ _ gb268 40 #[.string t275, .int .i64 t278, .int .i64 t279, .string t280] (0, 0) _ rfl Zq57 Tryz.underlying40 rfl (by kernel_rfl)) rfl ?_
       exact ⟨Zy51, Zy14⟩
      ·rw [if_neg c28] at H
       have c28b0 : (t276 == 0) = false := beq_eq_false_iff_ne.mpr c28
       have c28b1 : (t276 != 0) = true := bne_iff_ne.mpr c28
       simp only [Option.some.injEq, Prod.mk.injEq] at H
       obtain ⟨rfl, rfl, rfl, rfl, rfl⟩ := H
       obtain ⟨Ao38, co38, eo38⟩ := Kd.R_slice HO_4.out
       subst eo38
       have p274 : 0 ≤ (0 : Int) := (by omega)
       have q274 : 0 < (t269.length : Int) := of_decide_eq_true Zq1
       obtain ⟨ad274, e274, hx274_0, hx274_1⟩ := at_T62 (Kd.R_reads' HO_4.out).2.2 0 p274 q274
       cases e274
       have qi274 : (0 < t269.length) = True := eq_true (by omega)
       (try rw [show ((0 : Int)).toNat = 0 from rfl] at hx274_0)
       (try rw [show 0 * 2 = 0 from rfl] at hx274_0)
       (try rw [Addr.add_zero'] at hx274_0)
       (try rw [show ((0 : Int)).toNat = 0 from rfl] at hx274_1)
       (try rw [show 0 * 2 = 0 from rfl] at hx274_1)
       (try rw [Addr.add_zero'] at hx274_1)
       replace p274 := eq_true p274
       replace q274 := eq_true q274
       go_wp2_with (first | ((with_reducible refine gate_callee (f := 54) rfl ?_); refine goesL_ (some 40) rfl rfl Tryz.func54 (by kernel_rfl) rfl #[.string ((rd_T62 t269 0).f1)] rfl Zq14 ?_; (with_reducible refine (oid_Decode.calls kj2 ((rd_T62 t269 0).f1) t275 t276 _ ?side1 A25.out).mono ?_); (case side1 => exact Zq71); rintro e w39 ⟨rfl, hb⟩; refine ⟨_, rfl, ?_⟩; replace HO_4 := Aside0.mk (Kd.R_below Zq6 hb); replace BK267 := Aside0.mk (blkb_ BK267.out Zq52 hb); replace BK268 := Aside0.mk (blk_below (g := gb268) (o := .cells #[.string (⟨#[]⟩ : ByteArray), .int .i64 0, .int .i64 0, .string (⟨#[]⟩ : ByteArray)] 40 (0, 0)) Zq52 hb); replace HB := Aside0.mk (below_step Zq45 hb); (try clear hb); (try clear hb2); (try clear hk); (try clear hi); have p277 : 0 ≤ (1 : Int) := (by omega); have q277 : 1 < (t269.length : Int) := of_decide_eq_true Zq1; obtain ⟨ad277, e277, hx277_0, hx277_1⟩ := at_T62 (Kd.R_reads' HO_4.out).2.2 1 p277 q277; obtain rfl : ad274 = ad277 := (by injection e277); (try simp only [show (1 : Int).toNat = 1 from rfl, Nat.reduceMul, Nat.reduceEqDiff, Go.Addr.add, ↓reduceIte] at hx277_0); (try simp only [show (1 : Int).toNat = 1 from rfl, Nat.reduceMul, Nat.reduceEqDiff, Go.Addr.add, ↓reduceIte] at hx277_1); have qi277 : (1 < t269.length) = True := eq_true (by omega); (try rw [show ((1 : Int)).toNat = 1 from rfl] at hx277_0); (try rw [show 1 * 2 = 2 from rfl] at hx277_0); (try rw [show ((1 : Int)).toNat = 1 from rfl] at hx277_1); (try rw [show 1 * 2 = 2 from rfl] at hx277_1); replace p277 := eq_true p277; replace q277 := eq_true q277) | ((with_reducible refine gate_callee (f := 55) rfl ?_); refine goesL_ (some 47) rfl rfl Tryz.func55 (by kernel_rfl) rfl #[.agg #[.int .i64 ((rd_T62 t269 1).f0), .string ((rd_T62 t269 1).f1)]] rfl Zq14 ?_; (with_reducible refine (value_Decode.calls kj2 ((rd_T62 t269 1).f0) ((rd_T62 t269 1).f1) t278 t279 t280 t281 _ ?side1 A27.out).mono ?_); (case side1 => exact Zq71); rintro e w40 ⟨rfl, hb⟩; refine ⟨_, rfl, ?_⟩; replace HO_4 := Aside0.mk (Kd.R_below Zq6 hb); replace BK267 := Aside0.mk (blkb_ BK267.out Zq52 hb); replace BK268 := Aside0.mk (blk_below (g := gb268) (o := .cells #[.string (⟨#[]⟩ : ByteArray), .int .i64 0, .int .i64 0, .string (⟨#[]⟩ : ByteArray)] 40 (0, 0)) Zq52 hb); replace HB := Aside0.mk (below_step Zq45 hb); (try clear hb); (try clear hb2); (try clear hk); (try clear hi)) | ((with_reducible refine gate_dst (N := 7) rfl ?_); (try (refine gate_guard (by rfl) ?_; dsimp only)); refine box_event ?hg (N := 7) ?hd (cs := #[.int .i64 0, .int .i64 0, .string (⟨#[]⟩ : ByteArray)]) (t := 38) ?hr ?_; (case hd => rfl); (case hg => rfl); (case hr => exact Zq2); intro gb282 hg w41 hbox hb; have BK282 := Aside0.mk (hbox); have GW282 := Aside0.mk ((by rw [hg]; exact (below_size Zq45) : w.heap.size ≤ gb282)); have GE282 := Aside0.mk ((by rw [hg]; exact (below_size Zq45) : w.heap.size ≤ gb282)); have NB267_282 := Aside0.mk ((by rw [hg]; exact Nat.ne_of_lt (blk_lt (g := gb267) (o := .cells #[.int .i64 a0_0, .string a0_1] 62 (0, 0)) Zq52) : gb267 ≠ gb282)); have NB282_267 := Aside0.mk ((by rw [hg]; exact Nat.ne_of_gt (blk_lt (g := gb267) (o := .cells #[.int .i64 a0_0, .string a0_1] 62 (0, 0)) Zq52) : gb282 ≠ gb267)); have NB268_282 := Aside0.mk ((by rw [hg]; exact Nat.ne_of_lt (blk_lt (g := gb268) (o := .cells #[.string (⟨#[]⟩ : ByteArray), .int .i64 0, .int .i64 0, .string (⟨#[]⟩ : ByteArray)] 40 (0, 0)) Zq52) : gb268 ≠ gb282)); have NB282_268 := Aside0.mk ((by rw [hg]; exact Nat.ne_of_gt (blk_lt (g := gb268) (o := .cells #[.string (⟨#[]⟩ : ByteArray), .int .i64 0, .int .i64 0, .string (⟨#[]⟩ : ByteArray)] 40 (0, 0)) Zq52) : gb282 ≠ gb268)); replace HO_4 := Aside0.mk (Kd.R_below Zq6 hb); replace BK267 := Aside0.mk (blkb_ BK267.out Zq52 hb); replace BK268 := Aside0.mk (blk_below (g := gb268) (o := .cells #[.string (⟨#[]⟩ : ByteArray), .int .i64 0, .int .i64 0, .string (⟨#[]⟩ : ByteArray)] 40 (0, 0)) Zq52 hb); replace HB := Aside0.mk (below_step Zq45 hb); clear hb hbox hg; have hnb42 := NB282_267.out; have hnc42 := NB267_282.out; have hnb43 := NB282_268.out; have hnc43 := NB268_282.out; obtain ⟨hcz44_0, hcz44_1, hcz44_2⟩ := cells3_ BK282.out; obtain ⟨hfz44_0, hfz44_1, hfz44_2⟩ := frozen3_ BK282.out; have hnb45 := NB268_267.out; have hnc45 := NB267_268.out; obtain ⟨hcz46_0, hcz46_1, hcz46_2, hcz46_3⟩ := cells4_ BK268.out; obtain ⟨hfz46_0, hfz46_1, hfz46_2, hfz46_3⟩ := frozen4_ BK268.out))
       refine bodyPost_ret (results_ct rfl _ _ gb268 40 #[.string t275, .int .i64 t278, .int .i64 t279, .string t280] (0, 0) _ rfl Zq57 Tryz.underlying40 rfl (by kernel_rfl)) rfl ?_
       exact ⟨Zy51, Zy14⟩
     ·rw [if_neg c26] at H
      exact absurd H (by simp)
    ·rw [if_neg c24] at H
     exact absurd H (by simp)
end Go.Proofs.YtfmhghlmljlfgaaGreatDoor.XTrS
