-- Laid by extprint.py (the session's own driver): functions told by the kit's printer and by hand.
import Derived.Test.YtfgdnnbhlnbojaaGreatDoorXPdRx0
import Derived.Test.YtfgdnnbhlnbojaaGreatDoorXPdRx9
import Derived.Test.YtfgdnnbhlnbojaaGreatDoorXPdRx10
import Derived.Test.YtfgdnnbhlnbojaaGreatDoorXPdRx11
namespace Go.Proofs.YtfgdnnbhlnbojaaGreatDoor.XPdR
open Go.RowKit Gong Go.Proofs.YtfgdnnbhlnbojaaGreatDoorW.PrintWords Go.Proofs.YtfgdnnbhlnbojaaGreatDoorW.PrintLast Go.Proofs.YtfgdnnbhlnbojaaGreatDoorW.PrintMore
attribute [local go_sem] max2_int min2_int max_two min_two max_three min_three max_four min_four   -- for this text's walks alone
set_option linter.unusedVariables false
set_option linter.unusedSimpArgs false
def pdu_read.j0 : Nat → List (S47) → Bool → Option (ByteArray × Int × Int × ByteArray × Bool)
 | 0, _, _ => none
 | k + 1, x4, x33 => if x33 = true then (some ((⟨#[]⟩ : ByteArray), 0, 0, (⟨#[]⟩ : ByteArray), false)) else (if 0 < (x4.length : Int) then ((oid_Decode.f k ((rd_T47 x4 0).f1)).bind fun bt254 => (if 1 < (x4.length : Int) then ((value_Decode.f k ((rd_T47 x4 1).f0) ((rd_T47 x4 1).f1)).bind fun bt257 => (if bt254.2 = 0 then (some (bt254.1, bt257.1, bt257.2.1, bt257.2.2.1, (bt257.2.2.2 == 0))) else (some (bt254.1, bt257.1, bt257.2.1, bt257.2.2.1, false)))) else (none))) else (none))
def pdu_read.f (k : Nat) (a0_0 : Int) (a0_1 : ByteArray) : Option (ByteArray × Int × Int × ByteArray × Bool) := (ber_Parts.f k a0_1).bind fun bt248 => (if bt248.2 = 0 then (if a0_0 = 48 then (if (bt248.1.length : Int) = 2 then (if 0 < (bt248.1.length : Int) then (pdu_read.j0 k bt248.1 (((rd_T47 bt248.1 0).f0) != 6)) else (none)) else (pdu_read.j0 k bt248.1 true)) else (pdu_read.j0 k bt248.1 true)) else (pdu_read.j0 k bt248.1 true))
theorem pdu_read.mono_l : ∀ k, (∀ y0 y1, LeO (pdu_read.j0 k y0 y1) (pdu_read.j0 (k + 1) y0 y1))
 | 0 => fun _ _ r h => by simp [pdu_read.j0] at h
 | k + 1 => by
  have ih0 := pdu_read.mono_l k
  ·intro y0 y1
   unfold pdu_read.j0
   repeat' first
   | (with_reducible exact ih0 _ _)
   | (with_reducible exact ber_Parts.mono _ _)
   | (with_reducible exact oid_Decode.mono _ _)
   | (with_reducible exact value_Decode.mono _ _ _)
   | (with_reducible exact LeO.refl _)
   | (with_reducible exact LeO.none _)
   | (with_reducible refine LeO.ite ?_ ?_)
   | (with_reducible refine LeO.bind ?_ (fun _ => ?_))
   | exact ih0 _ _
   | exact ber_Parts.mono _ _
   | exact oid_Decode.mono _ _
   | exact value_Decode.mono _ _ _
   | exact LeO.none _
   | refine LeO.ite ?_ ?_
   | refine LeO.bind ?_ (fun _ => ?_)
theorem pdu_read.mono : ∀ a0 a1 k, LeO (pdu_read.f k a0 a1) (pdu_read.f (k + 1) a0 a1) := by
 intro a0 a1 k
 have ih0 := pdu_read.mono_l k
 unfold pdu_read.f
 repeat' first
   | (with_reducible exact ih0 _ _)
   | (with_reducible exact ber_Parts.mono _ _)
   | (with_reducible exact oid_Decode.mono _ _)
   | (with_reducible exact value_Decode.mono _ _ _)
   | (with_reducible exact LeO.refl _)
   | (with_reducible exact LeO.none _)
   | (with_reducible refine LeO.ite ?_ ?_)
   | (with_reducible refine LeO.bind ?_ (fun _ => ?_))
   | exact ih0 _ _
   | exact ber_Parts.mono _ _
   | exact oid_Decode.mono _ _
   | exact value_Decode.mono _ _ _
   | exact LeO.none _
   | refine LeO.ite ?_ ?_
   | refine LeO.bind ?_ (fun _ => ?_)
set_option maxHeartbeats 8000000 in
set_option maxRecDepth 100000 in
theorem pdu_read.calls (k : Nat) (a0_0 : Int) (a0_1 : ByteArray) (r1 : ByteArray) (r2 : Int) (r3 : Int) (r4 : ByteArray) (r5 : Bool) (w : World) (hG : Gl w) (h : pdu_read.f k a0_0 a0_1 = some (r1, r2, r3, r4, r5)) :
  Calls Tryz.prog 34 #[.agg #[.int .i64 a0_0, .string a0_1]] w fun e w' => e = .returned (.tuple #[.agg #[.string r1, .int .i64 r2, .int .i64 r3, .string r4], .bool r5]) ∧ Below w.heap.size w w' := by
 have HGl := Aside0.mk hG
 clear hG
 have hu47 := Tryz.underlying47
 have hu30 := Tryz.underlying30
 have hu28 := Tryz.underlying28
 have HB := Aside0.mk (Below.refl w.heap.size w)
 have H : ((ber_Parts.f k a0_1).bind fun bt248 => (if bt248.2 = 0 then (if a0_0 = 48 then (if (bt248.1.length : Int) = 2 then (if 0 < (bt248.1.length : Int) then (pdu_read.j0 k bt248.1 (((rd_T47 bt248.1 0).f0) != 6)) else (none)) else (pdu_read.j0 k bt248.1 true)) else (pdu_read.j0 k bt248.1 true)) else (pdu_read.j0 k bt248.1 true))) = some (r1, r2, r3, r4, r5) := h
 clear h
 replace H := Option.bind_eq_some_iff.mp H
 obtain ⟨⟨t248, t249⟩, A20, H⟩ := H
 replace H : (if t249 = 0 then (if a0_0 = 48 then (if (t248.length : Int) = 2 then (if 0 < (t248.length : Int) then (pdu_read.j0 k t248 (((rd_T47 t248 0).f0) != 6)) else (none)) else (pdu_read.j0 k t248 true)) else (pdu_read.j0 k t248 true)) else (pdu_read.j0 k t248 true)) = some (r1, r2, r3, r4, r5) := H
 have A2 := Aside0.mk A20
 clear A20
 have HC3 := Aside0.mk H
 clear H
 go_enter Tryz.func34, Tryz.ntmps34
 go_upto_region 2 with (first | ((with_reducible refine gate_dst (N := 1) rfl ?_); (try (refine gate_guard (by rfl) ?_; dsimp only)); refine box_event ?hg (N := 1) ?hd (cs := #[.int .i64 a0_0, .string a0_1]) (t := 47) ?hr ?_; (case hd => rfl); (case hg => rfl); (case hr => exact Zq2); intro gb246 hg w4 hbox hb; have BK246 := Aside0.mk (hbox); have GW246 := Aside0.mk ((by rw [hg]; exact (below_size Zq12) : w.heap.size ≤ gb246)); have GE246 := Aside0.mk ((by rw [hg]; exact (below_size Zq12) : w.heap.size ≤ gb246)); replace HB := Aside0.mk (below_step Zq12 hb); clear hb hbox hg) | ((with_reducible refine gate_dst (N := 2) rfl ?_); (try (refine gate_guard (by rfl) ?_; dsimp only)); refine box_event ?hg (N := 2) ?hd (cs := #[.string (⟨#[]⟩ : ByteArray), .int .i64 0, .int .i64 0, .string (⟨#[]⟩ : ByteArray)]) (t := 30) ?hr ?_; (case hd => rfl); (case hg => rfl); (case hr => exact Zq2); intro gb247 hg w5 hbox hb; have BK247 := Aside0.mk (hbox); have GW247 := Aside0.mk ((by rw [hg]; exact (below_size Zq21) : w.heap.size ≤ gb247)); have GE247 := Aside0.mk ((by rw [hg]; exact (below_size Zq21) : w.heap.size ≤ gb247)); have NB246_247 := Aside0.mk ((by rw [hg]; exact Nat.ne_of_lt (blk_lt (g := gb246) (o := .cells #[.int .i64 a0_0, .string a0_1] 47 (0, 0)) Zq31) : gb246 ≠ gb247)); have NB247_246 := Aside0.mk ((by rw [hg]; exact Nat.ne_of_gt (blk_lt (g := gb246) (o := .cells #[.int .i64 a0_0, .string a0_1] 47 (0, 0)) Zq31) : gb247 ≠ gb246)); replace BK246 := Aside0.mk (blkb_ BK246.out Zq31 hb); replace HB := Aside0.mk (below_step Zq21 hb); clear hb hbox hg; have hnb6 := NB246_247.out; have hnc6 := NB247_246.out; obtain ⟨hcz7_0, hcz7_1⟩ := cells2_ BK246.out; obtain ⟨hfz7_0, hfz7_1⟩ := frozen2_ BK246.out) | ((with_reducible refine gate_callee (f := 32) rfl ?_); refine goesL_ (some 12) rfl rfl Tryz.func32 (by kernel_rfl) rfl #[.string a0_1] rfl Zq13 ?_; (with_reducible refine (ber_Parts.calls k a0_1 t248 t249 _ A2.out).mono ?_); rintro e w8 ⟨v250, rfl, ho0, hb⟩; refine ⟨_, rfl, ?_⟩; have HO251 := Aside0.mk (Kd.R_lower (Kd.R_newB ho0 (g := gb246) (o := .cells #[.int .i64 a0_0, .string a0_1] 47 (0, 0)) Zq31) (below_size Zq38)); replace BK246 := Aside0.mk (blkb_ BK246.out Zq31 hb); replace BK247 := Aside0.mk (blk_below (g := gb247) (o := .cells #[.string (⟨#[]⟩ : ByteArray), .int .i64 0, .int .i64 0, .string (⟨#[]⟩ : ByteArray)] 30 (0, 0)) Zq31 hb); replace HB := Aside0.mk (below_step Zq38 hb); (try clear hb); (try clear hb2); (try clear hk); (try clear hi); (try clear ho0)))
 (try simp only [Act.put, List.setIfInBounds_toArray, List.set_cons_zero, List.set_cons_succ])
 go_cut [33] (fun v33 wc => ∃ (kq : Nat) (x33_2 : Bool), v33 = .bool x33_2 ∧ Aside0 (pdu_read.j0 kq t248 x33_2 = some (r1, r2, r3, r4, r5)) ∧ Aside0 (kq ≤ k) ∧ Aside0 (Kd.R k47 47 wc w.heap.size (fun k_ => k_ ≠ gb246) v250 t248) ∧ Aside0 (wc.heap[gb246]? = some (.cells #[.int .i64 a0_0, .string a0_1] 47 (0, 0))) ∧ Aside0 (wc.heap[gb247]? = some (.cells #[.string (⟨#[]⟩ : ByteArray), .int .i64 0, .int .i64 0, .string (⟨#[]⟩ : ByteArray)] 30 (0, 0))) ∧ Aside0 (Below w.heap.size w wc))
 case first =>
  have H := HC3.out
  clear HC3
  by_cases c9 : t249 = 0
  ·rw [if_pos c9] at H
   have c9b0 : (t249 == 0) = true := beq_iff_eq.mpr c9
   have c9b1 : (t249 != 0) = false := bne_eq_false_iff_eq.mpr c9
   clear c9
   (first | rw [c9b0] | (simp only [i64_w, i32_w]; rw [c9b0]) | skip)
   by_cases c10 : a0_0 = 48
   ·rw [if_pos c10] at H
    have c10b0 : (a0_0 == 48) = true := beq_iff_eq.mpr c10
    have c10b1 : (a0_0 != 48) = false := bne_eq_false_iff_eq.mpr c10
    clear c10
    by_cases c11 : (t248.length : Int) = 2
    ·rw [if_pos c11] at H
     have c11b0 : ((t248.length : Int) == 2) = true := beq_iff_eq.mpr c11
     have c11b1 : ((t248.length : Int) != 2) = false := bne_eq_false_iff_eq.mpr c11
     clear c11
     by_cases c12 : 0 < (t248.length : Int)
     ·rw [if_pos c12] at H
      have c12b0 : decide (0 < (t248.length : Int)) = true := decide_eq_true c12
      have c12b1 : decide (0 < t248.length) = true := decide_eq_true (by omega)
      clear c12
      have H' := Aside0.mk H
      clear H
      have hnb13 := NB246_247.out
      have hnc13 := NB247_246.out
      obtain ⟨hcz14_0, hcz14_1⟩ := cells2_ BK246.out
      obtain ⟨hfz14_0, hfz14_1⟩ := frozen2_ BK246.out
      obtain ⟨Ao15, co15, eo15⟩ := Kd.R_slice HO251.out
      subst eo15
      have p252 : 0 ≤ (0 : Int) := (by omega)
      have q252 : 0 < (t248.length : Int) := of_decide_eq_true Zq1
      obtain ⟨ad252, e252, hx252_0, hx252_1⟩ := at_T47 (Kd.R_reads' HO251.out).2.2 0 p252 q252
      cases e252
      have qi252 : (0 < t248.length) = True := eq_true (by omega)
      (try rw [show ((0 : Int)).toNat = 0 from rfl] at hx252_0)
      (try rw [show 0 * 2 = 0 from rfl] at hx252_0)
      (try rw [Addr.add_zero'] at hx252_0)
      (try rw [show ((0 : Int)).toNat = 0 from rfl] at hx252_1)
      (try rw [show 0 * 2 = 0 from rfl] at hx252_1)
      (try rw [Addr.add_zero'] at hx252_1)
      replace p252 := eq_true p252
      replace q252 := eq_true q252
      go_wp2
      go_meet
      case rel => exact ⟨_, ((((rd_T47 t248 0).f0) != 6)), Zq11, H', ⟨Zy61⟩, ⟨Zy37⟩, ⟨Zy42⟩, ⟨Zy43⟩, ⟨Zy8⟩⟩
     ·rw [if_neg c12] at H
      exact absurd H (by simp)
    ·rw [if_neg c11] at H
     have c11b0 : ((t248.length : Int) == 2) = false := beq_eq_false_iff_ne.mpr c11
     have c11b1 : ((t248.length : Int) != 2) = true := bne_iff_ne.mpr c11
     have H' := Aside0.mk H
     clear H
     have hnb16 := NB246_247.out
     have hnc16 := NB247_246.out
     obtain ⟨hcz17_0, hcz17_1⟩ := cells2_ BK246.out
     obtain ⟨hfz17_0, hfz17_1⟩ := frozen2_ BK246.out
     obtain ⟨Ao18, co18, eo18⟩ := Kd.R_slice HO251.out
     subst eo18
     go_wp2
     go_meet
     case rel => exact ⟨_, (true), Zq11, H', ⟨Zy61⟩, ⟨Zy37⟩, ⟨Zy42⟩, ⟨Zy43⟩, ⟨Zy8⟩⟩
   ·rw [if_neg c10] at H
    have c10b0 : (a0_0 == 48) = false := beq_eq_false_iff_ne.mpr c10
    have c10b1 : (a0_0 != 48) = true := bne_iff_ne.mpr c10
    have H' := Aside0.mk H
    clear H
    have hnb19 := NB246_247.out
    have hnc19 := NB247_246.out
    obtain ⟨hcz20_0, hcz20_1⟩ := cells2_ BK246.out
    obtain ⟨hfz20_0, hfz20_1⟩ := frozen2_ BK246.out
    go_wp2
    go_meet
    case rel => exact ⟨_, (true), Zq11, H', ⟨Zy61⟩, ⟨Zy37⟩, ⟨Zy42⟩, ⟨Zy43⟩, ⟨Zy8⟩⟩
  ·rw [if_neg c9] at H
   have c9b0 : (t249 == 0) = false := beq_eq_false_iff_ne.mpr c9
   have c9b1 : (t249 != 0) = true := bne_iff_ne.mpr c9
   (first | rw [c9b0] | (simp only [i64_w, i32_w]; rw [c9b0]) | skip)
   have H' := Aside0.mk H
   clear H
   go_wp2
   go_meet
   case rel => exact ⟨_, (true), Zq11, H', ⟨Zy61⟩, ⟨Zy37⟩, ⟨Zy42⟩, ⟨Zy43⟩, ⟨Zy8⟩⟩
 case rest =>
  clear HC3
  (try clear c1); (try clear p2); (try clear q2); (try clear hx2); (try clear qi2); (try clear c3); (try clear c6); (try clear c9); (try clear c9b0); (try clear c9b1); (try clear c10); (try clear c10b0); (try clear c10b1); (try clear c11); (try clear c11b0); (try clear c11b1); (try clear c12); (try clear c12b0); (try clear c12b1); (try clear c13); (try clear c16); (try clear c19); (try clear hcz14_0); (try clear hcz14_1); (try clear hcz17_0); (try clear hcz17_1); (try clear hcz20_0); (try clear hcz20_1); (try clear hcz7_0); (try clear hcz7_1); (try clear hfz14_0); (try clear hfz14_1); (try clear hfz17_0); (try clear hfz17_1); (try clear hfz20_0); (try clear hfz20_1); (try clear hfz7_0); (try clear hfz7_1); (try clear hx252_0); (try clear hx252_1); (try clear p252); (try clear q252)
  obtain ⟨kq, x33_2, rfl, HA, HJ2, HO_4, BK246, BK247, HB⟩ := hcut
  cases kq with
  | zero => exact absurd HA.out (by simp [pdu_read.j0])
  | succ kj2 =>
   have H := HA.out
   clear HA
   simp only [pdu_read.j0] at H
   by_cases c21 : x33_2 = true
   ·subst c21
    have H1 : (some ((⟨#[]⟩ : ByteArray), 0, 0, (⟨#[]⟩ : ByteArray), false)) = some (r1, r2, r3, r4, r5) := by rw [if_pos rfl] at H; exact H
    clear H
    have H := H1
    clear H1
    simp only [Option.some.injEq, Prod.mk.injEq] at H
    obtain ⟨rfl, rfl, rfl, rfl, rfl⟩ := H
    have hnb22 := NB247_246.out
    have hnc22 := NB246_247.out
    obtain ⟨hcz23_0, hcz23_1, hcz23_2, hcz23_3⟩ := cells4_ BK247.out
    obtain ⟨hfz23_0, hfz23_1, hfz23_2, hfz23_3⟩ := frozen4_ BK247.out
    go_wp2
    refine bodyPost_ret (results_ct rfl _ _ gb247 30 #[.string (⟨#[]⟩ : ByteArray), .int .i64 0, .int .i64 0, .string (⟨#[]⟩ : ByteArray)] (0, 0) _ rfl Zq47 Tryz.underlying30 rfl (by kernel_rfl)) rfl ?_
    exact ⟨Zy41, Zy8⟩
   ·replace c21 := Bool.eq_false_iff.mpr c21
    subst c21
    have H1 : (if 0 < (t248.length : Int) then ((oid_Decode.f kj2 ((rd_T47 t248 0).f1)).bind fun bt254 => (if 1 < (t248.length : Int) then ((value_Decode.f kj2 ((rd_T47 t248 1).f0) ((rd_T47 t248 1).f1)).bind fun bt257 => (if bt254.2 = 0 then (some (bt254.1, bt257.1, bt257.2.1, bt257.2.2.1, (bt257.2.2.2 == 0))) else (some (bt254.1, bt257.1, bt257.2.1, bt257.2.2.1, false)))) else (none))) else (none)) = some (r1, r2, r3, r4, r5) := by rw [if_neg (show ¬ (false = true) by decide)] at H; exact H
    clear H
    have H := H1
    clear H1
    by_cases c24 : 0 < (t248.length : Int)
    ·rw [if_pos c24] at H
     have c24b0 : decide (0 < (t248.length : Int)) = true := decide_eq_true c24
     have c24b1 : decide (0 < t248.length) = true := decide_eq_true (by omega)
     clear c24
     replace H := Option.bind_eq_some_iff.mp H
     obtain ⟨⟨t254, t255⟩, A250, H⟩ := H
     replace H : (if 1 < (t248.length : Int) then ((value_Decode.f kj2 ((rd_T47 t248 1).f0) ((rd_T47 t248 1).f1)).bind fun bt257 => (if t255 = 0 then (some (t254, bt257.1, bt257.2.1, bt257.2.2.1, (bt257.2.2.2 == 0))) else (some (t254, bt257.1, bt257.2.1, bt257.2.2.1, false)))) else (none)) = some (r1, r2, r3, r4, r5) := H
     have A25 := Aside0.mk A250
     clear A250
     by_cases c26 : 1 < (t248.length : Int)
     ·rw [if_pos c26] at H
      have c26b0 : decide (1 < (t248.length : Int)) = true := decide_eq_true c26
      have c26b1 : decide (1 < t248.length) = true := decide_eq_true (by omega)
      clear c26
      replace H := Option.bind_eq_some_iff.mp H
      obtain ⟨⟨t257, t258, t259, t260⟩, A270, H⟩ := H
      replace H : (if t255 = 0 then (some (t254, t257, t258, t259, (t260 == 0))) else (some (t254, t257, t258, t259, false))) = some (r1, r2, r3, r4, r5) := H
      have A27 := Aside0.mk A270
      clear A270
      by_cases c28 : t255 = 0
      ·rw [if_pos c28] at H
       have c28b0 : (t255 == 0) = true := beq_iff_eq.mpr c28
       have c28b1 : (t255 != 0) = false := bne_eq_false_iff_eq.mpr c28
       clear c28
       simp only [Option.some.injEq, Prod.mk.injEq] at H
       obtain ⟨rfl, rfl, rfl, rfl, rfl⟩ := H
       obtain ⟨Ao29, co29, eo29⟩ := Kd.R_slice HO_4.out
       subst eo29
       have p253 : 0 ≤ (0 : Int) := (by omega)
       have q253 : 0 < (t248.length : Int) := of_decide_eq_true Zq1
       obtain ⟨ad253, e253, hx253_0, hx253_1⟩ := at_T47 (Kd.R_reads' HO_4.out).2.2 0 p253 q253
       cases e253
       have qi253 : (0 < t248.length) = True := eq_true (by omega)
       (try rw [show ((0 : Int)).toNat = 0 from rfl] at hx253_0)
       (try rw [show 0 * 2 = 0 from rfl] at hx253_0)
       (try rw [Addr.add_zero'] at hx253_0)
       (try rw [show ((0 : Int)).toNat = 0 from rfl] at hx253_1)
       (try rw [show 0 * 2 = 0 from rfl] at hx253_1)
       (try rw [Addr.add_zero'] at hx253_1)
       replace p253 := eq_true p253
       replace q253 := eq_true q253
       go_wp2_with (first | ((with_reducible refine gate_callee (f := 56) rfl ?_); refine goesL_ (some 40) rfl rfl Tryz.func56 (by kernel_rfl) rfl #[.string ((rd_T47 t248 0).f1)] rfl Zq13 ?_; (with_reducible refine (oid_Decode.calls kj2 ((rd_T47 t248 0).f1) t254 t255 _ ?side1 A25.out).mono ?_); (case side1 => exact Zq56); rintro e w30 ⟨rfl, hb⟩; refine ⟨_, rfl, ?_⟩; replace HO_4 := Aside0.mk (Kd.R_below Zq6 hb); replace BK246 := Aside0.mk (blkb_ BK246.out Zq31 hb); replace BK247 := Aside0.mk (blk_below (g := gb247) (o := .cells #[.string (⟨#[]⟩ : ByteArray), .int .i64 0, .int .i64 0, .string (⟨#[]⟩ : ByteArray)] 30 (0, 0)) Zq31 hb); replace HB := Aside0.mk (below_step Zq38 hb); (try clear hb); (try clear hb2); (try clear hk); (try clear hi); have p256 : 0 ≤ (1 : Int) := (by omega); have q256 : 1 < (t248.length : Int) := of_decide_eq_true Zq1; obtain ⟨ad256, e256, hx256_0, hx256_1⟩ := at_T47 (Kd.R_reads' HO_4.out).2.2 1 p256 q256; obtain rfl : ad253 = ad256 := (by injection e256); (try simp only [show (1 : Int).toNat = 1 from rfl, Nat.reduceMul, Nat.reduceEqDiff, Go.Addr.add, ↓reduceIte] at hx256_0); (try simp only [show (1 : Int).toNat = 1 from rfl, Nat.reduceMul, Nat.reduceEqDiff, Go.Addr.add, ↓reduceIte] at hx256_1); have qi256 : (1 < t248.length) = True := eq_true (by omega); (try rw [show ((1 : Int)).toNat = 1 from rfl] at hx256_0); (try rw [show 1 * 2 = 2 from rfl] at hx256_0); (try rw [show ((1 : Int)).toNat = 1 from rfl] at hx256_1); (try rw [show 1 * 2 = 2 from rfl] at hx256_1); replace p256 := eq_true p256; replace q256 := eq_true q256) | ((with_reducible refine gate_callee (f := 57) rfl ?_); refine goesL_ (some 47) rfl rfl Tryz.func57 (by kernel_rfl) rfl #[.agg #[.int .i64 ((rd_T47 t248 1).f0), .string ((rd_T47 t248 1).f1)]] rfl Zq13 ?_; (with_reducible refine (value_Decode.calls kj2 ((rd_T47 t248 1).f0) ((rd_T47 t248 1).f1) t257 t258 t259 t260 _ ?side1 A27.out).mono ?_); (case side1 => exact Zq56); rintro e w31 ⟨rfl, hb⟩; refine ⟨_, rfl, ?_⟩; replace HO_4 := Aside0.mk (Kd.R_below Zq6 hb); replace BK246 := Aside0.mk (blkb_ BK246.out Zq31 hb); replace BK247 := Aside0.mk (blk_below (g := gb247) (o := .cells #[.string (⟨#[]⟩ : ByteArray), .int .i64 0, .int .i64 0, .string (⟨#[]⟩ : ByteArray)] 30 (0, 0)) Zq31 hb); replace HB := Aside0.mk (below_step Zq38 hb); (try clear hb); (try clear hb2); (try clear hk); (try clear hi)) | ((with_reducible refine gate_dst (N := 7) rfl ?_); (try (refine gate_guard (by rfl) ?_; dsimp only)); refine box_event ?hg (N := 7) ?hd (cs := #[.int .i64 0, .int .i64 0, .string (⟨#[]⟩ : ByteArray)]) (t := 28) ?hr ?_; (case hd => rfl); (case hg => rfl); (case hr => exact Zq2); intro gb261 hg w32 hbox hb; have BK261 := Aside0.mk (hbox); have GW261 := Aside0.mk ((by rw [hg]; exact (below_size Zq38) : w.heap.size ≤ gb261)); have GE261 := Aside0.mk ((by rw [hg]; exact (below_size Zq38) : w.heap.size ≤ gb261)); have NB246_261 := Aside0.mk ((by rw [hg]; exact Nat.ne_of_lt (blk_lt (g := gb246) (o := .cells #[.int .i64 a0_0, .string a0_1] 47 (0, 0)) Zq31) : gb246 ≠ gb261)); have NB261_246 := Aside0.mk ((by rw [hg]; exact Nat.ne_of_gt (blk_lt (g := gb246) (o := .cells #[.int .i64 a0_0, .string a0_1] 47 (0, 0)) Zq31) : gb261 ≠ gb246)); have NB247_261 := Aside0.mk ((by rw [hg]; exact Nat.ne_of_lt (blk_lt (g := gb247) (o := .cells #[.string (⟨#[]⟩ : ByteArray), .int .i64 0, .int .i64 0, .string (⟨#[]⟩ : ByteArray)] 30 (0, 0)) Zq31) : gb247 ≠ gb261)); have NB261_247 := Aside0.mk ((by rw [hg]; exact Nat.ne_of_gt (blk_lt (g := gb247) (o := .cells #[.string (⟨#[]⟩ : ByteArray), .int .i64 0, .int .i64 0, .string (⟨#[]⟩ : ByteArray)] 30 (0, 0)) Zq31) : gb261 ≠ gb247)); replace HO_4 := Aside0.mk (Kd.R_below Zq6 hb); replace BK246 := Aside0.mk (blkb_ BK246.out Zq31 hb); replace BK247 := Aside0.mk (blk_below (g := gb247) (o := .cells #[.string (⟨#[]⟩ : ByteArray), .int .i64 0, .int .i64 0, .string (⟨#[]⟩ : ByteArray)] 30 (0, 0)) Zq31 hb); replace HB := Aside0.mk (below_step Zq38 hb); clear hb hbox hg; have hnb33 := NB261_246.out; have hnc33 := NB246_261.out; have hnb34 := NB261_247.out; have hnc34 := NB247_261.out; obtain ⟨hcz35_0, hcz35_1, hcz35_2⟩ := cells3_ BK261.out; obtain ⟨hfz35_0, hfz35_1, hfz35_2⟩ := frozen3_ BK261.out; have hnb36 := NB247_246.out; have hnc36 := NB246_247.out; obtain ⟨hcz37_0, hcz37_1, hcz37_2, hcz37_3⟩ := cells4_ BK247.out; obtain ⟨hfz37_0, hfz37_1, hfz37_2, hfz37_3⟩ := frozen4_ BK247.out))
       refine bodyPost_ret (results_ct rfl _ _ gb247 30 #[.string t254, .int .i64 t257, .int .i64 t258, .string t259] (0, 0) _ rfl Zq47 Tryz.underlying30 rfl (by kernel_rfl)) rfl ?_
       exact ⟨Zy41, Zy2⟩
      ·rw [if_neg c28] at H
       have c28b0 : (t255 == 0) = false := beq_eq_false_iff_ne.mpr c28
       have c28b1 : (t255 != 0) = true := bne_iff_ne.mpr c28
       simp only [Option.some.injEq, Prod.mk.injEq] at H
       obtain ⟨rfl, rfl, rfl, rfl, rfl⟩ := H
       obtain ⟨Ao38, co38, eo38⟩ := Kd.R_slice HO_4.out
       subst eo38
       have p253 : 0 ≤ (0 : Int) := (by omega)
       have q253 : 0 < (t248.length : Int) := of_decide_eq_true Zq1
       obtain ⟨ad253, e253, hx253_0, hx253_1⟩ := at_T47 (Kd.R_reads' HO_4.out).2.2 0 p253 q253
       cases e253
       have qi253 : (0 < t248.length) = True := eq_true (by omega)
       (try rw [show ((0 : Int)).toNat = 0 from rfl] at hx253_0)
       (try rw [show 0 * 2 = 0 from rfl] at hx253_0)
       (try rw [Addr.add_zero'] at hx253_0)
       (try rw [show ((0 : Int)).toNat = 0 from rfl] at hx253_1)
       (try rw [show 0 * 2 = 0 from rfl] at hx253_1)
       (try rw [Addr.add_zero'] at hx253_1)
       replace p253 := eq_true p253
       replace q253 := eq_true q253
       go_wp2_with (first | ((with_reducible refine gate_callee (f := 56) rfl ?_); refine goesL_ (some 40) rfl rfl Tryz.func56 (by kernel_rfl) rfl #[.string ((rd_T47 t248 0).f1)] rfl Zq13 ?_; (with_reducible refine (oid_Decode.calls kj2 ((rd_T47 t248 0).f1) t254 t255 _ ?side1 A25.out).mono ?_); (case side1 => exact Zq56); rintro e w39 ⟨rfl, hb⟩; refine ⟨_, rfl, ?_⟩; replace HO_4 := Aside0.mk (Kd.R_below Zq6 hb); replace BK246 := Aside0.mk (blkb_ BK246.out Zq31 hb); replace BK247 := Aside0.mk (blk_below (g := gb247) (o := .cells #[.string (⟨#[]⟩ : ByteArray), .int .i64 0, .int .i64 0, .string (⟨#[]⟩ : ByteArray)] 30 (0, 0)) Zq31 hb); replace HB := Aside0.mk (below_step Zq38 hb); (try clear hb); (try clear hb2); (try clear hk); (try clear hi); have p256 : 0 ≤ (1 : Int) := (by omega); have q256 : 1 < (t248.length : Int) := of_decide_eq_true Zq1; obtain ⟨ad256, e256, hx256_0, hx256_1⟩ := at_T47 (Kd.R_reads' HO_4.out).2.2 1 p256 q256; obtain rfl : ad253 = ad256 := (by injection e256); (try simp only [show (1 : Int).toNat = 1 from rfl, Nat.reduceMul, Nat.reduceEqDiff, Go.Addr.add, ↓reduceIte] at hx256_0); (try simp only [show (1 : Int).toNat = 1 from rfl, Nat.reduceMul, Nat.reduceEqDiff, Go.Addr.add, ↓reduceIte] at hx256_1); have qi256 : (1 < t248.length) = True := eq_true (by omega); (try rw [show ((1 : Int)).toNat = 1 from rfl] at hx256_0); (try rw [show 1 * 2 = 2 from rfl] at hx256_0); (try rw [show ((1 : Int)).toNat = 1 from rfl] at hx256_1); (try rw [show 1 * 2 = 2 from rfl] at hx256_1); replace p256 := eq_true p256; replace q256 := eq_true q256) | ((with_reducible refine gate_callee (f := 57) rfl ?_); refine goesL_ (some 47) rfl rfl Tryz.func57 (by kernel_rfl) rfl #[.agg #[.int .i64 ((rd_T47 t248 1).f0), .string ((rd_T47 t248 1).f1)]] rfl Zq13 ?_; (with_reducible refine (value_Decode.calls kj2 ((rd_T47 t248 1).f0) ((rd_T47 t248 1).f1) t257 t258 t259 t260 _ ?side1 A27.out).mono ?_); (case side1 => exact Zq56); rintro e w40 ⟨rfl, hb⟩; refine ⟨_, rfl, ?_⟩; replace HO_4 := Aside0.mk (Kd.R_below Zq6 hb); replace BK246 := Aside0.mk (blkb_ BK246.out Zq31 hb); replace BK247 := Aside0.mk (blk_below (g := gb247) (o := .cells #[.string (⟨#[]⟩ : ByteArray), .int .i64 0, .int .i64 0, .string (⟨#[]⟩ : ByteArray)] 30 (0, 0)) Zq31 hb); replace HB := Aside0.mk (below_step Zq38 hb); (try clear hb); (try clear hb2); (try clear hk); (try clear hi)) | ((with_reducible refine gate_dst (N := 7) rfl ?_); (try (refine gate_guard (by rfl) ?_; dsimp only)); refine box_event ?hg (N := 7) ?hd (cs := #[.int .i64 0, .int .i64 0, .string (⟨#[]⟩ : ByteArray)]) (t := 28) ?hr ?_; (case hd => rfl); (case hg => rfl); (case hr => exact Zq2); intro gb261 hg w41 hbox hb; have BK261 := Aside0.mk (hbox); have GW261 := Aside0.mk ((by rw [hg]; exact (below_size Zq38) : w.heap.size ≤ gb261)); have GE261 := Aside0.mk ((by rw [hg]; exact (below_size Zq38) : w.heap.size ≤ gb261)); have NB246_261 := Aside0.mk ((by rw [hg]; exact Nat.ne_of_lt (blk_lt (g := gb246) (o := .cells #[.int .i64 a0_0, .string a0_1] 47 (0, 0)) Zq31) : gb246 ≠ gb261)); have NB261_246 := Aside0.mk ((by rw [hg]; exact Nat.ne_of_gt (blk_lt (g := gb246) (o := .cells #[.int .i64 a0_0, .string a0_1] 47 (0, 0)) Zq31) : gb261 ≠ gb246)); have NB247_261 := Aside0.mk ((by rw [hg]; exact Nat.ne_of_lt (blk_lt (g := gb247) (o := .cells #[.string (⟨#[]⟩ : ByteArray), .int .i64 0, .int .i64 0, .string (⟨#[]⟩ : ByteArray)] 30 (0, 0)) Zq31) : gb247 ≠ gb261)); have NB261_247 := Aside0.mk ((by rw [hg]; exact Nat.ne_of_gt (blk_lt (g := gb247) (o := .cells #[.string (⟨#[]⟩ : ByteArray), .int .i64 0, .int .i64 0, .string (⟨#[]⟩ : ByteArray)] 30 (0, 0)) Zq31) : gb261 ≠ gb247)); replace HO_4 := Aside0.mk (Kd.R_below Zq6 hb); replace BK246 := Aside0.mk (blkb_ BK246.out Zq31 hb); replace BK247 := Aside0.mk (blk_below (g := gb247) (o := .cells #[.string (⟨#[]⟩ : ByteArray), .int .i64 0, .int .i64 0, .string (⟨#[]⟩ : ByteArray)] 30 (0, 0)) Zq31 hb); replace HB := Aside0.mk (below_step Zq38 hb); clear hb hbox hg; have hnb42 := NB261_246.out; have hnc42 := NB246_261.out; have hnb43 := NB261_247.out; have hnc43 := NB247_261.out; obtain ⟨hcz44_0, hcz44_1, hcz44_2⟩ := cells3_ BK261.out; obtain ⟨hfz44_0, hfz44_1, hfz44_2⟩ := frozen3_ BK261.out; have hnb45 := NB247_246.out; have hnc45 := NB246_247.out; obtain ⟨hcz46_0, hcz46_1, hcz46_2, hcz46_3⟩ := cells4_ BK247.out; obtain ⟨hfz46_0, hfz46_1, hfz46_2, hfz46_3⟩ := frozen4_ BK247.out))
       refine bodyPost_ret (results_ct rfl _ _ gb247 30 #[.string t254, .int .i64 t257, .int .i64 t258, .string t259] (0, 0) _ rfl Zq47 Tryz.underlying30 rfl (by kernel_rfl)) rfl ?_
       exact ⟨Zy41, Zy2⟩
     ·rw [if_neg c26] at H
      exact absurd H (by simp)
    ·rw [if_neg c24] at H
     exact absurd H (by simp)
end Go.Proofs.YtfgdnnbhlnbojaaGreatDoor.XPdR
